/- What the functions of the program and of the document compute, for every input (part 2); conditions as in the statements. -/
import Derived.Test.YtcfbdmddggcjgaaGreatDoorC1
import Derived.Test.YtcfbdmddggcjgaaGreatDoorS1
import Derived.Test.YtcfbdmddggcjgaaGreatDoorL
import Derived.Test.YtcfbdmddggcjgaaGreatDoorS2
noncomputable section
set_option linter.all false
namespace Go.az.ck
open Go.az
set_option maxRecDepth 100000
set_option maxHeartbeats 4000000
theorem uB:aU 1000000000 1=[1]:=by rw[mo (by decide) (by decide),show 1/1000000000=0 from rfl,fV]
def vP:cn where
 L:=Unit
 args:=fun _=>[]
 pre:=fun _=>True
 res:=fun _=>c3 1
theorem tD:ca aN.ctx 79 vP.spec:=by
 refine cz [] f79 ?_;intro _ _ H a4
 repeat refine bd 1 rfl ?_
 refine tH 0 fE [1] ?_;refine l7 1 ?_
 repeat refine ab rfl ?_
 exact a1 (a6 rfl rfl (.of (by show de [1]=de _;rw[uB])))
def dh(x:Rat):al:=.agg [.i .i64 x.num.sign,c3 x.num.natAbs,de (if x.num=0 then[]else aU 1000000000 x.den)]
def R0:cn where
 L:=Rat
 args:=fun x=>[dh x]
 pre:=fun _=>True
 res:=fun x=>.i .i64 x.num.sign
theorem R1:ca aN.ctx 36 R0.spec:=by
 refine cz [] f36 ?_;intro(x:Rat) _ H a4
 repeat refine ab rfl ?_
 exact a1 (a6 rfl rfl (.refl _))
def Bq:cn where
 L:=Rat
 args:=fun x=>[dh x]
 pre:=fun _=>True
 res:=fun x=>c3 x.den
theorem r3:ca aN.ctx 96 Bq.spec:=by
 refine cz [(79,vP.spec)] f96 ?_;intro(x:Rat) _ H a4
 repeat refine ab rfl ?_
 refine cu (fun h=> ?_) (fun h=> ?_)
 ·have h:x.num=0:=Int.sign_eq_zero_iff_zero.1 h;have ax:x.den=1:=by have:=x.reduced;rw[h]at this;simpa[Nat.Coprime]using this
  repeat refine ab rfl ?_
  refine bm tD () trivial ?_
  repeat refine ab rfl ?_
  exact a1 (a6 rfl rfl (.of (by show c3 1=c3 x.den;rw[ax])))
 ·have h:x.num≠0:=fun e=>h (by rw[e];rfl)
  repeat refine ab rfl ?_
  exact a1 (a6 rfl rfl (.of (by show de (if _ then _ else _)=de _;rw[if_neg h])))
def RS:cn where
 L:=Rat
 args:=fun x=>[dh x]
 pre:=fun _=>True
 res:=fun x=>dh (-x)
theorem ajs:ca aN.ctx 200 RS.spec:=by
 refine cz [] f200 ?_;intro(x:Rat) _ H a4
 repeat refine ab rfl ?_
 refine a1 (a6 rfl rfl (.of ?_));show al.agg [.i _ (IntKind.i64.wrap (-x.num.sign)),_,_]=al.agg [.i _ _,_,_];have dX:∀n:Int,-1<=n.sign∧n.sign<=1:=fun n=>by
  rcases(show n<0∨n=0∨0<n by omega)with h|h|h
  ·rw[Int.sign_eq_neg_one_of_neg h];decide
  ·rw[h];decide
  ·rw[Int.sign_eq_one_of_pos h];decide
 have:=dX x.num;rw[gD (by omega) (by omega),Rat.neg_num,Rat.neg_den,Int.sign_neg,Int.natAbs_neg];simp[c3,de]
theorem yK{own:List bJ}{n p k:Nat}{e cj:cf}{o:bJ}(h:pb [k] cj e)(ao:∃cg,own[k]? =some cg∧me [k] o cg)(hp:pinned p [k] 0=true:=by rfl):Sub p [k] ⟨own,n,e⟩ ⟨[o],1,cj⟩:=⟨by simp,rfl,⟨ao,trivial⟩,h,hp⟩
def RQ:cn where
 L:=Nat
 args:=fun n=>[.i .u64 n]
 pre:=fun n=>n<18446744073709551616
 res:=fun n=>c3 n
def ajr(m:Nat):List Nat->di
 |[]=>⟨[],0,[(0,.i .u64 m),(3,.nl)]⟩
 |d::ds=>⟨[.a 2 true 1 Nat fE (d::ds)],1,[(0,.i .u64 m),(3,.bH 0 1 0 (d::ds).length (d::ds).length)]⟩
theorem RR:ca aN.ctx 100 RQ.spec:=by
 refine cz [] f100 ?_;intro(n:Nat) (hn:n<18446744073709551616) H a4;have hl:(aU 1000000000 n).length<=3:=iM (by decide) (by omega)
 repeat refine ab rfl ?_
 refine e3 (L:=Nat×List Nat) (fun(m,l)=>m<=n∧aU 1000000000 n=l++aU 1000000000 m) (fun(m,l)=>ajr m l) (fun l=>(aU 1000000000 l.1).length) [] (n,[]) ⟨cd _,rfl⟩ (by show(aU 1000000000 n).length<cp+1;unfold cp;omega) (dF ⟨rfl,rfl,trivial⟩) ?_;rintro⟨m,l⟩ ⟨hm,ax⟩;have xv:l.length<=3:=by rw[ax]at hl;simp at hl;omega
 have step:m≠0->(aU 1000000000 (m/1000000000)).length<(aU 1000000000 m).length∧m/1000000000<=n∧aU 1000000000 n=(l++[m%1000000000])++aU 1000000000 (m/1000000000):=fun h=>by
  rw[ax,mo (by decide) h];simp;omega
 have hq:((m%1000000000:Nat):Int)<9223372036854775808:=by omega
 have Oi:m/1000000000%18446744073709551616=m/1000000000:=by omega
 have gM: -9223372036854775808<=((m%1000000000:Nat):Int):=by omega
 cases l with
 |nil=>
  repeat refine ab rfl ?_
  refine cu (fun h=> ?_) (fun h=> ?_)
  ·have step:=step (by omega)
   repeat refine bd 9 rfl ?_
   refine aH 9 (.i .i64 ((m%1000000000:Nat):Int)) rfl (cB rfl gM hq) ?_
   repeat refine ab rfl ?_
   refine Kv fE [m%1000000000] (bk (R:=fE) [m%1000000000] rfl) ?_
   repeat refine ab rfl ?_
   exact b0 [1] (m/1000000000,[m%1000000000]) step (yK ⟨kZ (congrArg Int.ofNat Oi),rfl,trivial⟩ ⟨_,rfl,rfl,fun _=>rfl⟩)
  ·have h0:m=0:=by omega
   subst h0;rw[fV]at ax
   repeat refine ab rfl ?_
   exact a1 (a6 rfl rfl (c5.nl.trans (.of (by show de []=de _;rw[ax];rfl))))
 |cons d ds=>
  repeat refine ab rfl ?_
  refine cu (fun h=> ?_) (fun h=> ?_)
  ·have step:=step (by omega)
   repeat refine bd 9 rfl ?_
   refine aH 9 (.i .i64 ((m%1000000000:Nat):Int)) rfl (cB rfl gM hq) ?_
   repeat refine ab rfl ?_
   have iQ:ds.length<=2:=by simp at xv;omega
   refine Ku (R:=fE) [m%1000000000] (bk (R:=fE) [m%1000000000] rfl) ?_
   repeat refine ab rfl ?_
   exact b0 [2] (m/1000000000,d::(ds++[m%1000000000])) step (yK ⟨kZ (congrArg Int.ofNat Oi),congrArg (fun k=>some (al.bH 2 1 0 k k)) (by simp),trivial⟩ ⟨_,rfl,rfl,fun _=>rfl⟩)
  ·have h0:m=0:=by omega
   subst h0;rw[fV,List.append_nil]at ax
   repeat refine bd 14 rfl ?_
   refine l7 14 ?_
   repeat refine ab rfl ?_
   exact a1 (a6 rfl rfl (.of (by show de (d::ds)=de _;rw[ax])))
def RI:cn where
 L:=Nat
 args:=fun a=>[c3 a]
 pre:=fun a=>ed 1073741824 a
 res:=fun a=>c3 (a/2)
theorem E8:ca aN.ctx 189 RI.spec:=by
 refine cz [(82,tE.spec)] f189 ?_;intro(a:Nat) (a2:(aU _ a).length<=_) H a4;have J:=gp (b:=1000000000) (by decide) a;have h6:=fU (b:=1000000000) (by decide) a;show bl.ok _ ⟨_,_,⟨_,_,[(0,de (aU 1000000000 a))]⟩⟩;generalize aU 1000000000 a=xs at *
 repeat refine ab rfl ?_
 refine n0 fE 0 ?_
 repeat refine ab rfl ?_
 refine e3 (L:=Nat×List Nat×Nat) (fun(k,outs,r)=>k<=xs.length∧outs.length=xs.length∧cY 1000000000 outs∧r<2∧val 1000000000 (xs.drop k)=val 1000000000 (outs.drop k)*2+r)
  (fun((k:Nat),(outs:List Nat),(r:Nat))=>⟨[.a 2 false 1 Nat fE outs],1,[(0,de xs),(3,.bH 0 1 0 xs.length xs.length),(4,.i .i64 r),(5,.i .i64 ((k:Int)-1))]⟩)
  (fun l=>l.1) [0] (xs.length,List.replicate xs.length 0,0) ⟨by omega,by simp,qC (by decide) _,by decide,by simp[val]⟩ (by show xs.length<cp+1;unfold cp;omega) (cT ⟨rfl,rfl,rfl,eS,trivial⟩ ⟨_,rfl,rfl,fun _=>rfl⟩) ?_
 rintro⟨k,outs,r⟩ ⟨ae,gB,bM,aF,aD⟩;cases k with
 |zero=>
  repeat refine ab rfl ?_
  refine l7 30 ?_;refine bm tF outs (by show outs.length<=_;omega) ?_
  repeat refine ab rfl ?_
  rw[List.drop_zero,List.drop_zero]at aD;refine a1 (a6 rfl rfl (.of ?_));show de (eN outs)=c3 (a/2);rw[wb (b:=1000000000) (by decide) bM,show a/2=val 1000000000 outs by omega];rfl
 |succ m=>
  have aa:m<xs.length:=by omega
  have kp:=J _ (ew aa);have nJ:=SW aF kp;refine aH 5 (.i .i64 (m:Nat)) rfl ff ?_
  repeat refine ab rfl ?_
  refine aH 13 (.b true) rfl (by simp) ?_
  repeat refine ab rfl ?_
  refine gY xs[m] (cA aa) ?_
  repeat refine bd 22 rfl ?_
  refine aH 22 (.i .i64 ((r*1000000000+xs[m]:Nat):Int)) rfl (congrArg (al.i .i64) (by rw[gD (n:=(r:Int)*1000000000) (by omega) (by omega),gD (by omega) (by omega)];omega)) ?_;obtain⟨T,uM⟩:∃T,T=r*1000000000+xs[m]:=⟨_,rfl⟩;have jG:T<2000000000:=by omega
  rw[<-uM]at nJ;refine aH 22 (.i .i64 (T:Nat)) rfl (by rw[uM]) ?_
  repeat refine bd 26 rfl ?_
  refine aH 26 (.i .i64 ((T/2:Nat):Int)) rfl (by show al.i _ (IntKind.i64.wrap ((T/2:Nat):Int))=_;exact cB rfl (by omega) (by omega)) ?_;refine lH ?_;refine j9 (T/2) ?_
  repeat refine bd 29 rfl ?_
  refine aH 29 (.i .i64 ((T%2:Nat):Int)) rfl rfl ?_
  repeat refine ab rfl ?_
  have ak:xs.drop m=xs[m]::xs.drop (m+1):=iG aa;refine b0 [0] (m,outs.set m (T/2),T%2) ⟨by simp,by omega,by simp[gB],lC bM _ nJ,Nat.mod_lt _ (by decide),?_⟩ (cT ⟨rfl,rfl,rfl,eS,trivial⟩ ⟨_,rfl,rfl,fun _=>rfl⟩);rw[ak,iG (l:=outs.set m _) (by simp;omega),List.getElem_set_self,List.drop_set_of_lt (by omega),uM];exact SX aD
def RU:cn where
 L:=Nat
 args:=fun a=>[c3 a]
 pre:=fun a=>True
 res:=fun a=>.b (decide (a%2=1))
theorem Fa:ca aN.ctx 188 RU.spec:=by
 refine cz [] f188 ?_;intro(a:Nat) _ H a4;show bl.ok _ ⟨_,_,⟨_,_,[(0,de (aU 1000000000 a))]⟩⟩;by_cases h0:a=0
 ·subst h0;rw[fV]
  repeat refine ab rfl ?_
  exact a1 (a6 rfl rfl (.refl _))
 ·rw[mo (by decide) h0]
  repeat refine ab rfl ?_
  refine aH 6 (.b true) rfl (by simp) ?_
  repeat refine ab rfl ?_
  refine gY (j:=0) (a%1000000000) rfl ?_
  repeat refine bd 10 rfl ?_
  refine aH 10 (.i .i64 ((a%1000000000%2:Nat):Int)) rfl rfl ?_
  repeat refine ab rfl ?_
  refine a1 (a6 rfl rfl (.of ?_));show al.b (decide _)=al.b (decide _);congr 2;apply propext;omega
theorem ZO{B V W v w P lb nn:Nat}(g2:V=v*P+lb)(xa:lb<P)(gr:W=w*P+nn)(aD:0<V):w/(v+1)<=W/V:=by
 rw[Nat.le_div_iff_mul_le aD];have J:w/(v+1)*(v+1)<=w:=Nat.div_mul_le_self _ _;have U:V<=(v+1)*P:=by rw[Nat.add_mul];omega
 calc w/(v+1)*V<=w/(v+1)*((v+1)*P):=kA _ U
  _=w/(v+1)*(v+1)*P:=(Nat.mul_assoc _ _ _).symm
  _<=w*P:=g5 _ J
  _<=W:=by omega
theorem ZN{V W v w P lb nn:Nat}(g2:V=v*P+lb)(rp:nn<P)(gr:W=w*P+nn)(aD:0<v)(iP:0<P):W/V<=(w+1)/v:=by
 have qg:0<V:=by have:=Nat.mul_pos aD iP;omega
 rw[Nat.le_div_iff_mul_le aD];have J:W/V*V<=W:=Nat.div_mul_le_self _ _;have U:W/V*(v*P)<=W/V*V:=kA _ (by omega);have ah:W/V*v*P<(w+1)*P:=by rw[Nat.mul_assoc,Nat.add_mul];omega
 exact Nat.le_of_lt (Nat.lt_of_mul_lt_mul_right ah)
def J4:cn where
 L:=Int×Int
 args:=fun(e,p)=>[mY e p]
 pre:=fun(e,p)=>True
 res:=fun(e,p)=>.i .i64 (if e6 e p then 0 else 2)
theorem ajh:ca aN.ctx 35 J4.spec:=by
 refine cz [] f35 ?_;intro⟨e,p⟩ _ H a4;have bad:¬e6 e p->c5 (.i .i64 2) (J4.res (e,p)):=fun h=>.of (by show _=al.i .i64 (if _ then _ else _);rw[if_neg h])
 repeat refine bd 5 rfl ?_
 by_cases J:e<2
 ·refine aH 5 (.b true) rfl (by show al.b (decide _)=_;rw[decide_eq_true J]) ?_
  repeat refine ab rfl ?_
  exact a1 (a6 rfl rfl (bad (by unfold e6;omega)))
 refine aH 5 (.b false) rfl (by show al.b (decide _)=_;rw[decide_eq_false J]) ?_
 repeat refine bd 9 rfl ?_
 by_cases U:11<e
 ·refine aH 9 (.b true) rfl (by show al.b (decide _)=_;rw[decide_eq_true U]) ?_
  repeat refine ab rfl ?_
  exact a1 (a6 rfl rfl (bad (by unfold e6;omega)))
 refine aH 9 (.b false) rfl (by show al.b (decide _)=_;rw[decide_eq_false U]) ?_
 repeat refine bd 14 rfl ?_
 by_cases ah:p<2
 ·refine aH 14 (.b true) rfl (by show al.b (decide _)=_;rw[decide_eq_true ah]) ?_
  repeat refine ab rfl ?_
  exact a1 (a6 rfl rfl (bad (by unfold e6;omega)))
 refine aH 14 (.b false) rfl (by show al.b (decide _)=_;rw[decide_eq_false ah]) ?_
 repeat refine bd 19 rfl ?_
 by_cases aC:113<p
 ·refine aH 19 (.b true) rfl (by show al.b (decide _)=_;rw[decide_eq_true aC]) ?_
  repeat refine ab rfl ?_
  exact a1 (a6 rfl rfl (bad (by unfold e6;omega)))
 refine aH 19 (.b false) rfl (by show al.b (decide _)=_;rw[decide_eq_false aC]) ?_
 repeat refine bd 26 rfl ?_
 refine aH 26 (.i .i64 (e+p)) rfl (cB rfl (by omega) (by omega)) ?_
 repeat refine bd 27 rfl ?_
 by_cases a5:e+p<5
 ·refine aH 27 (.b true) rfl (by show al.b (decide _)=_;rw[decide_eq_true a5]) ?_
  repeat refine ab rfl ?_
  exact a1 (a6 rfl rfl (bad (by unfold e6;omega)))
 refine aH 27 (.b false) rfl (by show al.b (decide _)=_;rw[decide_eq_false a5]) ?_
 repeat refine ab rfl ?_
 exact a1 (a6 rfl rfl (.of (by show _=al.i .i64 (if _ then _ else _);rw[if_pos (by unfold e6;omega)])))
def E7:cn where
 L:=Int×Int
 args:=fun(e,p)=>[mY e p]
 pre:=fun(e,p)=>e6 e p
 res:=fun(e,p)=>.i .i64 (eA e)
theorem J3:ca aN.ctx 99 E7.spec:=by
 refine cz [] f99 ?_;intro⟨e,p⟩ ⟨J,U,ah,aC,a5⟩ H a4;obtain⟨n,hn⟩:∃n:Nat,e=(n:Int)+1:=⟨(e-1).toNat,by omega⟩;subst hn;have E3:∀i:Nat,i<=10->1<=2^i∧2^i<=1024:=fun i ag=>⟨Nat.two_pow_pos i,Nat.pow_le_pow_right (by decide) ag⟩
 repeat refine ab rfl ?_
 refine e3 (L:=Nat) (fun i=>i<=n) (fun(i:Nat)=>⟨[.c 23 [.i .i64 ((n:Int)+1),.i .i64 p]],1,[(1,.p 0 0),(3,.i .i64 ((2^i:Nat):Int)),(4,.i .i64 ((i:Int)+1))]⟩) (fun i=>n-i) [0] 0 (Nat.zero_le _) (by show n-0<cp+1;unfold cp;omega) (cT ⟨rfl,rfl,rfl,trivial⟩ ⟨_,rfl,rfl⟩) ?_;intro(i:Nat) ag;have hp:=E3 i (by omega)
 repeat refine ab rfl ?_
 refine cu (fun h=> ?_) (fun h=> ?_)
 ·repeat refine ab rfl ?_
  refine b0 [0] (i+1) ⟨by show n-(i+1)<n-i;omega,by show i+1<=n;omega⟩ (cT ⟨rfl,?_,?_,trivial⟩ ⟨_,rfl,rfl⟩)
  ·exact congrArg (fun n=>some (al.i .i64 n)) (sk (by rw[Nat.pow_succ];omega) (by omega) (by omega))
  ·exact congrArg (fun n=>some (al.i .i64 n)) (sk (by omega) (by omega) (by omega))
 ·have he:i=n:=by omega
  subst he
  repeat refine ab rfl ?_
  refine a1 (a6 rfl rfl (.of (congrArg (al.i .i64) (sk ?_ (by omega) (by omega)))));unfold eA;rw[show((i:Int)+1-1).toNat=i by omega,Int.natCast_pow];rfl
theorem pN(n:Nat):ed (n+1) (2^n):=iM (by decide) (gf (Nat.pow_lt_pow_right (by decide) (Nat.lt_succ_self n)) (Nat.pow_le_pow_left (by decide) (n+1)))
theorem dg{k l a:Nat}(h:ed k a)(hl:k<=l):ed l a:=Nat.le_trans h hl
def Fc(k:Nat):cn where
 L:=Nat
 args:=fun n=>[.i .i64 n]
 pre:=fun n=>n<k∧n<=1000000000
 res:=fun n=>c3 (2^n)
theorem Fe:∀k:Nat,ca aN.ctx 104 (Fc k).spec
 |0=>by
  refine cz [(79,vP.spec)] f104 ?_;intro(n:Nat) h H a4;exact absurd h.1 (Nat.not_lt_zero _)
 |k+1=>by
  have bb:=Fe k;refine cz [(79,vP.spec),(104,(Fc k).spec),(95,yj.spec),(191,E4.spec)] f104 ?_;intro(n:Nat) ⟨(J:n<k+1),(U:n<=1000000000)⟩ H a4
  repeat refine ab rfl ?_
  refine cu (fun h=> ?_) (fun h=> ?_)
  ·have h:n=0:=by omega
   subst h
   repeat refine ab rfl ?_
   refine bm tD () trivial ?_
   repeat refine ab rfl ?_
   exact a1 (a6 rfl rfl (.refl _))
  have h:n≠0:=by omega
  repeat refine bd 9 rfl ?_
  refine aH 9 (.i .i64 ((n/2:Nat):Int)) rfl (by show al.i _ (IntKind.i64.wrap ((n/2:Nat):Int))=_;exact cB rfl (by omega) (by omega)) ?_;refine bm bb (n/2) ⟨by show n/2<k;omega,by show n/2<=_;omega⟩ ?_
  repeat refine ab rfl ?_
  have hq:=pN (n/2);refine bm qH (2^(n/2),2^(n/2)) ⟨dg hq (by omega),dg hq (by omega)⟩ ?_
  repeat refine bd 15 rfl ?_
  refine aH 15 (.i .i64 ((n%2:Nat):Int)) rfl rfl ?_;have e:2^(n/2)*2^(n/2)=2^(n/2+n/2):=(Nat.pow_add 2 _ _).symm;have s6:ed 1073741824 (2^(n/2)*2^(n/2)):=by rw[e];exact dg (pN _) (by omega)
  repeat refine ab rfl ?_
  refine cu (fun h=> ?_) (fun h=> ?_)
  ·have h:n%2=1:=by omega
   repeat refine ab rfl ?_
   refine bm J1 (2^(n/2)*2^(n/2),2^(n/2)*2^(n/2)) ⟨s6,s6⟩ ?_
   repeat refine ab rfl ?_
   refine a1 (a6 rfl rfl (.of (congrArg c3 ?_)));show 2^(n/2)*2^(n/2)+2^(n/2)*2^(n/2)=2^n;rw[e,<-Nat.two_mul,<-Nat.pow_succ'];congr 1;omega
  ·have h:n%2=0:=by omega
   repeat refine ab rfl ?_
   refine a1 (a6 rfl rfl (.of (congrArg c3 ?_)));show 2^(n/2)*2^(n/2)=2^n;rw[e];congr 1;omega
def J0:cn where
 L:=Rat
 args:=fun x=>[dh x]
 pre:=fun _=>True
 res:=fun x=>dh (hS x)
theorem RE:ca aN.ctx 201 J0.spec:=by
 refine cz [] f201 ?_;intro(x:Rat) _ H a4
 repeat refine ab rfl ?_
 refine a1 (a6 rfl rfl (.of ?_));show al.agg [.i _ (IntKind.i64.wrap (x.num.sign*x.num.sign)),c3 x.num.natAbs,de (if x.num=0 then[]else aU 1000000000 x.den)]=al.agg [.i _ _,c3 (hS x).num.natAbs,de (if(hS x).num=0 then[]else aU 1000000000 (hS x).den)];rw[(pd x).1,(pd x).2,Int.natAbs_natCast];have e:IntKind.i64.wrap (x.num.sign*x.num.sign)=((x.num.natAbs:Nat):Int).sign:=by
  rcases(show x.num<0∨x.num=0∨0<x.num by omega)with h|h|h
  ·rw[Int.sign_eq_neg_one_of_neg h,Int.sign_eq_one_of_pos (by omega)];rfl
  ·rw[h];rfl
  ·rw[Int.sign_eq_one_of_pos h,Int.sign_eq_one_of_pos (by omega)];rfl
 rw[e];by_cases h:x.num=0
 ·rw[h];rfl
 ·rw[if_neg h,if_neg (by omega)]
theorem Cw{n k:Nat}:n<2^k↔bA n<=k:=⟨zk,fun h=>by
 by_cases h0:n=0
 ·subst h0;exact Nat.two_pow_pos k
 ·exact gf (nq h0).2 (Nat.pow_le_pow_right (by decide) h)⟩
theorem MV{n:Nat}:29*((aU 1000000000 n).length-1)<=bA n∧bA n<=30*(aU 1000000000 n).length:=by
 constructor
 ·refine Nat.le_of_not_lt fun h=> ?_;have hl:0<(aU 1000000000 n).length:=by omega
  have J:=(uC (b:=1000000000) (n:=n) (i:=(aU 1000000000 n).length-1) (by decide)).1 (by omega);have U:1000000000^((aU 1000000000 n).length-1)<=n:=Nat.le_of_not_lt fun aL=>J (Nat.div_eq_of_lt aL);have ah:(2^29)^((aU 1000000000 n).length-1)<=1000000000^((aU 1000000000 n).length-1):=Nat.pow_le_pow_left (by decide) _;rw[<-Nat.pow_mul]at ah;have:=Cw.2 (Nat.le_of_lt h);omega
 ·refine zk (gf (qc (cd _)) ?_);rw[Nat.pow_mul];exact Nat.pow_le_pow_left (by decide) _
def RN:cn where
 L:=Nat
 args:=fun n=>[c3 n]
 pre:=fun n=>ed 30000000 n
 res:=fun n=>.i .i64 (bA n:Nat)
theorem RO:ca aN.ctx 203 RN.spec:=by
 refine cz [(104,(Fc 1000000001).spec),(78,r4.spec)] f203 ?_;intro(n:Nat) (hn:(aU _ n).length<=_) H a4;obtain⟨dz,eH⟩:= @MV n;obtain⟨l,hl⟩:∃l,l=(aU 1000000000 n).length:=⟨_,rfl⟩;rw[<-hl]at dz eH hn
 repeat refine bd 9 rfl ?_
 rw[<-hl];refine aH 9 (.i .i64 (29*((l:Int)-1))) rfl (congrArg (al.i .i64) (by rw[gD (n:=(l:Int)-1) (by omega) (by omega)];exact sk rfl (by omega) (by omega))) ?_
 repeat refine bd 10 rfl ?_
 refine aH 10 (.i .i64 ((29*(l-1):Nat):Int)) rfl (congrArg (al.i .i64) (by omega)) ?_
 repeat refine bd 13 rfl ?_
 try rw[<-hl]
 refine aH 13 (.i .i64 ((30*l:Nat):Int)) rfl cB ?_
 repeat refine ab rfl ?_
 refine e3 (L:=Nat×Nat) (fun(bD,ag)=>bD<=bA n∧bA n<=ag∧ag<=900000000) (fun((bD:Nat),(ag:Nat))=>⟨[],0,[(0,c3 n),(3,.i .i64 bD),(4,.i .i64 ag)]⟩) (fun l=>l.2-l.1) [] (29*(l-1),30*l) ⟨dz,eH,by omega⟩ (by show 30*l-29*(l-1)<cp+1;unfold cp;omega) (dF ⟨rfl,rfl,rfl,trivial⟩) ?_;rintro⟨bD,ag⟩ ⟨J,U,ah⟩
 repeat refine ab rfl ?_
 refine cu (fun h=> ?_) (fun h=> ?_)
 ·have h:bD<ag:=by omega
  repeat refine bd 19 rfl ?_
  refine aH 19 (.i .i64 ((bD+ag:Nat):Int)) rfl cB ?_
  repeat refine bd 20 rfl ?_
  refine aH 20 (.i .i64 (((bD+ag)/2:Nat):Int)) rfl (by show al.i _ (IntKind.i64.wrap (((bD+ag)/2:Nat):Int))=_;exact cB rfl (by omega) (by omega)) ?_
  repeat refine ab rfl ?_
  refine bm (Fe 1000000001) ((bD+ag)/2) ⟨by show(bD+ag)/2<_;omega,by show(bD+ag)/2<=_;omega⟩ ?_;refine bm qG (n,2^((bD+ag)/2)) ⟨by show(aU _ n).length<=_;omega,dg (pN _) (by omega)⟩ ?_
  repeat refine ab rfl ?_
  refine cu (fun hc=> ?_) (fun hc=> ?_)
  ·have hc:=Cw.1 (wN hc)
   repeat refine ab rfl ?_
   exact b0 [] (bD,(bD+ag)/2) ⟨by show(bD+ag)/2-bD<ag-bD;omega,J,hc,by omega⟩ (dF ⟨rfl,rfl,rfl,trivial⟩)
  ·have hc:(bD+ag)/2<bA n:=Nat.lt_of_not_le fun aL=>Nat.not_lt.2 (wO hc) (Cw.2 aL)
   repeat refine ab rfl ?_
   exact b0 [] ((bD+ag)/2+1,ag) ⟨by show ag-((bD+ag)/2+1)<ag-bD;omega,hc,U,ah⟩ (dF ⟨rfl,eS,rfl,trivial⟩)
 ·have he:bD=bA n:=by omega
  repeat refine ab rfl ?_
  exact a1 (a6 rfl rfl (.of (by rw[he];rfl)))
def eG(k:Nat)(x:Rat):Prop:=ed k x.num.natAbs∧ed k x.den
theorem nZ{a b k l:Nat}(a2:ed k a)(hb:ed l b):ed (k+l) (a*b):=iM (by decide) (by rw[Nat.pow_add];exact Nat.mul_lt_mul'' (qc a2) (qc hb))
def Ff:cn where
 L:=Rat×Rat
 args:=fun(x,y)=>[dh x,dh y]
 pre:=fun(x,y)=>eG 268435456 x∧eG 268435456 y
 res:=fun(x,y)=>.i .i64 (jT x y)
theorem BI(n:Int): -1<=n.sign∧n.sign<=1:=by
 rcases(show n<0∨n=0∨0<n by omega)with h|h|h
 ·rw[Int.sign_eq_neg_one_of_neg h];decide
 ·rw[h];decide
 ·rw[Int.sign_eq_one_of_pos h];decide
theorem J9:ca aN.ctx 37 Ff.spec:=by
 refine cz [(96,Bq.spec),(95,yj.spec),(78,r4.spec)] f37 ?_;intro⟨x,y⟩ ⟨(aa:eG _ x),(aJ:eG _ y)⟩ H a4;obtain⟨fj,gm,ld⟩:=Nf x y;have ho:=BI x.num;have mP:=BI y.num
 repeat refine ab rfl ?_
 refine cu (fun h=> ?_) (fun h=> ?_)
 ·repeat refine ab rfl ?_
  exact a1 (a6 rfl rfl (.of (by show al.i .i64 (-1)=al.i .i64 (jT x y);rw[fj h])))
 repeat refine ab rfl ?_
 refine cu (fun J=> ?_) (fun J=> ?_)
 ·repeat refine ab rfl ?_
  exact a1 (a6 rfl rfl (.of (by show al.i .i64 1=al.i .i64 (jT x y);rw[gm J])))
 have he:x.num.sign=y.num.sign:=by omega
 repeat refine ab rfl ?_
 refine cZ r3 y trivial ?_
 repeat refine ab rfl ?_
 refine cZ qH (x.num.natAbs,y.den) ⟨dg aa.1 (by decide),dg aJ.2 (by decide)⟩ ?_
 repeat refine ab rfl ?_
 refine cZ r3 x trivial ?_
 repeat refine ab rfl ?_
 refine cZ qH (y.num.natAbs,x.den) ⟨dg aJ.1 (by decide),dg aa.2 (by decide)⟩ ?_
 repeat refine ab rfl ?_
 refine cZ qG (x.num.natAbs*y.den,y.num.natAbs*x.den) ⟨dg (nZ aa.1 aJ.2) (by decide),dg (nZ aJ.1 aa.2) (by decide)⟩ ?_
 repeat refine ab rfl ?_
 refine a1 (a6 rfl rfl (.of ?_));show al.i .i64 (IntKind.i64.wrap (x.num.sign*h8 _ _))=al.i .i64 (jT x y);rw[ld he];refine congrArg _ (sk rfl ?_ ?_)
 all_goals
  have ak:x.num.sign= -1∨x.num.sign=0∨x.num.sign=1:=by omega
  unfold h8;rcases ak with h|h|h<;>rw[h]<;>split<;>(try split)<;>decide
def J6:cn where
 L:=Nat×Nat
 args:=fun(a,b)=>[c3 a,c3 b]
 pre:=fun(a,b)=>ed 268435456 a∧ed 268435456 b∧b≠0
 res:=fun(a,b)=>.b5 [c3 (a/b),c3 (a%b)]
theorem ajk{b W m:Nat}(hb:(aU 1000000000 b).length=m+1)(gr:b<=W)(bO:W<1000000000*b):
 0<b/1000000000^m∧b/1000000000^m<1000000000∧W/1000000000^m/(b/1000000000^m+1)<=W/b∧W/b<=min ((W/1000000000^m+1)/(b/1000000000^m)) 999999999∧W/1000000000^m<1000000000*1000000000∧0<W/b∧W<1000000000^(m+2):=by
 have kk:0<b:=by
  refine Nat.pos_of_ne_zero fun e=> ?_;rw[e,fV]at hb;simp at hb
 have iP:0<1000000000^m:=Nat.pow_pos (by decide);have J:=(uC (b:=1000000000) (n:=b) (i:=m) (by decide)).1 (by omega);have U:=CV (b:=1000000000) (by decide) (Nat.le_of_eq hb);have ny:b=b/1000000000^m*1000000000^m+b%1000000000^m:=by rw[Nat.mul_comm];exact(Nat.div_add_mod _ _).symm
 have NK:W=W/1000000000^m*1000000000^m+W%1000000000^m:=by rw[Nat.mul_comm];exact(Nat.div_add_mod _ _).symm
 have rp:W<1000000000^(m+2):=by
  rw[show m+2=(m+1)+1 from rfl,Nat.pow_succ,Nat.mul_comm];exact gf bO (kA _ (Nat.le_of_lt U))
 refine⟨Nat.pos_of_ne_zero J,?_,ZO (B:=0) ny (Nat.mod_lt _ iP) NK kk,?_,?_,Nat.div_pos gr kk,rp⟩
 ·exact Nat.div_lt_of_lt_mul (by rwa [Nat.pow_succ]at U)
 ·have ah:=ZN ny (Nat.mod_lt W iP) NK (Nat.pos_of_ne_zero J) iP;have aC:W/b<1000000000:=Nat.div_lt_of_lt_mul (by rw[Nat.mul_comm];exact bO);omega
 ·refine Nat.div_lt_of_lt_mul ?_;rw[show m+2=m+(1+1)from rfl,Nat.pow_add,Nat.pow_add,Nat.pow_one]at rp;exact rp
theorem uD{d:Nat}(h0:d≠0)(h:d<1000000000):aU 1000000000 d=[d]:=by
 rw[mo (by decide) h0,fY h,Nat.div_eq_of_lt h,fV]
theorem K6{d r:Nat}(h:d<1000000000):eN (d::aU 1000000000 r)=aU 1000000000 (d+1000000000*r):=by
 rw[wb (b:=1000000000) (by decide) (fun x aa=>by
  rcases List.mem_cons.1 aa with rfl|aa
  ·exact h
  ·exact gp (by decide) r x aa)]
 simp only[val];rw[fU (by decide)]
theorem Nh{a b:Nat}:h8 a b<=0↔a<=b:=by
 unfold h8;split
 ·omega
 ·split<;>omega
theorem aji{r b k:Nat}(h:r<b)(hb:ed k b):ed k r:=iM (by decide) (Nat.lt_trans h (qc hb))
theorem ajj{i d:Nat}{dj:List Nat}:(List.replicate (i+1) 0++dj).set i d=List.replicate i 0++d::dj:=by
 rw[List.replicate_succ',List.append_assoc,List.set_append_right _ _ (by simp)];simp
def J5(xs dj:List Nat)(b m i W:Nat)(e:cf):di:=⟨[.a 2 false 1 Nat fE (List.replicate (i+1) 0++dj)],1,(0,de xs)::(1,de (aU 1000000000 b))::(6,.bH 0 1 0 xs.length xs.length)::(7,.i .i64 ((m+1:Nat):Int))::(8,c3 W)::(9,.i .i64 i)::e⟩
theorem J7:ca aN.ctx 81 J6.spec:=by
 refine cz [(82,tE.spec),(78,r4.spec),(95,yj.spec),(190,Fj.spec)] f81 ?_;intro⟨a,b⟩ ⟨(a2:(aU _ a).length<=_),(hb:(aU _ b).length<=_),(kk:b≠0)⟩ H a4;have J:=gp (b:=1000000000) (by decide) a;have h6:=fU (b:=1000000000) (by decide) a;obtain⟨m,hm⟩:∃m,(aU 1000000000 b).length=m+1:=⟨(aU 1000000000 b).length-1,by
  have:(aU 1000000000 b).length≠0:=fun e=>kk ((oq (by decide)).1 (List.eq_nil_of_length_eq_zero e));omega⟩
 have xi:=Tv (b:=1000000000) (by decide) hm;show bl.ok _ ⟨_,_,⟨_,_,[(0,de (aU 1000000000 a)),(1,de (aU 1000000000 b))]⟩⟩;generalize vf:aU 1000000000 a=xs at *
 repeat refine ab rfl ?_
 refine n0 fE 0 ?_
 repeat refine ab rfl ?_
 rw[hm];refine Kz 8 (de []) rfl c5.nl ?_;refine aH 8 (c3 0) rfl (by unfold c3;rw[fV]) ?_;refine e3 (L:=Nat×List Nat×Nat) (fun(k,dj,r)=>k+dj.length=xs.length∧cY 1000000000 dj∧r<b∧val 1000000000 (xs.drop k)=val 1000000000 dj*b+r)
  (fun((k:Nat),(dj:List Nat),(r:Nat))=>⟨[.a 2 false 1 Nat fE (List.replicate k 0++dj)],1,[(0,de xs),(1,de (aU 1000000000 b)),(6,.bH 0 1 0 xs.length xs.length),(7,.i .i64 ((m+1:Nat):Int)),(8,c3 r),(9,.i .i64 ((k:Int)-1))]⟩)
  (fun l=>l.1) [0] (xs.length,[],0) ⟨by simp,fun x aa=>by simp at aa,by omega,by simp[val]⟩ (by show xs.length<cp+1;unfold cp;omega) ?_ ?_
 ·exact cT ⟨rfl,rfl,rfl,rfl,rfl,eS,trivial⟩ ⟨_,rfl,by simp,fun _=>rfl⟩
 rintro⟨k,dj,r⟩ ⟨ae,bM,aF,aD⟩;cases k with
 |zero=>
  repeat refine ab rfl ?_
  refine l7 99 ?_;refine bm tF dj (by show dj.length<=_;omega) ?_
  repeat refine ab rfl ?_
  refine a1 (a6 rfl rfl (.of ?_));show al.b5 [de (eN dj),c3 r]=al.b5 [c3 (a/b),c3 (a%b)];rw[List.drop_zero,h6]at aD;have ax:=Nat.div_mod_unique (Nat.pos_of_ne_zero kk) (a:=a) (c:=r) (d:=val 1000000000 dj);obtain⟨aG,e2⟩:=ax.2 ⟨by rw[aD,Nat.mul_comm];exact Nat.add_comm _ _,aF⟩;rw[wb (by decide) bM,aG,e2];rfl
 |succ i=>
  have aa:i<xs.length:=by omega
  have kp:=J _ (ew aa);obtain⟨W,gr⟩:∃W,W=xs[i]+1000000000*r:=⟨_,rfl⟩;have aak:W<1000000000*b:=by omega
  have pC:∀q dt:Nat,q*b+dt=W->val 1000000000 (xs.drop i)=val 1000000000 (q::dj)*b+dt:=fun q dt h=>by
   rw[iG aa];simp only[val];rw[aD,Nat.add_mul,Nat.mul_add,Nat.mul_assoc];omega
  have IB:=aji aF hb;refine aH 9 (.i .i64 (i:Nat)) rfl ff ?_
  repeat refine ab rfl ?_
  refine aH 23 (.b true) rfl (by simp) ?_
  repeat refine bd 26 rfl ?_
  refine hk (L:=Unit) (fun _=>True) (fun _=>J5 xs dj b m i W []) ?_ ?_
  ·repeat refine ab rfl ?_
   refine gY xs[i] (cA aa) ?_
   repeat refine ab rfl ?_
   refine tH 1 fE [xs[i]] ?_;by_cases oJ:r=0
   ·subst oJ;refine aH 31 (de []) rfl (by unfold c3;rw[fV]) ?_;refine ajE (R:=fE) (K0 rfl (fun _=>rfl) (fun _=>rfl)) ?_;refine l7 32 ?_;refine bm tF [xs[i]] (by show 1<=_;decide) ?_
    repeat refine ab rfl ?_
    refine b0 [0] () trivial (cT ⟨rfl,rfl,rfl,rfl,congrArg (fun l=>some (de l)) ?_,rfl,trivial⟩ ⟨_,rfl,rfl,fun _=>rfl⟩);have:=K6 (d:=xs[i]) (r:=0) kp;rw[fV]at this;rw[gr];exact this
   ·have cx:aU 1000000000 r≠[]:=fun e=>oJ ((oq (by decide)).1 e);have hl:0<(aU 1000000000 r).length:=List.length_pos_iff.2 cx;have IB:(aU 1000000000 r).length<=268435456:=IB;refine ajH (R:=fE) (aU 1000000000 r) (K0 rfl (fun _=>rfl) (fun _=>rfl)) (xs[i]::aU 1000000000 r) ?_ (h0:=cx);refine l7 32 ?_;refine bm tF (xs[i]::aU 1000000000 r) (by show(aU _ r).length+1<=_;omega) ?_
    repeat refine ab rfl ?_
    refine b0 [0] () trivial (cT ⟨rfl,rfl,rfl,rfl,congrArg (fun l=>some (de l)) ?_,rfl,trivial⟩ ⟨_,rfl,rfl,fun _=>rfl⟩);rw[gr];exact K6 kp
  intro _ _;have HP:ed 268435457 W:=by
   have:=K6 (d:=xs[i]) (r:=r) kp;have U:=Uq (xs[i]::aU 1000000000 r);rw[this,<-gr]at U;exact Nat.le_trans U (Nat.succ_le_succ IB)
  repeat refine ab rfl ?_
  refine bm qG (W,b) ⟨dg HP (by decide),dg hb (by decide)⟩ ?_
  repeat refine ab rfl ?_
  refine cu (fun h=> ?_) (fun h=> ?_)
  ·have h:W<b:=wN h
   repeat refine ab rfl ?_
   refine b0 [0] (i,0::dj,W) ⟨by simp,by simp;omega,?_,h,pC 0 W (by omega)⟩ (cT ⟨rfl,rfl,rfl,rfl,rfl,eS,trivial⟩ ⟨_,rfl,by rw[List.replicate_succ',List.append_assoc];rfl,fun _=>rfl⟩);intro x aa;rcases List.mem_cons.1 aa with rfl|aa
   ·decide
   ·exact bM x aa
  have kQ:b<=W:=wO h;obtain⟨t1,t2,t3,t4,t5,t6,t7⟩:=ajk hm kQ aak;have K4:m<(aU 1000000000 W).length:=(uC (by decide)).2 (by have:=Nat.div_le_div_right (c:=1000000000^m) kQ;omega);have aoo:=iM (b:=1000000000) (by decide) t7;have K8:∃g4:Nat,(aU 1000000000 W)[m]? =some g4∧(((aU 1000000000 W).length=m+1∧g4=W/1000000000^m)∨((aU 1000000000 W).length=m+2∧∃y:Nat,(aU 1000000000 W)[m+1]? =some y∧g4+1000000000*y=W/1000000000^m)):=by
   rcases(show(aU 1000000000 W).length=m+1∨(aU 1000000000 W).length=m+2 by omega)with h|h
   ·exact⟨_,Tv (by decide) h,.inl ⟨h,rfl⟩⟩
   ·obtain⟨aW,a0,bx⟩:=ami (b:=1000000000) (by decide) (show m+1<_ by omega) t7;exact⟨_,aW,.inr ⟨h,_,a0,bx⟩⟩
  generalize D3:b/1000000000^m=v at *;generalize ek:W/1000000000^m=w at *;obtain⟨g4,AH,K8⟩:=K8
  repeat refine ab rfl ?_
  refine aH 40 (.i .i64 (m:Nat)) rfl cB ?_
  repeat refine ab rfl ?_
  refine gY g4 AH ?_
  repeat refine bd 10 rfl ?_
  iterate 3 refine ab rfl ?_
  refine hk (L:=Unit) (fun _=>True) (fun _=>J5 xs dj b m i W [(10,.i .i64 (w:Nat))]) ?_ ?_
  ·repeat refine ab rfl ?_
   rcases K8 with⟨aW,a0⟩|⟨aW,y,a0,bx⟩
   ·refine aH 46 (.b false) rfl (by rw[aW];simp) ?_
    repeat refine ab rfl ?_
    exact b0 [0] () trivial (cT ⟨rfl,rfl,rfl,rfl,rfl,rfl,by rw[<-a0];rfl,trivial⟩ ⟨_,rfl,rfl,fun _=>rfl⟩)
   ·refine aH 46 (.b true) rfl (by rw[aW];simp) ?_
    repeat refine ab rfl ?_
    refine gY y a0 ?_
    repeat refine ab rfl ?_
    refine b0 [0] () trivial (cT ⟨rfl,rfl,rfl,rfl,rfl,rfl,?_,trivial⟩ ⟨_,rfl,rfl,fun _=>rfl⟩);exact congrArg (fun n=>some (al.i .i64 n)) (by rw[gD (n:=1000000000*(y:Int)) (by omega) (by omega),gD (by omega) (by omega)];omega)
  intro _ _
  repeat refine ab rfl ?_
  refine eg 57 (.i .i64 (m:Nat)) rfl rfl cB ?_;refine mm v xi ?_
  repeat refine bd 60 rfl ?_
  refine eg 60 (.i .i64 ((v+1:Nat):Int)) rfl rfl cB ?_;refine Nr ?_
  repeat refine bd 63 rfl ?_
  refine eg 63 (.i .i64 ((w+1:Nat):Int)) rfl rfl cB ?_
  repeat refine bd 66 rfl ?_
  refine eg 66 (.i .i64 (m:Nat)) rfl rfl cB ?_;refine mm v xi ?_
  repeat refine ab rfl ?_
  refine Nr ?_
  repeat refine bd 70 rfl ?_
  obtain⟨bD,hg⟩:∃bD,bD=w/(v+1):=⟨_,rfl⟩;obtain⟨ag,hY⟩:∃ag,ag=min ((w+1)/v) 999999999:=⟨_,rfl⟩;rw[<-hg]at t3;rw[<-hY]at t4;refine eg 61 (.i .i64 (bD:Nat)) rfl rfl (by rw[hg]) ?_;refine eg 70 (.i .i64 (ag:Nat)) rfl rfl (by rw[hY];exact ff (by generalize(w+1)/v=u;omega)) ?_;have aaZ:ag<=999999999:=by generalize(w+1)/v=u at *;omega
  have ah0:∀d:Nat,d≠0->d<1000000000->ed 268435457 (b*d):=fun d h0 h=>nZ (k:=268435456) (l:=1) hb (by show(aU _ d).length<=1;rw[uD h0 h];exact cd _);generalize nJ:W/b=q at *;have hv:0<b:=Nat.pos_of_ne_zero kk
  repeat refine ab rfl ?_
  refine e3 (L:=Nat×Nat) (fun(l,h)=>l<=q∧q<=h∧h<=999999999) (fun((l:Nat),(h:Nat))=>J5 xs dj b m i W [(11,.i .i64 l),(12,.i .i64 h)]) (fun l=>l.2-l.1) [0] (bD,ag) ⟨t3,t4,aaZ⟩ (by show ag-bD<cp+1;unfold cp;omega) (cT ⟨rfl,rfl,rfl,rfl,rfl,rfl,rfl,rfl,trivial⟩ ⟨_,rfl,rfl,fun _=>rfl⟩) ?_;rintro⟨l,h⟩ ⟨aW,a0,bx⟩
  repeat refine ab rfl ?_
  refine cu (fun bO=> ?_) (fun bO=> ?_)
  ·have bO:l<h:=by omega
   obtain⟨j4,abc⟩:∃j4,j4=(l+h+1)/2:=⟨_,rfl⟩
   repeat refine bd 76 rfl ?_
   refine aH 76 (.i .i64 ((l+h:Nat):Int)) rfl cB ?_
   repeat refine bd 77 rfl ?_
   refine aH 77 (.i .i64 ((l+h+1:Nat):Int)) rfl cB ?_
   repeat refine bd 78 rfl ?_
   refine aH 78 (.i .i64 (j4:Nat)) rfl (by rw[abc];show al.i _ (IntKind.i64.wrap (((l+h+1)/2:Nat):Int))=_;exact cB rfl (by omega) (by omega)) ?_;have xx:j4≠0:=by omega
   have uY:j4<1000000000:=by omega
   repeat refine ab rfl ?_
   refine tH 1 fE [j4] ?_;refine l7 81 ?_;refine aH 81 (c3 j4) rfl (by unfold c3;rw[uD xx uY];rfl) ?_;refine bm qH (b,j4) ⟨dg hb (by decide),by show(aU _ j4).length<=_;rw[uD xx uY];exact jk rfl⟩ ?_
   repeat refine ab rfl ?_
   refine bm qG (b*j4,W) ⟨dg (ah0 j4 xx uY) (by decide),dg HP (by decide)⟩ ?_
   repeat refine ab rfl ?_
   have z4:b*j4<=W↔j4<=q:=by rw[<-nJ,Nat.le_div_iff_mul_le hv,Nat.mul_comm]
   refine cu (fun hc=> ?_) (fun hc=> ?_)
   ·have hc:=z4.1 (Nh.1 hc)
    repeat refine ab rfl ?_
    exact b0 [0] (j4,h) ⟨by show h-j4<h-l;omega,hc,a0,bx⟩ (cT ⟨rfl,rfl,rfl,rfl,rfl,rfl,rfl,rfl,trivial⟩ ⟨_,rfl,rfl,fun _=>rfl⟩)
   ·have hc:q<j4:=Nat.lt_of_not_le fun aL=>hc (Nh.2 (z4.2 aL))
    repeat refine ab rfl ?_
    exact b0 [0] (l,j4-1) ⟨by show j4-1-l<h-l;omega,aW,by show q<=j4-1;omega,by show j4-1<=_;omega⟩ (cT ⟨rfl,rfl,rfl,rfl,rfl,rfl,rfl,eS,trivial⟩ ⟨_,rfl,rfl,fun _=>rfl⟩)
  ·have he:l=q:=by omega
   subst he;have uY:l<1000000000:=by omega
   have xx:l≠0:=by omega
   have xB:b*l<=W:=by rw[<-nJ];exact Nat.mul_div_le W b
   repeat refine ab rfl ?_
   refine lH ?_;refine j9 l ?_
   repeat refine ab rfl ?_
   refine tH 1 fE [l] ?_;refine l7 96 ?_;refine aH 96 (c3 l) rfl (by unfold c3;rw[uD xx uY];rfl) ?_;refine bm qH (b,l) ⟨dg hb (by decide),by show(aU _ l).length<=_;rw[uD xx uY];exact jk rfl⟩ ?_;refine bm Bs (W,b*l) ⟨dg HP (by decide),xB⟩ ?_
   repeat refine ab rfl ?_
   have abf:W-b*l=W%b:=by have:=Nat.div_add_mod W b;rw[nJ]at this;omega
   refine b0 [0] (i,l::dj,W-b*l) ⟨by simp,by simp;omega,?_,by rw[abf];exact Nat.mod_lt _ hv,pC l _ (by rw[Nat.mul_comm l b];omega)⟩ (cT ⟨rfl,rfl,rfl,rfl,rfl,eS,trivial⟩ ⟨_,rfl,by rw[ajj],fun _=>rfl⟩);intro x aa;rcases List.mem_cons.1 aa with rfl|aa
   ·exact uY
   ·exact bM x aa
theorem mL{k a b:Nat}(h:ed k b)(hl:a<=b):ed k a:=iM (by decide) (Nat.lt_of_le_of_lt hl (qc h))
theorem qF{k a:Nat}(h:ed k a):bA a<=30*k:=Nat.le_trans MV.2 (kA _ h)
theorem Ef{n:Nat}:(aU 1000000000 n).length=0↔n=0:=by rw[List.length_eq_zero_iff];exact oq (by decide)
def RG:cn where
 L:=Nat×Nat
 args:=fun(a,b)=>[c3 a,c3 b]
 pre:=fun(a,b)=>ed 268435456 a∧ed 268435456 b∧b≠0
 res:=fun(a,b)=>c3 (Nat.gcd a b)
def vN(x y t:Nat):di:=⟨[],0,[(0,c3 x),(1,c3 y),(5,.i .i64 t)]⟩
theorem ajl:ca aN.ctx 80 RG.spec:=by
 refine cz [(81,J6.spec),(188,RU.spec),(189,RI.spec),(78,r4.spec),(190,Fj.spec),(191,E4.spec)] f80 ?_;intro⟨a,b⟩ ⟨(a2:ed _ a),(hb:ed _ b),(kk:b≠0)⟩ H a4
 repeat refine ab rfl ?_
 refine bm J7 (a,b) ⟨a2,hb,kk⟩ ?_
 repeat refine ab rfl ?_
 have aF:a%b<b:=Nat.mod_lt _ (Nat.pos_of_ne_zero kk);have aZ:Nat.gcd (a%b) b=Nat.gcd a b:=by rw[Nat.gcd_comm a b,Nat.gcd_rec b a]
 have qr:ed 268435456 (a%b):=mL hb (Nat.le_of_lt aF);generalize aa:a%b=g4 at *;refine cu (fun h=> ?_) (fun h=> ?_)
 ·have h:g4=0:=Ef.1 (by omega);subst h
  repeat refine ab rfl ?_
  exact a1 (a6 rfl rfl (.of (by show c3 b=c3 (Nat.gcd a b);rw[<-aZ,Nat.gcd_zero_left])))
 have h:g4≠0:=fun e=>h (by rw[e,fV];rfl)
 repeat refine ab rfl ?_
 refine o1 (L:=Nat×Nat×Nat) (fun(x,y,t)=>x≠0∧y≠0∧ed 268435456 x∧ed 268435456 y∧t<=10000000000∧2^t*Nat.gcd x y=Nat.gcd a b∧Nat.gcd x y%2=1) (fun(x,y,t)=>vN x y t) ?_ ?_
 ·refine e3 (L:=Nat×Nat×Nat) (fun(x,y,t)=>x≠0∧y≠0∧ed 268435456 x∧ed 268435456 y∧t+bA x<=10000000000∧2^t*Nat.gcd x y=Nat.gcd a b) (fun(x,y,t)=>vN x y t) (fun l=>bA l.1) [] (g4,b,0) ⟨h,kk,qr,hb,by have:=qF qr;show 0+_<=_;omega,by rw[Nat.pow_zero,Nat.one_mul,aZ]⟩ (by have:=qF qr;show bA g4<cp+1;unfold cp;omega) (dF ⟨rfl,rfl,rfl,trivial⟩) ?_;rintro⟨x,y,t⟩ ⟨aW,a0,bx,cK,dn,eR⟩
  repeat refine ab rfl ?_
  refine bm Fa x trivial ?_
  repeat refine ab rfl ?_
  by_cases rJ:x%2=1
  ·refine aH 20 (.b false) rfl (by rw[decide_eq_true rJ];rfl) ?_
   repeat refine ab rfl ?_
   exact b0 [] (x,y,t) ⟨aW,a0,bx,cK,by omega,eR,Ob (fun h=>by omega)⟩ (dF ⟨rfl,rfl,rfl,trivial⟩)
  refine aH 20 (.b true) rfl (by rw[decide_eq_false rJ];rfl) ?_
  repeat refine ab rfl ?_
  have rJ:x%2=0:=by omega
  refine bm Fa y trivial ?_
  repeat refine ab rfl ?_
  by_cases D4:y%2=1
  ·refine aH 24 (.b false) rfl (by rw[decide_eq_true D4];rfl) ?_
   repeat refine ab rfl ?_
   exact b0 [] (x,y,t) ⟨aW,a0,bx,cK,by omega,eR,Ob (fun h=>by omega)⟩ (dF ⟨rfl,rfl,rfl,trivial⟩)
  refine aH 24 (.b true) rfl (by rw[decide_eq_false D4];rfl) ?_;have D4:y%2=0:=by omega
  repeat refine ab rfl ?_
  refine bm E8 x (dg bx (by decide)) ?_
  repeat refine ab rfl ?_
  refine bm E8 y (dg cK (by decide)) ?_
  repeat refine ab rfl ?_
  have ru:=sC (n:=x) (by omega);have oB:=gcd_both rJ D4;exact b0 [] (x/2,y/2,t+1) ⟨by show bA (x/2)<bA x;omega,by show x/2≠0;omega,by show y/2≠0;omega,mL bx (Nat.div_le_self _ _),mL cK (Nat.div_le_self _ _),by show t+1+bA (x/2)<=_;omega,by rw[Nat.pow_succ,Nat.mul_assoc,oB];exact eR⟩ (dF ⟨rfl,rfl,eS,trivial⟩)
 rintro⟨X,Y,t⟩ ⟨aW,a0,bx,cK,dn,eR,g9⟩;obtain⟨g,DE⟩:∃g,g=Nat.gcd X Y:=⟨_,rfl⟩;rw[<-DE]at eR g9
 repeat refine ab rfl ?_
 refine o1 (L:=Unit) (fun _=>True) (fun _=>⟨[],0,[(1,c3 g),(5,.i .i64 t)]⟩) ?_ ?_
 ·refine e3 (L:=Nat×Nat) (fun(x,y)=>y≠0∧ed 268435456 x∧ed 268435456 y∧Nat.gcd x y=g) (fun(x,y)=>vN x y t) (fun l=>2*(bA l.1+bA l.2)+l.1%2) [] (X,Y) ⟨a0,bx,cK,DE.symm⟩ (by have:=qF bx;have:=qF cK;show 2*(bA X+bA Y)+X%2<cp+1;unfold cp;omega) (dF ⟨rfl,rfl,rfl,trivial⟩) ?_;rintro⟨x,y⟩ ⟨J,U,ah,aC⟩
  repeat refine ab rfl ?_
  refine cu (fun hl=> ?_) (fun hl=> ?_)
  ·have AH:x≠0:=fun e=>by rw[e,fV]at hl;simp at hl
   repeat refine ab rfl ?_
   refine o1 (L:=Nat) (fun ev=>ev%2=1∧ed 268435456 ev∧Nat.gcd ev y=g∧2*bA ev<=2*bA x+x%2-1) (fun ev=>vN ev y t) ?_ ?_
   ·refine e3 (L:=Nat) (fun ev=>ev≠0∧ed 268435456 ev∧Nat.gcd ev y=g∧bA ev<=bA x∧(ev=x∨bA ev<bA x)) (fun ev=>vN ev y t) bA [] x ⟨AH,U,aC,cd _,.inl rfl⟩ (by have:=qF U;show bA x<cp+1;unfold cp;omega) (dF ⟨rfl,rfl,rfl,trivial⟩) ?_;rintro ev ⟨bg,bK,ep,pF,xJ⟩
    repeat refine ab rfl ?_
    refine bm Fa ev trivial ?_
    repeat refine ab rfl ?_
    refine yx (fun ao=> ?_) (fun ao=> ?_)
    ·have ru:=sC (n:=ev) (by omega);have ao:ev%2=0:=by omega
     repeat refine ab rfl ?_
     refine bm E8 ev (dg bK (by decide)) ?_
     repeat refine ab rfl ?_
     exact b0 [] (ev/2) ⟨by show bA (ev/2)<bA ev;omega,by omega,mL bK (Nat.div_le_self _ _),by rw[N9 ao (by rw[ep];exact g9)];exact ep,by omega,.inr (by omega)⟩ (dF ⟨rfl,rfl,rfl,trivial⟩)
    ·repeat refine ab rfl ?_
     exact b0 [] ev ⟨ao,bK,ep,by rcases xJ with rfl|xJ<;>omega⟩ (dF ⟨rfl,rfl,rfl,trivial⟩)
   rintro ev ⟨bg,bK,ep,pF⟩
   repeat refine ab rfl ?_
   refine o1 (L:=Nat) (fun y1=>y1%2=1∧ed 268435456 y1∧Nat.gcd ev y1=g∧bA y1<=bA y) (fun y1=>vN ev y1 t) ?_ ?_
   ·refine e3 (L:=Nat) (fun y1=>y1≠0∧ed 268435456 y1∧Nat.gcd ev y1=g∧bA y1<=bA y) (fun y1=>vN ev y1 t) bA [] y ⟨J,ah,ep,cd _⟩ (by have:=qF ah;show bA y<cp+1;unfold cp;omega) (dF ⟨rfl,rfl,rfl,trivial⟩) ?_;rintro y1 ⟨acL,hD,te,PB⟩
    repeat refine ab rfl ?_
    refine bm Fa y1 trivial ?_
    repeat refine ab rfl ?_
    refine yx (fun ao=> ?_) (fun ao=> ?_)
    ·have ru:=sC (n:=y1) (by omega);have ao:y1%2=0:=by omega
     repeat refine ab rfl ?_
     refine bm E8 y1 (dg hD (by decide)) ?_
     repeat refine ab rfl ?_
     exact b0 [] (y1/2) ⟨by show bA (y1/2)<bA y1;omega,by omega,mL hD (Nat.div_le_self _ _),by rw[ZB ao (by rw[te];exact g9)];exact te,by omega⟩ (dF ⟨rfl,rfl,rfl,trivial⟩)
    ·repeat refine ab rfl ?_
     exact b0 [] y1 ⟨ao,hD,te,PB⟩ (dF ⟨rfl,rfl,rfl,trivial⟩)
   rintro y1 ⟨acL,hD,te,PB⟩
   repeat refine ab rfl ?_
   by_cases acb:y1=1
   ·subst acb;rw[Nat.gcd_one_right]at te;refine aH 1 (de [1]) rfl (by unfold c3;rw[uB]) ?_;refine aH 47 (.b true) rfl (by rw[uB];rfl) ?_
    repeat refine ab rfl ?_
    refine gY (j:=0) 1 rfl ?_
    repeat refine ab rfl ?_
    exact b0 [] () trivial (dF ⟨by rw[<-te];unfold c3;rw[uB];rfl,rfl,trivial⟩)
   refine hk (L:=Unit) (fun _=>True) (fun _=>⟨[],0,[(0,c3 ev),(1,c3 y1),(5,.i .i64 t),(52,.b false)]⟩) ?_ ?_
   ·by_cases jt:(aU 1000000000 y1).length=1
    ·have Pj:y1<1000000000:=qc (k:=1) (Nat.le_of_eq jt);refine aH 47 (.b true) rfl (by rw[jt];rfl) ?_;refine aH 1 (de [y1]) rfl (by unfold c3;rw[uD (by omega) Pj]) ?_
     repeat refine ab rfl ?_
     refine gY (j:=0) y1 rfl ?_
     repeat refine ab rfl ?_
     exact b0 [] () trivial (dF ⟨rfl,by unfold c3;rw[uD (by omega) Pj];rfl,rfl,congrArg (fun b=>some (al.b b)) (decide_eq_false (by omega)),trivial⟩)
    ·refine aH 47 (.b false) rfl (by rw[decide_eq_false (by omega)]) ?_
     repeat refine ab rfl ?_
     exact b0 [] () trivial (dF ⟨rfl,rfl,rfl,rfl,trivial⟩)
   intro _ _
   repeat refine ab rfl ?_
   refine bm qG (ev,y1) ⟨dg bK (by decide),dg hD (by decide)⟩ ?_
   repeat refine ab rfl ?_
   have OV:=sC (n:=ev) (by omega);refine cu (fun hc=> ?_) (fun hc=> ?_)
   ·have hc:=wN hc
    repeat refine ab rfl ?_
    refine bm Bs (y1,ev) ⟨dg hD (by decide),Nat.le_of_lt hc⟩ ?_
    repeat refine ab rfl ?_
    have hv:=G6 (Nat.sub_le y1 ev);exact b0 [] (y1-ev,ev) ⟨by show 2*(bA (y1-ev)+bA ev)+(y1-ev)%2<2*(bA x+bA y)+x%2;omega,by show ev≠0;omega,mL hD (Nat.sub_le _ _),bK,by rw[Oa (Nat.le_of_lt hc),Nat.gcd_comm];exact te⟩ (dF ⟨rfl,rfl,rfl,trivial⟩)
   ·have hc:=wO hc
    repeat refine ab rfl ?_
    refine bm Bs (ev,y1) ⟨dg bK (by decide),hc⟩ ?_
    repeat refine ab rfl ?_
    have hv:=G6 (Nat.sub_le ev y1);exact b0 [] (ev-y1,y1) ⟨by show 2*(bA (ev-y1)+bA y1)+(ev-y1)%2<2*(bA x+bA y)+x%2;omega,by show y1≠0;omega,mL bK (Nat.sub_le _ _),hD,by rw[Oa hc];exact te⟩ (dF ⟨rfl,rfl,rfl,trivial⟩)
  ·have AH:x=0:=Ef.1 (by omega);subst AH;rw[Nat.gcd_zero_left]at aC
   repeat refine ab rfl ?_
   exact b0 [] () trivial (dF ⟨by rw[<-aC];rfl,rfl,trivial⟩)
 intro _ _
 repeat refine ab rfl ?_
 refine e3 (L:=Nat) (fun i=>i<=t) (fun(i:Nat)=>⟨[],0,[(1,c3 (2^i*g)),(5,.i .i64 t),(6,.i .i64 i)]⟩) (fun i=>t-i) [] 0 (Nat.zero_le _) (by show t-0<cp+1;unfold cp;omega) (dF ⟨by rw[Nat.pow_zero,Nat.one_mul];rfl,rfl,rfl,trivial⟩) ?_;intro(i:Nat) ag
 repeat refine ab rfl ?_
 refine cu (fun h=> ?_) (fun h=> ?_)
 ·have h:i<t:=by omega
  have dE:2^i*g<=b:=Nat.le_trans (g5 g (Nat.pow_le_pow_right (by decide) ag)) (by rw[eR];exact Nat.gcd_le_right _ (Nat.pos_of_ne_zero kk))
  repeat refine ab rfl ?_
  refine bm J1 (2^i*g,2^i*g) ⟨dg (mL hb dE) (by decide),dg (mL hb dE) (by decide)⟩ ?_
  repeat refine ab rfl ?_
  exact b0 [] (i+1) ⟨by show t-(i+1)<t-i;omega,h⟩ (dF ⟨congrArg (fun n=>some (c3 n)) (by rw[Nat.pow_succ,Nat.mul_comm (2^i) 2,Nat.mul_assoc];omega),rfl,eS,trivial⟩)
 ·have he:i=t:=by omega
  subst he
  repeat refine ab rfl ?_
  exact a1 (a6 rfl rfl (.of (by show c3 _=c3 _;rw[eR])))
theorem RL:c5 (.agg [.i .i64 0,.nl,.nl]) (dh 0):=c5.agg ⟨.refl _,c5.nl.trans (.of (by show de []=de (aU _ 0);rw[fV])),c5.nl,trivial⟩
theorem RD{n:Bool}{p q:Nat}(hp:p≠0)(hq:q≠0):dh (mkRat (if n then -(p:Int)else p) q)= .agg [.i .i64 (if n then -1 else 1),c3 (p/p.gcd q),c3 (q/p.gcd q)]:=by
 obtain⟨J,U⟩:=QF (neg:=n) hp hq;have aZ:0<p.gcd q:=Nat.gcd_pos_of_pos_left _ (by omega);have ax:0<p/p.gcd q:=Nat.div_pos (Nat.le_of_dvd (by omega) (Nat.gcd_dvd_left p q)) aZ;unfold dh;rw[J,U];generalize p/p.gcd q=a at *;cases n
 ·simp only[Bool.false_eq_true,if_false];rw[if_neg (by omega),Int.sign_eq_one_of_pos (by omega)];rfl
 ·simp only[if_true];rw[if_neg (by omega),Int.sign_eq_neg_one_of_neg (by omega),Int.natAbs_neg];rfl
def vO:cn where
 L:=Int×Nat×Nat
 args:=fun(s,p,q)=>[.i .i64 s,c3 p,c3 q]
 pre:=fun(s,p,q)=> -1<=s∧s<=1∧ed 268435456 p∧ed 268435456 q∧q≠0
 res:=fun(s,p,q)=>dh (mkRat (s*p) q)
theorem aje{s:Int}{p q:Nat}(J: -1<=s)(U:s<=1)(ak:s≠0)(hp:p≠0)(hq:q≠0):dh (mkRat (s*p) q)= .agg [.i .i64 s,c3 (p/p.gcd q),c3 (q/p.gcd q)]:=by
 rcases(show s=1∨s= -1 by omega)with rfl|rfl
 ·have:=RD (n:=false) hp hq;rw[if_neg (by decide),if_neg (by decide)]at this;rw[Int.one_mul];exact this
 ·have:=RD (n:=true) hp hq;rw[if_pos rfl,if_pos rfl]at this;rw[Int.neg_mul,Int.one_mul];exact this
theorem wP{a b:Nat}:h8 a b=0↔a=b:=by
 unfold h8;split
 ·omega
 ·split<;>omega
theorem E5:ed 1073741824 1:=by show(aU _ 1).length<=_;rw[uB];exact jk rfl
theorem tC:ca aN.ctx 26 vO.spec:=by
 refine cz [(79,vP.spec),(78,r4.spec),(80,RG.spec),(81,J6.spec)] f26 ?_;intro⟨s,p,q⟩ ⟨(J: -1<=s),(U:s<=1),(hp:ed _ p),(hq:ed _ q),(gM:q≠0)⟩ H a4;have zero:s*(p:Int)=0->c5 (.agg [.i .i64 0,.nl,.nl]) (vO.res (s,p,q)):=fun h=>RL.trans (.of (by show dh 0=dh (mkRat (s*p) q);rw[h,Rat.zero_mkRat]))
 repeat refine bd 11 rfl ?_
 by_cases qi:p=0
 ·refine aH 11 (.b true) rfl (by show al.b (decide (((aU 1000000000 p).length:Int)=0))=_;rw[decide_eq_true (by have:=Ef.2 qi;omega)]) ?_
  repeat refine ab rfl ?_
  exact a1 (a6 rfl rfl (zero (by rw[qi];simp)))
 refine aH 11 (.b false) rfl (by show al.b (decide (((aU 1000000000 p).length:Int)=0))=_;rw[decide_eq_false (by have:=mt Ef.1 qi;omega)]) ?_
 repeat refine bd 13 rfl ?_
 by_cases ql:s=0
 ·refine aH 13 (.b true) rfl (by show al.b (decide _)=_;rw[decide_eq_true ql]) ?_
  repeat refine ab rfl ?_
  exact a1 (a6 rfl rfl (zero (by rw[ql];simp)))
 refine aH 13 (.b false) rfl (by show al.b (decide _)=_;rw[decide_eq_false ql]) ?_;have Dn:=aje J U ql qi gM;have fin:∀{dL fq:Nat},dL=p/p.gcd q->fq=q/p.gcd q->c5 (.agg [.i .i64 s,c3 dL,c3 fq]) (vO.res (s,p,q)):=fun aG e2=>.of (by rw[aG,e2];exact Dn.symm)
 repeat refine ab rfl ?_
 refine bm tD () trivial ?_;refine bm qG (p,1) ⟨dg hp (by decide),E5⟩ ?_
 repeat refine bd 20 rfl ?_
 by_cases s5:p=1
 ·refine aH 20 (.b true) rfl (by show al.b (decide _)=_;rw[decide_eq_true (wP.2 s5)]) ?_
  repeat refine ab rfl ?_
  exact a1 (a6 rfl rfl (fin (by rw[s5];simp) (by rw[s5];simp)))
 refine aH 20 (.b false) rfl (by show al.b (decide _)=_;rw[decide_eq_false (mt wP.1 s5)]) ?_
 repeat refine ab rfl ?_
 refine bm tD () trivial ?_
 repeat refine ab rfl ?_
 refine bm qG (q,1) ⟨dg hq (by decide),E5⟩ ?_
 repeat refine bd 24 rfl ?_
 by_cases py:q=1
 ·refine aH 24 (.b true) rfl (by show al.b (decide _)=_;rw[decide_eq_true (wP.2 py)]) ?_
  repeat refine ab rfl ?_
  exact a1 (a6 rfl rfl (fin (by rw[py];simp) (by rw[py];simp)))
 refine aH 24 (.b false) rfl (by show al.b (decide _)=_;rw[decide_eq_false (mt wP.1 py)]) ?_;have aZ:0<p.gcd q:=Nat.gcd_pos_of_pos_right _ (Nat.pos_of_ne_zero gM);have DF:ed 268435456 (p.gcd q):=mL hq (Nat.gcd_le_right _ (Nat.pos_of_ne_zero gM))
 repeat refine ab rfl ?_
 refine bm ajl (p,q) ⟨hp,hq,gM⟩ ?_
 repeat refine ab rfl ?_
 refine bm tD () trivial ?_;refine bm qG (p.gcd q,1) ⟨dg DF (by decide),E5⟩ ?_
 repeat refine ab rfl ?_
 refine hk (L:=Nat×Nat) (fun(dL,fq)=>dL=p/p.gcd q∧fq=q/p.gcd q) (fun(dL,fq)=>⟨[.c 35 [.i .i64 0,.nl,.nl]],1,[(0,.i .i64 s),(1,c3 dL),(2,c3 fq),(6,.p 0 0)]⟩) ?_ ?_
 ·refine cu (fun hc=> ?_) (fun hc=> ?_)
  ·repeat refine ab rfl ?_
   refine bm J7 (p,p.gcd q) ⟨hp,DF,by show p.gcd q≠0;omega⟩ ?_
   repeat refine ab rfl ?_
   refine bm J7 (q,p.gcd q) ⟨hq,DF,by show p.gcd q≠0;omega⟩ ?_
   repeat refine ab rfl ?_
   exact b0 [0] (p/p.gcd q,q/p.gcd q) ⟨rfl,rfl⟩ (cT ⟨rfl,rfl,rfl,rfl,trivial⟩ ⟨_,rfl,rfl⟩)
  ·have hc:p.gcd q=1:=wP.1 (Decidable.not_not.1 hc)
   repeat refine ab rfl ?_
   exact b0 [0] (p,q) ⟨by rw[hc,Nat.div_one],by rw[hc,Nat.div_one]⟩ (cT ⟨rfl,rfl,rfl,rfl,trivial⟩ ⟨_,rfl,rfl⟩)
 rintro⟨dL,fq⟩ ⟨aG,e2⟩
 repeat refine ab rfl ?_
 exact a1 (a6 rfl rfl (fin aG e2))
def E9:cn where
 L:=Int
 args:=fun n=>[.i .i64 n]
 pre:=fun n=> -9223372036854775808<=n∧n<9223372036854775808
 res:=fun n=>dh (mkRat n 1)
theorem Bp{n:Nat}(h:n<18446744073709551616):ed 3 n:=iM (by decide) (by omega)
theorem J8:ca aN.ctx 39 E9.spec:=by
 refine cz [(100,RQ.spec),(79,vP.spec),(26,vO.spec)] f39 ?_;intro(n:Int) ⟨(J:_<=n),(U:n<_)⟩ H a4;have dW:ed 268435456 1:=by show(aU _ 1).length<=_;rw[uB];exact jk rfl
 repeat refine ab rfl ?_
 refine cu (fun h=> ?_) (fun h=> ?_)
 ·obtain⟨m,hm⟩:∃m:Nat,m=n.natAbs:=⟨_,rfl⟩
  repeat refine bd 6 rfl ?_
  refine aH 6 (.i .i64 (n+1)) rfl (cB rfl (by omega) (by omega)) ?_
  repeat refine bd 7 rfl ?_
  refine aH 7 (.i .i64 ((m-1:Nat):Int)) rfl cB ?_
  repeat refine bd 9 rfl ?_
  have YK:((m-1)%18446744073709551616+1)%18446744073709551616=m:=by omega
  refine aH 9 (.i .u64 (m:Nat)) rfl (congrArg (fun n:Nat=>al.i .u64 (n:Int)) YK) ?_;refine bm RR m (by show m<_;omega) ?_
  repeat refine ab rfl ?_
  refine bm tD () trivial ?_;refine bm tC (-1,m,1) ⟨by decide,by decide,dg (Bp (by omega)) (by decide),dW,by decide⟩ ?_
  repeat refine ab rfl ?_
  exact a1 (a6 rfl rfl (.of (by show dh _=dh _;rw[show -1*(m:Int)=n by omega])))
 ·obtain⟨m,hm⟩:∃m:Nat,n=(m:Int):=⟨n.toNat,by omega⟩;subst hm
  repeat refine bd 14 rfl ?_
  refine aH 14 (.i .u64 (m:Nat)) rfl ff ?_;refine bm RR m (by show m<_;omega) ?_
  repeat refine ab rfl ?_
  refine bm tD () trivial ?_;refine bm tC (1,m,1) ⟨by decide,by decide,dg (Bp (by omega)) (by decide),dW,by decide⟩ ?_
  repeat refine ab rfl ?_
  exact a1 (a6 rfl rfl (.of (by show dh _=dh _;rw[Int.one_mul])))
theorem J2{x y:Rat}{s:Int}{k:Nat}(h:s*(k:Int)=x.num*y.den+y.num*x.den):mkRat (s*k) (x.den*y.den)=x+y:=by rw[h,Rat.add_def']
theorem SG(n:Int):n=n.sign*(n.natAbs:Int):=(Int.sign_mul_natAbs n).symm
def Bo(x:Rat):List al:=[.i .i64 x.num.sign,c3 x.num.natAbs,de (if x.num=0 then[]else aU 1000000000 x.den)]
def RW:cn where
 L:=Rat×Rat
 args:=fun(x,y)=>[dh x,dh y]
 pre:=fun(x,y)=>eG 67108864 x∧eG 67108864 y
 res:=fun(x,y)=>dh (x+y)
theorem ajv:ca aN.ctx 199 RW.spec:=by
 refine cz [(96,Bq.spec),(95,yj.spec),(191,E4.spec),(190,Fj.spec),(78,r4.spec),(26,vO.spec)] f199 ?_;intro⟨x,y⟩ ⟨(aa:eG _ x),(aJ:eG _ y)⟩ H a4;have gi:ed 134217728 (x.num.natAbs*y.den):=nZ aa.1 aJ.2;have ie:ed 134217728 (y.num.natAbs*x.den):=nZ aJ.1 aa.2;have vm:ed 134217728 (x.den*y.den):=nZ aa.2 aJ.2;have ah:x.den*y.den≠0:=Nat.mul_ne_zero x.den_nz y.den_nz;have ho:=BI x.num;have mP:=BI y.num
 repeat refine ab rfl ?_
 refine cZ r3 y trivial ?_
 repeat refine ab rfl ?_
 refine cZ qH (x.num.natAbs,y.den) ⟨dg aa.1 (by decide),dg aJ.2 (by decide)⟩ ?_
 repeat refine ab rfl ?_
 refine cZ r3 x trivial ?_
 repeat refine ab rfl ?_
 refine cZ qH (y.num.natAbs,x.den) ⟨dg aJ.1 (by decide),dg aa.2 (by decide)⟩ ?_
 repeat refine ab rfl ?_
 refine cZ r3 x trivial ?_
 repeat refine ab rfl ?_
 refine cZ r3 y trivial ?_
 repeat refine ab rfl ?_
 refine cZ qH (x.den,y.den) ⟨dg aa.2 (by decide),dg aJ.2 (by decide)⟩ ?_
 repeat refine bd 27 rfl ?_
 refine hk (L:=Bool) (fun t=>t=decide (x.num.sign=0∨y.num.sign=0∨x.num.sign=y.num.sign)) (fun t=>⟨[.c 35 (Bo x),.c 35 (Bo y),.c 35 [.i .i64 0,.nl,.nl]],3,[(2,.p 0 0),(3,.p 1 0),(4,.p 2 0),(5,c3 (x.num.natAbs*y.den)),(6,c3 (y.num.natAbs*x.den)),(7,c3 (x.den*y.den)),(38,.b t)]⟩) ?_ ?_
 ·by_cases fj:x.num.sign=0
  ·refine aH 27 (.b true) rfl (by rw[decide_eq_true fj]) ?_
   repeat refine ab rfl ?_
   exact b0 [0,1,2] true (by simp[fj]) (BP ⟨rfl,rfl,rfl,rfl,rfl,rfl,rfl,trivial⟩ ⟨_,rfl,rfl⟩ ⟨_,rfl,rfl⟩ ⟨_,rfl,rfl⟩)
  refine aH 27 (.b false) rfl (by rw[decide_eq_false fj]) ?_
  repeat refine bd 32 rfl ?_
  by_cases gm:y.num.sign=0
  ·refine aH 32 (.b true) rfl (by rw[decide_eq_true gm]) ?_
   repeat refine ab rfl ?_
   exact b0 [0,1,2] true (by simp[gm]) (BP ⟨rfl,rfl,rfl,rfl,rfl,rfl,rfl,trivial⟩ ⟨_,rfl,rfl⟩ ⟨_,rfl,rfl⟩ ⟨_,rfl,rfl⟩)
  refine aH 32 (.b false) rfl (by rw[decide_eq_false gm]) ?_
  repeat refine ab rfl ?_
  exact b0 [0,1,2] (decide (x.num.sign=y.num.sign)) (by simp only[fj,gm,false_or]) (BP ⟨rfl,rfl,rfl,rfl,rfl,rfl,rfl,trivial⟩ ⟨_,rfl,rfl⟩ ⟨_,rfl,rfl⟩ ⟨_,rfl,rfl⟩)
 intro t aX;have ex:=SG x.num;have rj:=SG y.num;by_cases hc:x.num.sign=0∨y.num.sign=0∨x.num.sign=y.num.sign
 ·refine aH 38 (.b true) rfl (by rw[aX,decide_eq_true hc]) ?_
  repeat refine ab rfl ?_
  refine hk (L:=Int) (fun s=> -1<=s∧s<=1∧s*((x.num.natAbs*y.den+y.num.natAbs*x.den:Nat):Int)=x.num*y.den+y.num*x.den) (fun s=>⟨[.c 35 (Bo x),.c 35 (Bo y),.c 35 [.i .i64 0,.nl,.nl]],3,[(4,.p 2 0),(5,c3 (x.num.natAbs*y.den)),(6,c3 (y.num.natAbs*x.den)),(7,c3 (x.den*y.den)),(8,.i .i64 s)]⟩) ?_ ?_
  ·refine cu (fun h=> ?_) (fun h=> ?_)
   ·repeat refine ab rfl ?_
    refine b0 [0,1,2] y.num.sign ⟨mP.1,mP.2,?_⟩ (BP ⟨rfl,rfl,rfl,rfl,rfl,trivial⟩ ⟨_,rfl,rfl⟩ ⟨_,rfl,rfl⟩ ⟨_,rfl,rfl⟩);have h0:x.num=0:=Int.sign_eq_zero_iff_zero.1 h
    conv=>rhs;rw[rj]
    rw[h0];simp[Int.mul_assoc]
   ·repeat refine ab rfl ?_
    refine b0 [0,1,2] x.num.sign ⟨ho.1,ho.2,?_⟩ (BP ⟨rfl,rfl,rfl,rfl,rfl,trivial⟩ ⟨_,rfl,rfl⟩ ⟨_,rfl,rfl⟩ ⟨_,rfl,rfl⟩);have ta:y.num=x.num.sign*(y.num.natAbs:Int):=by
     rcases hc with aL|aL|aL
     ·exact absurd aL h
     ·rw[Int.sign_eq_zero_iff_zero.1 aL];simp
     ·rw[aL];exact rj
    conv=>rhs;rw[ex,ta]
    rw[Int.natCast_add,Int.natCast_mul,Int.natCast_mul,Int.mul_add,Int.mul_assoc,Int.mul_assoc]
  rintro s ⟨s1,s2,v3⟩
  repeat refine ab rfl ?_
  refine bm J1 (x.num.natAbs*y.den,y.num.natAbs*x.den) ⟨dg gi (by decide),dg ie (by decide)⟩ ?_
  repeat refine ab rfl ?_
  refine bm tC (s,x.num.natAbs*y.den+y.num.natAbs*x.den,x.den*y.den) ⟨s1,s2,dg (GH gi ie) (by decide),dg vm (by decide),ah⟩ ?_
  repeat refine ab rfl ?_
  exact a1 (a6 rfl rfl (.of (congrArg dh (J2 v3))))
 ·refine aH 38 (.b false) rfl (by rw[aX,decide_eq_false hc]) ?_;have DR:y.num.sign= -x.num.sign:=by omega
  repeat refine ab rfl ?_
  refine bm qG (x.num.natAbs*y.den,y.num.natAbs*x.den) ⟨dg gi (by decide),dg ie (by decide)⟩ ?_
  repeat refine ab rfl ?_
  have key:∀(s:Int) (a b:Nat),b<=a->s*((a-b:Nat):Int)=s*a+(-s)*b:=fun s a b h=>by rw[show((a-b:Nat):Int)=(a:Int)-b by omega,Int.mul_sub,Int.neg_mul];rfl
  refine cu (fun h=> ?_) (fun h=> ?_)
  ·have bO:=wN h
   repeat refine ab rfl ?_
   refine cZ Bs (y.num.natAbs*x.den,x.num.natAbs*y.den) ⟨dg ie (by decide),Nat.le_of_lt bO⟩ ?_
   repeat refine ab rfl ?_
   refine cZ tC (y.num.sign,y.num.natAbs*x.den-x.num.natAbs*y.den,x.den*y.den) ⟨mP.1,mP.2,dg (mL ie (Nat.sub_le _ _)) (by decide),dg vm (by decide),ah⟩ ?_
   repeat refine ab rfl ?_
   refine a1 (a6 rfl rfl (.of (congrArg dh (J2 ?_))));rw[key _ _ _ (Nat.le_of_lt bO)]
   conv=>rhs;rw[ex,rj]
   rw[DR,Int.natCast_mul,Int.natCast_mul,Int.neg_neg,Int.mul_assoc,Int.mul_assoc,Int.add_comm]
  ·have kQ:=wO h
   repeat refine ab rfl ?_
   refine cZ Bs (x.num.natAbs*y.den,y.num.natAbs*x.den) ⟨dg gi (by decide),kQ⟩ ?_
   repeat refine ab rfl ?_
   refine cZ tC (x.num.sign,x.num.natAbs*y.den-y.num.natAbs*x.den,x.den*y.den) ⟨ho.1,ho.2,dg (mL gi (Nat.sub_le _ _)) (by decide),dg vm (by decide),ah⟩ ?_
   repeat refine ab rfl ?_
   refine a1 (a6 rfl rfl (.of (congrArg dh (J2 ?_))));rw[key _ _ _ kQ]
   conv=>rhs;rw[ex,rj]
   rw[DR,Int.natCast_mul,Int.natCast_mul,Int.mul_assoc,Int.mul_assoc]
def RZ:cn where
 L:=Rat×Rat
 args:=fun(x,y)=>[dh x,dh y]
 pre:=fun(x,y)=>eG 67108864 x∧eG 67108864 y
 res:=fun(x,y)=>dh (x-y)
theorem Qz{k:Nat}{x:Rat}(h:eG k x):eG k (-x):=by
 unfold eG;rw[Rat.neg_num,Rat.neg_den,Int.natAbs_neg];exact h
theorem ajy:ca aN.ctx 97 RZ.spec:=by
 refine cz [(200,RS.spec),(199,RW.spec)] f97 ?_;intro⟨x,y⟩ ⟨(aa:eG _ x),(aJ:eG _ y)⟩ H a4
 repeat refine ab rfl ?_
 refine cZ ajs y trivial ?_
 repeat refine ab rfl ?_
 refine cZ ajv (x,-y) ⟨aa,Qz aJ⟩ ?_
 repeat refine ab rfl ?_
 exact a1 (a6 rfl rfl (.of (by show dh (x+ -y)=dh (x-y);rw[Rat.sub_eq_add_neg])))
def Fh:cn where
 L:=Rat×Int
 args:=fun(x,k)=>[dh x,.i .i64 k]
 pre:=fun(x,k)=>eG 67108864 x∧-100000000<=k∧k<=100000000
 res:=fun(x,k)=>dh (dv x k)
theorem Fi:ca aN.ctx 41 Fh.spec:=by
 refine cz [(96,Bq.spec),(104,(Fc 1000000001).spec),(95,yj.spec),(26,vO.spec)] f41 ?_;intro⟨x,k⟩ ⟨(aa:eG _ x),(J:_<=k),(U:k<=_)⟩ H a4;have ho:=BI x.num
 repeat refine ab rfl ?_
 refine cu (fun h=> ?_) (fun h=> ?_)
 ·obtain⟨n,hn⟩:∃n:Nat,k= -(n:Int):=⟨(-k).toNat,by omega⟩;subst hn
  repeat refine ab rfl ?_
  refine cZ r3 x trivial ?_
  repeat refine bd 14 rfl ?_
  refine eg 14 (.i .i64 (n:Nat)) rfl rfl cB ?_;refine cZ (Fe 1000000001) n ⟨by show n<_;omega,by show n<=_;omega⟩ ?_
  repeat refine ab rfl ?_
  refine cZ qH (x.den,2^n) ⟨dg aa.2 (by decide),dg (pN n) (by omega)⟩ ?_
  repeat refine ab rfl ?_
  refine cZ tC (x.num.sign,x.num.natAbs,x.den*2^n) ⟨ho.1,ho.2,dg aa.1 (by decide),dg (nZ aa.2 (pN n)) (by omega),Nat.mul_ne_zero x.den_nz (by have:=Nat.two_pow_pos n;omega)⟩ ?_
  repeat refine ab rfl ?_
  refine a1 (a6 rfl rfl (.of (congrArg dh ?_)));show _=dv x (-(n:Int));unfold dv;rw[if_pos (by omega),Int.sign_mul_natAbs,show(- -(n:Int)).toNat=n by omega]
 ·obtain⟨n,hn⟩:∃n:Nat,k=(n:Int):=⟨k.toNat,by omega⟩;subst hn
  repeat refine ab rfl ?_
  refine cZ (Fe 1000000001) n ⟨by show n<_;omega,by show n<=_;omega⟩ ?_
  repeat refine ab rfl ?_
  refine cZ qH (x.num.natAbs,2^n) ⟨dg aa.1 (by decide),dg (pN n) (by omega)⟩ ?_
  repeat refine ab rfl ?_
  refine cZ r3 x trivial ?_
  repeat refine ab rfl ?_
  refine cZ tC (x.num.sign,x.num.natAbs*2^n,x.den) ⟨ho.1,ho.2,dg (nZ aa.1 (pN n)) (by omega),dg aa.2 (by decide),x.den_nz⟩ ?_
  repeat refine ab rfl ?_
  refine a1 (a6 rfl rfl (.of (congrArg dh ?_)));show _=dv x (n:Int);unfold dv;rw[if_neg (by omega),Int.natCast_mul,<-Int.mul_assoc,Int.sign_mul_natAbs,Int.natCast_pow,show((n:Int)).toNat=n by omega];rfl
def yk:cn where
 L:=Int
 args:=fun k=>[.i .i64 k]
 pre:=fun k=> -100000000<=k∧k<=100000000
 res:=fun k=>dh (dv (mkRat 1 1) k)
theorem x1:eG 1 (mkRat 1 1):=by
 show ed 1 1∧ed 1 1;unfold ed;rw[uB];exact⟨cd _,cd _⟩
theorem k0{k l:Nat}{x:Rat}(h:eG k x)(hl:k<=l):eG l x:=⟨dg h.1 hl,dg h.2 hl⟩
theorem Bt:ca aN.ctx 98 yk.spec:=by
 refine cz [(39,E9.spec),(41,Fh.spec)] f98 ?_;intro(k:Int) ⟨(J:_<=k),(U:k<=_)⟩ H a4
 repeat refine ab rfl ?_
 refine bm J8 (1:Int) ⟨by decide,by decide⟩ ?_
 repeat refine ab rfl ?_
 refine bm Fi (mkRat 1 1,k) ⟨k0 x1 (by decide),J,U⟩ ?_
 repeat refine ab rfl ?_
 exact a1 (a6 rfl rfl (.refl _))
def RJ:cn where
 L:=Rat
 args:=fun x=>[dh x]
 pre:=fun x=>eG 67108864 x
 res:=fun x=>.b (decide (x.den=1))
theorem ajn:ca aN.ctx 84 RJ.spec:=by
 refine cz [(96,Bq.spec),(79,vP.spec),(78,r4.spec)] f84 ?_;intro(x:Rat) (aa:eG _ x) H a4
 repeat refine ab rfl ?_
 refine bm r3 x trivial ?_;refine bm tD () trivial ?_;refine bm qG (x.den,1) ⟨dg aa.2 (by decide),E5⟩ ?_
 repeat refine ab rfl ?_
 exact a1 (a6 rfl rfl (.of (by show al.b (decide _)=al.b (decide _);congr 1;rw[decide_eq_decide];exact wP)))
theorem KR(k:Int):(dv (mkRat 1 1) k).num=2^k.toNat∧(dv (mkRat 1 1) k).den=2^(-k).toNat:=by
 have Dm:(mkRat 1 1).num=1∧(mkRat 1 1).den=1:=⟨rfl,rfl⟩;unfold dv;rw[Dm.1,Dm.2];split
 ·obtain⟨J,U⟩:=A0 1 (1*2^(-k).toNat) (by have:=Nat.two_pow_pos (-k).toNat;omega);rw[J,U,show k.toNat=0 by omega];simp
 ·obtain⟨J,U⟩:=A0 (1*2^k.toNat) 1 (by decide);rw[J,U,show(-k).toNat=0 by omega];simp
theorem Jc{x:Rat}{k:Int}:hS x<dv (mkRat 1 1) k↔x.num.natAbs*2^(-k).toNat<x.den*2^k.toNat:=by
 rw[Rat.lt_iff,(pd x).1,(pd x).2,(KR k).1,(KR k).2];rw[show(x.num.natAbs:Int)*((2^(-k).toNat:Nat):Int)=((x.num.natAbs*2^(-k).toNat:Nat):Int)from(Int.natCast_mul _ _).symm,show(2:Int)^k.toNat*(x.den:Int)=((x.den*2^k.toNat:Nat):Int) by rw[Int.natCast_mul,Int.natCast_pow,Int.mul_comm];rfl];exact Int.ofNat_lt
theorem Qy{k:Nat}{x:Rat}(h:eG k x):eG k (hS x):=by
 unfold eG;rw[(pd x).1,(pd x).2];exact h
theorem A6{c:Nat}{k:Int}(J: -(c:Int)<=k)(U:k<=c):eG (c+1) (dv (mkRat 1 1) k):=by
 obtain⟨aG,e2⟩:=KR k;unfold eG;rw[aG,e2,Int.natAbs_pow];exact⟨dg (pN _) (by omega),dg (pN _) (by omega)⟩
theorem Nc{x y:Rat}:jT x y<0↔x<y:=by
 unfold jT;constructor
 ·intro h;split at h
  ·assumption
  split at h<;>omega
 ·intro h;rw[if_pos h];decide
def RP:cn where
 L:=Rat
 args:=fun x=>[dh x]
 pre:=fun x=>eG 3000000 x∧x.num≠0
 res:=fun x=>.i .i64 (hL x.num.natAbs x.den)
theorem ajp:ca aN.ctx 103 RP.spec:=by
 refine cz [(203,RN.spec),(201,J0.spec),(98,yk.spec),(37,Ff.spec)] f103 ?_;intro(x:Rat) ⟨(aa:eG _ x),(h0:x.num≠0)⟩ H a4;have dz:=qF aa.1;have eH:=qF aa.2
 repeat refine ab rfl ?_
 refine cu (fun h=> ?_) (fun h=> ?_)
 ·exact absurd (Int.sign_eq_zero_iff_zero.1 h) h0
 repeat refine ab rfl ?_
 refine cZ RO x.num.natAbs (dg aa.1 (by decide)) ?_
 repeat refine ab rfl ?_
 refine eg 11 (c3 x.den) rfl rfl (by rw[if_neg h0];rfl) ?_;refine cZ RO x.den (dg aa.2 (by decide)) ?_;obtain⟨p,hp⟩:∃p,p=bA x.num.natAbs:=⟨_,rfl⟩;obtain⟨q,hq⟩:∃q,q=bA x.den:=⟨_,rfl⟩;have hl:hL x.num.natAbs x.den=if x.num.natAbs*2^((q:Int)-p).toNat<x.den*2^((p:Int)-q).toNat then(p:Int)-q-1 else(p:Int)-q:=by rw[hp,hq];rfl
 rw[<-hp]at dz;rw[<-hq]at eH
 repeat refine bd 13 rfl ?_
 obtain⟨k,ae⟩:∃k:Int,k=(p:Int)-q:=⟨_,rfl⟩;refine aH 13 (.i .i64 k) rfl (by rw[ae,hp,hq];exact cB rfl (by omega) (by omega)) ?_
 repeat refine ab rfl ?_
 refine bm RE x trivial ?_
 repeat refine ab rfl ?_
 refine bm Bt k ⟨by show _<=k;omega,by show k<=_;omega⟩ ?_;refine bm J9 (hS x,dv (mkRat 1 1) k) ⟨k0 (Qy aa) (by decide),k0 (A6 (c:=100000000) (by omega) (by omega)) (by decide)⟩ ?_;have z4:jT (hS x) (dv (mkRat 1 1) k)<0↔x.num.natAbs*2^((q:Int)-p).toNat<x.den*2^((p:Int)-q).toNat:=by
  rw[Nc,Jc,ae,show -((p:Int)-q)=(q:Int)-p by omega]
 repeat refine ab rfl ?_
 refine cu (fun hc=> ?_) (fun hc=> ?_)
 ·have hc:=z4.1 hc
  repeat refine ab rfl ?_
  exact a1 (a6 rfl rfl (.of (by
   show al.i _ _=al.i .i64 (hL _ _);rw[hl,if_pos hc];exact cB)))
 ·have hc:=mt z4.2 hc
  repeat refine ab rfl ?_
  exact a1 (a6 rfl rfl (.of (by
   show al.i _ _=al.i .i64 (hL _ _);rw[hl,if_neg hc,ae])))
def RM:cn where
 L:=Int×Int
 args:=fun(e,p)=>[mY e p]
 pre:=fun(e,p)=>e6 e p
 res:=fun(e,p)=>dh (dv (mkRat 1 1) (2-eA e-p))
theorem ajo:ca aN.ctx 102 RM.spec:=by
 refine cz [(99,E7.spec),(98,yk.spec)] f102 ?_;intro⟨e,p⟩ aA H a4;obtain⟨J,U,ah,aC,a5⟩:=aA;obtain⟨dz,eH⟩:=og J U
 repeat refine ab rfl ?_
 refine cZ J3 (e,p) ⟨J,U,ah,aC,a5⟩ ?_
 repeat refine bd 5 rfl ?_
 refine aH 5 (.i .i64 (2-eA e)) rfl (cB rfl (by omega) (by omega)) ?_
 repeat refine bd 8 rfl ?_
 refine aH 8 (.i .i64 (2-eA e-p)) rfl (cB rfl (by omega) (by omega)) ?_;refine cZ Bt (2-eA e-p) ⟨by show _<=2-eA e-p;omega,by show 2-eA e-p<=_;omega⟩ ?_
 repeat refine ab rfl ?_
 exact a1 (a6 rfl rfl (.refl _))
def RT:cn where
 L:=Int×Int
 args:=fun(e,p)=>[mY e p]
 pre:=fun(e,p)=>e6 e p
 res:=fun(e,p)=>dh (dv (mkRat 1 1) (1-eA e))
theorem ajt:ca aN.ctx 202 RT.spec:=by
 refine cz [(99,E7.spec),(98,yk.spec)] f202 ?_;intro⟨e,p⟩ aA H a4;obtain⟨J,U,ah,aC,a5⟩:=aA;obtain⟨dz,eH⟩:=og J U
 repeat refine ab rfl ?_
 refine bm J3 (e,p) ⟨J,U,ah,aC,a5⟩ ?_
 repeat refine bd 5 rfl ?_
 refine aH 5 (.i .i64 (1-eA e)) rfl (cB rfl (by omega) (by omega)) ?_;refine bm Bt (1-eA e) ⟨by show _<=1-eA e;omega,by show 1-eA e<=_;omega⟩ ?_
 repeat refine ab rfl ?_
 exact a1 (a6 rfl rfl (.refl _))
theorem x0{k:Nat}{n:Int}{d:Nat}(J:ed k n.natAbs)(U:ed k d)(ax:d≠0):eG k (mkRat n d):=by
 obtain⟨aG,e2⟩:=A0 n d ax;refine⟨mL J ?_,mL U ?_⟩
 ·rw[aG,Int.natAbs_ediv_of_dvd (Int.ofNat_dvd_left.2 (Nat.gcd_dvd_left _ _))];exact Nat.div_le_self _ _
 ·rw[e2];exact Nat.div_le_self _ _
theorem EB{a:Nat}(c:Nat){x:Rat}{k:Int}(h:eG a x)(J: -(c:Int)<=k)(U:k<=c):eG (a+c+1) (dv x k):=by
 unfold dv;split
 ·exact x0 (dg h.1 (by omega)) (dg (nZ h.2 (pN _)) (by omega)) (Nat.mul_ne_zero x.den_nz (by have:=Nat.two_pow_pos (-k).toNat;omega))
 ·refine x0 ?_ (dg h.2 (by omega)) x.den_nz;rw[Int.natAbs_mul,Int.natAbs_pow];exact dg (nZ h.1 (pN _)) (by omega)
theorem aio{a b:Nat}{x y:Rat}(J:eG a x)(U:eG b y):eG (a+b+1) (x+y):=by
 rw[Rat.add_def'];have iv:=nZ J.1 U.2;have bC:=nZ U.1 J.2;refine x0 (mL (GH iv (dg bC (by omega))) ?_) (dg (nZ J.2 U.2) (by omega)) (Nat.mul_ne_zero x.den_nz y.den_nz);have:=Int.natAbs_add_le (x.num*y.den) (y.num*x.den);rw[Int.natAbs_mul,Int.natAbs_mul]at this;simpa using this
theorem QA{a b:Nat}{x y:Rat}(J:eG a x)(U:eG b y):eG (a+b+1) (x-y):=by
 rw[Rat.sub_eq_add_neg];exact aio J (Qz U)
theorem aip{e p:Int}(h:e6 e p):eG 2000 (kj e p):=by
 obtain⟨J,U,ah,aC,a5⟩:=h;obtain⟨dz,eH⟩:=og J U;exact k0 (EB 1200 (QA (EB 120 x1 (by omega) (by omega)) x1) (by omega) (by omega)) (by decide)
def RH:cn where
 L:=Int×Int
 args:=fun(e,p)=>[mY e p]
 pre:=fun(e,p)=>e6 e p
 res:=fun(e,p)=>dh (kj e p)
theorem ajm:ca aN.ctx 38 RH.spec:=by
 refine cz [(98,yk.spec),(39,E9.spec),(97,RZ.spec),(99,E7.spec),(41,Fh.spec)] f38 ?_;intro⟨e,p⟩ aA H a4;obtain⟨J,U,ah,aC,a5⟩:=aA;obtain⟨dz,eH⟩:=og J U;have lA:=EB (k:=p) 120 x1 (by omega) (by omega)
 repeat refine ab rfl ?_
 refine bm Bt p ⟨by omega,by omega⟩ ?_;refine bm J8 (1:Int) ⟨by decide,by decide⟩ ?_;refine bm ajy (dv (mkRat 1 1) p,mkRat 1 1) ⟨k0 lA (by decide),k0 x1 (by decide)⟩ ?_
 repeat refine ab rfl ?_
 refine cZ J3 (e,p) ⟨J,U,ah,aC,a5⟩ ?_
 repeat refine bd 14 rfl ?_
 refine aH 14 (.i .i64 (eA e-p)) rfl (cB rfl (by omega) (by omega)) ?_
 repeat refine bd 15 rfl ?_
 refine aH 15 (.i .i64 (eA e-p+1)) rfl (cB rfl (by omega) (by omega)) ?_;refine cZ Fi (dv (mkRat 1 1) p-mkRat 1 1,eA e-p+1) ⟨k0 (QA lA x1) (by decide),by show _<=eA e-p+1;omega,by show eA e-p+1<=_;omega⟩ ?_
 repeat refine ab rfl ?_
 exact a1 (a6 rfl rfl (.refl _))
def RF:cn where
 L:=Int×Int×Rat
 args:=fun(e,p,x)=>[mY e p,dh x]
 pre:=fun(e,p,x)=>e6 e p∧eG 67108864 x
 res:=fun(e,p,x)=>.b (decide (hS x<dv (mkRat 1 1) (1-eA e)))
theorem ajg:ca aN.ctx 101 RF.spec:=by
 refine cz [(201,J0.spec),(202,RT.spec),(37,Ff.spec)] f101 ?_;intro⟨e,p,x⟩ ⟨aA,(aa:eG _ x)⟩ H a4;have eC:=aA;obtain⟨J,U,ah,aC,a5⟩:=eC;obtain⟨dz,eH⟩:=og J U
 repeat refine ab rfl ?_
 refine cZ RE x trivial ?_
 repeat refine ab rfl ?_
 refine cZ ajt (e,p) aA ?_
 repeat refine ab rfl ?_
 refine cZ J9 (hS x,dv (mkRat 1 1) (1-eA e)) ⟨k0 (Qy aa) (by decide),k0 (A6 (c:=2000) (by omega) (by omega)) (by decide)⟩ ?_
 repeat refine ab rfl ?_
 exact a1 (a6 rfl rfl (.of (by show al.b (decide _)=al.b (decide _);congr 1;rw[decide_eq_decide];exact Nc)))
def pW(e p:Int)(x:Rat):Int:=if hS x<dv (mkRat 1 1) (1-eA e)then 2-eA e-p else hL x.num.natAbs x.den-p+1
def R2:cn where
 L:=Int×Int×Rat
 args:=fun(e,p,x)=>[mY e p,dh x]
 pre:=fun(e,p,x)=>e6 e p∧eG 3000000 x
 res:=fun(e,p,x)=>dh (dv (mkRat 1 1) (pW e p x))
theorem abs_zero{x:Rat}(h:x.num=0)(k:Int):hS x<dv (mkRat 1 1) k:=by
 rw[Jc,h];simp;exact Nat.mul_pos (Nat.pos_of_ne_zero x.den_nz) (Nat.two_pow_pos _)
theorem ajz:ca aN.ctx 40 R2.spec:=by
 refine cz [(101,RF.spec),(102,RM.spec),(103,RP.spec),(98,yk.spec)] f40 ?_;intro⟨e,p,x⟩ ⟨aA,(aa:eG _ x)⟩ H a4;have eC:=aA;obtain⟨J,U,ah,aC,a5⟩:=eC;obtain⟨dz,eH⟩:=og J U
 repeat refine ab rfl ?_
 refine bm ajg (e,p,x) ⟨aA,k0 aa (by decide)⟩ ?_
 repeat refine ab rfl ?_
 refine cu (fun h=> ?_) (fun h=> ?_)
 ·repeat refine ab rfl ?_
  refine bm ajo (e,p) aA ?_
  repeat refine ab rfl ?_
  exact a1 (a6 rfl rfl (.of (by show dh _=dh _;unfold pW;rw[if_pos h])))
 ·have h0:x.num≠0:=fun aL=>h (abs_zero aL _);have np:=PQ x.num.natAbs x.den;have zh:=qF aa.1;have Cv:=qF aa.2;obtain⟨k,ae⟩:∃k:Int,k=hL x.num.natAbs x.den:=⟨_,rfl⟩;rw[<-ae]at np
  repeat refine ab rfl ?_
  refine cZ ajp x ⟨aa,h0⟩ ?_
  repeat refine bd 14 rfl ?_
  refine aH 14 (.i .i64 (k-p)) rfl (by rw[ae];exact cB rfl (by omega) (by omega)) ?_
  repeat refine bd 15 rfl ?_
  refine aH 15 (.i .i64 (k-p+1)) rfl (cB rfl (by omega) (by omega)) ?_;refine cZ Bt (k-p+1) ⟨by show _<=k-p+1;omega,by show k-p+1<=_;omega⟩ ?_
  repeat refine ab rfl ?_
  exact a1 (a6 rfl rfl (.of (by show dh _=dh _;unfold pW;rw[if_neg h,ae];rfl)))
def yE(m e p:Int)(x:Rat):al:=
 if m<0∨4<m then .b5 [dh 0,.i .i64 2]
 else if¬e6 e p then .b5 [dh 0,.i .i64 2]
 else if x.num<0 then .b5 [dh 0,.i .i64 7]
 else if kj e p<x then .b5 [dh 0,.i .i64 173]
 else if x.num=0 then .b5 [dh 0,.i .i64 0]
 else if m=0∨m=1 then .b5 [dh (dv (dv (mkRat 1 1) (pW e p x)) (-1)),.i .i64 0]
 else .b5 [dh (dv (mkRat 1 1) (pW e p x)),.i .i64 0]
theorem yi{c:Int}:c5 (.b5 [.agg [.i .i64 0,.nl,.nl],.i .i64 c]) (.b5 [dh 0,.i .i64 c]):=.b5 ⟨RL,.refl _,trivial⟩
def mZ(p q:Nat)(k:Int):Prop:=q*2^k.toNat<=p*2^(-k).toNat
theorem ZA{p q:Nat}{k:Int}(h:mZ p q (k+1)):mZ p q k:=by
 unfold mZ at *;rcases(show 0<=k∨k<0 by omega)with h0|h0
 ·rw[show(k+1).toNat=k.toNat+1 by omega,show(-(k+1)).toNat=0 by omega,Nat.pow_succ]at h;rw[show(-k).toNat=0 by omega];exact Nat.le_trans (kA q (by omega)) h
 ·rw[show(k+1).toNat=0 by omega]at h;rw[show k.toNat=0 by omega,show(-k).toNat=(-(k+1)).toNat+1 by omega,Nat.pow_succ];exact Nat.le_trans h (kA p (by omega))
theorem Dg{p q:Nat}{j k:Int}(ln:j<=k)(h:mZ p q k):mZ p q j:=by
 obtain⟨n,rfl⟩:∃n:Nat,k=j+n:=⟨(k-j).toNat,by omega⟩
 induction n with
 |zero=>simpa using h
 |succ n bb=>exact bb (by omega) (ZA (by rw[show j+(n:Int)+1=j+((n+1:Nat):Int) by omega];exact h))
theorem ahN{p q:Nat}(hp:p≠0)(hq:q≠0)(k:Int):k<=hL p q↔mZ p q k:=by
 obtain⟨h4,gK⟩:=nq hp;obtain⟨dW,dM⟩:=nq hq;have gZ:=sC (n:=p) (by omega);have hG:=sC (n:=q) (by omega);have e:hL p q=if p*2^((bA q:Int)-bA p).toNat<q*2^((bA p:Int)-bA q).toNat then(bA p:Int)-bA q-1 else(bA p:Int)-bA q:=rfl;obtain⟨a,a2⟩:∃a,bA p=a+1:=⟨_,gZ⟩;obtain⟨b,hb⟩:∃b,bA q=b+1:=⟨_,hG⟩;rw[a2,show a+1-1=a by omega]at h4;rw[hb,show b+1-1=b by omega]at dW;rw[a2]at gK e;rw[hb]at dM e;have bD:mZ p q ((a:Int)-b-1):=by
  unfold mZ;rcases(show(b:Int)+1<=a∨(a:Int)<b+1 by omega)with h|h
  ·rw[show(-((a:Int)-b-1)).toNat=0 by omega,Nat.pow_zero,Nat.mul_one];refine Nat.le_trans (g5 _ (Nat.le_of_lt dM)) ?_;rw[<-Nat.pow_add,show b+1+((a:Int)-b-1).toNat=a by omega];exact h4
  ·rw[show((a:Int)-b-1).toNat=0 by omega,Nat.pow_zero,Nat.mul_one];refine Nat.le_trans (Nat.le_of_lt dM) (Nat.le_trans ?_ (g5 _ h4));rw[<-Nat.pow_add,show a+(-((a:Int)-b-1)).toNat=b+1 by omega];exact cd _
 have ag:¬mZ p q ((a:Int)-b+1):=by
  unfold mZ;rw[Nat.not_le];rcases(show(b:Int)<=a+1∨(a:Int)+1<b by omega)with h|h
  ·rw[show(-((a:Int)-b+1)).toNat=0 by omega,Nat.pow_zero,Nat.mul_one];refine gf gK (Nat.le_trans ?_ (g5 _ dW));rw[<-Nat.pow_add,show b+((a:Int)-b+1).toNat=a+1 by omega];exact cd _
  ·rw[show((a:Int)-b+1).toNat=0 by omega,Nat.pow_zero,Nat.mul_one];refine gf (Nat.mul_lt_mul_of_pos_right gK (Nat.two_pow_pos _)) (Nat.le_trans ?_ dW);rw[<-Nat.pow_add,show a+1+(-((a:Int)-b+1)).toNat=b by omega];exact cd _
 have e2:(p*2^(((b+1:Nat):Int)-((a+1:Nat):Int)).toNat<q*2^(((a+1:Nat):Int)-((b+1:Nat):Int)).toNat)↔¬mZ p q ((a:Int)-b):=by
  unfold mZ;rw[Nat.not_le,show((b+1:Nat):Int)-((a+1:Nat):Int)= -((a:Int)-b) by omega,show((a+1:Nat):Int)-((b+1:Nat):Int)=(a:Int)-b by omega]
 by_cases hm:mZ p q ((a:Int)-b)
 ·rw[if_neg (fun h=>e2.1 h hm)]at e;rw[e];exact⟨fun h=>Dg (by omega) hm,fun h=>Int.not_lt.1 fun aL=>ag (Dg (by omega) h)⟩
 ·rw[if_pos (e2.2 hm)]at e;rw[e];exact⟨fun h=>Dg (by omega) bD,fun h=>Int.not_lt.1 fun aL=>hm (Dg (by omega) h)⟩
theorem Te{e p:Int}{x:Rat}(h0:x.num≠0):ku e p x=pW e p x:=by
 have aa:x.num.natAbs≠0:=by omega
 have J:=ahN aa x.den_nz (1-eA e);have U:= @Jc x (1-eA e);unfold ku pW;rw[if_neg h0];unfold mZ at J;by_cases hc:hS x<dv (mkRat 1 1) (1-eA e)
 ·rw[if_pos hc];have ah:=U.1 hc;have aC:¬1-eA e<=hL x.num.natAbs x.den:=fun h=>by have:=J.1 h;omega
  omega
 ·rw[if_neg hc];have ah:=mt U.2 hc;have aC:=J.2 (by omega);omega
def Ka:cn where
 L:=Int×Int×Int×Rat
 args:=fun(m,e,p,x)=>[.i .i64 m,mY e p,dh x]
 pre:=fun(m,e,p,x)=>eG 3000000 x
 res:=fun(m,e,p,x)=>yE m e p x
theorem ajw:ca aN.ctx 8 Ka.spec:=by
 refine cz [(35,J4.spec),(36,R0.spec),(38,RH.spec),(37,Ff.spec),(39,E9.spec),(40,R2.spec),(41,Fh.spec)] f8 ?_;intro⟨m,e,p,x⟩ (aa:eG _ x) H a4;have aG:∀{r dt},yE m e p x=r->c5 dt r->c5 dt (Ka.res (m,e,p,x)):=fun J U=>by show c5 _ (yE m e p x);rw[J];exact U
 repeat refine bd 12 rfl ?_
 by_cases J:m<0
 ·refine aH 12 (.b true) rfl (by show al.b (decide _)=_;rw[decide_eq_true J]) ?_
  repeat refine ab rfl ?_
  exact a1 (a6 rfl rfl (aG (if_pos (.inl J)) yi))
 refine aH 12 (.b false) rfl (by show al.b (decide _)=_;rw[decide_eq_false J]) ?_
 repeat refine bd 15 rfl ?_
 by_cases U:4<m
 ·refine aH 15 (.b true) rfl (by show al.b (decide _)=_;rw[decide_eq_true U]) ?_
  repeat refine ab rfl ?_
  exact a1 (a6 rfl rfl (aG (if_pos (.inr U)) yi))
 refine aH 15 (.b false) rfl (by show al.b (decide _)=_;rw[decide_eq_false U]) ?_;have kt:∀{r},(if¬e6 e p then .b5 [dh 0,.i .i64 2]
 else if x.num<0 then .b5 [dh 0,.i .i64 7]
 else if kj e p<x then .b5 [dh 0,.i .i64 173]
 else if x.num=0 then .b5 [dh 0,.i .i64 0]
 else if m=0∨m=1 then .b5 [dh (dv (dv (mkRat 1 1) (pW e p x)) (-1)),.i .i64 0]
 else .b5 [dh (dv (mkRat 1 1) (pW e p x)),.i .i64 0])=r->yE m e p x=r:=fun h=>(if_neg (fun h=>h.elim J U)).trans h
 repeat refine ab rfl ?_
 refine bm ajh (e,p) trivial ?_;by_cases h:e6 e p
 ·refine aH 18 (.i .i64 0) rfl (by show al.i .i64 (if _ then _ else _)=_;rw[if_pos h]) ?_;have lG:=fun{r} aL=> @kt r ((if_neg (fun nH=>nH h)).trans aL)
  repeat refine ab rfl ?_
  refine bm R1 x trivial ?_
  repeat refine ab rfl ?_
  have tN:x.num.sign<0↔x.num<0:=Int.sign_neg_iff;refine cu (fun ah=> ?_) (fun ah=> ?_)
  ·have ah:=tN.1 ah
   repeat refine ab rfl ?_
   exact a1 (a6 rfl rfl (aG (lG (if_pos ah)) yi))
  have ah:¬x.num<0:=fun h=>ah (tN.2 h);have mM:=fun{r} aL=> @lG r ((if_neg ah).trans aL)
  repeat refine ab rfl ?_
  refine cZ ajm (e,p) h ?_
  repeat refine ab rfl ?_
  refine cZ J9 (x,kj e p) ⟨k0 aa (by decide),k0 (aip h) (by decide)⟩ ?_
  repeat refine ab rfl ?_
  refine cu (fun aC=> ?_) (fun aC=> ?_)
  ·have aC:=wK.1 aC
   repeat refine ab rfl ?_
   exact a1 (a6 rfl rfl (aG (mM (if_pos aC)) yi))
  have aC:¬kj e p<x:=fun h=>aC (wK.2 h);have qL:=fun{r} aL=> @mM r ((if_neg aC).trans aL)
  repeat refine ab rfl ?_
  refine bm R1 x trivial ?_
  repeat refine ab rfl ?_
  refine cu (fun a5=> ?_) (fun a5=> ?_)
  ·have a5:x.num=0:=Int.sign_eq_zero_iff_zero.1 a5
   repeat refine ab rfl ?_
   refine bm J8 (0:Int) ⟨by decide,by decide⟩ ?_
   repeat refine ab rfl ?_
   exact a1 (a6 rfl rfl (aG (qL (if_pos a5)) (.of (by show al.b5 [dh (mkRat 0 1),_]=al.b5 [dh 0,_];rw[Rat.zero_mkRat]))))
  have a5:x.num≠0:=fun e=>a5 (by rw[e];rfl);have o0:=fun{r} aL=> @qL r ((if_neg a5).trans aL);have a2:hS x=x:=if_neg ah;have hb:=Ga h (x:=x) (by rw[a2];exact aC);rw[Te a5]at hb
  repeat refine ab rfl ?_
  refine bm ajz (e,p,x) ⟨h,aa⟩ ?_;generalize ae:pW e p x=k at *;refine aH 39 (dh (dv (mkRat 1 1) k)) rfl (by rw[<-ae];rfl) ?_
  repeat refine bd 42 rfl ?_
  by_cases ch:m=0
  ·refine aH 42 (.b true) rfl (by show al.b (decide _)=_;rw[decide_eq_true ch]) ?_
   repeat refine ab rfl ?_
   refine bm Fi (dv (mkRat 1 1) k,-1) ⟨k0 (A6 (c:=20000) (by omega) (by omega)) (by decide),by decide,by decide⟩ ?_
   repeat refine ab rfl ?_
   exact a1 (a6 rfl rfl (aG (o0 (if_pos (.inl ch))) (.refl _)))
  refine aH 42 (.b false) rfl (by show al.b (decide _)=_;rw[decide_eq_false ch]) ?_
  repeat refine bd 45 rfl ?_
  by_cases cV:m=1
  ·refine aH 45 (.b true) rfl (by show al.b (decide _)=_;rw[decide_eq_true cV]) ?_
   repeat refine ab rfl ?_
   refine bm Fi (dv (mkRat 1 1) k,-1) ⟨k0 (A6 (c:=20000) (by omega) (by omega)) (by decide),by decide,by decide⟩ ?_
   repeat refine ab rfl ?_
   exact a1 (a6 rfl rfl (aG (o0 (if_pos (.inr cV))) (.refl _)))
  refine aH 45 (.b false) rfl (by show al.b (decide _)=_;rw[decide_eq_false cV]) ?_
  repeat refine ab rfl ?_
  exact a1 (a6 rfl rfl (aG (o0 (if_neg (fun h=>h.elim ch cV))) (.refl _)))
 ·refine aH 18 (.i .i64 2) rfl (by show al.i .i64 (if _ then _ else _)=_;rw[if_neg h]) ?_
  repeat refine ab rfl ?_
  exact a1 (a6 rfl rfl (aG (kt (if_pos h)) yi))
def Qq:cn where
 L:=Nat
 args:=fun n=>[.i .i64 n]
 pre:=fun n=>n<1000000000
 res:=fun n=>.s (gl (hE 9 n).reverse)
theorem ai6(n i:Nat):n/10^i<=n:=Nat.div_le_self _ _
theorem aie:ca aN.ctx 192 Qq.spec:=by
 refine cz [] f192 ?_;intro(n:Nat) (hn:n<1000000000) H a4
 repeat refine ab rfl ?_
 refine e3 (L:=Nat) (fun i=>i<=9) (fun(i:Nat)=>⟨[],0,[(0,.i .i64 (n/10^i:Nat)),(3,.s (gl (hE i n).reverse)),(4,.i .i64 i)]⟩) (fun i=>9-i) [] 0 (Nat.zero_le _) (by show 9-0<cp+1;unfold cp;omega) (dF ⟨by simp;rfl,rfl,rfl,trivial⟩) ?_;intro(i:Nat) ag;have hm:=ai6 n i;have ak:n/10^(i+1)=n/10^i/10:=by rw[Nat.pow_succ,Nat.div_div_eq_div_mul]
 have hl:gl (hE (i+1) n).reverse=gl [n/10^i%10]++gl (hE i n).reverse:=by rw[PW,List.reverse_append,Ct];rfl
 have hlen:(gl (hE i n).reverse).length=i:=by rw[q2,List.length_reverse,vr]
 generalize kM:n/10^i=m at *
 repeat refine ab rfl ?_
 refine cu (fun h=> ?_) (fun h=> ?_)
 ·have h:i<9:=by omega
  repeat refine bd 10 rfl ?_
  refine aH 10 (.i .i64 ((m%10:Nat):Int)) rfl rfl ?_
  repeat refine bd 11 rfl ?_
  refine aH 11 (.i .i64 ((48+m%10:Nat):Int)) rfl cB ?_
  repeat refine bd 12 rfl ?_
  refine aH 12 (.i .u8 ((UInt8.ofNat (48+m%10)).toNat:Int)) rfl (by rw[UInt8.toNat_ofNat']) ?_
  repeat refine ab rfl ?_
  refine tH 0 jP [UInt8.ofNat (48+m%10)] ?_;refine Kw (gl [m%10]) ?_
  repeat refine ab rfl ?_
  refine qM ?_ (hl:=by rw[hlen];show 1+i<=_;omega);refine aH 16 (.s (gl (hE (i+1) n).reverse)) rfl (by rw[hl]) ?_
  repeat refine ab rfl ?_
  exact b0 [] (i+1) ⟨by show 9-(i+1)<9-i;omega,h⟩ (dF ⟨by rw[ak];show some (al.i _ (IntKind.i64.wrap ((m/10:Nat):Int)))=_;exact eS rfl (by omega) (by omega),rfl,eS,trivial⟩)
 ·have he:i=9:=by omega
  subst he
  repeat refine ab rfl ?_
  exact a1 (a6 rfl rfl (.refl _))
def R3:cn where
 L:=Nat
 args:=fun n=>[c3 n]
 pre:=fun n=>ed 1073741824 n
 res:=fun n=>.s (dU n)
theorem Nw{d:Nat}(h:d<10):dec d=[d]:=by
 unfold dec;split
 ·rename_i h0;rw[h0]
 ·rw[mo (by decide) (by assumption),fY h,Nat.div_eq_of_lt h,fV];rfl
theorem amk{c6:List Nat}{d:Nat}(h:d≠0):eN (c6++[d])=c6++[d]:=by rw[pY,if_neg h]
theorem HD:∀l:List Nat,(l.flatMap (hE 9)).length=9*l.length
 |[]=>rfl
 |x::l=>by rw[List.flatMap_cons,List.length_append,HD l,vr,List.length_cons];omega
theorem R4:ca aN.ctx 83 R3.spec:=by
 refine cz [(192,Qq.spec)] f83 ?_;intro(n:Nat) (hn:(aU _ n).length<=_) H a4;have J:=gp (b:=1000000000) (by decide) n;have amB:=fU (b:=1000000000) (by decide) n;show bl.ok _ ⟨_,_,⟨_,_,[(0,de (aU 1000000000 n))]⟩⟩;generalize aU 1000000000 n=xs at *
 repeat refine ab rfl ?_
 refine o1 (L:=Unit) (fun _=>True) (fun _=>⟨[],0,[(3,.s (gl (xs.flatMap (hE 9)).reverse))]⟩) ?_ ?_
 ·refine e3 (L:=Nat) (fun k=>k<=xs.length) (fun(k:Nat)=>⟨[],0,[(0,de xs),(3,.s (gl ((xs.drop k).flatMap (hE 9)).reverse)),(4,.i .i64 ((k:Int)-1))]⟩) id [] xs.length (cd _) (by show xs.length<cp+1;unfold cp;omega) (dF ⟨rfl,by rw[List.drop_length];rfl,eS,trivial⟩) ?_;intro(k:Nat) ae;cases k with
  |zero=>
   repeat refine ab rfl ?_
   exact b0 [] () trivial (dF ⟨rfl,trivial⟩)
  |succ m=>
   have aa:m<xs.length:=by omega
   have kp:=J _ (ew aa);have pv:=HD (xs.drop (m+1));refine aH 4 (.i .i64 (m:Nat)) rfl ff ?_
   repeat refine ab rfl ?_
   refine aH 9 (.b true) rfl (by simp) ?_
   repeat refine ab rfl ?_
   refine gY xs[m] (cA aa) ?_
   repeat refine ab rfl ?_
   refine bm aie xs[m] kp ?_;refine qM ?_ (hl:=by rw[q2,q2,List.length_reverse,List.length_reverse,pv,vr,List.length_drop];omega);refine aH 18 (.s (gl ((xs.drop m).flatMap (hE 9)).reverse)) rfl (by rw[iG aa,List.flatMap_cons,List.reverse_append,Ct]) ?_
   repeat refine ab rfl ?_
   exact b0 [] m ⟨by simp,by omega⟩ (dF ⟨rfl,rfl,eS,trivial⟩)
 intro _ _;have bM:=zP xs;have pC:=NZ J;have hlen:=HD xs;rw[amB]at pC;generalize xs.flatMap (hE 9)=Hv at *
 repeat refine ab rfl ?_
 refine e3 (L:=List Nat) (fun es=>cY 10 es∧val 10 es=n∧es.length<=Hv.length) (fun es=>⟨[],0,[(3,.s (gl es.reverse))]⟩) List.length [] Hv ⟨bM,pC,cd _⟩ (by show Hv.length<cp+1;unfold cp;omega) (dF ⟨rfl,trivial⟩) ?_;rintro es ⟨aW,a0,bx⟩;rcases List.eq_nil_or_concat es with rfl|⟨c6,d,rfl⟩
 ·have kn:n=0:=by rw[<-a0];rfl
  repeat refine ab rfl ?_
  refine a1 (a6 rfl rfl (.of ?_));show al.s [48]=al.s (dU n);rw[kn];rfl
 rw[List.concat_eq_append]at *;have ax:d<10:=aW d (by simp);have ak:gl (c6++[d]).reverse=UInt8.ofNat (48+d)::gl c6.reverse:=by rw[List.reverse_append];rfl
 rw[k8]at a0;simp only[val,Nat.mul_zero,Nat.add_zero]at a0;refine aH 3 (.s (UInt8.ofNat (48+d)::gl c6.reverse)) rfl (by rw[ak]) ?_
 repeat refine bd 22 rfl ?_
 have hl:(gl c6.reverse).length=c6.length:=by rw[q2,List.length_reverse]
 by_cases ag:c6=[]
 ·subst ag;refine aH 22 (.b false) rfl (by simp[gl]) ?_
  repeat refine ab rfl ?_
  refine a1 (a6 rfl rfl (.of ?_));show al.s (gl [d])=al.s (dU n);have:n=d:=by simp[val]at a0;exact a0.symm
  rw[this];congr 1;unfold dU;rw[Nw ax]
 have anI:0<c6.length:=List.length_pos_iff.2 ag;refine aH 22 (.b true) rfl (by rw[List.length_cons,hl];simp;omega) ?_
 repeat refine ab rfl ?_
 refine lI (UInt8.ofNat (48+d)) (j:=0) rfl ?_
 repeat refine bd 25 rfl ?_
 have iw:=CX ax;by_cases uP:d=0
 ·refine aH 25 (.b true) rfl (by rw[iw,uP];rfl) ?_
  repeat refine ab rfl ?_
  refine pS (p:=1) (gl c6.reverse) ?_ (hp:=by simp) (hq:=by simp)
  repeat refine ab rfl ?_
  exact b0 [] c6 ⟨by simp,fun x aa=>aW x (by simp[aa]),by rw[uP]at a0;simpa using a0,by simp at bx;omega⟩ (dF ⟨rfl,trivial⟩)
 ·refine aH 25 (.b false) rfl (by rw[iw];exact congrArg al.b (decide_eq_false (by omega))) ?_
  repeat refine ab rfl ?_
  refine a1 (a6 rfl rfl (.of ?_));show al.s (UInt8.ofNat (48+d)::gl c6.reverse)=al.s (dU n);rw[<-ak];have e:=wV (b:=10) (by decide) aW (amk uP);rw[k8]at e;simp only[val,Nat.mul_zero,Nat.add_zero]at e;rw[a0]at e;have kn:n≠0:=fun h=>by rw[h,fV]at e;simp at e
  unfold dU dec;rw[if_neg kn,e]
theorem MA{k n:Nat}(h:ed k n):(dU n).length<=9*k+1:=by
 unfold dU dec;rw[q2];split
 ·simp
 ·rw[List.length_reverse];refine Nat.le_succ_of_le (iM (b:=10) (by decide) ?_);have:=qc h;rw[show(1000000000:Nat)=10^9 from rfl,<-Nat.pow_mul]at this;exact this
def JZ:cn where
 L:=Rat
 args:=fun x=>[dh x]
 pre:=fun x=>eG 67108864 x
 res:=fun x=>.s (iV x)
theorem RC:ca aN.ctx 28 JZ.spec:=by
 refine cz [(83,R3.spec),(84,RJ.spec)] f28 ?_;intro(x:Rat) (aa:eG _ x) H a4;have gi:=MA aa.1;have ie:=MA aa.2
 repeat refine ab rfl ?_
 refine bm R4 x.num.natAbs (dg aa.1 (by decide)) ?_
 repeat refine ab rfl ?_
 have tN:x.num.sign<0↔x.num<0:=Int.sign_neg_iff;obtain⟨u,hu⟩:∃u,u=(if x.num<0 then[45]else[])++dU x.num.natAbs:=⟨_,rfl⟩;have rI:u.length<=9*67108864+2:=by
  rw[hu,List.length_append];have:(if x.num<0 then([45]:List UInt8)else[]).length<=1:=by split<;>simp
  omega
 refine hk (L:=Unit) (fun _=>True) (fun _=>⟨[.c 35 (Bo x)],1,[(1,.p 0 0),(3,.s u)]⟩) ?_ ?_
 ·refine cu (fun h=> ?_) (fun h=> ?_)
  ·repeat refine ab rfl ?_
   refine qM ?_ (hl:=by show 1+(dU _).length<=_;omega)
   repeat refine ab rfl ?_
   exact b0 [0] () trivial (cT ⟨rfl,by rw[hu,if_pos (tN.1 h)];rfl,trivial⟩ ⟨_,rfl,rfl⟩)
  ·repeat refine ab rfl ?_
   exact b0 [0] () trivial (cT ⟨rfl,by rw[hu,if_neg (fun aL=>h (tN.2 aL))];rfl,trivial⟩ ⟨_,rfl,rfl⟩)
 intro _ _
 repeat refine ab rfl ?_
 refine bm ajn x aa ?_
 repeat refine ab rfl ?_
 refine yx (fun h=> ?_) (fun h=> ?_)
 ·have h0:x.num≠0:=fun e=>h (by have:=x.reduced;rw[e]at this;simpa[Nat.Coprime]using this)
  repeat refine ab rfl ?_
  refine qM ?_ (hl:=by show u.length+1<=_;omega)
  repeat refine bd 18 rfl ?_
  refine aH 18 (c3 x.den) rfl (by rw[if_neg h0];rfl) ?_;refine bm R4 x.den (dg aa.2 (by decide)) ?_;refine qM ?_ (hl:=by rw[List.length_append];show u.length+1+(dU _).length<=_;omega)
  repeat refine ab rfl ?_
  refine a1 (a6 rfl rfl (.of ?_));show al.s (u++[47]++dU x.den)=al.s (iV x);unfold iV;rw[<-hu,if_neg h,List.append_assoc];rfl
 ·repeat refine ab rfl ?_
  refine a1 (a6 rfl rfl (.of ?_));show al.s u=al.s (iV x);unfold iV;rw[<-hu,if_pos h,List.append_nil]
def Kb:cn where
 L:=List UInt8
 args:=fun s=>[.s s]
 pre:=fun s=>s.length<=1073741824
 res:=fun s=>.b (decide (g6 s))
theorem U6{s:List UInt8}{i:Nat}(h:i<s.length)(J:iq (s.take i))(U:48<=s[i].toNat∧s[i].toNat<=57):iq (s.take (i+1)):=by
 rw[List.take_succ_eq_append_getElem h];intro c hc;rcases List.mem_append.1 hc with hc|hc
 ·exact J c hc
 ·simp at hc;subst hc;exact U
theorem Kc:ca aN.ctx 77 Kb.spec:=by
 refine cz [] f77 ?_;intro(s:List UInt8) (ak:s.length<=_) H a4
 repeat refine ab rfl ?_
 refine o1 (L:=Unit) (fun _=>iq s) (fun _=>⟨[],0,[(0,.s s)]⟩) ?_ ?_
 ·refine e3 (L:=Nat) (fun i=>i<=s.length∧iq (s.take i)) (fun(i:Nat)=>⟨[],0,[(0,.s s),(3,.i .i64 i)]⟩) (fun i=>s.length-i) [] 0 ⟨Nat.zero_le _,fun c hc=>by simp at hc⟩ (by show s.length-0<cp+1;unfold cp;omega) (dF ⟨rfl,rfl,trivial⟩) ?_;rintro(i:Nat) ⟨ag,a2⟩
  repeat refine ab rfl ?_
  refine cu (fun h=> ?_) (fun h=> ?_)
  ·have h:i<s.length:=by omega
   have hm:s[i]∈s:=ew h
   repeat refine ab rfl ?_
   refine lI s[i] (cA h) ?_
   repeat refine bd 14 rfl ?_
   have bad:¬(48<=s[i].toNat∧s[i].toNat<=57)->c5 (.b false) (Kb.res s):=fun h=>.of (by show al.b false=al.b (decide _);rw[decide_eq_false (fun hb=>h (hb.2.1 _ hm))]);by_cases J:s[i].toNat<48
   ·refine aH 14 (.b true) rfl (by rw[decide_eq_true (by omega)]) ?_
    repeat refine ab rfl ?_
    exact a1 (a6 rfl rfl (bad (by omega)))
   refine aH 14 (.b false) rfl (by rw[decide_eq_false (by omega)]) ?_
   repeat refine ab rfl ?_
   refine lI s[i] (cA h) ?_
   repeat refine ab rfl ?_
   refine cu (fun U=> ?_) (fun U=> ?_)
   ·repeat refine ab rfl ?_
    exact a1 (a6 rfl rfl (bad (by omega)))
   ·repeat refine ab rfl ?_
    exact b0 [] (i+1) ⟨by show s.length-(i+1)<s.length-i;omega,h,U6 h a2 (by omega)⟩ (dF ⟨rfl,eS,trivial⟩)
  ·have he:i=s.length:=by omega
   subst he;rw[List.take_length]at a2
   repeat refine ab rfl ?_
   exact b0 [] () a2 (dF ⟨rfl,trivial⟩)
 intro _ dV;cases s with
 |nil=>
  repeat refine bd 23 rfl ?_
  refine aH 23 (.b false) rfl rfl ?_
  repeat refine ab rfl ?_
  exact a1 (a6 rfl rfl (.of (by show al.b false=al.b (decide _);rw[decide_eq_false (fun hb=>hb.1 rfl)])))
 |cons c t=>
  repeat refine bd 23 rfl ?_
  refine aH 23 (.b true) rfl (by simp) ?_
  repeat refine bd 26 rfl ?_
  by_cases hb:c::t=[48]
  ·refine aH 26 (.b true) rfl (by rw[hb];rfl) ?_
   repeat refine ab rfl ?_
   exact a1 (a6 rfl rfl (.of (by show al.b true=al.b (decide _);rw[decide_eq_true ⟨by simp,dV,.inl hb⟩])))
  refine aH 26 (.b false) rfl (by rw[beq_eq_false_iff_ne.2 hb]) ?_
  repeat refine ab rfl ?_
  refine lI c (j:=0) rfl ?_
  repeat refine ab rfl ?_
  refine a1 (a6 rfl rfl (.of ?_));show al.b (decide _)=al.b (decide _);congr 1;rw[decide_eq_decide];constructor
  ·intro h;refine⟨by simp,dV,.inr fun e=>h ?_⟩;have e:c=48:=by simpa using e
   rw[e];rfl
  ·rintro⟨_,_,h|h⟩ e
   ·exact hb h
   ·exact h (congrArg some (UInt8.toNat_inj.1 (show c.toNat=48 by omega)))
def BD(s:List UInt8):al:=
 match(cutAt (dX s).2).2 with
 |none=>.b5 [.s (dX s).2,.s [49],.i .i64 (if(dX s).1=true then -1 else 1),.b (decide (g6 (dX s).2∧¬((dX s).1=true∧(dX s).2=[48])))]
 |some q=>.b5 [.s (cutAt (dX s).2).1,.s q,.i .i64 (if(dX s).1=true then -1 else 1),.b (decide (g6 (cutAt (dX s).2).1∧g6 q∧q≠[48]∧q≠[49]∧¬((dX s).1=true∧(cutAt (dX s).2).1=[48])))]
theorem Nx{p:Prop}[Decidable p]{b:Bool}:decide p=b↔(p↔b=true):=by cases b<;>simp
def Fg:cn where
 L:=List UInt8
 args:=fun s=>[.s s]
 pre:=fun s=>s.length<=1073741824
 res:=fun s=>BD s
theorem XY{s:List UInt8}{i:Nat}(h:i<s.length)(J:(47:UInt8)∉s.take i)(U:s[i]=47):cutAt s=(s.take i,some (s.drop (i+1))):=by
 refine CN J ?_;rw[<-U,<-iG h,List.take_append_drop]
theorem ajx:ca aN.ctx 25 Fg.spec:=by
 refine cz [(77,Kb.spec)] f25 ?_;intro(s:List UInt8) (ak:s.length<=_) H a4;have DY:(dX s).2.length<=s.length:=by
  unfold dX;split
  ·exact Nat.zero_le _
  ·split<;>simp
 repeat refine bd 7 rfl ?_
 iterate 3 refine ab rfl ?_
 refine hk (L:=Unit) (fun _=>True) (fun _=>⟨[],0,[(6,.s (dX s).2),(7,.i .i64 (if(dX s).1=true then -1 else 1))]⟩) ?_ ?_
 ·cases s with
  |nil=>
   repeat refine ab rfl ?_
   exact b0 [] () trivial (dF ⟨rfl,rfl,trivial⟩)
  |cons c t=>
   repeat refine bd 15 rfl ?_
   refine aH 15 (.b true) rfl (by simp) ?_
   repeat refine ab rfl ?_
   refine lI c (j:=0) rfl ?_
   repeat refine ab rfl ?_
   by_cases hc:c=45
   ·subst hc;refine aH 19 (.b true) rfl rfl ?_
    repeat refine ab rfl ?_
    refine pS (p:=1) t ?_ (hp:=by simp) (hq:=by simp)
    repeat refine ab rfl ?_
    exact b0 [] () trivial (dF ⟨rfl,rfl,trivial⟩)
   ·have aZ:dX (c::t)=(false,c::t):=if_neg hc;refine aH 19 (.b false) rfl (congrArg al.b (decide_eq_false (fun e=>hc (UInt8.toNat_inj.1 (show c.toNat=45 by omega))))) ?_
    repeat refine ab rfl ?_
    exact b0 [] () trivial (dF ⟨by rw[aZ];rfl,by rw[aZ];rfl,trivial⟩)
 intro _ _;obtain⟨⟨n,t⟩,aZ⟩:∃g,g=dX s:=⟨_,rfl⟩;rw[<-aZ]at DY;have fin:∀{r},BD s=r->c5 r (Fg.res s):=fun h=>.of h.symm;unfold BD at fin;rw[<-aZ]at fin⊢;simp only at fin DY;obtain⟨bW,pB⟩:∃bW:Int,bW=if n=true then -1 else 1:=⟨_,rfl⟩;have s7:decide (bW>0)= !n:=by rw[pB];cases n<;>rfl
 refine aH 7 (.i .i64 bW) rfl (by rw[pB]) ?_;rw[<-pB]at fin
 repeat refine ab rfl ?_
 refine o1 (L:=Unit) (fun _=>(47:UInt8)∉t) (fun _=>⟨[],0,[(6,.s t),(7,.i .i64 bW)]⟩) ?_ ?_
 ·refine e3 (L:=Nat) (fun i=>i<=t.length∧(47:UInt8)∉t.take i) (fun(i:Nat)=>⟨[],0,[(6,.s t),(7,.i .i64 bW),(8,.i .i64 i)]⟩) (fun i=>t.length-i) [] 0 ⟨Nat.zero_le _,fun hm=>by simp at hm⟩ (by show t.length-0<cp+1;unfold cp;omega) (dF ⟨rfl,rfl,rfl,trivial⟩) ?_;rintro(i:Nat) ⟨ag,a2⟩
  repeat refine ab rfl ?_
  refine cu (fun h=> ?_) (fun h=> ?_)
  ·have h:i<t.length:=by omega
   repeat refine ab rfl ?_
   refine lI t[i] (cA h) ?_
   repeat refine ab rfl ?_
   refine cu (fun hc=> ?_) (fun hc=> ?_)
   ·have hc:t[i]=47:=UInt8.toNat_inj.1 (show t[i].toNat=47 by omega);have oA:=XY h a2 hc;rw[oA]at fin;simp only at fin;generalize iP:t.take i=P at *;generalize nJ:t.drop (i+1)=Q at *;have I2:P.length<=t.length:=by rw[<-iP];simp;omega
    have ahz:Q.length<=t.length:=by rw[<-nJ];simp
    repeat refine ab rfl ?_
    refine CQ P ?_ (hl:=by rw[<-iP];simp)
    repeat refine bd 37 rfl ?_
    refine eg 37 (.i .i64 ((i+1:Nat):Int)) rfl rfl cB ?_;refine CQ Q ?_ (hl:=by rw[<-nJ];exact List.take_of_length_le (by simp))
    repeat refine ab rfl ?_
    have bad:¬(g6 P∧g6 Q∧Q≠[48]∧Q≠[49]∧¬(n=true∧P=[48]))->c5 (.b5 [.s P,.s Q,.i .i64 bW,.b false]) (Fg.res s):=fun h=>fin (by rw[decide_eq_false h]);refine bm Kc P (by show P.length<=_;omega) ?_
    repeat refine bd 44 rfl ?_
    by_cases J:g6 P
    ·refine aH 44 (.b true) rfl (by show al.b (decide _)=_;rw[decide_eq_true J]) ?_
     repeat refine ab rfl ?_
     refine bm Kc Q (by show Q.length<=_;omega) ?_
     repeat refine bd 48 rfl ?_
     by_cases U:g6 Q
     ·refine aH 48 (.b true) rfl (by show al.b (decide _)=_;rw[decide_eq_true U]) ?_
      repeat refine bd 52 rfl ?_
      by_cases ah:Q=[48]
      ·refine aH 52 (.b false) rfl (by rw[ah];rfl) ?_
       repeat refine ab rfl ?_
       exact a1 (a6 rfl rfl (bad (fun h=>h.2.2.1 ah)))
      refine aH 52 (.b true) rfl (by rw[beq_eq_false_iff_ne.2 ah];rfl) ?_
      repeat refine bd 56 rfl ?_
      by_cases aC:Q=[49]
      ·refine aH 56 (.b false) rfl (by rw[aC];rfl) ?_
       repeat refine ab rfl ?_
       exact a1 (a6 rfl rfl (bad (fun h=>h.2.2.2.1 aC)))
      refine aH 56 (.b true) rfl (by rw[beq_eq_false_iff_ne.2 aC];rfl) ?_
      repeat refine bd 59 rfl ?_
      by_cases a5:P=[48]
      ·refine aH 59 (.b false) rfl (by rw[a5];rfl) ?_
       repeat refine ab rfl ?_
       refine a1 (a6 rfl rfl (fin ?_));rw[s7];refine congrArg (fun b=>al.b5 [.s P,.s Q,.i .i64 bW,.b b]) ?_;rw[Nx];simp[U,ah,aC,a5];exact fun _=>a5▸J
      ·refine aH 59 (.b true) rfl (by rw[beq_eq_false_iff_ne.2 a5];rfl) ?_
       repeat refine ab rfl ?_
       exact a1 (a6 rfl rfl (fin (by rw[decide_eq_true ⟨J,U,ah,aC,fun h=>a5 h.2⟩])))
     ·refine aH 48 (.b false) rfl (by show al.b (decide _)=_;rw[decide_eq_false U]) ?_
      repeat refine ab rfl ?_
      exact a1 (a6 rfl rfl (bad (fun h=>U h.2.1)))
    ·refine aH 44 (.b false) rfl (by show al.b (decide _)=_;rw[decide_eq_false J]) ?_
     repeat refine ab rfl ?_
     exact a1 (a6 rfl rfl (bad (fun h=>J h.1)))
   ·have hc:t[i]≠47:=fun e=>hc (by rw[e];rfl)
    repeat refine ab rfl ?_
    refine b0 [] (i+1) ⟨by show t.length-(i+1)<t.length-i;omega,h,?_⟩ (dF ⟨rfl,rfl,eS,trivial⟩);rw[List.take_succ_eq_append_getElem h];intro hm;rcases List.mem_append.1 hm with hm|hm
    ·exact a2 hm
    ·simp at hm;exact hc hm.symm
  ·have he:i=t.length:=by omega
   subst he;rw[List.take_length]at a2
   repeat refine ab rfl ?_
   exact b0 [] () a2 (dF ⟨rfl,rfl,trivial⟩)
 intro _ fW;rw[No fW]at fin;simp only at fin
 repeat refine ab rfl ?_
 refine bm Kc t (by show t.length<=_;omega) ?_
 repeat refine bd 68 rfl ?_
 by_cases hb:g6 t
 ·refine aH 68 (.b true) rfl (by show al.b (decide _)=_;rw[decide_eq_true hb]) ?_
  repeat refine bd 71 rfl ?_
  by_cases h0:t=[48]
  ·refine aH 71 (.b false) rfl (by rw[h0];rfl) ?_
   repeat refine ab rfl ?_
   refine a1 (a6 rfl rfl (fin ?_));rw[s7];refine congrArg (fun b=>al.b5 [.s t,.s [49],.i .i64 bW,.b b]) ?_;rw[Nx];simp[h0];exact fun _=>h0▸hb
  ·refine aH 71 (.b true) rfl (by rw[beq_eq_false_iff_ne.2 h0];rfl) ?_
   repeat refine ab rfl ?_
   refine a1 (a6 rfl rfl (fin ?_));rw[decide_eq_true ⟨hb,fun h=>h0 h.2⟩]
 ·refine aH 68 (.b false) rfl (by show al.b (decide _)=_;rw[decide_eq_false hb]) ?_
  repeat refine ab rfl ?_
  refine a1 (a6 rfl rfl (fin ?_));rw[decide_eq_false (fun h=>hb h.1)]
theorem KD(u v:List UInt8):b8 (u++v)=b8 v+10^v.length*b8 u:=by
 unfold b8 lT;rw[List.map_append,List.reverse_append,k8,List.length_reverse,List.length_map]
theorem KF(w:List UInt8)(c:UInt8):b8 (w++[c])=(c.toNat-48)+10*b8 w:=by
 rw[KD];simp[b8,lT,val]
theorem r8{s:List UInt8}(h:iq s):b8 s<10^s.length:=by
 have:=jz (b:=10) (ds:=(lT s).reverse) (fun d ax=>ND h d (List.mem_reverse.1 ax));rw[List.length_reverse]at this;unfold lT at this;rw[List.length_map]at this;exact this
def RX:cn where
 L:=List UInt8
 args:=fun s=>[.s s]
 pre:=fun s=>iq s∧s.length<=1073741824
 res:=fun s=>c3 (b8 s)
def aju(s:List UInt8)(i:Int):List Nat->di
 |[]=>⟨[],0,[(0,.s s),(3,.nl),(4,.i .i64 i)]⟩
 |d::ds=>⟨[.a 2 true 1 Nat fE (d::ds)],1,[(0,.s s),(3,.bH 0 1 0 (d::ds).length (d::ds).length),(4,.i .i64 i)]⟩
theorem aj0{s:List UInt8}{es:List Nat}{r bD:Nat}(h:b8 s=val 1000000000 es+1000000000^es.length*b8 (s.take r))(aF:r<=s.length)(hg:bD=r-9):
 b8 s=val 1000000000 (es++[b8 ((s.take r).drop bD)])+1000000000^(es++[b8 ((s.take r).drop bD)]).length*b8 (s.take bD):=by
 have e:s.take r=s.take bD++(s.take r).drop bD:=by
  conv=>lhs;rw[<-List.take_append_drop bD (s.take r)]
  rw[List.take_take,Nat.min_eq_left (by omega)]
 have e2:b8 (s.take r)=b8 ((s.take r).drop bD)+1000000000*b8 (s.take bD):=by
  conv=>lhs;rw[e,KD]
  congr 1;rcases(show bD=0∨r=bD+9 by omega)with h0|h0
  ·subst h0;simp[b8,lT,val]
  ·rw[List.length_drop,List.length_take,Nat.min_eq_left aF,h0,Nat.add_sub_cancel_left]
 rw[h,e2,k8,List.length_append,Nat.pow_add];simp only[val,List.length_cons,List.length_nil,Nat.mul_zero,Nat.add_zero,Nat.zero_add,Nat.pow_one];rw[Nat.mul_add,Nat.mul_assoc];omega
theorem RY:ca aN.ctx 27 RX.spec:=by
 refine cz [(82,tE.spec)] f27 ?_;intro(s:List UInt8) ⟨(dV:iq s),(ak:s.length<=_)⟩ H a4
 repeat refine ab rfl ?_
 refine e3 (L:=Int×List Nat) (fun(i,es)=>i<=s.length∧-9<=i∧es.length+i.toNat<=s.length∧cY 1000000000 es∧b8 s=val 1000000000 es+1000000000^es.length*b8 (s.take i.toNat)) (fun(i,es)=>aju s i es) (fun l=>l.1.toNat) [] ((s.length:Int),[]) ⟨Int.le_refl _,by show -9<=(s.length:Int);omega,by simp,fun x aa=>by simp at aa,by simp[val]⟩ (by show((s.length:Int)).toNat<cp+1;unfold cp;omega) (dF ⟨rfl,rfl,rfl,trivial⟩) ?_;rintro⟨i,es⟩ ⟨J,U,ah,aC,a5⟩;obtain⟨r,aF⟩:∃r,r=i.toNat:=⟨_,rfl⟩;rw[<-aF]at ah a5;obtain⟨bD,hg⟩:∃bD,bD=r-9:=⟨_,rfl⟩;have mE:=aj0 a5 (by omega) hg;have iw:iq ((s.take r).drop bD):=fun c hc=>dV c (List.mem_of_mem_take (List.mem_of_mem_drop hc));have bO:=r8 iw;have anM:b8 ((s.take r).drop bD)<1000000000:=gf bO (Nat.pow_le_pow_right (n:=10) (by decide) (show _<=9 by simp;omega));have kP:¬0<i->aU 1000000000 (b8 s)=eN es:=fun h=>by
  have:r=0:=by omega
  rw[this]at a5;rw[wb (b:=1000000000) (by decide) aC,a5];simp[b8,lT,val]
 have piece:∀k:Nat,bD<=k->k<=r->b8 ((s.take k).drop bD)<10^(k-bD):=fun k xr jH=>by
  have h:=r8 (s:=(s.take k).drop bD) (fun c hc=>dV c (List.mem_of_mem_take (List.mem_of_mem_drop hc)))
  rwa [List.length_drop,List.length_take,Nat.min_eq_left (by omega)]at h
 cases es with
 |nil=>
  repeat refine ab rfl ?_
  refine cu (fun ag=> ?_) (fun ag=> ?_)
  ·have my:i=(r:Int):=by omega
   subst my
   repeat refine bd 14 rfl ?_
   refine aH 14 (.i .i64 ((r:Int)-9)) rfl (cB rfl (by omega) (by omega)) ?_
   repeat refine bd 15 rfl ?_
   refine aH 15 (.i .i64 (bD:Nat)) rfl ff ?_
   repeat refine ab rfl ?_
   refine o1 (L:=Unit) (fun _=>True) (fun _=>⟨[],0,[(0,.s s),(3,.nl),(4,.i .i64 (r:Int)),(5,.i .i64 (b8 ((s.take r).drop bD):Nat))]⟩) ?_ ?_
   ·refine e3 (L:=Nat) (fun k=>bD<=k∧k<=r) (fun(k:Nat)=>⟨[],0,[(0,.s s),(3,.nl),(4,.i .i64 (r:Int)),(5,.i .i64 (b8 ((s.take k).drop bD):Nat)),(6,.i .i64 k)]⟩) (fun k=>r-k) [] bD ⟨cd _,by omega⟩ (by show r-bD<cp+1;unfold cp;omega) (dF ⟨rfl,rfl,rfl,by rw[List.drop_eq_nil_of_le (by simp;omega)];rfl,rfl,trivial⟩) ?_;rintro(k:Nat) ⟨bg,bK⟩
    repeat refine ab rfl ?_
    refine cu (fun ae=> ?_) (fun ae=> ?_)
    ·have ae:k<r:=by omega
     have uW:k<s.length:=by omega
     have hp:=piece k bg (by omega);have u2:(10:Nat)^(k-bD)<=10^9:=Nat.pow_le_pow_right (by decide) (by omega);have hc:=dV _ (ew uW);have s7:b8 ((s.take (k+1)).drop bD)=(s[k].toNat-48)+10*b8 ((s.take k).drop bD):=by
      rw[List.take_succ_eq_append_getElem uW,List.drop_append_of_le_length (by simp;omega),KF]
     generalize hn:b8 ((s.take k).drop bD)=n at *;have abg:n<1000000000:=by omega
     repeat refine ab rfl ?_
     refine lI s[k] (cA uW) ?_
     repeat refine bd 26 rfl ?_
     have zG:(s[k].toNat+(256*48-48))%256=s[k].toNat-48:=by omega
     refine aH 26 (.i .u8 ((s[k].toNat-48:Nat):Int)) rfl (congrArg (fun n:Nat=>al.i .u8 (n:Int)) zG) ?_
     repeat refine ab rfl ?_
     refine b0 [] (k+1) ⟨by show r-(k+1)<r-k;omega,by omega,ae⟩ (dF ⟨rfl,rfl,rfl,?_,eS,trivial⟩);rw[s7];exact congrArg (fun n=>some (al.i .i64 n)) (by rw[gD (n:=10*(n:Int)) (by omega) (by omega),gD (n:=((s[k].toNat-48:Nat):Int)) (by omega) (by omega),gD (by omega) (by omega)];omega)
    ·have he:k=r:=by omega
     subst he
     repeat refine ab rfl ?_
     exact b0 [] () trivial (dF ⟨rfl,rfl,rfl,rfl,trivial⟩)
   intro _ _;generalize hn:b8 ((s.take r).drop bD)=n at *
   repeat refine ab rfl ?_
   refine Kv fE [n] (bk (R:=fE) [n] rfl) ?_
   repeat refine ab rfl ?_
   exact b0 [1] ((r:Int)-9,[n]) ⟨by show((r:Int)-9).toNat<((r:Int)).toNat;omega,by omega,by omega,by simp;omega,fun x aa=>by simp at aa;omega,by rw[show((r:Int)-9).toNat=bD by omega];exact mE⟩ (yK ⟨rfl,rfl,eS,trivial⟩ ⟨_,rfl,rfl,fun _=>rfl⟩)
  ·repeat refine ab rfl ?_
   refine Kz 33 (de []) rfl c5.nl ?_;refine bm tF [] (by show 0<=_;decide) ?_
   repeat refine ab rfl ?_
   exact a1 (a6 rfl rfl (.of (by show de (eN [])=de _;rw[<-kP ag])))
 |cons d ds=>
  repeat refine ab rfl ?_
  refine cu (fun ag=> ?_) (fun ag=> ?_)
  ·have my:i=(r:Int):=by omega
   subst my
   repeat refine bd 14 rfl ?_
   refine aH 14 (.i .i64 ((r:Int)-9)) rfl (cB rfl (by omega) (by omega)) ?_
   repeat refine bd 15 rfl ?_
   refine aH 15 (.i .i64 (bD:Nat)) rfl ff ?_
   repeat refine ab rfl ?_
   refine o1 (L:=Unit) (fun _=>True) (fun _=>⟨[.a 2 true 1 Nat fE (d::ds)],1,[(0,.s s),(3,.bH 0 1 0 (d::ds).length (d::ds).length),(4,.i .i64 (r:Int)),(5,.i .i64 (b8 ((s.take r).drop bD):Nat))]⟩) ?_ ?_
   ·refine e3 (L:=Nat) (fun k=>bD<=k∧k<=r) (fun(k:Nat)=>⟨[.a 2 true 1 Nat fE (d::ds)],1,[(0,.s s),(3,.bH 0 1 0 (d::ds).length (d::ds).length),(4,.i .i64 (r:Int)),(5,.i .i64 (b8 ((s.take k).drop bD):Nat)),(6,.i .i64 k)]⟩) (fun k=>r-k) [0] bD ⟨cd _,by omega⟩ (by show r-bD<cp+1;unfold cp;omega) (cT ⟨rfl,rfl,rfl,by rw[List.drop_eq_nil_of_le (by simp;omega)];rfl,rfl,trivial⟩ ⟨_,rfl,rfl,fun _=>rfl⟩) ?_;rintro(k:Nat) ⟨bg,bK⟩
    repeat refine ab rfl ?_
    refine cu (fun ae=> ?_) (fun ae=> ?_)
    ·have ae:k<r:=by omega
     have uW:k<s.length:=by omega
     have hp:=piece k bg (by omega);have u2:(10:Nat)^(k-bD)<=10^9:=Nat.pow_le_pow_right (by decide) (by omega);have hc:=dV _ (ew uW);have s7:b8 ((s.take (k+1)).drop bD)=(s[k].toNat-48)+10*b8 ((s.take k).drop bD):=by
      rw[List.take_succ_eq_append_getElem uW,List.drop_append_of_le_length (by simp;omega),KF]
     generalize hn:b8 ((s.take k).drop bD)=n at *;have abg:n<1000000000:=by omega
     repeat refine ab rfl ?_
     refine lI s[k] (cA uW) ?_
     repeat refine bd 26 rfl ?_
     have zG:(s[k].toNat+(256*48-48))%256=s[k].toNat-48:=by omega
     refine aH 26 (.i .u8 ((s[k].toNat-48:Nat):Int)) rfl (congrArg (fun n:Nat=>al.i .u8 (n:Int)) zG) ?_
     repeat refine ab rfl ?_
     refine b0 [0] (k+1) ⟨by show r-(k+1)<r-k;omega,by omega,ae⟩ (cT ⟨rfl,rfl,rfl,?_,eS,trivial⟩ ⟨_,rfl,rfl,fun _=>rfl⟩);rw[s7];exact congrArg (fun n=>some (al.i .i64 n)) (by rw[gD (n:=10*(n:Int)) (by omega) (by omega),gD (n:=((s[k].toNat-48:Nat):Int)) (by omega) (by omega),gD (by omega) (by omega)];omega)
    ·have he:k=r:=by omega
     subst he
     repeat refine ab rfl ?_
     exact b0 [0] () trivial (cT ⟨rfl,rfl,rfl,rfl,trivial⟩ ⟨_,rfl,rfl,fun _=>rfl⟩)
   intro _ _;generalize hn:b8 ((s.take r).drop bD)=n at *
   repeat refine ab rfl ?_
   have iQ:ds.length<=1073741824:=by simp at ah;omega
   refine Ku (R:=fE) [n] (bk (R:=fE) [n] rfl) ?_
   repeat refine ab rfl ?_
   refine b0 [2] ((r:Int)-9,d::(ds++[n])) ⟨by show((r:Int)-9).toNat<((r:Int)).toNat;omega,by omega,by omega,by simp at ah ⊢;omega,?_,by rw[show((r:Int)-9).toNat=bD by omega];exact mE⟩ (yK ⟨rfl,congrArg (fun k=>some (al.bH 2 1 0 k k)) (by simp),eS,trivial⟩ ⟨_,rfl,rfl,fun _=>rfl⟩);intro x aa;rcases List.mem_append.1 (show x∈(d::ds)++[n]from aa)with h|h
   ·exact aC x h
   ·simp at h;omega
  ·repeat refine ab rfl ?_
   refine l7 33 ?_;refine bm tF (d::ds) (by show(d::ds).length<=_;omega) ?_
   repeat refine ab rfl ?_
   exact a1 (a6 rfl rfl (.of (by show de (eN (d::ds))=de _;rw[<-kP ag])))
theorem SH(s:List UInt8):s=(if(dX s).1=true then[45]else[])++(dX s).2:=by
 unfold dX;split
 ·rfl
 ·split
  ·rename_i c t h;rw[h];rfl
  ·rfl
theorem E6{s:List UInt8}{k:Nat}(h:iq s)(hl:s.length<=9*k):ed k (b8 s):=iM (by decide) (by
 refine gf (r8 h) (Nat.le_trans (Nat.pow_le_pow_right (by decide) hl) ?_);rw[Nat.pow_mul];exact cd _)
def Bm(s:List UInt8):al:=match l5 s with
 |some x=>.b5 [dh x,.i .i64 0]
 |none=>.b5 [dh 0,.i .i64 6]
def Fb:cn where
 L:=List UInt8
 args:=fun s=>[.s s]
 pre:=fun s=>s.length<=400
 res:=fun s=>Bm s
theorem akD(n:Bool)(p:Nat):(if n=true then(-1:Int)else 1)*(p:Int)=hN n p:=by cases n<;>simp[hN]
theorem aki{s:List UInt8}(ak:s.length<=400):∃P Q b,BD s= .b5 [.s P,.s Q,.i .i64 (if(dX s).1=true then -1 else 1),.b b]∧(b=false->l5 s=none)∧
 (b=true->g6 P∧g6 Q∧P.length<=400∧Q.length<=400∧b8 Q≠0∧(iV (mkRat (hN (dX s).1 (b8 P)) (b8 Q))=s->l5 s=some (mkRat (hN (dX s).1 (b8 P)) (b8 Q)))∧(iV (mkRat (hN (dX s).1 (b8 P)) (b8 Q))≠s->l5 s=none)):=by
 have qm:=SH s;unfold l5 BD;obtain⟨⟨n,t⟩,aZ⟩:∃g,g=dX s:=⟨_,rfl⟩;rw[<-aZ]at qm⊢;simp only at qm⊢;have vd:t.length<=400:=by have:=congrArg List.length qm;rw[List.length_append]at this;omega
 obtain⟨fj,gm,ld⟩:=Nn t;obtain⟨⟨P,Q⟩,hq⟩:∃g,g=cutAt t:=⟨_,rfl⟩;rw[<-hq]at fj gm ld⊢;simp only at fj gm ld⊢;cases Q with
 |none=>
  have HO:=ld rfl;subst HO;refine⟨t,[49],_,rfl,fun h=>if_neg (of_decide_eq_false h),fun h=> ?_⟩;have bC:=of_decide_eq_true h;have e:=ams bC.1 bC.2;exact⟨bC.1,by decide,vd,by show 1<=400;decide,by decide,fun _=>by rw[if_pos bC];rfl,fun h=>absurd (e.trans qm.symm) h⟩
 |some q=>
  have aX:=gm q rfl;have I2:P.length+q.length<=400:=by have:=congrArg List.length aX;rw[List.length_append,List.length_cons]at this;omega
  refine⟨P,q,_,rfl,fun h=> ?_,fun h=> ?_⟩
  ·have bC:=of_decide_eq_false h;by_cases J:g6 P∧¬(n=true∧P=[48])
   ·rw[if_pos J];exact if_neg (fun h=>bC ⟨J.1,h.1,h.2.1,h.2.2.1,J.2⟩)
   ·rw[if_neg J]
  ·obtain⟨dz,eH,np,zh,Cv⟩:=of_decide_eq_true h;have e:=amr dz eH Cv np zh;rw[List.append_assoc,<-aX,<-qm]at e;refine⟨dz,eH,by omega,by omega,fun h=>np (wI eH h),fun h=> ?_,fun h=> ?_⟩
   ·rw[if_pos ⟨dz,Cv⟩];exact if_pos ⟨eH,np,zh,e.1 h⟩
   ·rw[if_pos ⟨dz,Cv⟩];exact if_neg (fun hh=>h (e.2 hh.2.2.2))
theorem RV:ca aN.ctx 6 Fb.spec:=by
 refine cz [(25,Fg.spec),(27,RX.spec),(26,vO.spec),(28,JZ.spec)] f6 ?_;intro(s:List UInt8) (ak:s.length<=400) H a4;have hp:∀{r},l5 s=r->c5 (match r with|some x=>.b5 [dh x,.i .i64 0]|none=>.b5 [dh 0,.i .i64 6]) (Fb.res s):=fun h=>.of (by subst h;rfl);have fail:l5 s=none->c5 (.b5 [.agg [.i .i64 0,.nl,.nl],.i .i64 6]) (Fb.res s):=fun h=>yi.trans (hp h);obtain⟨P,Q,b,c9,aA,jG⟩:=aki ak;obtain⟨n,hn⟩:∃n,n=(dX s).1:=⟨_,rfl⟩;rw[<-hn]at c9 jG;have SF: -1<=(if n=true then(-1:Int)else 1)∧(if n=true then(-1:Int)else 1)<=1:=by cases n<;>decide
 repeat refine ab rfl ?_
 refine bm ajx s (by show s.length<=_;omega) ?_;refine aH 11 _ rfl c9 ?_
 repeat refine ab rfl ?_
 cases b with
 |false=>
  repeat refine ab rfl ?_
  exact a1 (a6 rfl rfl (fail (aA rfl)))
 |true=>
  obtain⟨dz,eH,I2,ahz,h5,np,zh⟩:=jG rfl;have RA:=E6 (k:=45) dz.2.1 (by omega);have RB:=E6 (k:=45) eH.2.1 (by omega)
  repeat refine bd 22 rfl ?_
  refine aH 22 (.b false) rfl (congrArg al.b (decide_eq_false (by omega))) ?_
  repeat refine ab rfl ?_
  refine cu (fun h=> ?_) (fun h=> ?_)
  ·omega
  repeat refine ab rfl ?_
  refine bm RY P ⟨dz.2.1,by show P.length<=_;omega⟩ ?_
  repeat refine ab rfl ?_
  refine bm RY Q ⟨eH.2.1,by show Q.length<=_;omega⟩ ?_;refine bm tC (if n=true then -1 else 1,b8 P,b8 Q) ⟨SF.1,SF.2,dg RA (by decide),dg RB (by decide),h5⟩ ?_;refine aH 33 (dh (mkRat (hN n (b8 P)) (b8 Q))) rfl (by show dh _=_;rw[akD]) ?_
  repeat refine ab rfl ?_
  refine bm RC (mkRat (hN n (b8 P)) (b8 Q)) (k0 (x0 (by rw[sd];exact RA) RB h5) (by decide)) ?_
  repeat refine bd 37 rfl ?_
  by_cases aX:iV (mkRat (hN n (b8 P)) (b8 Q))=s
  ·refine aH 37 (.b false) rfl (by show al.b (!(iV _==s))=_;rw[aX];simp) ?_
   repeat refine ab rfl ?_
   exact a1 (a6 rfl rfl (hp (np aX)))
  ·refine aH 37 (.b true) rfl (by show al.b (!(iV _==s))=_;rw[beq_eq_false_iff_ne.2 aX];rfl) ?_
   repeat refine ab rfl ?_
   exact a1 (a6 rfl rfl (fail (zh aX)))
def B9(b:Bool):List al:=[.b b]
def ic(c:UInt8):Bool:=decide (48<=c.toNat∧c.toNat<=57)
def uA:List Bool:=(List.range 256).map fun j=>decide (48<=j∧j<=57)
def oo:List al:=uA.flatMap B9
theorem Yn{j:Nat}(h:j<256):oo.drop j= .b (decide (48<=j∧j<=57))::oo.drop (j+1):=by
 have e:oo=uA.map al.b:=by unfold oo;rw[List.map_eq_flatMap];rfl
 have hl:j<uA.length:=by unfold uA;rw[List.length_map,List.length_range];exact h
 rw[e,<-List.map_drop,<-List.map_drop,iG hl,List.map_cons];congr 2;simp[uA]
def HS:cn where
 L:=UInt8
 args:=fun c=>[.ip oo,.i .u8 (c.toNat:Int)]
 pre:=fun _=>True
 res:=fun c=>.b (ic c)
theorem Oy:ca aN.ctx 286 HS.spec:=by
 refine cz [] f286 ?_;intro(c:UInt8) _ H a4;have hc:c.toNat<256:=c.toNat_lt
 repeat refine ab rfl ?_
 refine gH (acj rfl rfl hc) ?_;refine aH 8 (.ip (.b (ic c)::oo.drop (c.toNat+1))) rfl (by rw[Nat.mul_one,Yn hc];rfl) ?_
 repeat refine ab rfl ?_
 exact a1 (a6 rfl rfl (.refl _))
def Tt:cn where
 L:=List UInt8
 args:=fun s=>[.s s,.ip oo]
 pre:=fun s=>s.length<=1073741824
 res:=fun s=>.s (s.dropWhile ic)
theorem amh:ca aN.ctx 177 Tt.spec:=by
 refine cz [(286,HS.spec)] f177 ?_;intro(s:List UInt8) (ak:s.length<=_) H a4
 repeat refine ab rfl ?_
 refine e3 (L:=List UInt8) (fun t=>t.dropWhile ic=s.dropWhile ic∧t.length<=s.length) (fun t=>⟨[],0,[(0,.s t),(1,.ip oo)]⟩) List.length [] s ⟨rfl,cd _⟩ (by show s.length<cp+1;unfold cp;omega) (dF ⟨rfl,rfl,trivial⟩) ?_;rintro t ⟨J,U⟩;cases t with
 |nil=>
  repeat refine ab rfl ?_
  exact a1 (a6 rfl rfl (.of (by show al.s []=al.s _;rw[<-J];rfl)))
 |cons c t=>
  repeat refine bd 7 rfl ?_
  refine aH 7 (.b true) rfl (by simp) ?_
  repeat refine ab rfl ?_
  refine lI c (j:=0) rfl ?_;refine bm Oy c trivial ?_
  repeat refine ab rfl ?_
  by_cases hc:ic c=true
  ·refine aH 12 (.b false) rfl (by show al.b (!ic c)=_;rw[hc];rfl) ?_
   repeat refine ab rfl ?_
   refine pS (p:=1) t ?_ (hp:=by simp) (hq:=by simp)
   repeat refine ab rfl ?_
   exact b0 [] t ⟨by simp,by rw[<-J,List.dropWhile_cons,if_pos hc],by simp at U;omega⟩ (dF ⟨rfl,rfl,trivial⟩)
  ·have hc:ic c=false:=by simpa using hc
   refine aH 12 (.b true) rfl (by show al.b (!ic c)=_;rw[hc];rfl) ?_
   repeat refine ab rfl ?_
   exact a1 (a6 rfl rfl (.of (by show al.s (c::t)=al.s _;rw[<-J,List.dropWhile_cons,if_neg (by rw[hc];decide)])))
def ma(s:List UInt8):List UInt8:=(s.reverse.dropWhile ic).reverse
theorem Tl(t:List UInt8)(c:UInt8):ma (t++[c])=if ic c=true then ma t else t++[c]:=by
 unfold ma;rw[List.reverse_append];show((c::t.reverse).dropWhile ic).reverse=_;rw[List.dropWhile_cons];split
 ·rfl
 ·simp
def Uo:cn where
 L:=List UInt8
 args:=fun s=>[.s s,.ip oo]
 pre:=fun s=>s.length<=1073741824
 res:=fun s=>.s (ma s)
theorem amj:ca aN.ctx 178 Uo.spec:=by
 refine cz [(286,HS.spec)] f178 ?_;intro(s:List UInt8) (ak:s.length<=_) H a4
 repeat refine ab rfl ?_
 refine e3 (L:=List UInt8) (fun t=>ma t=ma s∧t.length<=s.length) (fun t=>⟨[],0,[(0,.s t),(1,.ip oo)]⟩) List.length [] s ⟨rfl,cd _⟩ (by show s.length<cp+1;unfold cp;omega) (dF ⟨rfl,rfl,trivial⟩) ?_;rintro t ⟨J,U⟩;rcases List.eq_nil_or_concat t with rfl|⟨t,c,rfl⟩
 ·repeat refine ab rfl ?_
  exact a1 (a6 rfl rfl (.of (by show al.s []=al.s _;rw[<-J];rfl)))
 ·rw[List.concat_eq_append]at *;have hl:(t++[c]).length=t.length+1:=by simp
  repeat refine bd 7 rfl ?_
  refine aH 7 (.b true) rfl (by simp) ?_
  repeat refine bd 12 rfl ?_
  refine aH 12 (.i .i64 (t.length:Nat)) rfl (by rw[hl];exact cB) ?_;refine lI c (show(t++[c])[t.length]? =some c by simp) ?_;refine bm Oy c trivial ?_
  repeat refine ab rfl ?_
  by_cases hc:ic c=true
  ·refine aH 15 (.b false) rfl (by show al.b (!ic c)=_;rw[hc];rfl) ?_
   repeat refine bd 19 rfl ?_
   refine aH 19 (.i .i64 (t.length:Nat)) rfl (by rw[hl];exact cB) ?_;refine pS (p:=0) t ?_ (hp:=Nat.zero_le _) (hq:=by simp)
   repeat refine ab rfl ?_
   exact b0 [] t ⟨by simp,by rw[<-J,Tl,if_pos hc],by omega⟩ (dF ⟨rfl,rfl,trivial⟩)
  ·refine aH 15 (.b true) rfl (by show al.b (!ic c)=_;rw[show ic c=false by simpa using hc];rfl) ?_
   repeat refine ab rfl ?_
   exact a1 (a6 rfl rfl (.of (by show al.s (t++[c])=al.s _;rw[<-J,Tl,if_neg hc])))
def yH:Nat->List Bool
 |0=>List.replicate 256 false
 |n+1=>(yH n).set (48+n) true
theorem SE:∀n,(yH n).length=256
 |0=>List.length_replicate
 |n+1=>by unfold yH;rw[List.length_set];exact SE n
theorem akA:yH 10=uA:=by kernel_rfl
def zC:List UInt8:=[48,49,50,51,52,53,54,55,56,57]
theorem Yt{i:Nat}(h:i<10):zC[i]? =some (UInt8.ofNat (48+i)):=by
 rcases(show i=0∨i=1∨i=2∨i=3∨i=4∨i=5∨i=6∨i=7∨i=8∨i=9 by omega)with rfl|rfl|rfl|rfl|rfl|rfl|rfl|rfl|rfl|rfl<;>rfl
def Qh:cn where
 L:=Unit
 args:=fun _=>[.s zC]
 pre:=fun _=>True
 res:=fun _=>.b5 [.agg oo,.b true]
theorem ahX:ca aN.ctx 176 Qh.spec:=by
 refine cz [] f176 ?_;intro _ _ H a4
 repeat refine bd 3 rfl ?_
 refine tH 0 B9 (yH 0) ?_
 repeat refine ab rfl ?_
 refine e3 (L:=Nat) (fun i=>i<=10) (fun(i:Nat)=>⟨[.a 261 false 1 Bool B9 (yH i)],1,[(0,.s zC),(2,.p 0 0),(4,.i .i64 i)]⟩) (fun i=>10-i) [0] 0 (Nat.zero_le _) (by show 10-0<cp+1;unfold cp;omega) (cT ⟨rfl,rfl,rfl,trivial⟩ ⟨_,rfl,rfl,fun _=>rfl⟩) ?_;intro(i:Nat) ag
 repeat refine ab rfl ?_
 have hl:((zC.length:Nat):Int)=10:=rfl;refine cu (fun h=> ?_) (fun h=> ?_)
 ·have h:i<10:=by omega
  have hn:(UInt8.ofNat (48+i)).toNat=48+i:=CX h
  repeat refine ab rfl ?_
  refine lI (UInt8.ofNat (48+i)) (Yt h) ?_;refine aH 14 (.i .u8 ((48+i:Nat):Int)) rfl (by rw[hn]) ?_
  repeat refine ab rfl ?_
  refine cu (fun aL=> ?_) (fun aL=> ?_)
  ·omega
  repeat refine ab rfl ?_
  refine ajP ?_;refine j9 true ?_ (hj:=by rw[SE];omega)
  repeat refine ab rfl ?_
  exact b0 [0] (i+1) ⟨by show 10-(i+1)<10-i;omega,h⟩ (cT ⟨rfl,rfl,eS,trivial⟩ ⟨_,rfl,rfl,fun _=>rfl⟩)
 ·have he:i=10:=by omega
  subst he;rw[akA]
  repeat refine ab rfl ?_
  refine ajI 0 ?_
  repeat refine ab rfl ?_
  exact a1 (a6 rfl rfl (.of rfl))
def Up:cn where
 L:=List UInt8
 args:=fun s=>[.s s,.s zC]
 pre:=fun s=>s.length<=1073741824
 res:=fun s=>.s ((ma s).dropWhile ic)
theorem al8(s:List UInt8):(ma s).length<=s.length:=by
 unfold ma;rw[List.length_reverse,<-(List.length_reverse:s.reverse.length=s.length)];exact(List.dropWhile_sublist _).length_le
theorem al7:ca aN.ctx 71 Up.spec:=by
 refine cz [(176,Qh.spec),(178,Uo.spec),(177,Tt.spec)] f71 ?_;intro(s:List UInt8) (ak:s.length<=_) H a4
 repeat refine bd 9 rfl ?_
 by_cases h:s=[]
 ·subst h
  repeat refine ab rfl ?_
  exact a1 (a6 rfl rfl (.refl _))
 refine aH 9 (.b false) rfl (by rw[beq_eq_false_iff_ne.2 h]) ?_
 repeat refine ab rfl ?_
 refine bm ahX () trivial ?_
 repeat refine ab rfl ?_
 refine tH 0 B9 uA ?_;refine ajN 5 ?_;refine aH 5 (.ip oo) rfl rfl ?_;refine bm amj s ak ?_
 repeat refine ab rfl ?_
 refine bm amh (ma s) (Nat.le_trans (al8 s) ak) ?_
 repeat refine ab rfl ?_
 exact a1 (a6 rfl rfl (.refl _))
theorem drop_nil:∀{s:List UInt8},s.dropWhile ic=[]↔∀c∈s,ic c=true
 |[]=>by simp
 |c::s=>by
  rw[List.dropWhile_cons];by_cases h:ic c=true
  ·rw[if_pos h,drop_nil];simp[h]
  ·rw[if_neg h];simp[h]
theorem Pw{c:UInt8}:ic c=true↔48<=c.toNat∧c.toNat<=57:=by unfold ic;rw[decide_eq_true_iff]
theorem strip_nil{s:List UInt8}:(ma s).dropWhile ic=[]↔iq s:=by
 rw[drop_nil];unfold iq;constructor
 ·intro h;have J:ma s=[]:=by
   rcases List.eq_nil_or_concat (ma s)with h0|⟨t,c,h0⟩
   ·exact h0
   ·rw[List.concat_eq_append]at h0;have hc:=h c (by rw[h0];simp);have e:s.reverse.dropWhile ic=c::t.reverse:=by
     have:=congrArg List.reverse h0;unfold ma at this;rw[List.reverse_reverse,List.reverse_append]at this;exact this
    have:=List.head_dropWhile_not ic (l:=s.reverse) (by rw[e];simp);simp only[e,List.head_cons]at this;rw[hc]at this;cases this
  unfold ma at J;have U:=drop_nil.1 (List.reverse_eq_nil_iff.1 J);exact fun c hc=>Pw.1 (U c (List.mem_reverse.2 hc))
 ·intro h;have U:s.reverse.dropWhile ic=[]:=drop_nil.2 fun c hc=>Pw.2 (h c (List.mem_reverse.1 hc));unfold ma;rw[U];intro c hc;simp at hc
def Sr:cn where
 L:=List UInt8
 args:=fun s=>[.s s]
 pre:=fun s=>s.length<=1073741824
 res:=fun s=>.b (decide (g6 s))
theorem KJ:ca aN.ctx 19 Sr.spec:=by
 refine cz [(71,Up.spec)] f19 ?_;intro(s:List UInt8) (ak:s.length<=_) H a4
 repeat refine bd 5 rfl ?_
 cases s with
 |nil=>
  refine aH 5 (.b false) rfl rfl ?_
  repeat refine ab rfl ?_
  exact a1 (a6 rfl rfl (.of (by show al.b false=al.b (decide _);rw[decide_eq_false (fun hb=>hb.1 rfl)])))
 |cons c t=>
  refine aH 5 (.b true) rfl rfl ?_
  repeat refine ab rfl ?_
  refine bm al7 (c::t) ak ?_
  repeat refine bd 10 rfl ?_
  by_cases dV:iq (c::t)
  ·refine aH 10 (.b true) rfl (by show al.b (_==[])=_;rw[strip_nil.2 dV];rfl) ?_
   repeat refine bd 13 rfl ?_
   by_cases hb:c::t=[48]
   ·refine aH 13 (.b true) rfl (by rw[hb];rfl) ?_
    repeat refine ab rfl ?_
    exact a1 (a6 rfl rfl (.of (by show al.b true=al.b (decide _);rw[decide_eq_true ⟨by simp,dV,.inl hb⟩])))
   refine aH 13 (.b false) rfl (by rw[beq_eq_false_iff_ne.2 hb]) ?_
   repeat refine ab rfl ?_
   refine lI c (j:=0) rfl ?_
   repeat refine ab rfl ?_
   refine a1 (a6 rfl rfl (.of ?_));show al.b (decide _)=al.b (decide _);congr 1;rw[decide_eq_decide];constructor
   ·intro h;refine⟨by simp,dV,.inr fun e=>h ?_⟩;have e:c=48:=by simpa using e
    rw[e];rfl
   ·rintro⟨_,_,h|h⟩ e
    ·exact hb h
    ·exact h (congrArg some (UInt8.toNat_inj.1 (show c.toNat=48 by omega)))
  ·refine aH 10 (.b false) rfl (by show al.b (_==[])=_;rw[beq_eq_false_iff_ne.2 (mt strip_nil.1 dV)]) ?_
   repeat refine ab rfl ?_
   exact a1 (a6 rfl rfl (.of (by show al.b false=al.b (decide _);rw[decide_eq_false (fun hb=>dV hb.2.1)])))
theorem Ps:∀s:List UInt8,(match oN 47 s with
 |none=>cutAt s=(s,none)
 |some i=>i<s.length∧cutAt s=(s.take i,some (s.drop (i+1))))
 |[]=>rfl
 |c::s=>by
  have bb:=Ps s;have e:oN 47 (c::s)=cond (Nat.beq c.toNat (47:UInt8).toNat) (some 0) (bo (oN 47 s) (fun i=>some (Nat.succ i)) none):=rfl;by_cases hc:c=47
  ·subst hc;rw[e,show Nat.beq (47:UInt8).toNat (47:UInt8).toNat=true from rfl];exact⟨Nat.succ_pos _,rfl⟩
  ·have hb:Nat.beq c.toNat (47:UInt8).toNat=false:=by
    rw[Bool.eq_false_iff];exact fun h=>hc (UInt8.toNat_inj.1 (dY h))
   have e2:cutAt (c::s)=(c::(cutAt s).1,(cutAt s).2):=if_neg hc;rw[e,hb,cond_false];cases h:oN 47 s with
   |none=>
    rw[h]at bb;show cutAt (c::s)=_;rw[e2,show cutAt s=(s,none)from bb]
   |some i=>
    rw[h]at bb;obtain⟨J,U⟩:=bb;show i+1<s.length+1∧cutAt (c::s)=_;rw[e2,U];exact⟨by omega,rfl⟩
def O4:cn where
 L:=List UInt8
 args:=fun s=>[.s s,.s [45]]
 pre:=fun s=>s.length<=1073741824
 res:=fun s=>.b (dX s).1
theorem abr:ca aN.ctx 172 O4.spec:=by
 refine cz [] f172 ?_;intro(s:List UInt8) (ak:s.length<=_) H a4
 repeat refine bd 10 rfl ?_
 cases s with
 |nil=>
  refine aH 10 (.b false) rfl rfl ?_
  repeat refine ab rfl ?_
  exact a1 (a6 rfl rfl (.refl _))
 |cons c t=>
  refine aH 10 (.b true) rfl (by simp;omega) ?_
  repeat refine ab rfl ?_
  refine pS (p:=0) (q:=1) [c] ?_ (hq:=by simp)
  repeat refine ab rfl ?_
  refine a1 (a6 rfl rfl (.of ?_));show al.b ([c]==[45])=al.b (dX (c::t)).1;by_cases hc:c=45
  ·subst hc;rfl
  ·rw[show dX (c::t)=(false,c::t)from if_neg hc,beq_eq_false_iff_ne.2 (by simpa using hc)]
def CK:cn where
 L:=List UInt8
 args:=fun s=>[.s s,.s [45]]
 pre:=fun s=>s.length<=1073741824
 res:=fun s=>.b5 [.s (dX s).2,.b (dX s).1]
theorem Wf:ca aN.ctx 69 CK.spec:=by
 refine cz [(172,O4.spec)] f69 ?_;intro(s:List UInt8) (ak:s.length<=_) H a4
 repeat refine ab rfl ?_
 refine bm abr s ak ?_
 repeat refine ab rfl ?_
 cases s with
 |nil=>
  repeat refine ab rfl ?_
  exact a1 (a6 rfl rfl (.refl _))
 |cons c t=>
  by_cases hc:c=45
  ·subst hc;refine aH 9 (.b false) rfl rfl ?_
   repeat refine ab rfl ?_
   refine pS (p:=1) t ?_ (hp:=by simp) (hq:=by simp)
   repeat refine ab rfl ?_
   exact a1 (a6 rfl rfl (.refl _))
  ·have aZ:dX (c::t)=(false,c::t):=if_neg hc;refine aH 9 (.b true) rfl (by show al.b (!(dX (c::t)).1)=_;rw[aZ];rfl) ?_
   repeat refine ab rfl ?_
   exact a1 (a6 rfl rfl (.of (by show al.b5 _=al.b5 [.s (dX (c::t)).2,.b (dX (c::t)).1];rw[aZ])))
theorem We:ca aN.ctx 17 CK.spec:=by
 refine cz [(69,CK.spec)] f17 ?_;intro(s:List UInt8) (ak:s.length<=_) H a4
 repeat refine ab rfl ?_
 refine bm Wf s ak ?_
 repeat refine ab rfl ?_
 exact a1 (a6 rfl rfl (.refl _))
def PA:cn where
 L:=List UInt8
 args:=fun s=>[.s s,.i .u8 47]
 pre:=fun s=>s.length<=1073741824
 res:=fun s=>.i .i64 (rK 47 s)
theorem acJ:ca aN.ctx 282 PA.spec:=by
 refine cz [] f282 ?_;intro(s:List UInt8) (ak:s.length<=_) H a4
 repeat refine ab rfl ?_
 refine gH (acp (c:=47) rfl rfl) ?_
 repeat refine ab rfl ?_
 exact a1 (a6 rfl rfl (.refl _))
def Pz:cn where
 L:=List UInt8
 args:=fun s=>[.s s,.s [47]]
 pre:=fun s=>s.length<=1073741824
 res:=fun s=>.i .i64 (rK 47 s)
theorem acI:ca aN.ctx 173 Pz.spec:=by
 refine cz [(282,PA.spec)] f173 ?_;intro(s:List UInt8) (ak:s.length<=_) H a4
 repeat refine ab rfl ?_
 by_cases h:[47]=s
 ·refine aH 16 (.b true) rfl (by rw[<-h];rfl) ?_
  repeat refine ab rfl ?_
  exact a1 (a6 rfl rfl (.of (by show al.i _ 0=al.i _ (rK 47 s);rw[<-h];rfl)))
 refine aH 16 (.b false) rfl (by rw[beq_eq_false_iff_ne.2 h]) ?_
 repeat refine ab rfl ?_
 refine lI 47 (j:=0) rfl ?_;refine bm acJ s ak ?_
 repeat refine ab rfl ?_
 exact a1 (a6 rfl rfl (.refl _))
def nw(s:List UInt8):al:=match(cutAt s).2 with
 |none=>.b5 [.s s,.s [],.b false]
 |some q=>.b5 [.s (cutAt s).1,.s q,.b true]
def zz:cn where
 L:=List UInt8
 args:=fun s=>[.s s,.s [47]]
 pre:=fun s=>s.length<=1073741824
 res:=fun s=>nw s
theorem X1:ca aN.ctx 70 zz.spec:=by
 refine cz [(173,Pz.spec)] f70 ?_;intro(s:List UInt8) (ak:s.length<=_) H a4;have ag:=Ps s;have fin:∀{r},nw s=r->c5 r (zz.res s):=fun h=>.of h.symm;unfold nw at fin
 repeat refine ab rfl ?_
 refine bm acI s ak ?_;cases aa:oN 47 s with
 |none=>
  rw[aa]at ag;have ag:cutAt s=(s,none):=ag;rw[ag]at fin;refine aH 10 (.i .i64 (-1)) rfl (by show al.i _ (rK 47 s)=_;unfold rK;rw[aa]) ?_
  repeat refine ab rfl ?_
  exact a1 (a6 rfl rfl (fin rfl))
 |some i=>
  rw[aa]at ag;obtain⟨J,U⟩:i<s.length∧cutAt s=(s.take i,some (s.drop (i+1))):=ag;rw[U]at fin;refine aH 10 (.i .i64 (i:Nat)) rfl (by show al.i _ (rK 47 s)=_;unfold rK;rw[aa]) ?_
  repeat refine ab rfl ?_
  refine CQ (s.take i) ?_ (hl:=by simp)
  repeat refine bd 20 rfl ?_
  refine eg 20 (.i .i64 ((i+1:Nat):Int)) rfl rfl (cB (by simp) (by simp;omega) (by simp;omega)) ?_;refine CQ (s.drop (i+1)) ?_ (hl:=List.take_of_length_le (by simp))
  repeat refine ab rfl ?_
  exact a1 (a6 rfl rfl (fin rfl))
theorem XZ:ca aN.ctx 18 zz.spec:=by
 refine cz [(70,zz.spec)] f18 ?_;intro(s:List UInt8) (ak:s.length<=_) H a4
 repeat refine ab rfl ?_
 refine bm X1 s ak ?_;cases aa:(cutAt s).2 with
 |none=>
  refine aH 9 (.b5 [.s s,.s [],.b false]) rfl (by show nw s=_;unfold nw;rw[aa]) ?_
  repeat refine ab rfl ?_
  exact a1 (a6 rfl rfl (.of (by show _=nw s;unfold nw;rw[aa])))
 |some q=>
  refine aH 9 (.b5 [.s (cutAt s).1,.s q,.b true]) rfl (by show nw s=_;unfold nw;rw[aa]) ?_
  repeat refine ab rfl ?_
  exact a1 (a6 rfl rfl (.of (by show _=nw s;unfold nw;rw[aa])))
def vK:List al:=(List.range 20).map fun k=>.i .u64 ((10^k:Nat):Int)
def mf(H:bY):Prop:=∃vs el bt aR,H 5=some (.cells vs el bt aR)∧∀cc,ei cc vK [] vs
theorem mf.up{H cc:bY}(h:dZ H cc):mf H->mf cc:=fun⟨vs,el,bt,aR,J,U⟩=>⟨vs,el,bt,aR,h _ _ J,U⟩
theorem ai5{j:Nat}(h:j<20):vK.drop j= .i .u64 ((10^j:Nat):Int)::vK.drop (j+1):=by
 have hl:j<vK.length:=by unfold vK;rw[List.length_map,List.length_range];exact h
 rw[iG hl];congr 1;simp[vK]
def PM:cn where
 L:=Nat
 args:=fun n=>[.i .u64 n]
 pre:=fun n=>n<4294967296
 res:=fun n=>.i .i64 (bA n:Nat)
def ahK:List UInt8:=[0,1,2,2,3,3,3,3,4,4,4,4,4,4,4,4,5,5,5,5,5,5,5,5,5,5,5,5,5,5,5,5,6,6,6,6,6,6,6,6,6,6,6,6,6,6,6,6,6,6,6,6,6,6,6,6,6,6,6,6,6,6,6,6,7,7,7,7,7,7,7,7,7,7,7,7,7,7,7,7,7,7,7,7,7,7,7,7,7,7,7,7,7,7,7,7,7,7,7,7,7,7,7,7,7,7,7,7,7,7,7,7,7,7,7,7,7,7,7,7,7,7,7,7,7,7,7,7,8,8,8,8,8,8,8,8,8,8,8,8,8,8,8,8,8,8,8,8,8,8,8,8,8,8,8,8,8,8,8,8,8,8,8,8,8,8,8,8,8,8,8,8,8,8,8,8,8,8,8,8,8,8,8,8,8,8,8,8,8,8,8,8,8,8,8,8,8,8,8,8,8,8,8,8,8,8,8,8,8,8,8,8,8,8,8,8,8,8,8,8,8,8,8,8,8,8,8,8,8,8,8,8,8,8,8,8,8,8,8,8,8,8,8,8,8,8,8,8,8,8,8,8,8,8,8,8]
theorem ahL:∀m,m<256->ahK[m]? =some (UInt8.ofNat (bA m))∧bA m<=8:=by decide +kernel
theorem ahJ:ca aN.ctx 348 PM.spec:=by
 refine cz [] f348 ?_;intro(n:Nat) (hn:n<4294967296) H a4
 repeat refine ab rfl ?_
 refine cu (fun h=> ?_) (fun h=> ?_)
 ·omega
 repeat refine ab rfl ?_
 refine hk (fun((m:Nat),(k:Nat))=>m<65536∧k<=16∧bA n=bA m+k) (fun(m,k)=>⟨[],0,[(0,.i .u64 m),(2,.i .i64 k)]⟩) ?_ ?_
 ·refine cu (fun h=> ?_) (fun h=> ?_)
  ·repeat refine ab rfl ?_
   exact b0 [] (n/65536,16) ⟨by omega,by decide,zl 16 n (by omega)⟩ (dF ⟨rfl,rfl,trivial⟩)
  ·repeat refine ab rfl ?_
   exact b0 [] (n,0) ⟨by omega,by decide,rfl⟩ (dF ⟨rfl,rfl,trivial⟩)
 rintro⟨m,k⟩ ⟨hm,ae,hb⟩
 repeat refine ab rfl ?_
 refine hk (fun((m:Nat),(k:Nat))=>m<256∧k<=24∧bA n=bA m+k) (fun(m,k)=>⟨[],0,[(0,.i .u64 m),(2,.i .i64 k)]⟩) ?_ ?_
 ·refine cu (fun h=> ?_) (fun h=> ?_)
  ·repeat refine ab rfl ?_
   exact b0 [] (m/256,k+8) ⟨by omega,by omega,by rw[hb,zl 8 m (by omega),show(2:Nat)^8=256 from rfl];omega⟩ (dF ⟨rfl,eS,trivial⟩)
  ·repeat refine ab rfl ?_
   exact b0 [] (m,k) ⟨by omega,by omega,hb⟩ (dF ⟨rfl,rfl,trivial⟩)
 rintro⟨m,k⟩ ⟨hm,ae,hb⟩
 repeat refine ab rfl ?_
 refine aH 21 (.i .u8 (m:Nat)) rfl ff ?_;obtain⟨t1,t2⟩:=ahL m hm;refine lI _ t1 ?_
 repeat refine ab rfl ?_
 have e:(UInt8.ofNat (bA m)).toNat=bA m:=by simp;omega
 rw[e];refine a1 (a6 rfl rfl (.of ?_));show al.i _ _=al.i .i64 (bA n:Nat);rw[hb,gD (n:=((bA m:Nat):Int)) (by omega) (by omega)];exact cB
def PH:cn where
 L:=Nat
 args:=fun b=>[.i .i64 b]
 pre:=fun b=>b<=64
 res:=fun b=>.i .i64 ((b*78913/262144:Nat):Int)
theorem ahy:ca aN.ctx 363 PH.spec:=by
 refine cz [] f363 ?_;intro(b:Nat) (hb:b<=64) H a4
 repeat refine bd 4 rfl ?_
 refine aH 4 (.i .i64 ((b*78913:Nat):Int)) rfl cB ?_
 repeat refine ab rfl ?_
 exact a1 (a6 rfl rfl (.refl _))
def MD:cn where
 L:=Bool
 args:=fun b=>[.b b]
 pre:=fun _=>True
 res:=fun b=>.i .i64 (if b=true then 1 else 0)
theorem VH:ca aN.ctx 364 MD.spec:=by
 refine cz [] f364 ?_;intro(b:Bool) _ H a4
 repeat refine ab rfl ?_
 cases b with
 |true=>
  repeat refine ab rfl ?_
  exact a1 (a6 rfl rfl (.refl _))
 |false=>
  repeat refine ab rfl ?_
  exact a1 (a6 rfl rfl (.refl _))
theorem ah7:∀b,b<31->(b*78913/262144=0∨10^(b*78913/262144-1)<=2^(b-1))∧2^b<=10^(b*78913/262144+1)∧b*78913/262144<10:=by decide +kernel
theorem ah6{n:Nat}(h0:n≠0)(hn:n<1000000000):(aU 10 n).length=bA n*78913/262144+(if 10^(bA n*78913/262144)<=n then 1 else 0)∧bA n*78913/262144<10∧bA n<=30:=by
 obtain⟨J,U⟩:=nq h0;have hb:bA n<=30:=Cw.1 (show n<2^30 by omega);obtain⟨t1,t2,t3⟩:=ah7 (bA n) (by omega);generalize bA n*78913/262144=l at *;have hu:=iM (b:=10) (n:=n) (k:=l+1) (by decide) (by omega);refine⟨?_,t3,hb⟩;split
 ·rename_i h;have:=zB (b:=10) (n:=n) (k:=l) (by decide) h;omega
 ·rename_i h;have ah:=iM (b:=10) (n:=n) (k:=l) (by decide) (by omega);rcases t1 with t1|t1
  ·subst t1;omega
  ·rcases Nat.eq_zero_or_pos l with aC|aC
   ·subst aC;omega
   ·have:=zB (b:=10) (n:=n) (k:=l-1) (by decide) (by omega);omega
def Qn:cn where
 L:=Nat
 args:=fun n=>[.i .u64 n]
 pre:=fun n=>n≠0∧n<1000000000
 res:=fun n=>.i .i64 ((aU 10 n).length:Nat)
 hp:=mf
 hm:=mf.up
theorem ah5:ca aN.ctx 332 Qn.spec:=by
 refine uk [(348,PM.spec),(363,PH.spec),(364,MD.spec)] f332 ?_;intro(n:Nat) ⟨(h0:n≠0),(hn:n<1000000000)⟩ H a4 ⟨vs,el,bt,aR,aZ,ax⟩;obtain⟨aG,e2,cw⟩:=ah6 h0 hn
 repeat refine ab rfl ?_
 refine bm ahJ n (by show n<_;omega) ?_;refine bm ahy (bA n) (by show bA n<=_;omega) ?_;generalize hl:bA n*78913/262144=l at *;refine aH 6 (.i .i64 (l:Nat)) rfl (by rw[<-hl];rfl) ?_
 repeat refine ab rfl ?_
 refine ajO aZ ax (j:=l) ?_;refine aH 10 (.ip (.i .u64 ((10^l:Nat):Int)::vK.drop (l+1))) rfl (by rw[ai5 (by omega)]) ?_
 repeat refine bd 12 rfl ?_
 refine aH 12 (.b (decide (10^l<=n))) rfl (congrArg al.b (by rw[decide_eq_decide];exact Int.ofNat_le)) ?_;refine bm VH (decide (10^l<=n)) trivial ?_;obtain⟨q,hq⟩:∃q:Nat,q=if 10^l<=n then 1 else 0:=⟨_,rfl⟩;have py:q<=1:=by rw[hq];split<;>decide
 rw[<-hq]at aG;refine aH 13 (.i .i64 (q:Nat)) rfl (by show al.i _ (if decide _=true then 1 else 0)=_;rw[hq];by_cases h:10^l<=n<;>simp[h]) ?_
 repeat refine ab rfl ?_
 exact a1 (a6 rfl rfl (.of (by
  show al.i _ _=al.i .i64 ((aU 10 n).length:Nat);rw[aG];exact cB)))
def k7:List UInt8:=[48,48,48,49,48,50,48,51,48,52,48,53,48,54,48,55,48,56,48,57,49,48,49,49,49,50,49,51,49,52,49,53,49,54,49,55,49,56,49,57,50,48,50,49,50,50,50,51,50,52,50,53,50,54,50,55,50,56,50,57,51,48,51,49,51,50,51,51,51,52,51,53,51,54,51,55,51,56,51,57,52,48,52,49,52,50,52,51,52,52,52,53,52,54,52,55,52,56,52,57,53,48,53,49,53,50,53,51,53,52,53,53,53,54,53,55,53,56,53,57,54,48,54,49,54,50,54,51,54,52,54,53,54,54,54,55,54,56,54,57,55,48,55,49,55,50,55,51,55,52,55,53,55,54,55,55,55,56,55,57,56,48,56,49,56,50,56,51,56,52,56,53,56,54,56,55,56,56,56,57,57,48,57,49,57,50,57,51,57,52,57,53,57,54,57,55,57,56,57,57]
theorem mO:∀k,k<100->k7[2*k]? =some (UInt8.ofNat (48+k/10))∧k7[2*k+1]? =some (UInt8.ofNat (48+k%10))∧(k7.drop (2*k)).take 2=[UInt8.ofNat (48+k/10),UInt8.ofNat (48+k%10)]:=by decide +kernel
def d36:List UInt8:=[48,49,50,51,52,53,54,55,56,57,97,98,99,100,101,102,103,104,105,106,107,108,109,110,111,112,113,114,115,116,117,118,119,120,121,122]
theorem X3:∀k,k<10->(d36.drop k).take 1=[UInt8.ofNat (48+k)]:=by decide +kernel
theorem Yg{n:Nat}(J:10<=n)(U:n<100):dec n=[n/10,n%10]:=by
 unfold dec;rw[if_neg (by omega),mo (by decide) (by omega),mo (by decide) (by omega),show n/10/10=0 by omega,fV,show n/10%10=n/10 by omega];rfl
def SV:cn where
 L:=Nat
 args:=fun n=>[.i .i64 n]
 pre:=fun n=>n<100
 res:=fun n=>.s (dU n)
theorem alM:ca aN.ctx 331 SV.spec:=by
 refine cz [] f331 ?_;intro(n:Nat) (hn:n<100) H a4
 repeat refine ab rfl ?_
 refine cu (fun h=> ?_) (fun h=> ?_)
 ·have h:n<10:=by omega
  repeat refine bd 7 rfl ?_
  refine aH 7 (.i .i64 ((n+1:Nat):Int)) rfl cB ?_;refine pS (l:=d36) (p:=n) (q:=n+1) [UInt8.ofNat (48+n)] ?_ (hl:=by rw[show n+1-n=1 by omega];exact X3 n h) (hq:=by show n+1<=36;omega)
  repeat refine ab rfl ?_
  exact a1 (a6 rfl rfl (.of (by show al.s _=al.s (dU n);unfold dU;rw[Nw h];rfl)))
 ·repeat refine bd 10 rfl ?_
  refine aH 10 (.i .i64 ((2*n:Nat):Int)) rfl cB ?_
  repeat refine bd 12 rfl ?_
  refine aH 12 (.i .i64 ((2*n:Nat):Int)) rfl cB ?_
  repeat refine bd 13 rfl ?_
  refine aH 13 (.i .i64 ((2*n+2:Nat):Int)) rfl cB ?_;refine pS (l:=k7) (p:=2*n) (q:=2*n+2) [UInt8.ofNat (48+n/10),UInt8.ofNat (48+n%10)] ?_ (hl:=by rw[show 2*n+2-2*n=2 by omega];exact(mO n hn).2.2) (hq:=by show 2*n+2<=200;omega)
  repeat refine ab rfl ?_
  exact a1 (a6 rfl rfl (.of (by show al.s _=al.s (dU n);unfold dU;rw[Yg (by omega) hn];rfl)))
def CR(n dr j:Nat):UInt8:=UInt8.ofNat (48+n/10^(dr-1-j)%10)
structure iX(n dr i:Nat)(l:List UInt8)(u:Nat):Prop where
 u:u=n/10^(dr-i)
 len:l.length=24
 le:i<=dr
 lS:∀j,i<=j->j<dr->l[j]? =some (CR n dr j)
theorem iX.two{n dr i:Nat}{l:List UInt8}{u:Nat}(h:iX n dr (i+2) l u)(jI:dr<=24):iX n dr i ((l.set (i+1) (UInt8.ofNat (48+u%100%10))).set i (UInt8.ofNat (48+u%100/10))) (u/100):=by
 obtain⟨J,U,ah,aC⟩:=h;have aG:dr-(i+2)=dr-1-(i+1):=by omega
 have e2:dr-1-i=dr-(i+2)+1:=by omega
 refine⟨?_,by simp[U],by omega,fun j mz H8=> ?_⟩
 ·rw[J,show dr-i=dr-(i+2)+2 by omega,Nat.pow_add,Nat.div_div_eq_div_mul]
 ·rcases(show j=i∨j=i+1∨i+2<=j by omega)with rfl|rfl|h
  ·rw[List.getElem?_set_self (by simp;omega)];unfold CR;rw[e2,Nat.pow_succ,<-Nat.div_div_eq_div_mul,<-J];congr 2;omega
  ·rw[List.getElem?_set_ne (by omega),List.getElem?_set_self (by omega)];unfold CR;rw[<-aG,<-J];congr 2;omega
  ·rw[List.getElem?_set_ne (by omega),List.getElem?_set_ne (by omega)];exact aC j h H8
theorem iX.one{n dr:Nat}{l:List UInt8}{u:Nat}(h:iX n dr 1 l u)(hu:u<10):iX n dr 0 (l.set 0 (UInt8.ofNat (48+u))) 0:=by
 obtain⟨J,U,ah,aC⟩:=h;refine⟨?_,by simp[U],by omega,fun j mz H8=> ?_⟩
 ·rw[show dr-0=dr-1+1 by omega,Nat.pow_succ,<-Nat.div_div_eq_div_mul,<-J];omega
 ·rcases(show j=0∨1<=j by omega)with rfl|h
  ·rw[List.getElem?_set_self (by omega)];unfold CR;rw[show dr-1-0=dr-1 by omega,<-J,fY hu]
  ·rw[List.getElem?_set_ne (by omega)];exact aC j h H8
theorem iX.fin{n dr:Nat}{l:List UInt8}{u:Nat}(h:iX n dr 0 l u)(h0:n≠0)(jI:dr=(aU 10 n).length)(ans:dr<=24):l.take dr=dU n:=by
 obtain⟨J,U,ah,aC⟩:=h;unfold dU dec;rw[if_neg h0];apply List.ext_getElem?;intro j;by_cases hj:j<dr
 ·rw[List.getElem?_take,if_pos hj,aC j (Nat.zero_le _) hj];unfold gl;rw[List.getElem?_map,List.getElem?_reverse (by omega),<-jI,rf (by decide) (by omega)];rfl
 ·rw[List.getElem?_eq_none (by simp;omega),List.getElem?_eq_none (by rw[q2,List.length_reverse];omega)]
theorem ug(x:Nat):(2*(x%100)+1)%4294967296=2*(x%100)+1:=by omega
theorem sN{u:Nat}(h:u<1000000000):(u%100000000%4294967296=u%100000000)∧(u/100000000%18446744073709551616=u/100000000)∧(u%100000000/10000%4294967296=u/10000%10000)∧(u%100000000%10000=u%10000)∧(u%10000/100%4294967296*2%4294967296=2*(u/100%100))∧(u%10000%100*2%4294967296=2*(u%100))∧(u/10000%10000/100%4294967296*2%4294967296=2*(u/100/100/100%100))∧(u/10000%10000%100*2%4294967296=2*(u/100/100%100)):=by
 have aa:u/10000=u/100/100:=by rw[Nat.div_div_eq_div_mul]
 have aJ:u%100000000/10000=u/10000%10000:=by omega
 have f:∀x:Nat,x%10000/100%4294967296*2%4294967296=2*(x/100%100)∧x%10000%100*2%4294967296=2*(x%100):=fun x=>by omega
 refine⟨by omega,by omega,?_,by omega,(f u).1,(f u).2,?_,?_⟩
 ·rw[aJ];generalize u/10000=x;omega
 ·rw[aa];exact(f _).1
 ·rw[aa];exact(f _).2
theorem HB{u:Nat}(h:u<1000000000):u/10000%4294967296=u/10000∧u%10000/100%4294967296*2%4294967296=2*(u/100%100)∧u%10000%100*2%4294967296=2*(u%100):=by omega
theorem NU{u:Nat}(h:u<1000000000):u%100*2%4294967296=2*(u%100)∧u/100%4294967296=u/100:=by omega
theorem mU{aP:hR}{K:List gg}{own b9:List bJ}{a3 bw cJ back:Nat}{e bR:cf}{d:Tmp}{ts:List Tmp}{xs:List (bB×c0)}{x i:Operand}{l:List UInt8}{j:Nat}{cH:IntKind}(kH:UInt8)(hj:l[j]? =some kH)(k:bl.ok aP ⟨K,.d xs b9 ((d,.i .u8 (kH.toNat:Int))::bR) bw cJ,⟨own,a3,(d,.i .u8 (kH.toNat:Int))::e⟩⟩)(aa:bN (fg ts bR) x=some (.s l):=by rfl)(ag:bN (fg ts bR) i=some (.i cH (j:Int)):=by rfl)(hb:back<bw:=by decide):bl.ok aP ⟨K,.d ((⟨some d,.vl x i,none⟩,.read back ts)::xs) b9 bR bw cJ,⟨own,a3,e⟩⟩:=
 ph (d:=some d) (a:=.i .u8 (kH.toNat:Int)) hb (fun H ids st fr af _ _=>⟨.int .u8 (kH.toNat:Int),rfl,fun cS _ _=>by
  have J:fr.an x= .string ⟨⟨l⟩⟩:=af.an aa;have U:fr.an i= .int cH (j:Int):=af.an ag;obtain⟨bO,aD⟩:=List.getElem?_eq_some_iff.1 hj;show ik (fr.an x) (fun s=>gd (fr.an i) (fun _ j=>gW j (fun j=>hV s.data.toList j 1 (fun bn=>one bn (fun b=>aY.ok (.int .u8 (.ofNat b.toNat)) fr cS) aY.no) aY.no) aY.no) aY.no) aY.no=_;rw[J,Sym.yQ,U,Sym.mb,Sym.nU];show hV l j 1 _ _=_;rw[Sym.wR (by omega),iG bO,aD];rfl⟩) k
def Dd:cn where
 L:=Nat
 args:=fun n=>[.i .u64 n,.i .i64 10]
 pre:=fun n=>n<1000000000
 res:=fun n=>.s (dU n)
 hp:=mf
 hm:=mf.up
theorem Zy:ca aN.ctx 266 Dd.spec:=by
 refine uk [(331,SV.spec),(332,Qn.spec)] f266 ?_;intro(n:Nat) (hn:n<1000000000) H a4 gT
 repeat refine ab rfl ?_
 refine cu (fun h=> ?_) (fun h=> ?_)
 ·have h:n<100:=by omega
  repeat refine ab rfl ?_
  refine aH 14 (.i .i64 (n:Nat)) rfl (cB rfl (by omega) (by omega)) ?_;refine bm alM n h ?_
  repeat refine ab rfl ?_
  exact a1 (a6 rfl rfl (.refl _))
 have kn:n≠0:=by omega
 obtain⟨dr,jI⟩:∃dr,dr=(aU 10 n).length:=⟨_,rfl⟩;have anS:dr<=9:=by rw[jI];exact iM (by decide) hn
 have anR:2<dr:=by rw[jI];exact zB (by decide) (by omega)
 repeat refine ab rfl ?_
 refine bm ah5 n ⟨kn,hn⟩ ?_ (hh:=gT);refine aH 17 (.i .i64 (dr:Nat)) rfl (by rw[jI];rfl) ?_
 repeat refine ab rfl ?_
 refine tH 0 jP (List.replicate 24 0) ?_;refine gH (KW (p:=0) (q:=dr) rfl rfl rfl ⟨_,rfl⟩ (Nat.zero_le _) (by omega) (.inr rfl)) ?_;refine aH 19 (.bH 0 1 0 dr 24) rfl (by simp) ?_
 repeat refine ab rfl ?_
 refine vV f333 (by kernel_rfl) ?_;intro H1 i1 s1 ag _;have ag:i1.length=1:=ag
 repeat refine ab rfl ?_
 refine o1 (L:=Nat×List UInt8×Nat) (fun(i,l,u)=>iX n dr i l u∧i<8) (fun(i,l,u)=>⟨[.a 369 false 1 UInt8 jP l],1,[(0,.bH 0 1 0 dr 24),(1,.i .u64 (u:Nat)),(4,.i .i64 (i:Nat))]⟩) ?_ ?_
 ·refine e3 (L:=Nat×List UInt8×Nat) (fun(i,l,u)=>iX n dr i l u) (fun(i,l,u)=>⟨[.a 369 false 1 UInt8 jP l],1,[(0,.bH 0 1 0 dr 24),(1,.i .u64 (u:Nat)),(4,.i .i64 (i:Nat))]⟩) (fun l=>l.1) [0] (dr,List.replicate 24 0,n) ⟨by simp,by simp,cd _,fun j J U=>by omega⟩ (by show dr<4611686018427387904;omega) (cT ⟨rfl,rfl,rfl,trivial⟩ ⟨_,rfl,rfl,fun _=>rfl⟩ (hp:=by show pinned i1.length _ _=_;rw[ag];rfl)) ?_;rintro⟨i,l,u⟩ ha;have ha:iX n dr i l u:=ha;have OM:=ha.le;have hu:u<=n:=by rw[ha.u];exact Nat.div_le_self _ _
  repeat refine ab rfl ?_
  refine cu (fun fG=> ?_) (fun fG=> ?_)
  ·obtain⟨aq,rfl⟩:∃aq,i=aq+8:=⟨i-8,by omega⟩;have lu:u<1000000000:=by omega
   have d1:=iX.two (i:=aq+6) ha (by omega);have d2:=iX.two (i:=aq+4) d1 (by omega);have d3:=iX.two (i:=aq+2) d2 (by omega);have d4:=iX.two (i:=aq) d3 (by omega);have gi:=ha.len
   repeat refine bd 23 rfl ?_
   refine aH 23 (.i .u32 ((u%100000000:Nat):Int)) rfl (congrArg (fun n:Nat=>al.i .u32 (n:Int)) (sN lu).1) ?_
   repeat refine bd 25 rfl ?_
   refine aH 25 (.i .u64 ((u/100000000:Nat):Int)) rfl (congrArg (fun n:Nat=>al.i .u64 (n:Int)) (sN lu).2.1) ?_
   repeat refine bd 27 rfl ?_
   refine aH 27 (.i .u32 ((u/10000%10000:Nat):Int)) rfl (congrArg (fun n:Nat=>al.i .u32 (n:Int)) (sN lu).2.2.1) ?_
   repeat refine bd 29 rfl ?_
   refine aH 29 (.i .u32 ((u%10000:Nat):Int)) rfl (congrArg (fun n:Nat=>al.i .u32 (n:Int)) (sN lu).2.2.2.1) ?_
   repeat refine bd 32 rfl ?_
   refine aH 32 (.i .u32 ((2*(u/100%100):Nat):Int)) rfl (congrArg (fun n:Nat=>al.i .u32 (n:Int)) (sN lu).2.2.2.2.1) ?_
   repeat refine bd 35 rfl ?_
   refine aH 35 (.i .u32 ((2*(u%100):Nat):Int)) rfl (congrArg (fun n:Nat=>al.i .u32 (n:Int)) (sN lu).2.2.2.2.2.1) ?_
   repeat refine bd 38 rfl ?_
   refine aH 38 (.i .u32 ((2*(u/100/100/100%100):Nat):Int)) rfl (congrArg (fun n:Nat=>al.i .u32 (n:Int)) (sN lu).2.2.2.2.2.2.1) ?_
   repeat refine bd 41 rfl ?_
   refine aH 41 (.i .u32 ((2*(u/100/100%100):Nat):Int)) rfl (congrArg (fun n:Nat=>al.i .u32 (n:Int)) (sN lu).2.2.2.2.2.2.2) ?_
   repeat refine bd 44 rfl ?_
   refine eg 44 (.i .i64 (((aq+6)+1:Nat):Int)) rfl rfl cB ?_
   repeat refine bd 49 rfl ?_
   refine eg 49 (.i .u32 ((2*(u%100)+1:Nat):Int)) rfl rfl (congrArg (fun n:Nat=>al.i .u32 (n:Int)) (ug u)) ?_;refine mU (l:=k7) _ (mO _ (Nat.mod_lt u (by decide))).2.1 ?_;refine kI ?_;refine mV (UInt8.ofNat (48+u%100%10)) ?_
   repeat refine bd 47 rfl ?_
   refine eg 47 (.i .i64 ((aq+6):Nat)) rfl rfl cB ?_
   repeat refine ab rfl ?_
   refine mU (l:=k7) _ (mO _ (Nat.mod_lt u (by decide))).1 ?_;refine kI ?_;refine mV (UInt8.ofNat (48+u%100/10)) ?_
   repeat refine bd 57 rfl ?_
   refine eg 57 (.i .i64 (((aq+4)+1:Nat):Int)) rfl rfl cB ?_
   repeat refine bd 62 rfl ?_
   refine eg 62 (.i .u32 ((2*((u/100)%100)+1:Nat):Int)) rfl rfl (congrArg (fun n:Nat=>al.i .u32 (n:Int)) (ug (u/100))) ?_;refine mU (l:=k7) _ (mO _ (Nat.mod_lt (u/100) (by decide))).2.1 ?_;refine kI ?_;refine mV (UInt8.ofNat (48+(u/100)%100%10)) ?_
   repeat refine bd 60 rfl ?_
   refine eg 60 (.i .i64 ((aq+4):Nat)) rfl rfl cB ?_
   repeat refine ab rfl ?_
   refine mU (l:=k7) _ (mO _ (Nat.mod_lt (u/100) (by decide))).1 ?_;refine kI ?_;refine mV (UInt8.ofNat (48+(u/100)%100/10)) ?_
   repeat refine bd 70 rfl ?_
   refine eg 70 (.i .i64 (((aq+2)+1:Nat):Int)) rfl rfl cB ?_
   repeat refine bd 75 rfl ?_
   refine eg 75 (.i .u32 ((2*((u/100/100)%100)+1:Nat):Int)) rfl rfl (congrArg (fun n:Nat=>al.i .u32 (n:Int)) (ug (u/100/100))) ?_;refine mU (l:=k7) _ (mO _ (Nat.mod_lt (u/100/100) (by decide))).2.1 ?_;refine kI ?_;refine mV (UInt8.ofNat (48+(u/100/100)%100%10)) ?_
   repeat refine bd 73 rfl ?_
   refine eg 73 (.i .i64 ((aq+2):Nat)) rfl rfl cB ?_
   repeat refine ab rfl ?_
   refine mU (l:=k7) _ (mO _ (Nat.mod_lt (u/100/100) (by decide))).1 ?_;refine kI ?_;refine mV (UInt8.ofNat (48+(u/100/100)%100/10)) ?_
   repeat refine bd 83 rfl ?_
   refine eg 83 (.i .i64 ((aq+1:Nat):Int)) rfl rfl cB ?_
   repeat refine bd 88 rfl ?_
   refine eg 88 (.i .u32 ((2*((u/100/100/100)%100)+1:Nat):Int)) rfl rfl (congrArg (fun n:Nat=>al.i .u32 (n:Int)) (ug (u/100/100/100))) ?_;refine mU (l:=k7) _ (mO _ (Nat.mod_lt (u/100/100/100) (by decide))).2.1 ?_;refine kI ?_;refine mV (UInt8.ofNat (48+(u/100/100/100)%100%10)) ?_
   repeat refine bd 86 rfl ?_
   refine eg 86 (.i .i64 (aq:Nat)) rfl rfl cB ?_
   repeat refine ab rfl ?_
   refine mU (l:=k7) _ (mO _ (Nat.mod_lt (u/100/100/100) (by decide))).1 ?_;refine kI ?_;refine mV (UInt8.ofNat (48+(u/100/100/100)%100/10)) ?_
   repeat refine ab rfl ?_
   exact b0 [0] (aq,_,u/100/100/100/100) ⟨by show aq<aq+8;omega,d4⟩ (cT ⟨rfl,congrArg (fun n:Nat=>some (al.i .u64 (n:Int))) (show u/100000000=u/100/100/100/100 by rw[Nat.div_div_eq_div_mul,Nat.div_div_eq_div_mul,Nat.div_div_eq_div_mul]),eS,trivial⟩ ⟨_,rfl,rfl,fun _=>rfl⟩ (hp:=by show pinned i1.length _ _=_;rw[ag];rfl))
  ·repeat refine ab rfl ?_
   exact b0 [0] (i,l,u) ⟨ha,by omega⟩ (cT ⟨rfl,rfl,rfl,trivial⟩ ⟨_,rfl,rfl,fun _=>rfl⟩ (hp:=by show pinned i1.length _ _=_;rw[ag];rfl))
 rintro⟨i,l,u⟩ ⟨ha,fG⟩;have ha:iX n dr i l u:=ha;have fG:i<8:=fG;have hu:u<=n:=by rw[ha.u];exact Nat.div_le_self _ _
 repeat refine ab rfl ?_
 refine aH 12 (.i .u32 (u:Nat)) rfl ff ?_;refine hk (L:=Nat×List UInt8×Nat) (fun(i,l,u)=>iX n dr i l u∧i<4∧u<=n) (fun(i,l,u)=>⟨[.a 369 false 1 UInt8 jP l],1,[(0,.bH 0 1 0 dr 24),(12,.i .u32 (u:Nat)),(4,.i .i64 (i:Nat))]⟩) ?_ ?_
 ·refine cu (fun aC=> ?_) (fun aC=> ?_)
  ·obtain⟨aq,rfl⟩:∃aq,i=aq+4:=⟨i-4,by omega⟩;have d1:=iX.two (i:=aq+2) ha (by omega);have d2:=iX.two (i:=aq) d1 (by omega);have gi:=ha.len;have lu:u<1000000000:=by omega
   have OM:=ha.le
   repeat refine bd 103 rfl ?_
   refine aH 103 (.i .u32 ((u/10000:Nat):Int)) rfl (congrArg (fun n:Nat=>al.i .u32 (n:Int)) (HB lu).1) ?_
   repeat refine bd 106 rfl ?_
   refine aH 106 (.i .u32 ((2*(u/100%100):Nat):Int)) rfl (congrArg (fun n:Nat=>al.i .u32 (n:Int)) (HB lu).2.1) ?_
   repeat refine bd 109 rfl ?_
   refine aH 109 (.i .u32 ((2*(u%100):Nat):Int)) rfl (congrArg (fun n:Nat=>al.i .u32 (n:Int)) (HB lu).2.2) ?_
   repeat refine bd 112 rfl ?_
   refine eg 112 (.i .i64 (((aq+2)+1:Nat):Int)) rfl rfl cB ?_
   repeat refine bd 117 rfl ?_
   refine eg 117 (.i .u32 ((2*(u%100)+1:Nat):Int)) rfl rfl (congrArg (fun n:Nat=>al.i .u32 (n:Int)) (ug u)) ?_;refine mU (l:=k7) _ (mO _ (Nat.mod_lt u (by decide))).2.1 ?_;refine kI ?_;refine mV (UInt8.ofNat (48+u%100%10)) ?_
   repeat refine bd 115 rfl ?_
   refine eg 115 (.i .i64 ((aq+2):Nat)) rfl rfl cB ?_
   repeat refine ab rfl ?_
   refine mU (l:=k7) _ (mO _ (Nat.mod_lt u (by decide))).1 ?_;refine kI ?_;refine mV (UInt8.ofNat (48+u%100/10)) ?_
   repeat refine bd 125 rfl ?_
   refine eg 125 (.i .i64 ((aq+1:Nat):Int)) rfl rfl cB ?_
   repeat refine bd 130 rfl ?_
   refine eg 130 (.i .u32 ((2*((u/100)%100)+1:Nat):Int)) rfl rfl (congrArg (fun n:Nat=>al.i .u32 (n:Int)) (ug (u/100))) ?_;refine mU (l:=k7) _ (mO _ (Nat.mod_lt (u/100) (by decide))).2.1 ?_;refine kI ?_;refine mV (UInt8.ofNat (48+(u/100)%100%10)) ?_
   repeat refine bd 128 rfl ?_
   refine eg 128 (.i .i64 (aq:Nat)) rfl rfl cB ?_
   repeat refine ab rfl ?_
   refine mU (l:=k7) _ (mO _ (Nat.mod_lt (u/100) (by decide))).1 ?_;refine kI ?_;refine mV (UInt8.ofNat (48+(u/100)%100/10)) ?_
   repeat refine ab rfl ?_
   exact b0 [0] (aq,_,u/100/100) ⟨d2,by show aq<4;omega,Nat.le_trans (Nat.div_le_self _ _) (Nat.le_trans (Nat.div_le_self _ _) hu)⟩ (cT ⟨rfl,congrArg (fun n:Nat=>some (al.i .u32 (n:Int))) (show u/10000=u/100/100 by rw[Nat.div_div_eq_div_mul]),eS,trivial⟩ ⟨_,rfl,rfl,fun _=>rfl⟩ (hp:=by show pinned i1.length _ _=_;rw[ag];rfl))
  ·repeat refine ab rfl ?_
   exact b0 [0] (i,l,u) ⟨ha,by show i<4;omega,hu⟩ (cT ⟨rfl,rfl,rfl,trivial⟩ ⟨_,rfl,rfl,fun _=>rfl⟩ (hp:=by show pinned i1.length _ _=_;rw[ag];rfl))
 rintro⟨i,l,u⟩ ⟨ha,aC,hu⟩;have ha:iX n dr i l u:=ha;have aC:i<4:=aC
 repeat refine ab rfl ?_
 refine hk (L:=Nat×List UInt8×Nat) (fun(i,l,u)=>iX n dr i l u∧i<2∧u<=n) (fun(i,l,u)=>⟨[.a 369 false 1 UInt8 jP l],1,[(0,.bH 0 1 0 dr 24),(12,.i .u32 (u:Nat)),(4,.i .i64 (i:Nat))]⟩) ?_ ?_
 ·refine cu (fun U=> ?_) (fun U=> ?_)
  ·obtain⟨aq,rfl⟩:∃aq,i=aq+2:=⟨i-2,by omega⟩;have d1:=iX.two (i:=aq) ha (by omega);have gi:=ha.len;have lu:u<1000000000:=by omega
   have OM:=ha.le
   repeat refine bd 142 rfl ?_
   refine aH 142 (.i .u32 ((2*(u%100):Nat):Int)) rfl (congrArg (fun n:Nat=>al.i .u32 (n:Int)) (NU lu).1) ?_
   repeat refine bd 144 rfl ?_
   refine aH 144 (.i .u32 ((u/100:Nat):Int)) rfl (congrArg (fun n:Nat=>al.i .u32 (n:Int)) (NU lu).2) ?_
   repeat refine bd 147 rfl ?_
   refine eg 147 (.i .i64 ((aq+1:Nat):Int)) rfl rfl cB ?_
   repeat refine bd 152 rfl ?_
   refine eg 152 (.i .u32 ((2*(u%100)+1:Nat):Int)) rfl rfl (congrArg (fun n:Nat=>al.i .u32 (n:Int)) (ug u)) ?_;refine mU (l:=k7) _ (mO _ (Nat.mod_lt u (by decide))).2.1 ?_;refine kI ?_;refine mV (UInt8.ofNat (48+u%100%10)) ?_
   repeat refine bd 150 rfl ?_
   refine eg 150 (.i .i64 (aq:Nat)) rfl rfl cB ?_
   repeat refine ab rfl ?_
   refine mU (l:=k7) _ (mO _ (Nat.mod_lt u (by decide))).1 ?_;refine kI ?_;refine mV (UInt8.ofNat (48+u%100/10)) ?_
   repeat refine ab rfl ?_
   exact b0 [0] (aq,_,u/100) ⟨d1,by show aq<2;omega,Nat.le_trans (Nat.div_le_self _ _) hu⟩ (cT ⟨rfl,rfl,eS,trivial⟩ ⟨_,rfl,rfl,fun _=>rfl⟩ (hp:=by show pinned i1.length _ _=_;rw[ag];rfl))
  ·repeat refine ab rfl ?_
   exact b0 [0] (i,l,u) ⟨ha,by show i<2;omega,hu⟩ (cT ⟨rfl,rfl,rfl,trivial⟩ ⟨_,rfl,rfl,fun _=>rfl⟩ (hp:=by show pinned i1.length _ _=_;rw[ag];rfl))
 rintro⟨i,l,u⟩ ⟨ha,U,hu⟩;have ha:iX n dr i l u:=ha;have U:i<2:=U;have gi:=ha.len
 repeat refine ab rfl ?_
 refine cu (fun J=> ?_) (fun J=> ?_)
 ·have he:i=1:=by omega
  subst he;have lu:u<10:=by
   rw[ha.u];refine Nat.div_lt_of_lt_mul ?_;have:=CV (b:=10) (n:=n) (k:=dr) (by decide) (by omega)
   rwa [show dr=(dr-1)+1 by omega,Nat.pow_succ]at this
  have aA:=ha.one lu
  repeat refine bd 164 rfl ?_
  refine aH 164 (.i .u32 ((48+u:Nat):Int)) rfl (congrArg (fun n:Nat=>al.i .u32 (n:Int)) (show(48+u)%4294967296=48+u by omega)) ?_
  repeat refine bd 165 rfl ?_
  refine aH 165 (.i .u8 ((UInt8.ofNat (48+u)).toNat:Int)) rfl (by rw[UInt8.toNat_ofNat']) ?_;refine lH (j:=0) ?_;refine j9 (UInt8.ofNat (48+u)) ?_
  repeat refine ab rfl ?_
  exact a1 ⟨.inl rfl,_,rfl,by
   repeat refine ab rfl ?_
   refine gH (KW (p:=0) (q:=dr) rfl rfl rfl ⟨_,rfl⟩ (Nat.zero_le _) (by omega) (.inr rfl)) ?_;refine aH 23 (.bH 0 1 0 dr 24) rfl (by simp) ?_;refine Kw (dU n) ?_ (hn:=by rw[aA.len];omega) (hl:=aA.fin kn jI (by omega))
   repeat refine ab rfl ?_
   exact a1 (a6 rfl rfl (.refl _))⟩
 ·have he:i=0:=by omega
  subst he;have aA:=ha
  repeat refine ab rfl ?_
  exact a1 ⟨.inl rfl,_,rfl,by
   repeat refine ab rfl ?_
   refine gH (KW (p:=0) (q:=dr) rfl rfl rfl ⟨_,rfl⟩ (Nat.zero_le _) (by omega) (.inr rfl)) ?_;refine aH 23 (.bH 0 1 0 dr 24) rfl (by simp) ?_;refine Kw (dU n) ?_ (hn:=by rw[aA.len];omega) (hl:=aA.fin kn jI (by omega))
   repeat refine ab rfl ?_
   exact a1 (a6 rfl rfl (.refl _))⟩
def Eu:cn where
 L:=Nat
 args:=fun k=>[.i .u64 1,.i .u64 k]
 pre:=fun k=>k<9
 res:=fun k=>.b5 [.i .u64 0,.i .u64 k]
theorem PZ{k:Nat}(h:k<9):k=0∨k=1∨k=2∨k=3∨k=4∨k=5∨k=6∨k=7∨k=8:=by omega
theorem ahZ:ca aN.ctx 336 Eu.spec:=by
 refine cz [] f336 ?_;intro(k:Nat) (ae:k<9) H a4;rcases PZ ae with rfl|rfl|rfl|rfl|rfl|rfl|rfl|rfl|rfl
 all_goals
  repeat refine ab rfl ?_
  exact a1 (a6 rfl rfl (.refl _))
theorem ah1:ca aN.ctx 267 Eu.spec:=by
 refine cz [(336,Eu.spec)] f267 ?_;intro(k:Nat) (ae:k<9) H a4
 repeat refine ab rfl ?_
 refine bm ahZ k ae ?_
 repeat refine ab rfl ?_
 exact a1 (a6 rfl rfl (.refl _))
def DT:cn where
 L:=UInt8×List UInt8×UInt8
 args:=fun(a,t,c)=>[.s (a::t),.s [c]]
 pre:=fun(a,t,c)=>t.length<=1073741824
 res:=fun(a,t,c)=>.b ([a]==[c])
theorem abu:ca aN.ctx 172 DT.spec:=by
 refine cz [] f172 ?_;intro⟨a,t,c⟩ (aX:t.length<=_) H a4
 repeat refine bd 10 rfl ?_
 refine aH 10 (.b true) rfl (by simp;omega) ?_
 repeat refine ab rfl ?_
 refine pS (p:=0) (q:=1) [a] ?_ (hq:=by simp)
 repeat refine ab rfl ?_
 exact a1 (a6 rfl rfl (.refl _))
theorem It:ca aN.ctx 213 DT.spec:=by
 refine cz [(172,DT.spec)] f213 ?_;intro⟨a,t,c⟩ (aX:t.length<=_) H a4
 repeat refine ab rfl ?_
 refine bm abu (a,t,c) aX ?_
 repeat refine ab rfl ?_
 exact a1 (a6 rfl rfl (.refl _))
def Sk:cn where
 L:=Nat
 args:=fun k=>[.s [48],.i .i64 k]
 pre:=fun k=>k<9
 res:=fun k=>.s (List.replicate k 48)
theorem Sl:ca aN.ctx 154 Sk.spec:=by
 refine cz [(267,Eu.spec),(213,DT.spec)] f154 ?_;intro(k:Nat) (ae:k<9) H a4;rcases PZ ae with rfl|rfl|rfl|rfl|rfl|rfl|rfl|rfl|rfl
 ·repeat refine ab rfl ?_
  exact a1 (a6 rfl rfl (.refl _))
 ·repeat refine ab rfl ?_
  exact a1 (a6 rfl rfl (.refl _))
 all_goals
  repeat refine ab rfl ?_
  refine bm ah1 _ ae ?_
  repeat refine ab rfl ?_
  refine lI 48 (j:=0) rfl ?_
  repeat refine ab rfl ?_
  refine bm It (32,List.replicate 127 32,48) (jk rfl) ?_
  repeat refine ab rfl ?_
  refine bm It (45,List.replicate 127 45,48) (jk rfl) ?_
  repeat refine ab rfl ?_
  refine bm It (48,List.replicate 63 48,48) (jk rfl) ?_
  repeat refine ab rfl ?_
  refine pS (p:=0) (l:=List.replicate 64 48) _ ?_ (hl:=rfl) (hq:=by decide)
  repeat refine ab rfl ?_
  exact a1 (a6 rfl rfl (.refl _))
