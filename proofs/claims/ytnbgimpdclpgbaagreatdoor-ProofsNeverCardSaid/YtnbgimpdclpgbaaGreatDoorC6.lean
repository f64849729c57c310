/- What the functions of the program and of the document compute, for every input, and the plain laws of it (part 6); conditions as in the statements. -/
import Derived.Test.YtnbgimpdclpgbaaGreatDoorC5
import Derived.Test.YtnbgimpdclpgbaaGreatDoorS3
import Derived.Test.YtnbgimpdclpgbaaGreatDoorC3
import Derived.Test.YtnbgimpdclpgbaaGreatDoorZ
noncomputable section
set_option linter.all false
namespace Go.bA.c3
open Go.bA
set_option maxRecDepth 100000
set_option maxHeartbeats 4000000
def nn(l:ac n0):Nat:=(l.map λx=>x.bg.length+x.af.length).sum
def lH(l:ac gD):Nat:=(l.map λn=>n.v.length).sum
def vj(p:ec):Prop:=100<(p.bO.length:Int)\/100<(p.ins.length:Int)\/100<(p.bQ.length:Int)\/100<(p.hr.length:Int)\/2000<((nn p.ins+lH p.bQ:Nat):Int)
instance(p:ec):Decidable (vj p):=by unfold vj;infer_instance
def zV(p:ec):Prop:=(∀x∈p.ins,x.bg.length<=140737488355328/\x.af.length<=140737488355328)/\∀n∈p.bQ,n.v.length<=140737488355328
def HL:bl where
 L:=ec
 args:=λp=>[jC p]
 pre:=zV
 res:=λp=>.b<|decide (vj p)
def aqi:bt 129 HL:=by
 refine bR [] SU.1 ?_;intro(p:ec) ⟨s,t⟩ H au;have e:vj p->bJ (.b true) (HL.res p):=λh=>.of<|bK (ck h).symm;have no:¬vj p->bJ (.b false) (HL.res p):=λh=>.of<|bK (cq h).symm;refine I 13 ?_;by_cases m:100<(p.bO.length:Int)
 ·exact v1 9 m<|I 28<|an (az j j<|e<|.inl m)
 refine v0 9 m<|I 9 ?_;by_cases o:100<(p.ins.length:Int)
 ·exact v1 14 o<|I 23<|an (az j j<|e<|.inr<|.inl o)
 refine v0 14 o<|I 10 ?_;by_cases g:100<(p.bQ.length:Int)
 ·exact v1 20 g<|I 17<|an (az j j<|e<|.inr<|.inr<|.inl g)
 refine v0 20 g<|I 10 ?_;by_cases f:100<(p.hr.length:Int)
 ·exact v1 26 f<|I 11<|an (az j j<|e<|.inr<|.inr<|.inr<|.inl f)
 refine v0 26 f<|I 18<|eA (L:=Nat×Nat) (λ(k,a)=>k<=p.ins.length/\a<=300000000000000*k/\a+nn (p.ins.drop k)=nn p.ins) (λ(k,a)=>⟨[.c 27<|iB p],1,[(1,.p 0 0),(3,.aa (a:Int)),(4,.aa (k:Int))]⟩) (λq=>p.ins.length-q.1) [0] (0,0) ⟨dw _,dw _,iE _⟩ ?_;rintro⟨k,a⟩ ⟨w,u,d⟩;refine I 8 ?_;by_cases aT:k<p.ins.length
 ·refine dd 32 ?_;obtain⟨r,x⟩:=s _<|dx aT;rw[gp aT]at d;have d:a+((p.ins[k].bg.length+p.ins[k].af.length)+nn (p.ins.drop<|k+1))=nn p.ins:=d;exact I 12<|ks p.ins[k] (a0 aT) j<|I 4 (ww 43 ((a+p.ins[k].bg.length:Nat):Int)<|I 3<|ks p.ins[k] (a0 aT) j<|I 4 (ww 51 ((a+p.ins[k].bg.length+p.ins[k].af.length:Nat):Int)<|I 7<|cd 34 ((k+1:Nat):Int)<|I 2<|h4 [0] (k+1,a+p.ins[k].bg.length+p.ins[k].af.length) ⟨aT,R,R⟩))
 refine c2 32 ?_;rw[mh R]at d;have d:a=nn p.ins:=d;have y:nn p.ins<=30000000000000000:=R
 rw[d];refine I 15<|eA (L:=Nat×Nat) (λ(k,a)=>k<=p.bQ.length/\a<=30000000000000000+300000000000000*k/\a+lH (p.bQ.drop k)=nn p.ins+lH p.bQ) (λ(k,a)=>⟨[.c 27<|iB p],1,[(1,.p 0 0),(3,.aa (a:Int)),(5,.aa (k:Int))]⟩) (λq=>p.bQ.length-q.1) [0] (0,nn p.ins) ⟨dw _,R,j⟩ ?_;rintro⟨k,a⟩ ⟨w,u,d⟩;refine I 8 ?_;by_cases aT:k<p.bQ.length
 ·refine dd 56 ?_;have r:=t _<|dx aT;rw[gp aT]at d;have d:a+(p.bQ[k].v.length+lH (p.bQ.drop<|k+1))=nn p.ins+lH p.bQ:=d;exact I 12<|fc p.bQ[k] (a0 aT) j<|I 4<|cd 67 ((a+p.bQ[k].v.length:Nat):Int)<|I 7<|cd 58 ((k+1:Nat):Int)<|I 2<|h4 [0] (k+1,a+p.bQ[k].v.length) ⟨aT,R,R⟩
 refine c2 56 ?_;rw[mh R]at d;have d:a=nn p.ins+lH p.bQ:=d;rw[d];refine I 12 ?_;by_cases i:2000<((nn p.ins+lH p.bQ:Nat):Int)
 ·exact v1 69 i<|I 4<|an (az j j<|e<|.inr<|.inr<|.inr<|.inr i)
 ·exact v0 69 i<|I 4<|an (az j j<|no λh=>h.elim m λh=>h.elim o λh=>h.elim g λh=>h.elim f i)
theorem H':∀{l:ac n0} {x:n0},x∈l->x.bg.length+x.af.length<=nn l
 |y::l,x,h=>by
  show _<=(y.bg.length+y.af.length)+nn l;rcases e1.1 h with rfl|h
  ·omega
  ·have:=H' h;omega
theorem I':∀{l:ac gD} {x:gD},x∈l->x.v.length<=lH l
 |y::l,x,h=>by
  show _<=y.v.length+lH l;rcases e1.1 h with rfl|h
  ·omega
  ·have:=I' h;omega
def J'{p:ec}(h:¬vj p):xB p:=by
 have c:¬2000<((nn p.ins+lH p.bQ:Nat):Int):=λb=>h<|.inr<|.inr<|.inr<|.inr b;exact⟨λx a=>by have:=H' a;omega,λn ah=>by have:=I' ah;omega⟩
def vk(p:ec):Int:=if(ez p).2.2=0 then 7 else(ez p).2.2
def K':bl where
 L:=ec
 args:=λp=>[jC p,.aa<|-1]
 pre:=xB
 res:=λp=>.bq [.aa 0,.aa<|vk p]
def aqj:bt 130 K':=by
 refine bR [(35,G')] U5.1 ?_;intro p hp H au;refine I 10<|aV aqh p hp<|aP 8 (.aa (ez p).2.2) j j<|I 8 ?_;by_cases a:(ez p).2.2=0
 ·exact dd 10<|I 5<|dd 13<|I 19<|dd 20<|I 12<|an (az j j (.of<|by show _=ag.bq [.aa 0,.aa<|vk p];unfold vk;rw[aE a]))
 ·exact c2 10<|I 18<|dd 20<|I 12<|an (az j j (.of<|by show _=ag.bq [.aa 0,.aa<|vk p];unfold vk;rw[aw a]))
def ts(p:ec):Prop:=vj p\/400<(lH p.bQ:Int)
variable{k n:Nat}{α:Type}{p:ec}{bL:ac fo}{l:ac α}
instance(p:ec):Decidable (ts p):=by unfold ts;infer_instance
def HM:bl where
 L:=ec
 args:=λp=>[.agg<|iB p++[.nl,.aa<|-1]]
 pre:=zV
 res:=λp=>.b<|decide (ts p)
theorem aqk:bt 68 HM:=by
 refine bR [(129,HL),(130,K')] Ua.1 ?_;intro(p:ec) hp H au;have i:ts p->bJ (.b true) (HM.res p):=λh=>.of<|bK (ck h).symm;have no:¬ts p->bJ (.b false) (HM.res p):=λh=>.of<|bK (cq h).symm;refine I 11<|aV aqi p hp ?_;by_cases e:vj p
 ·exact cg 10 (bK<|ck e)<|I 16<|an (az j j<|i<|.inl e)
 refine cg 10 (bK<|cq e) ?_;have g:=J' e;have t:¬100<(p.bQ.length:Int):=λh=>e<|.inr<|.inr<|.inl h;refine I 9<|v0 15 (show¬(20:Int)<0 by decide)<|I 18<|eA (L:=Nat×Nat) (λ(k,a)=>k<=p.bQ.length/\a<=2000*k/\a+lH (p.bQ.drop k)=lH p.bQ) (λ(k,a)=>⟨[.c 137<|iB p++[ag.nl,ag.aa<|-1]],1,[(1,.p 0 0),(3,.aa (a:Int)),(4,.aa (k:Int))]⟩) (λq=>p.bQ.length-q.1) [0] (0,0) ⟨dw _,dw _,iE _⟩ ?_;rintro⟨k,a⟩ ⟨s,r,d⟩;refine I 9 ?_;by_cases aT:k<p.bQ.length
 ·refine dd 22 ?_;have o:=g.2 _<|dx aT;rw[gp aT]at d;have d:a+(p.bQ[k].v.length+lH (p.bQ.drop<|k+1))=lH p.bQ:=d;exact I 13<|fc p.bQ[k] (a0 aT) j<|I 4<|cd 34 ((a+p.bQ[k].v.length:Nat):Int)<|I 7<|cd 24 ((k+1:Nat):Int)<|I 2<|h4 [0] (k+1,a+p.bQ[k].v.length) ⟨aT,R,R⟩
 refine c2 22 ?_;rw[mh R]at d;have d:a=lH p.bQ:=d;rw[d];refine I 15<|eA (L:=Unit) (λ_=>True) (λ_=>⟨[.c 137<|iB p++[ag.nl,ag.aa<|-1]],1,[(1,.p 0 0),(3,.aa (lH p.bQ:Int)),(5,.aa 0)]⟩) (λ_=>0) [0] () aC ?_;intro _ _;refine I 8<|v0 39 (show¬(0:Int)<0 by decide)<|I 13 ?_;by_cases f:400<(lH p.bQ:Int)
 ·exact v1 50 f<|I 10<|an (az j j<|i<|.inr f)
 refine v0 50 f ?_;have m:¬vk p=0:=by
  unfold vk;split
  ·decide
  ·assumption
 exact I 11<|aV aqj p g<|aP 56 (.bq [.aa 0,.aa<|vk p]) j j<|I 11<|v0 60 m<|I 8<|an (az j j<|no λh=>h.elim e f)
def L':bl where
 L:=ec
 args:=λp=>[jC p]
 pre:=zV
 res:=λp=>.b<|decide (ts p)
def aql:bt 18 L':=by
 refine bR [(68,HM)] UP.1 ?_;intro p hp H au;exact I 10<|aV aqk p hp<|I 4<|an (az j j dO)
def wr(n:Int):Int:=IntKind.i64.wrap n
def q3(n:Int)(t:dj):Int:=wr<|wr (wr (n+t.b8.length)+t.eh.length)+1
def mb(n:Int)(s:dR):Int:=(s.dr.take 1000).foldl q3<|wr<|wr (n+s.b8.length)+1
def q4(l:ac dR):Int:=(l.take 1000).foldl mb 0
def q5(s:dR):Bool:=decide (60<(s.dr.length:Int))
def pW(l:ac dR):Bool:= !((l.take 31).any q5)&&decide ((l.length:Int)<=30)
def HN(h:k<l.length)(ah:k<n):(l.take n).drop k=l[k]::(l.take n).drop (k+1):=by
 have a:k<(l.take n).length:=by rw[iF];omega
 rw[vn a,List.getElem_take]
def vl(h:¬(k<l.length/\k<n)):(l.take n).drop k=[]:=mh<|by rw[iF];omega
def aqm(h:k<l.length):l≠[]:=λe=>by rw[e]at h;exact p2 _ h
def M':bl:=b3 λ(l:ac dR)=>([.c6 3 dR k6 l],True,.b<|pW l)
def aqn:bt 20 M':=by
 refine bR [] Tf.1 ?_;intro(l:ac dR) _ H au;refine I 12<|eA (L:=Nat) (λk=>((l.take 31).drop k).any q5=(l.take 31).any q5) (λ(k:Nat)=>⟨[],0,[(0,.c6 3 dR k6 l),(3,.aa (k:Int))]⟩) (λk=>31-k) [] 0 j ?_;rintro(k:Nat) a;refine I 7 ?_;by_cases aT:k<l.length
 ·refine dd 7<|I 5 ?_;by_cases d:k<31
  ·refine dd 10 ?_;rw[HN aT d]at a;have a:(q5 l[k]||((l.take 31).drop<|k+1).any q5)=(l.take 31).any q5:=a;refine I 12<|wX l[k] (a0 aT) j<|I 4 ?_;by_cases hp:60<(l[k].dr.length:Int)
   ·refine v1 20 hp ?_;have c:q5 l[k]=true:=ck hp;rw[c,Bool.true_or]at a;exact I 14<|an (az j j (.of<|by show ag.b false= .b (pW l);unfold pW;rw[<-a];rfl))
   ·refine v0 20 hp ?_;have c:q5 l[k]=false:=cq hp;rw[c,Bool.false_or]at a;exact I 9<|cd 13 ((k+1:Nat):Int)<|I 2<|h4 [] (k+1) a
  ·refine c2 10 ?_;rw[vl R]at a;have a:false=(l.take 31).any q5:=a;exact I 18<|an (az j j (.of<|by show ag.b (decide ((l.length:Int)<=30))= .b (pW l);unfold pW;rw[<-a];rfl))
 ·refine c2 7 ?_;rw[vl R]at a;have a:false=(l.take 31).any q5:=a;exact I 21<|an (az j j (.of<|by show ag.b (decide ((l.length:Int)<=30))= .b (pW l);unfold pW;rw[<-a];rfl))
def N':bl:=b3 λ(l:ac dR)=>([.c6 3 dR k6 l],True,.aa<|q4 l)
def aqo:bt 21 N':=by
 refine bR [] Tg.1 ?_;intro(l:ac dR) _ H au;refine I 17<|eA (L:=Nat×Int) (λ(k,n)=>((l.take 1000).drop k).foldl mb n=q4 l) (λ(k,n)=>⟨[],0,[(0,.c6 3 dR k6 l),(3,.aa n),(4,.aa (k:Int))]⟩) (λq=>1000-q.1) [] (0,0) j ?_;rintro⟨k,n⟩ b;have fin:((l.take 1000).drop k=[])->n=q4 l:=λh=>by
  have b:((l.take 1000).drop k).foldl mb n=q4 l:=b;rw[h]at b;exact b
 refine I 7 ?_;by_cases aT:k<l.length
 ·refine dd 9<|I 5 ?_;by_cases e:k<1000
  ·refine dd 12 ?_;have b:((l.take 1000).drop k).foldl mb n=q4 l:=b;rw[HN aT e]at b;have b:((l.take 1000).drop<|k+1).foldl mb (mb n l[k])=q4 l:=b;refine I 13<|wX l[k] (a0 aT) j<|I 14<|eA (L:=Nat×Int) (λ(a,m)=>((l[k].dr.take 1000).drop a).foldl q3 m=mb n l[k]) (λ(a,m)=>⟨[],0,[(0,.c6 3 dR k6 l),(3,.aa m),(4,.aa (k:Int)),(5,.aa (a:Int))]⟩) (λq=>1000-q.1) [] (0,wr<|wr (n+l[k].b8.length)+1) j ?_;rintro⟨a,m⟩ c;have c:((l[k].dr.take 1000).drop a).foldl q3 m=mb n l[k]:=c;have up:((l[k].dr.take 1000).drop a=[])->m=mb n l[k]:=λh=>by rw[h]at c;exact c
   refine I 6<|wX l[k] (a0 aT) j<|I 4 ?_;by_cases d:a<l[k].dr.length
   ·refine dd 32<|I 5 ?_;by_cases f:a<1000
    ·refine dd 35 ?_;rw[HN d f]at c;have c:((l[k].dr.take 1000).drop<|a+1).foldl q3 (q3 m l[k].dr[a])=mb n l[k]:=c;exact I 12<|B2 l[k] (a0 aT) j<|I 3<|B2 l[k].dr[a] (a0 d) j<|I 6<|B2 l[k] (a0 aT) j<|I 3<|B2 l[k].dr[a] (a0 d) j<|I 12<|cd 38 ((a+1:Nat):Int)<|I 2<|h4 [] (a+1,q3 m l[k].dr[a]) c
    ·refine c2 35 ?_;rw[up<|vl R];exact I 13<|cd 15 ((k+1:Nat):Int)<|I 2<|h4 [] (k+1,mb n l[k]) b
   ·refine c2 32 ?_;rw[up<|vl R];exact I 16<|cd 15 ((k+1:Nat):Int)<|I 2<|h4 [] (k+1,mb n l[k]) b
  ·refine c2 12 ?_;rw[fin<|vl R];exact I 16<|an (az j j dO)
 ·refine c2 9 ?_;rw[fin<|vl R];exact I 19<|an (az j j dO)
def np(s:fo):Bool:=decide (300<(s.1.length:Int))||decide (300<(s.2.length:Int))
def pX(l:ac fo):Bool:= !((l.take 21).any np)&&decide ((l.length:Int)<=20)
def NN:bl:=b3 λ(l:ac fo)=>([.c6 2 fo si l],True,.b<|pX l)
def aqp:bt 19 NN:=by
 refine bR [] Te.1 ?_;intro(l:ac fo) _ H au;refine I 12<|eA (L:=Nat) (λk=>((l.take 21).drop k).any np=(l.take 21).any np) (λ(k:Nat)=>⟨[],0,[(0,.c6 2 fo si l),(3,.aa (k:Int))]⟩) (λk=>21-k) [] 0 j ?_;rintro(k:Nat) a;refine I 7 ?_;by_cases aT:k<l.length
 ·refine dd 7<|I 5 ?_;by_cases e:k<21
  ·refine dd 10 ?_;rw[HN aT e]at a;have a:(np l[k]||((l.take 21).drop<|k+1).any np)=(l.take 21).any np:=a;have bad:np l[k]=true->bJ (.b false) (NN.res l):=λd=>by
    rw[d,Bool.true_or]at a;exact .of<|by show ag.b false= .b (pX l);unfold pX;rw[<-a];rfl
   refine I 12<|wX l[k] (a0 aT) j<|I 4 ?_;by_cases hp:300<(l[k].1.length:Int)
   ·exact v1 20 hp<|I 23<|an (az j j (bad<|by unfold np;rw[ck hp];rfl))
   ·refine v0 20 hp<|I 6<|wX l[k] (a0 aT) j<|I 8 ?_;by_cases c:300<(l[k].2.length:Int)
    ·exact v1 28 c<|I 15<|an (az j j (bad<|by unfold np;rw[ck c,Dx]))
    ·refine v0 28 c ?_;have d:np l[k]=false:=by unfold np;rw[cq hp,cq c];rfl
     rw[d,Bool.false_or]at a;exact I 10<|cd 13 ((k+1:Nat):Int)<|I 2<|h4 [] (k+1) a
  ·refine c2 10 ?_;rw[vl R]at a;have a:false=(l.take 21).any np:=a;exact I 18<|an (az j j (.of<|by show ag.b (decide ((l.length:Int)<=20))= .b (pX l);unfold pX;rw[<-a];rfl))
 ·refine c2 7 ?_;rw[vl R]at a;have a:false=(l.take 21).any np:=a;exact I 21<|an (az j j (.of<|by show ag.b (decide ((l.length:Int)<=20))= .b (pX l);unfold pX;rw[<-a];rfl))
def xE:ec×ac fo×ac dR->ac ag:=λ(p,bL,l)=>iB p++[.c6 2 fo si bL,.c6 3 dR k6 l]
def tt:ec×ac fo×ac dR->Bool:=λ(p,bL,l)=>decide (ts p)|| !pX bL|| !pW l||decide (3000<q4 l)
def NO:bl:=b3 λ(x:ec×ac fo×ac dR)=>([.agg<|xE x],zV x.1,.b<|tt x)
def aqq:bt 5 NO:=by
 refine bR [(18,L'),(19,NN),(20,M'),(21,N')] cX.1 ?_;intro⟨p,bL,l⟩ (hp:zV p) H au;have e:tt (p,bL,l)=true->bJ (.b true) (NO.res (p,bL,l)):=λh=>.of<|bK h.symm;refine I 10<|aV aql p hp ?_;by_cases c:ts p
 ·exact v1 5 c<|I 22<|an (az j j (e<|by unfold tt;dsimp only;rw[ck c];rfl))
 refine v0 5 c<|I 6<|aV aqp bL aC ?_;cases d:pX bL with
 |false=>
  exact aP 9 (.b false) j (bK d)<|I 19<|an (az j j (e<|by unfold tt;dsimp only;rw[d,C4,Dx];rfl))
 |true=>
 refine aP 9 (.b true) j (bK d)<|I 9<|aV aqn l aC ?_;cases a:pW l with
 |false=>
  exact aP 15 (.b false) j (bK a)<|I 13<|an (az j j (e<|by unfold tt;dsimp only;rw[a,C4,Dx];rfl))
 |true=>
 exact aP 15 (.b true) j (bK a)<|I 9<|aV aqo l aC<|I 7<|an (az j j (.of<|by show ag.b (decide (3000<q4 l))= .b (tt (p,bL,l));unfold tt;dsimp only;rw[d,a,cq c];rfl))
def aqr(w:Rat)(n k:Nat):Rat:=w^k/(eW n k:Rat)
def Ji(bg w:Rat)(n:Nat)(c:Nat->Rat)(i:Nat):Rat:=MQ bg n c i (i+1)*aqr w n i
theorem O'(x:Rat):∀n:Nat,((x.num:Rat))^n=x^n*((x.den:Nat):Rat)^n
 |0=>by simp
 |n+1=>by
  have aF:=O' x n;have a:=MR x
  grind
def aqs(a:Int):∀n:Nat,((a^n:Int):Rat)=(a:Rat)^n
 |0=>by simp
 |n+1=>by push_cast;rfl
def aqt(a:Nat):∀n:Nat,((a^n:Nat):Rat)=(a:Rat)^n
 |0=>by simp
 |n+1=>by push_cast;rfl
theorem P'(x:Rat)(n:Nat):mkRat (x.num^n) (x.den^n)=x^n:=by
 rw[Ao,aqs,O'];have h:(x.den:Rat)^n≠0:=by
  rw[<-aqt];exact Hd<|nv<|kQ x.den_nz
 grind
theorem Q'(a:Int):∀n:Nat,a^n=bu (decide (a<0)&&decide (n%2=1)) (a.natAbs^n)
 |0=>by simp[bu]
 |n+1=>by
  have h:(decide (a<0)&&decide ((n+1)%2=1))=((decide (a<0)&&decide (n%2=1)) != decide (a<0)):=by grind
  have b:a=bu (decide (a<0)) a.natAbs:=by
   unfold bu;by_cases h:a<0
   ·rw[ck h,aE j];omega
   ·rw[cq h,aw al];omega
  rw[Int.pow_succ,h,fD,MS,<-Q' a n,<-b]
theorem CY{a k:Nat}(h:dP k a):∀n,dP (k*n+1) (a^n)
 |0=>by rw[xV,tA];exact sb al
 |n+1=>by
  have:=ka (CY h n) h;exact cP this<|by rw[Nat.mul_succ];omega
def R'{x:Rat}(h:b9 k x):b9 (k*n+1) (x^n):=by
 rw[<-P'];exact nc (by rw[Ij];exact CY h.1 n) (CY h.2 n)<|Dy<|nv<|kQ x.den_nz
def S':bl:=b3 λ((x,n):Rat×Nat)=>([cc x,.aa (n:Int)],b9 1000000 x/\n<=64,.bq [cc<|x^n,.aa 0])
def aqu:bt 67 S':=by
 refine bR [(56,w2),(61,uH),(62,uN),(54,uM)] Tt.1 ?_;intro⟨x,n⟩ ⟨(d:b9 1000000 x),(ah:n<=64)⟩ H au;have f:∀i,i<=n->dP 64000001 (x.num.natAbs^i):=λi af=>cP (CY d.1 i) R;have a:∀i,i<=n->dP 64000001 (x.den^i):=λi af=>cP (CY d.2 i) R;refine I 12<|c2 11<|I 5<|c2 14<|I 11<|c2 18<|I 7<|aV qL (1:Nat) (by show 1<_;decide)<|aV qL (1:Nat) (by show 1<_;decide)<|I 12<|eA (L:=Nat) (λi=>i<=n) (λi=>⟨[.c 45<|gA x,.c 45 [.b false,.nl,.nl]],2,[(1,.aa (n:Int)),(2,.p 0 0),(4,.p 1 0),(8,da<|x.num.natAbs^i),(9,da<|x.den^i),(37,.aa (n:Int)),(38,.aa (i:Int))]⟩) (λi=>n-i) [0,1] 0 (dw _) ?_;rintro(i:Nat) (af:i<=n);refine I 3 ?_;by_cases aT:i<n
 ·exact dd 39<|I 12<|cm s0 (x.num.natAbs^i,x.num.natAbs) ⟨cP<|f i af,cP d.1⟩<|I 1<|cm nW x aC<|I 1<|cm s0 (x.den^i,x.den) ⟨cP<|a i af,cP d.2⟩<|I 7<|cd 48 ((i+1:Nat):Int)<|I 2<|h4 [0,1] (i+1) aT
 ·have q:i=n:=by omega
  subst q;have e:∀b,b=(decide (x.num<0)&&decide (i%2=1))->cc (mkRat (if b=true then -((x.num.natAbs^i:Nat):Int)else((x.num.natAbs^i:Nat):Int))<|x.den^i)=cc (x^i):=λb o=>by
   rw[<-P',Q',<-o];cases b<;>rfl
  refine c2 39<|e4 50 ?_;cases g:decide (x.num<0)with
  |false=>
   exact I 7<|aV oN (false,x.num.natAbs^i,x.den^i) ⟨cP<|f i af,cP<|a i af,Dy<|nv<|kQ x.den_nz⟩<|aP 58 (cc<|x^i) j (e false<|by rw[g];rfl)<|I 5<|an (az j j dO)
  |true=>
   refine I 5<|FF 53 ((i%2:Nat):Int) (I 2 ?_) (h:=j);by_cases m:i%2=1
   ·exact dd 54<|I 3<|aV oN (true,x.num.natAbs^i,x.den^i) ⟨cP<|f i af,cP<|a i af,Dy<|nv<|kQ x.den_nz⟩<|aP 58 (cc<|x^i) j (e true<|by rw[g,ck m];rfl)<|I 5<|an (az j j dO)
   ·exact c2 54<|I 3<|aV oN (false,x.num.natAbs^i,x.den^i) ⟨cP<|f i af,cP<|a i af,Dy<|nv<|kQ x.den_nz⟩<|aP 58 (cc<|x^i) j (e false<|by rw[g,cq m];rfl)<|I 5<|an (az j j dO)
def T':bl:=b3 λ(s:ac ci)=>([.s s],s.length<=1073741824,.aa<|g3 s)
def aqv:bt 50 T':=by
 refine bR [(11,CE)] Lu.1 ?_;intro s a H au;exact I 8<|aV G7 s a<|I 15<|an (az j j dO)
def oV(t:dj):Bool:=decide (g3 t.b8=3)
def U':bl:=b3 λ(l:ac dj)=>([.gb 2 dj iC l],l.length<=1000/\∀t∈l,t.b8.length<=1073741824,.b<|!l.any oV)
def aqw:bt 10 U':=by
 refine bR [(50,T')] pj.1 ?_;intro(l:ac dj) ⟨e,d⟩ H au;refine I 12<|eA (λk=>(l.drop k).any oV=l.any oV) (λ(k:Nat)=>⟨[],0,[(0,.gb 2 dj iC l),(3,.aa k)]⟩) (λk=>l.length-k) [] 0 j ?_;rintro k a;refine I 7 ?_;by_cases aT:k<l.length
 ·refine dd 7 ?_;rw[vn aT]at a;have a:(oV l[k]||(l.drop<|k+1).any oV)=l.any oV:=a;refine I 11<|agt l[k] (a0 aT) j<|I 2<|aV aqv l[k].b8 (d _<|kc aT)<|I 1 ?_;by_cases c:g3 l[k].b8=3
  ·exact dd 16<|I 14<|an (az j j (.of<|by show ag.b false= .b (!l.any oV);rw[<-a,show oV l[k]=true from ck c];rfl))
  ·refine c2 16 ?_;rw[show oV l[k]=false from cq c]at a;exact I 9<|cd 9 ((k+1:Nat):Int)<|I 2<|h4 [] (k+1) a
 ·refine c2 7 ?_;rw[mh R]at a;exact I 14<|an (az j j (.of<|by show ag.b true= .b (!l.any oV);rw[<-a];rfl))
def NP:bl:=b3 λ((f,n,x):Poly×Nat×ac Rat)=>([.gb 2 dj iC<|jU n f,.cU 3 Rat gA x],n<=6/\x.length=n/\f.length<=1000/\(∀p∈f,p.1.le 16/\hy (hc p.2)=some p.2/\(hc p.2).length<=1073741824)/\∀a∈x,b9 1000 a,.bq [cc<|eS x f,.b true])
def aqx{J:Nat}(k:aO)(ah:n<=6)(ba:J<n):(tj n k)[J]? =some ((k.n.getD J 0:Nat):Int):=by
 have a:k.n.length=6:=rfl;unfold tj;rw[vr,n7,aE ba,sq,nq R];rfl
def V'{k:aO}{m:Nat}(h:k.le m)(J:Nat):k.n.getD J 0<=m:=by
 match J with
 |0=>exact h.1
 |1=>exact h.2.1
 |2=>exact h.2.2.1
 |3=>exact h.2.2.2.1
 |4=>exact h.2.2.2.2.1
 |5=>exact h.2.2.2.2.2
 |J+6=>exact dw _
def aqy:bt 16 NP:=by
 refine bR [(59,w4),(11,CE),(67,S'),(15,CG),(13,zt)] SB.1 ?_;intro⟨f,n,x⟩ ⟨(ah:n<=6),(N:x.length=n),(O:f.length<=1000),y,(w:∀d∈x,b9 1000 d)⟩ H au;have y:∀p∈f,p.1.le 16/\hy (hc p.2)=some p.2/\(hc p.2).length<=1073741824:=y;have M:(jU n f).length=f.length:=hz ..;refine I 8<|aV uQ (0:Int) ⟨al,al⟩ ?_;have F:cc (mkRat 0 1)=cc 0:=congrArg cc MP;refine aP 13 (cc 0) j F<|I 11<|eA (L:=Nat×Rat) (λ(i,s)=>i<=f.length/\s+eS x (f.drop i)=eS x f/\b9 (2+i*100000) s) (λ(i,s)=>⟨[.c 45 [.b false,.nl,.nl],.c 45<|gA s],2,[(0,.gb 2 dj iC<|jU n f),(1,.cU 3 Rat gA x),(4,.p 0 0),(5,.b false),(6,.p 1 0),(7,.aa (i:Int))]⟩) (λq=>f.length-q.1) [0,1] (0,0) ⟨dw _,Al _,Y7 R⟩ ?_;rintro⟨i,s⟩ ⟨af,g,m⟩;have af:i<=f.length:=af;have g:s+eS x (f.drop i)=eS x f:=g;have m:b9 (2+i*100000) s:=m;refine I 7 ?_;by_cases aT:i<f.length
 case neg=>
  refine c2 17 ?_;rw[mh R]at g;have g:s=eS x f:=by rw[<-g];exact(Dv _).symm
  exact I 16<|an (az j j (.of<|by show ag.bq [cc s,.b true]= .bq [cc<|eS x f,.b true];rw[g]))
 refine dd 17 ?_;have r:(jU n f)[i]? =some (oU n f[i]):=by unfold jU;rw[vr,nq aT];rfl
 have hm:=y _<|kc aT;rw[apS aT]at g;obtain⟨p,hp⟩:∃p,p=f[i]:=dC;rw[<-hp]at r hm g;have Jc:b9 250 p.2:=YT hm.2.1;have aM:∀a,a<=n->b9 (250+a*16001) (vi x p.1 p.2 a):=λa=>by
  induction a with
  |zero=>intro _;exact eb Jc R
  |succ a E=>
   intro o;have J:=E R;have v:h1 x a=x[a]'R:=by unfold h1;rw[sq,nq R];rfl
   have K:b9 1000 (h1 x a):=by rw[v];exact w _<|kc _
   have G:=R' (n:=p.1.n.getD a 0) K;have D:=V' hm.1 a;exact eb (u6 J G) R
 refine I 11<|ix 21 (.cU 2 dj iC<|jU n f) rfl .BD<|fc (oU n p) r j<|I 2<|aV G7 (hc p.2) hm.2.2<|aP 26 (.bq [cc p.2,.aa 0]) j (YU hm.2.1)<|I 13<|v0 30 (hk j)<|I 6<|ix 32 (.cU 2 dj iC<|jU n f) rfl .BD<|fc (oU n p) r j ?_;have B:(tj n p.1).length=n:=r' _ ah;refine I 12<|v0 40 (hk (show((tj n p.1).length:Int)=(x.length:Int) by omega))<|I 13<|eA (L:=Nat×Rat) (λ(a,d)=>a<=n/\d=vi x p.1 p.2 a) (λ(a,d)=>⟨[.c 45 [.b false,.nl,.nl],.c 45<|gA s,.c 45<|gA d],3,[(0,.gb 2 dj iC<|jU n f),(1,.cU 3 Rat gA x),(4,.p 0 0),(5,.b false),(6,.p 1 0),(7,.aa (i:Int)),(8,.p 2 0),(10,.aa (a:Int))]⟩) (λq=>n-q.1) [0,1,2] (0,p.2) ⟨dw _,j⟩ ?_;rintro⟨a,d⟩ ⟨o,h⟩;have o:a<=n:=o;have h:d=vi x p.1 p.2 a:=h;have t:b9 97000 d:=by rw[h];exact eb (aM a o) R
 refine I 7 ?_;by_cases A:a<n
 case neg=>
  have C:x.length=a:=R
  refine c2 46<|I 11<|aV Ma (s,d) ⟨eb m R,eb t⟩<|I 7<|cd 19 ((i+1:Nat):Int)<|I 2<|h4 [0,1] (i+1,s+d) ⟨aT,?_,eb (uU m t) R⟩;show s+d+eS x (f.drop<|i+1)=eS x f;have z:=apQ (x:=x) R p.1 p.2;rw[C]at z;rw[<-g,h,z,Du]
 refine dd 46 ?_;have u:a<x.length:=R
 have v:h1 x a=x[a]:=by unfold h1;rw[sq,nq u];rfl
 have P:tj n p.1≠[]:=λe=>by rw[e]at B;simp at B;omega
 have D:=V' hm.1 a;exact I 11<|ks x[a] (a0 u) j<|I 3<|agu (oU n p) r j<|I 3<|B2 ((p.1.n.getD a 0:Nat):Int) (aqx p.1 ah A) j<|I 1<|cm aqu (x[a],p.1.n.getD a 0) ⟨eb<|w _<|kc _,by show p.1.n.getD a 0<=64;omega⟩<|I 13<|v0 66 (hk j)<|I 8<|aV He (d,x[a]^p.1.n.getD a 0) ⟨eb t,eb (R'<|w _<|kc u) R⟩<|I 7<|cd 48 ((a+1:Nat):Int)<|I 2<|h4 [0,1,2] (a+1,d*x[a]^p.1.n.getD a 0) ⟨A,by rw[h,<-v];rfl⟩
def zW:ec×ac fo×ac dR->Prop:=λ(p,bL,l)=>zV p/\∀s∈l,s.b8.length<=140737488355328/\∀t∈s.dr,t.b8.length<=140737488355328/\t.eh.length<=140737488355328
def hl(t:dj):Nat:=t.b8.length+t.eh.length+1
def oW(s:dR):Nat:=s.b8.length+1+fp (s.dr.map hl)
def CZ{n:Int}(h:0<=n)(aL:n<=4611686018427387904):wr n=n:=fP R R
theorem W':∀{l:ac dj} {n:Nat},n+fp (l.map hl)<=4611686018427387904->l.foldl q3 (n:Int)=((n+fp (l.map hl):Nat):Int)
 |[],n,_=>rfl
 |t::l,n,h=>by
  have h:n+(hl t+fp (l.map hl))<=4611686018427387904:=h;have e:q3 (n:Int) t=((n+hl t:Nat):Int):=by
   unfold q3;unfold hl at h⊢;rw[CZ (n:=n+t.b8.length) R R,CZ (n:=n+t.b8.length+t.eh.length) R R,CZ R R];omega
  show l.foldl q3 (q3 n t)=((n+(hl t+fp (l.map hl)):Nat):Int);rw[e,W' R];omega
theorem X':∀{l:ac dR} {n:Nat},(∀s∈l,s.dr.length<=60)->n+fp (l.map oW)<=4611686018427387904->l.foldl mb (n:Int)=((n+fp (l.map oW):Nat):Int)
 |[],n,_,_=>rfl
 |s::l,n,hp,h=>by
  have h:n+(oW s+fp (l.map oW))<=4611686018427387904:=h;have b:=hp s g5;have e:mb (n:Int) s=((n+oW s:Nat):Int):=by
   unfold mb;unfold oW at h⊢;rw[iG R,CZ (n:=n+s.b8.length) R R,CZ R R,show n+s.b8.length+1=((n+s.b8.length+1:Nat):Int) by omega,W' R];omega
  show l.foldl mb (mb n s)=((n+(oW s+fp (l.map oW)):Nat):Int);rw[e,X' (λt a=>hp t<|e5 _ a) R];omega
theorem NQ{α:Type}{f:α->Nat}:∀{l:ac α} {x:α},x∈l->f x<=fp (l.map f)
 |y::l,x,h=>by
  show f x<=f y+fp (l.map f);rcases e1.1 h with rfl|h
  ·omega
  ·have:=NQ (f:=f) h;omega
theorem Y':∀l:ac dj,9*jD l<=fp (l.map hl)+27*l.length
 |[]=>dt _
 |t::l=>by
  have h:=Y' l;show 9*(t.b8.length/9+3+jD l)<=hl t+fp (l.map hl)+27*(l.length+1);have e:hl t=t.b8.length+t.eh.length+1:=rfl;omega
theorem aqz{l:ac dR}(h:pW l=true):l.length<=30/\∀s∈l,s.dr.length<=60:=by
 unfold pW at h;rw[cO]at h;have d:=hO h.2;refine⟨R,λs b=>?_⟩;have a:(l.take 31).any q5=false:=by grind
 rw[iG R,Dd]at a;have c:=a s b;have:¬60<(s.dr.length:Int):=λg=>c<|ck g;omega
theorem aqA{l:ac fo}(h:pX l=true):l.length<=20/\∀s∈l,s.1.length<=300/\s.2.length<=300:=by
 unfold pX at h;rw[cO]at h;have d:=hO h.2;refine⟨R,λs c=>?_⟩;have b:(l.take 21).any np=false:=by grind
 rw[iG R,Dd]at b;have a:=b s c;unfold np at a;refine⟨vD λg=>a ?_,vD λg=>a ?_⟩
 ·rw[ck R];rfl
 ·rw[ck (show 300<(s.2.length:Int) by omega),Dx]
theorem aqB{l:ac dR}(j:zW (p,bL,l))(h:tt (p,bL,l)=false):
 xB p/\(bL.length<=20/\∀s∈bL,s.1.length<=300/\s.2.length<=300)/\l.length<=30/\∀s∈l,s.b8.length<=3000/\(∀t∈s.dr,t.b8.length<=3000)/\jD s.dr<=1000:=by
 have h:(decide (ts p)|| !pX bL|| !pW l||decide (3000<q4 l))=false:=h;rw[C8,C8,C8]at h;obtain⟨⟨⟨c,e⟩,b⟩,d⟩:=h;have c:=of_decide_eq_false c;have d:=of_decide_eq_false d;have e:=aqA (l:=bL) (by grind);have b:=aqz (l:=l) (by grind);have i:∀s∈l,oW s<=20000000000000000:=λs a=>by
  obtain⟨w,m⟩:=j.2 s a;have:=CH (B:=281474976710657) (l:=s.dr.map hl) λn ah=>by
   obtain⟨t,hm,rfl⟩:=cW.1 ah;have:=m t hm;unfold hl;omega
  have v:=lI 281474976710657<|b.2 s a;rw[hz]at this;unfold oW;omega
 have o:=CH λn ah=>by
  obtain⟨s,hm,rfl⟩:=cW.1 ah;exact i s hm
 rw[hz]at o;have u:q4 l=((fp (l.map oW):Nat):Int):=by
  have:=X' (n:=0) b.2 R;unfold q4;rw[iG R];rw[iE]at this;exact this
 refine⟨J' λg=>c<|.inl g,e,b.1,λs a=>?_⟩;have y:=NQ (f:=oW) a;have z:=b.2 s a;have i:=Y' s.dr;have r:oW s=s.b8.length+1+fp (s.dr.map hl):=rfl;refine⟨R,λt q=>?_,R⟩;have:=NQ (f:=hl) q;have x:hl t=t.b8.length+t.eh.length+1:=rfl;omega
def aqC{l:ac dR}(j:∀s∈bL,s.1.length<=2000/\s.2.length<=2000)(aD:∀s∈l,s.b8.length<=3000/\(∀t∈s.dr,t.b8.length<=3000)/\jD s.dr<=1000):(mR p bL l).1.length<=1000/\∀t∈(mR p bL l).1,t.eh.length<=1000:=by
 have z:([]:ac dj).length<=1000/\∀t∈([]:ac dj),t.eh.length<=1000:=⟨al,λt h=>by cases h⟩;unfold mR;split
 case isFalse=>exact z
 rename_i d;have i:=NI d;cases f:n5 p.ins.length bL with
 |error e=>exact z
 |ok ad=>
  dsimp only;obtain⟨m,a⟩:=NG j f;cases g:n6 p.ins.length ad l with
  |error e=>exact z
  |ok S=>
   have c:=NH m a (λs hm=>⟨(aD s hm).1,(aD s hm).2.2⟩) g;unfold jU;refine⟨by rw[hz];exact cC c.l al,λt b=>?_⟩;obtain⟨q,_,rfl⟩:=cW.1 b;show(tj p.ins.length q.1).length<=1000;rw[r' _ i];omega
def NR(G:bh->Prop)(e:∀{H a:bh},cF H a->G H->G a):bl:=pF G e λ(_:Unit)=>([],True,.b true)
set_option maxHeartbeats 8000000
variable{ad:ac gm}{ws:ac ci}
def zX(b:gm)(w:ci):Rat:=b.1+(b.2-b.1)*(((w.toNat:Nat):Rat)/((255:Nat):Rat))
def mc(ad:ac gm)(ws:ac ci):ac Rat:=List.zipWith zX ad ws
def Z'(h:ws.length=ad.length):(mc ad ws).length=ws.length:=by unfold mc;rw[List.length_zipWith];omega
def NS(aF:k<ad.length)(aL:k<ws.length)(h:k<(mc ad ws).length):(mc ad ws)[k]=zX ad[k] ws[k]:=List.getElem_zipWith ..
theorem aqD(w:ci):0<=((w.toNat:Nat):Rat)/((255:Nat):Rat)/\((w.toNat:Nat):Rat)/((255:Nat):Rat)<=1:=by
 have a:=Nat.le_of_lt_succ<|Io w;have d:(w.toNat:Rat)<=(255:Rat):=by exact_mod_cast a
 have b:(0:Rat)<=(w.toNat:Rat):=by grind
 have e:(w.toNat:Rat)/(255:Rat)*(255:Rat)=(w.toNat:Rat):=by grind
 have c:(255:Rat)=255:=rfl;constructor<;>grind
theorem aqE(aD:ws.length=ad.length)(aA:qY ad=true):HF (mc ad ws) ad:=λi h=>by
 have c:i<ws.length:=R
 have a:i<(mc ad ws).length:=by rw[Z' aD];exact c
 have e:h1 (mc ad ws) i=zX ad[i] ws[i]:=by unfold h1;rw[sq,nq a];exact NS h c a
 rw[e];unfold qY at aA;obtain⟨eE,B4⟩:=aqD ws[i];unfold zX;generalize(((ws[i]).toNat:Nat):Rat)/(255:Rat)=q at *;have b:0<=ad[i].2-ad[i].1:=by grind
 have d:=vF b eE;have f:=vF b (show 0<=1-q by grind);constructor<;>grind
theorem aaa:∀{l:ac fo} {ad:ac gm},gM l=some ad->∀i (h:i<l.length) (u:i<ad.length),dq l[i].1=some ad[i].1/\dq l[i].2=some ad[i].2
 |[],ad,_,i,h,_=>absurd h (p2 _)
 |s::l,ad,ah,i,h,u=>by
  cases j:dq s.1 with
  |none=>rw[Hn j]at ah;cases ah
  |some a=>
   cases aA:dq s.2 with
   |none=>rw[Ho j aA]at ah;cases ah
   |some b=>
    have e:gM (s::l)=(gM l).map ((a,b)::·):=by
     show(match dq s.1 with|some a=>(match dq s.2 with|some b=>(gM l).map ((a,b)::·)|none=>none)|none=>none)=_;rw[j,aA]
    rw[e]at ah;cases c:gM l with
    |none=>rw[c]at ah;cases ah
    |some w=>
     rw[c]at ah;cases ah;cases i with
     |zero=>exact⟨j,aA⟩
     |succ i=>exact aaa c i (Nat.lt_of_succ_lt_succ h)<|Nat.lt_of_succ_lt_succ u
def aqF{l:ac fo}(h:n5 n l= .ok ad):l.length=n/\gM l=some ad/\qY ad=true:=by
 unfold n5 at h;split at h
 case isFalse=>cases h
 rename_i a;cases ah:gM l with
 |none=>rw[ah]at h;cases h
 |some ws=>
  rw[ah]at h;dsimp only at h;split at h
  ·cases h;exact⟨a,j,‹_›⟩
  ·cases h
theorem aab{n:Nat}:∀{l:ac dR} {e:Int},h0 n l= .error e->e≠0
 |[],e,h=>by cases h
 |s::l,e,h=>by
  unfold h0 at h;cases aF:kL n s with
  |error c=>rw[aF]at h;cases h;exact ap4 aF
  |ok y=>
   rw[aF]at h;cases aL:h0 n l with
   |error c=>rw[aL]at h;cases h;exact aab aL
   |ok a=>rw[aL]at h;cases h
def aqG{l:ac dR}{e:Int}(h:n6 n ad l= .error e):e≠0:=by
 unfold n6 at h;split at h
 case isFalse=>cases h;decide
 cases a:h0 n l with
 |error c=>rw[a]at h;cases h;exact aab a
 |ok xs=>
  rw[a]at h;dsimp only at h;cases b:kb ad [] xs with
  |none=>rw[b]at h;cases h;decide
  |some T=>rw[b]at h;cases h
def aqH{l:ac dR}{r:ac dj}(h:mR p bL l=(r,0)):∃ad S,(ez p).2.2=0/\n5 p.ins.length bL= .ok ad/\n6 p.ins.length ad l= .ok S/\r=jU p.ins.length S:=by
 unfold mR at h;split at h
 case isFalse=>rename_i c;exact absurd (congrArg Prod.snd h) c
 rename_i c;cases b:n5 p.ins.length bL with
 |error e=>rw[b]at h;exact absurd (congrArg Prod.snd h) (ap3 b)
 |ok ad=>
  rw[b]at h;dsimp only at h;cases a:n6 p.ins.length ad l with
  |error e=>rw[a]at h;exact absurd (congrArg Prod.snd h) (aqG a)
  |ok S=>rw[a]at h;cases h;exact⟨ad,S,c,j,a,j⟩
def aqI{z:Int}(h:0<=z):z.sign>=0:=by
 cases z with
 |ofNat n=>cases n with
  |zero=>exact Int.le_refl _
  |succ n=>exact av
 |negSucc n=>exact absurd h R
def aqJ(p:ec)(bL:ac fo)(l:ac dR)(ws:ac ci)(r:ac dj)(k:Nat):ac Rat->cl
 |[]=>⟨[.c 31<|xE (p,bL,l)],1,[(1,.cU 1 ci iy ws),(2,.p 0 0),(4,.b false),(5,.gb 2 dj iC r),(6,.aa 0),(7,.nl),(8,.aa (k:Int))]⟩
 |d::aN=>⟨[.c 31<|xE (p,bL,l),.a 45 true 3 Rat gA<|d::aN],2,[(1,.cU 1 ci iy ws),(2,.p 0 0),(4,.b false),(5,.gb 2 dj iC r),(6,.aa 0),(7,.aK 1 3 0 (aN.length+1)<|aN.length+1),(8,.aa (k:Int))]⟩
def NT(G:bh->Prop)(e:∀{H a:bh},cF H a->G H->G a):bl:=pF G e λ(x:(ec×ac fo×ac dR)×ac ci)=>([.agg<|xE x.1,.cU 1 ci iy x.2],zW x.1,.b true)
def aqK{G:bh->Prop}{E:∀{H P:bh},cF H P->G H->G P}(aM:∀{H},G H->n1 H/\mO H)(D:dY bS.ctx 6 (NR G E).spec):dY bS.ctx 4 (NT G E).spec:=by
 refine KL bS.ea eo (bG [(5,NO),(6,(NR G E).spec),(7,NJ),(10,U'),(11,CC),(12,YD),(14,Mb),(15,CG),(13,zt),(16,NP),(17,uO)]) (aZ:=cD.1) br (λl=>hP j) ?_;intro⟨⟨p,bL,l⟩,ws⟩ (a':zW (p,bL,l)) H au w;refine I 10<|aV aqq (p,bL,l) a'.1 ?_;cases C:tt (p,bL,l)with
 |true=>
  exact aP 18 (.b true) j (bK C)<|I 13<|aV D () aC (I 5<|an (az j j dO)) (cA:=w)
 |false=>
 refine aP 18 (.b false) j (bK C) ?_;obtain⟨aU,⟨a3,ar⟩,a1,i⟩:=aqB a' C;have A:∀s∈bL,s.1.length<=2000/\s.2.length<=2000:=λs o=>⟨cC (ar s o).1 al,cC (ar s o).2 al⟩;have af:=aqC (p:=p) A i;refine I 13 ?_;by_cases a9:ws.length=bL.length
 case neg=>
  exact v1 25 (show(ws.length:Int)≠(bL.length:Int) by omega)<|I 6<|aV D () aC (I 5<|an (az j j dO)) (cA:=w)
 refine v0 25 (hk (show(ws.length:Int)=(bL.length:Int) by omega)) ?_;obtain⟨⟨r,c⟩,B⟩:∃r,r=mR p bL l:=dC;rw[<-B]at af;refine I 14<|aV apT (p,bL,l) ⟨aU,A,i⟩ (aP 35 (.bq [.gb 2 dj iC r,.aa c]) j (by show ag.bq [.gb 2 dj iC (mR p bL l).1,.aa (mR p bL l).2]=_;rw[<-B])<|I 12 ?_) (cA:=aM w);by_cases ab:c=0
 case neg=>
  exact v1 39 ab<|I 10<|aV D () aC (I 5<|an (az j j dO)) (cA:=w)
 subst ab;refine v0 39 (hk j) ?_;obtain⟨ad,S,g8,X,cw,dg⟩:=aqH B.symm;have T:=NI g8;obtain⟨a7,aJ,aR⟩:=aqF X;obtain⟨aj,O⟩:=NG A X;have K:=NH aj O (λs hm=>⟨(i s hm).1,(i s hm).2.2⟩) cw;have ao:∀q∈S,(hc q.2).length<=1073741824:=λq g=>cC (anw<|K.b q g) al;have ay:∀t∈r,t.b8.length<=1073741824:=λt Q=>by
  rw[dg]at Q;obtain⟨q,g,rfl⟩:=cW.1 Q;exact ao q g
 refine I 4<|aV aqw r ⟨af.1,ay⟩ ?_;cases o:r.any oV with
 |true=>
  exact aP 42 (.b false) j (by show ag.b (!r.any oV)=_;rw[o];rfl)<|I 8<|aV D () aC (I 5<|an (az j j dO)) (cA:=w)
 |false=>
 refine aP 42 (.b true) j (by show ag.b (!r.any oV)=_;rw[o];rfl) ?_;have aB:∀q∈S,q.1.le 16/\hy (hc q.2)=some q.2/\(hc q.2).length<=1073741824:=λq g=>⟨K.k q g,apR (λe=>by
  have:=Dd.1 o (oU p.ins.length q) (by rw[dg];exact cW.2 ⟨q,g,j⟩);exact this<|ck e),ao q g⟩
 have aQ:=Z' (ad:=ad) (ws:=ws) R;have V:∀k (h:k<ad.length),b9 250 ad[k].1/\b9 250 ad[k].2:=λk h=>O _<|kc h;have aH:∀ax∈mc ad ws,b9 1000 ax:=λax aF=>by
  obtain⟨k,y,rfl⟩:=k8 aF;rw[aQ]at y;rw[NS R y];have h:=V k R;have aN:=u6 (Cm h.2 h.1)<|YE (a:=ws[k].toNat) (b:=255) (by have:=Io ws[k];omega) al al;exact eb (uU h.1 aN) R
 refine I 20<|eA (L:=Nat×ac Rat) (λ(k,a)=>k<=ws.length/\a=(mc ad ws).take k) (λ(k,a)=>aqJ p bL l ws r k a) (λq=>ws.length-q.1) [0] (0,[]) ⟨dw _,j⟩ ?_;rintro⟨k,a⟩ ⟨y,m⟩;have y:k<=ws.length:=y;have m:a=(mc ad ws).take k:=m;have aX:a.length=k:=by rw[m,iF];omega
 by_cases aT:k<ws.length
 case neg=>
  rw[iG R]at m;have aO:=apP (x:=mc ad ws) aj T (aqE R aR) (λs hm=>⟨(i s hm).1,(i s hm).2.2⟩) cw;have aS:NP.pre (S,p.ins.length,mc ad ws):=⟨T,R,cC K.l al,aB,aH⟩;have aY:(eS (mc ad ws) S).num.sign>=0:=by
   exact aqI<|Dw.2 aO
  rcases a with _|⟨d,F⟩<;>(
   refine I 7<|c2 49 ?_;refine e4 103 ?_
   (try refine kn 103 ?_)
   rw[dg];refine aV aqy (S,p.ins.length,mc ad ws) aS (I 15<|aV uP (eS (mc ad ws) S) aC<|I 2<|v1 111 aY<|I 3<|aV D () aC (I 5 ?_) (cA:=w)) (he:=by exact⟨.refl _,(by rw[<-m];first|exact bJ.nl|exact bJ.refl _),aC⟩);exact an<|az j j dO)
 have z:k<bL.length:=R
 have M:k<ad.length:=R
 have a6:bL≠[]:=aqm z;have hm:=A _<|kc z;obtain⟨Y,Z⟩:=aaa aJ k z M;have J:(mc ad ws).take (k+1)=a++[zX ad[k] ws[k]]:=by
  have W:k<(mc ad ws).length:=R
  rw[kd W,NS M aT W,<-m]
 have a5:=Io ws[k];have f:=V k M;have ak:=YE (a:=ws[k].toNat) (b:=255) R al al;obtain⟨u,ae⟩:∃u,u=ad[k].1:=dC;obtain⟨v,N⟩:∃v,v=ad[k].2:=dC;have aG:zX ad[k] ws[k]=u+(v-u)*(((ws[k].toNat:Nat):Rat)/((255:Nat):Rat)):=by rw[ae,N];rfl
 rw[aG]at J;rw[<-ae]at Y f;rw[<-N]at Z f;have aE:jT bL[k].1= .bq [cc u,.aa 0]:=by unfold jT;rw[Y]
 have aI:jT bL[k].2= .bq [cc v,.aa 0]:=by unfold jT;rw[Z]
 rcases a with _|⟨d,F⟩<;>(
  refine I 7<|dd 49<|I 12<|wX bL[k] (a0 z) j<|I 2<|aV xl bL[k].1 hm.1<|aP 59 (.bq [cc u,.aa 0]) j aE<|I 13<|wX bL[k] (a0 z) j<|I 2<|aV xl bL[k].2 hm.2<|aP 69 (.bq [cc v,.aa 0]) j aI<|I 12<|fc ws[k] (a0 aT) j<|I 2<|FF 77 ((ws[k].toNat:Nat):Int) (aV anB (ws[k].toNat,255) ⟨by show ws[k].toNat<_;omega,al,al⟩<|I 13<|v0 82 (hk j)<|I 5<|v0 85 (hk j)<|I 6<|v0 89 (hk j)<|I 9<|cm Wy (v,u) ⟨eb f.2,eb f.1⟩<|I 1<|cm He (v-u,((ws[k].toNat:Nat):Rat)/((255:Nat):Rat)) ⟨eb<|Cm f.2 f.1,eb ak⟩<|I 1<|cm Ma (u,(v-u)*(((ws[k].toNat:Nat):Rat)/((255:Nat):Rat))) ⟨eb f.1,eb<|u6 (Cm f.2 f.1) ak⟩ ?_) (h:=fP R R);refine st ?_
  (try refine K0 gA [u+(v-u)*(((ws[k].toNat:Nat):Rat)/((255:Nat):Rat))] (jt (ai:=gA) [u+(v-u)*(((ws[k].toNat:Nat):Rat)/((255:Nat):Rat))] j) ?_);(try refine K1 (ai:=gA) [u+(v-u)*(((ws[k].toNat:Nat):Rat)/((255:Nat):Rat))] (jt (ai:=gA) [u+(v-u)*(((ws[k].toNat:Nat):Rat)/((255:Nat):Rat))] j) ?_ (ah:=av) (aA:=by show(5*(F.length+1+1)+1792)*57<=1125899906842624;have:=aX;simp only[hN]at this;omega))
  refine I 7<|cd 51 ((k+1:Nat):Int)<|I 2 ?_
  first
   |exact bW [0,5] (k+1,[u+(v-u)*(((ws[k].toNat:Nat):Rat)/((255:Nat):Rat))]) ⟨by show ws.length-(k+1)<ws.length-k;omega,aT,J.symm⟩ bB
   |exact bW [0,6] (k+1,d::(F++[u+(v-u)*(((ws[k].toNat:Nat):Rat)/((255:Nat):Rat))])) ⟨by show ws.length-(k+1)<ws.length-k;omega,aT,J.symm⟩<|bB (aL:=⟨j,j,j,j,j,congrArg (λk=>some<|ag.aK 6 3 0 k k) av,j,aC⟩))
end Go.bA.c3
namespace Go.bA.c3
open Go.bA Go.bA.jO
set_option maxRecDepth 100000
theorem aac{h:ao bz}{s:dn}:∀(os:ac (Nat×bz)),(∀U∈os,s.cx.get U.1=some U.1/\h.get U.1=some U.2/\wm U.2 U.2 s=some s)->yF h os s=some s
 |[],_=>rfl
 |U::os,cA=>by
  obtain⟨aF,aL,a⟩:=cA U av;show bn (s.cx.get U.1) (λb=>bn (h.get b) (λp=>bn (wm U.2 p s) (yF h os) none) none) none=_;rw[aF,Sym.eg,aL,Sym.eg,a];exact aac os λp hp=>cA p<|e5 _ hp
theorem HO{Q:Nat×bz->Prop}(bX:Q g8)(aL:Q cw)(j:Q dg)(e:Q fY)(u:Q nS):∀p∈j8.gs,Q p:=λp hp=>by
 have hp:p∈[g8,cw,dg,fY,nS]:=hp;simp at hp;rcases hp with rfl|rfl|rfl|rfl|rfl<;>assumption
def ev(H:bh):Prop:=∀p∈j8.gs,H p.1=some p.2
variable{H:bh}
def ev.up{e:bh}(h:cF H e)(j:ev H):ev e:=λp hp=>h _ _<|j p hp
def aad:∀p∈j8.gs,kt.cx.get p.1=some p.1/\wm p.2 p.2 kt=some kt:=
 HO ⟨br,br⟩ ⟨br,br⟩ ⟨br,br⟩ ⟨br,br⟩ ⟨br,br⟩
def aqL{s:dn}{gs:ac (Nat×bz)}{aB:Nat}{st:aj}{t:Bool}(aS:s.aX<=aB)(h:yF st.h gs s=some s):(⟨[],gs,[],.bool t,[],aB⟩:dh).app s [] st=some (.ret (.bool t) ⟨st.h,st.ae+(aB-s.aX)⟩ false):=by
 show bn (yF st.h gs s) _ none=_;rw[h];show cond (Nat.beq s.aX<|Nat.add s.aX 0) (cond (Nat.ble s.aX aB) (fK (Nat.add st.ae<|Nat.sub aB s.aX) λn=>some<|dQ.ret (.bool t) ⟨st.h,n⟩ false) none) none=_;rw[show Nat.beq s.aX (Nat.add s.aX 0)=true from kO _,show Nat.ble s.aX aB=true from C0 aS];unfold fK;rw[kO];rfl
def aqM:kt.aX<=8180:=by exact hP br
def aqN{st:aj}(h:∀p∈j8.gs,st.h.get p.1=some p.2):j8.app kt [] st=some (.ret (.bool true) ⟨st.h,st.ae+(8180-kt.aX)⟩ false):=
 aqL aqM<|aac j8.gs λU a=>⟨(aad U a).1,h U a,(aad U a).2⟩
def aqO:dY bS.ctx 6 (NR ev ev.up).spec:=by
 rintro ad st ⟨⟨l,H⟩,_,q,g,i⟩;subst i;refine⟨.bool true,⟨st.h,st.ae+(8180-kt.aX)⟩,?_,?_⟩
 ·rintro⟨t,f⟩ ⟨_,u,d,_⟩;have c:∀b,st.ae+(8180-kt.aX)<=b->st.h.get b=none:=λb a=>d.wf b R;exact⟨f,⟨c,d.le,j,j,oc,λb a=>by simp at a,λk U b r=>by simp at r⟩,⟨cF.refl _,λ_ _ _=>j,λ_ _ _=>j,HW _ _,cf.refl _,λb a=>.inl a⟩,j⟩
 ·intro s m w e c;exact Ql akA oK.1 oK.2.1 oK.2.2 (aqN λp hp=>g.le _ _<|q p hp) s m w e c
theorem ze{H:bh}{k:f6}:∀l:ac Int,cB H (l.map λn=>.i k n) [] (l.map λn=>Value.int k n)
 |[]=>rfl
 |n::l=>⟨_,_,j,j,ze l⟩
def aqP(h:ev H):mO H:=by
 have b:=h nS (by show nS∈[g8,cw,dg,fY,nS];simp);refine⟨_,_,_,_,b,λa=>?_⟩;have:=ze (H:=a) (k:=.u64)<|(List.range 20).map λk=>((10^k:Nat):Int);exact this
def aqQ:ac Int:=Ha.flatMap λp=>[(p.1:Int),(p.2:Int)]
def aqR(h:ev H):n1 H:=by
 have a:=h dg (by show dg∈[g8,cw,dg,fY,nS];simp);exact⟨_,_,_,_,a,λb=>ze aqQ⟩
def aqS:dY bS.ctx 4 (NT ev ev.up).spec:=aqK (λh=>⟨aqR h,aqP h⟩) aqO
