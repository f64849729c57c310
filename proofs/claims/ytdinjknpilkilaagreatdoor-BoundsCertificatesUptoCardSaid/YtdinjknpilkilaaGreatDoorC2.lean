/- What the functions of the program and of the document compute, for every input, and the plain laws of it (part 2); conditions as in the statements. -/
import Derived.Test.YtdinjknpilkilaaGreatDoorC1
import Derived.Test.YtdinjknpilkilaaGreatDoorS1
import Derived.Test.YtdinjknpilkilaaGreatDoorS2
noncomputable section
set_option linter.all false
namespace Go.ah.aW
open Go.ah
set_option maxRecDepth 100000
set_option maxHeartbeats 4000000
variable{k n v w a c i m d V P nd pE:Nat}
def PR:bN where
 L:=Nat×Nat
 args:=fun(a,b)=>[dn a,dn b]
 pre:=fun(a,b)=>eA 1073741824 a∧eA 1073741824 b
 res:=fun(a,b)=>dn (a+b)
def sO(h:(aT 1000000000 n).length<=k):n<1000000000^k:=by
 have h1:=lM (hA (b:=1000000000) (by decide) n);rw[gV (by decide)]at h1;exact gH h1 (zaI (by decide) h)
def RG{b:Nat}(ha:(aT 1000000000 a).length<=k)(hb:(aT 1000000000 b).length<=k):(aT 1000000000 (a+b)).length<=k+1:=ke (by decide) (by
 have:=sO ha;have:=sO hb;rw[zak];omega)
def afn{u:Nat}(h:w=u+v+c):w≠0↔(u≠0∨v≠0∨0<c):=by omega
def aeq{D:ac Nat}(h:i<D.length)(hm:i<m)(ao:D[i]=d):(D.take i++List.replicate (m-i) 0).take i++([d]++(D.take i++List.replicate (m-i) 0).drop (i+[d].length))=D.take (i+1)++List.replicate (m-(i+1)) 0:=by
 have hl:(D.take i).length=i:=by rw[zay];omega
 rw[atO h,ao,show m-i=(m-(i+1))+1 by omega,zdT,zcb];congr 1
 ·rw[zdj (by omega),zaV (by omega)]
 ·congr 1;rw[List.drop_append,zcl (by simp;omega),hl];simp
def aaN:bw a4.ctx 152 PR.spec:=by
 refine bZ [] UR.1 ?_;intro⟨a,b⟩ ⟨(ha:(aT _ a).length<=_),(hb:(aT _ b).length<=_)⟩ H aK;show aS.ok _ ⟨_,_,⟨_,_,[(0,dc (aT 1000000000 a)),(1,dc (aT 1000000000 b))]⟩⟩;obtain⟨m,hm⟩:∃m,m=max (aT 1000000000 a).length (aT 1000000000 b).length:=⟨_,rfl⟩;have gd:=RG (k:=m) (a:=a) (b:=b) (by omega) (by omega);refine ag 13 ?_;refine ax 13 (.i .i64 ((m+1:Nat):Int)) rfl cS ?_;refine lj (n:=0) (c:=m+1) gu 0 ?_ (hn:=zac _);refine I ?_;refine cw (L:=Nat) (fun i=>i<=(aT 1000000000 (a+b)).length)
  (fun(i:Nat)=>⟨[.a 2 false 1 Nat gu ((aT 1000000000 (a+b)).take i++List.replicate (m+1-i) 0)],1,[(0,dc (aT 1000000000 a)),(1,dc (aT 1000000000 b)),(5,.aN 0 1 0 i (m+1)),(6,.i .i64 (nh 1000000000 a b i:Nat)),(7,.i .i64 i)]⟩)
  (fun i=>m+1-i) [0] 0 (zac _) (by show m+1-0<bc+1;unfold bc;omega) (eO ⟨rfl,rfl,rfl,by rw[afV];rfl,rfl,trivial⟩ ⟨_,rfl,rfl,fun _=>rfl⟩) ?_
 rintro(i:Nat) aa;have SI:=Tc (b:=1000000000) (x:=a) (y:=b) (i:=i) (by decide);have fj:=afT (b:=1000000000) (x:=a) (y:=b) (i:=i) (by decide);have NZ:= @x4 1000000000 a i (by decide);have X1:= @x4 1000000000 b i (by decide);have anl:= @x4 1000000000 (a+b) i (by decide);have M8:(i<(aT 1000000000 (a+b)).length)↔(i<(aT 1000000000 a).length∨i<(aT 1000000000 b).length∨0<nh 1000000000 a b i):=by rw[NZ,X1,anl];exact afn SI
 refine I ?_;refine ih (L:=Bool) (fun t=>t=decide (i<(aT 1000000000 (a+b)).length)) (fun t=>⟨[.a 2 false 1 Nat gu ((aT 1000000000 (a+b)).take i++List.replicate (m+1-i) 0)],1,[(0,dc (aT 1000000000 a)),(1,dc (aT 1000000000 b)),(5,.aN 0 1 0 i (m+1)),(6,.i .i64 (nh 1000000000 a b i:Nat)),(7,.i .i64 i),(28,.b t)]⟩) ?_ ?_
 ·by_cases h1:i<(aT 1000000000 a).length
  ·refine ax 19 (.b true) rfl (by simp[h1]) (I ?_);exact aU [0] true (by simp[M8,h1]) hd
  refine ax 19 (.b false) rfl (by simp[h1]) (ag 25 ?_);by_cases h2:i<(aT 1000000000 b).length
  ·refine ax 25 (.b true) rfl (by simp[h2]) (I ?_);exact aU [0] true (by simp[M8,h2]) hd
  refine ax 25 (.b false) rfl (by simp[h2]) (I ?_);exact aU [0] (decide ((0:Int)<(nh 1000000000 a b i:Nat))) (by simp only[M8];congr 1;simp;omega) hd
 intro t aF;by_cases aE:i<(aT 1000000000 (a+b)).length
 ·refine ax 28 (.b true) rfl (by rw[aF,zad aE]) ?_;obtain⟨qA,pU⟩:∃d,d=a/1000000000^i%1000000000:=⟨_,rfl⟩;obtain⟨uf,HA⟩:∃d,d=b/1000000000^i%1000000000:=⟨_,rfl⟩;have u2:qA<1000000000:=by rw[pU];exact zaj _ (by decide)
  have It:uf<1000000000:=by rw[HA];exact zaj _ (by decide)
  have cs:=afU (b:=1000000000) (x:=a) (y:=b) (i:=i) (by decide);have LU:=afS (b:=1000000000) (x:=a) (y:=b) (i:=i) (by decide);rw[<-pU,<-HA]at cs LU;obtain⟨c,hc⟩:∃c,c=nh 1000000000 a b i:=⟨_,rfl⟩;rw[<-hc]at cs LU fj;have uk:=agz (b:=1000000000) (n:=a+b) (i:=i) (by decide) aE;refine ax 6 (.i .i64 (c:Nat)) rfl (by rw[hc]) (I ?_);refine ih (L:=Unit) (fun _=>True) (fun _=>⟨[.a 2 false 1 Nat gu ((aT 1000000000 (a+b)).take i++List.replicate (m+1-i) 0)],1,[(0,dc (aT 1000000000 a)),(1,dc (aT 1000000000 b)),(5,.aN 0 1 0 i (m+1)),(6,.i .i64 ((c+qA:Nat):Int)),(7,.i .i64 i)]⟩) ?_ ?_
  ·refine cP (fun h=> ?_) (fun h=> ?_)
   ·have h:i<(aT 1000000000 a).length:=by omega
    refine I ?_;refine db qA (by rw[pU];exact um (by decide) h) ?_;refine I ?_;exact aU [0] () trivial (eO ⟨rfl,rfl,rfl,fa,rfl,trivial⟩ ⟨_,rfl,rfl,fun _=>rfl⟩)
   ·have h:¬i<(aT 1000000000 a).length:=by omega
    have h0:qA=0:=by
     have:a/1000000000^i=0:=Decidable.not_not.1 (fun aC=>h (NZ.2 aC));rw[pU,this]
    refine I ?_;exact aU [0] () trivial (eO ⟨rfl,rfl,rfl,nw,rfl,trivial⟩ ⟨_,rfl,rfl,fun _=>rfl⟩)
  intro _ _;refine I ?_;refine ih (L:=Unit) (fun _=>True) (fun _=>⟨[.a 2 false 1 Nat gu ((aT 1000000000 (a+b)).take i++List.replicate (m+1-i) 0)],1,[(0,dc (aT 1000000000 a)),(1,dc (aT 1000000000 b)),(5,.aN 0 1 0 i (m+1)),(6,.i .i64 ((c+qA+uf:Nat):Int)),(7,.i .i64 i)]⟩) ?_ ?_
  ·refine cP (fun h=> ?_) (fun h=> ?_)
   ·have h:i<(aT 1000000000 b).length:=by omega
    refine I ?_;refine db uf (by rw[HA];exact um (by decide) h) ?_;refine I ?_;exact aU [0] () trivial (eO ⟨rfl,rfl,rfl,fa,rfl,trivial⟩ ⟨_,rfl,rfl,fun _=>rfl⟩)
   ·have h:¬i<(aT 1000000000 b).length:=by omega
    have h0:uf=0:=by
     have:b/1000000000^i=0:=Decidable.not_not.1 (fun aC=>h (X1.2 aC));rw[HA,this]
    refine I ?_;exact aU [0] () trivial (eO ⟨rfl,rfl,rfl,nw,rfl,trivial⟩ ⟨_,rfl,rfl,fun _=>rfl⟩)
  intro _ _;refine ag 53 ?_;refine ax 53 (.i .i64 (((c+qA+uf)%1000000000:Nat):Int)) rfl rfl (I ?_);refine abv (R:=gu) [(c+qA+uf)%1000000000] (eR (R:=gu) [(c+qA+uf)%1000000000] rfl) ((aT 1000000000 (a+b)).take (i+1)++List.replicate (m+1-(i+1)) 0) ?_ (hl:= ?_) (hc:= ?_)
  ·refine ag 57 ?_;refine ax 57 (.i .i64 (((c+qA+uf)/1000000000:Nat):Int)) rfl (by show ae.i _ (IntKind.i64.wrap (((c+qA+uf)/1000000000:Nat):Int))=_;exact cS rfl (by omega) (by omega)) (I ?_);exact aU [0] (i+1) ⟨by show m+1-(i+1)<m+1-i;omega,aE⟩ (eO ⟨rfl,rfl,rfl,by rw[cs];rfl,fa,trivial⟩ ⟨_,rfl,rfl,fun _=>rfl⟩)
  ·simp;omega
  ·exact aeq aE (by omega) (by rw[uk,LU])
 ·refine ax 28 (.b false) rfl (by rw[aF,zai aE]) (ag 58 ?_);have he:i=(aT 1000000000 (a+b)).length:=by omega
  refine Qj 58 (aT 1000000000 (a+b)) ?_ (hl:=by rw[zar,zdj (by simp;omega),zdi,Nat.min_self,zaV (by omega)]) (hn:=he.symm);refine I ?_;exact aM rfl (.refl _)
def JQ:bN where
 L:=Nat×Nat
 args:=fun(a,b)=>[dn a,dn b]
 pre:=fun(a,b)=>eA 1073741824 a∧b<=a
 res:=fun(a,b)=>dn (a-b)
def aer{O:ac Nat}(h:O.length=i)(hm:i<m):(O++List.replicate (m-i) 0).take i++([d]++(O++List.replicate (m-i) 0).drop (i+[d].length))=(O++[d])++List.replicate (m-(i+1)) 0:=by
 subst h;rw[show m-O.length=(m-(O.length+1))+1 by omega,zdT,zcb];congr 1
 ·rw[zdj (by omega),zaV (by omega)]
 ·congr 1;rw[List.drop_append,zcl (by simp)];simp
def Fh:bw a4.ctx 153 JQ.spec:=by
 refine bZ [(157,xe.spec)] US.1 ?_;intro⟨a,b⟩ ⟨(ha:(aT _ a).length<=_),(iT:b<=a)⟩ H aK;have h1:=hA (b:=1000000000) (by decide) a;have h2:=hA (b:=1000000000) (by decide) b;have jF:=gV (b:=1000000000) (by decide) a;have ev:=gV (b:=1000000000) (by decide) b;have hlen:(aT 1000000000 b).length<=(aT 1000000000 a).length:=ke (by decide) (zaz iT (sO (b6 _)));show aS.ok _ ⟨_,_,⟨_,_,[(0,dc (aT 1000000000 a)),(1,dc (aT 1000000000 b))]⟩⟩;generalize aT 1000000000 a=xs at *;generalize aT 1000000000 b=al at *;refine I ?_;refine lj (n:=0) (c:=xs.length) gu 0 ?_ (hn:=zac _);refine I ?_;refine cw (L:=Nat×ac Nat×Nat) (fun(i,outs,c)=>i<=xs.length∧outs.length=i∧cY 1000000000 outs∧c<=1∧val 1000000000 (xs.take i)+1000000000^i*c=val 1000000000 outs+val 1000000000 (al.take i))
  (fun((i:Nat),(outs:ac Nat),(c:Nat))=>⟨[.a 2 false 1 Nat gu (outs++List.replicate (xs.length-i) 0)],1,[(0,dc xs),(1,dc al),(5,.aN 0 1 0 i xs.length),(6,.i .i64 c),(7,.i .i64 i)]⟩)
  (fun l=>xs.length-l.1) [0] (0,[],0) ⟨zac _,rfl,fun x J=>by simp at J,by decide,by simp[val]⟩ (by show xs.length-0<bc+1;unfold bc;omega) hd ?_
 rintro⟨i,outs,c⟩ ⟨aa,hF,bH,hc,aB⟩;refine I ?_;refine cP (fun h=> ?_) (fun h=> ?_)
 ·have h:i<xs.length:=by omega
  have En:xs[i]? =some xs[i]:=bE h;have aE:=h1 _ (fy h);refine I ?_;refine db xs[i] En ?_;refine I ?_;refine ih (L:=Nat) (fun y=>y<1000000000∧val 1000000000 (al.take (i+1))=val 1000000000 (al.take i)+1000000000^i*y) (fun(y:Nat)=>⟨[.a 2 false 1 Nat gu (outs++List.replicate (xs.length-i) 0)],1,[(0,dc xs),(1,dc al),(5,.aN 0 1 0 i xs.length),(7,.i .i64 i),(8,.i .i64 ((xs[i]:Int)-c-y))]⟩) ?_ ?_
  ·refine cP (fun aC=> ?_) (fun aC=> ?_)
   ·have aC:i<al.length:=by simpa using aC
    have Eo:al[i]? =some al[i]:=bE aC;have D0:=h2 _ (fy aC);refine I ?_;refine db al[i] Eo ?_;refine I ?_;refine aU [0] al[i] ⟨D0,iO aC⟩ (eO ⟨rfl,rfl,rfl,rfl,?_,trivial⟩ ⟨_,rfl,rfl,fun _=>rfl⟩);exact congrArg (fun n=>some (ae.i .i64 n)) (by rw[hG (n:=(xs[i]:Int)-c) (by omega) (by omega)];exact FU rfl (by omega) (by omega))
   ·have aC:al.length<=i:=by simpa using aC
    refine I ?_;refine aU [0] 0 ⟨by decide,by rw[kM (by omega),kM aC];simp⟩ (eO ⟨rfl,rfl,rfl,rfl,?_,trivial⟩ ⟨_,rfl,rfl,fun _=>rfl⟩);exact congrArg (fun n=>some (ae.i .i64 n)) (FU (by omega) (by omega) (by omega))
  rintro y ⟨ay,gC⟩;refine I ?_;refine ih (L:=Nat×Nat) (fun(d,bW)=>d<1000000000∧bW<=1∧xs[i]+1000000000*bW=d+y+c) (fun((d:Nat),(bW:Nat))=>⟨[.a 2 false 1 Nat gu (outs++List.replicate (xs.length-i) 0)],1,[(0,dc xs),(1,dc al),(5,.aN 0 1 0 i xs.length),(6,.i .i64 bW),(7,.i .i64 i),(8,.i .i64 d)]⟩) ?_ ?_
  ·refine cP (fun aC=> ?_) (fun aC=> ?_)
   ·refine I ?_;refine aU [0] (xs[i]+1000000000-c-y,1) ⟨by omega,by omega,by omega⟩ (eO ⟨rfl,rfl,rfl,rfl,rfl,?_,trivial⟩ ⟨_,rfl,rfl,fun _=>rfl⟩);exact congrArg (fun n=>some (ae.i .i64 n)) (FU (by omega) (by omega) (by omega))
   ·refine I ?_;refine aU [0] (xs[i]-c-y,0) ⟨by omega,by omega,by omega⟩ (eO ⟨rfl,rfl,rfl,rfl,rfl,?_,trivial⟩ ⟨_,rfl,rfl,fun _=>rfl⟩);exact congrArg (fun n=>some (ae.i .i64 n)) (by omega)
  rintro⟨d,bW⟩ ⟨ao,nX,he⟩;refine I ?_;refine abv (R:=gu) [d] (eR (R:=gu) [d] rfl) ((outs++[d])++List.replicate (xs.length-(i+1)) 0) ?_ (hl:=aer hF h) (hc:=by simp;omega);refine I ?_;refine aU [0] (i+1,outs++[d],bW) ⟨by show xs.length-(i+1)<xs.length-i;omega,by omega,by simp[hF],?_,nX,?_⟩ (eO ⟨rfl,rfl,rfl,rfl,fa,trivial⟩ ⟨_,rfl,rfl,fun _=>rfl⟩)
  ·intro x J;rcases zbw.1 J with h|h
   ·exact bH x h
   ·simp at h;omega
  ·rw[nN,hF,iO h,gC,zak];have:=acR aB he;simp[val];omega
 ·have he:i=xs.length:=by omega
  refine ag 42 ?_;refine Qj 42 outs ?_ (hl:=by rw[zar,zdj (by omega),zaV (by omega)]) (hn:=hF);refine aX xg outs (by show outs.length<=_;omega) (I ?_);refine aM rfl (.of ?_);show dc (e0 outs)=dn (a-b);rw[zT (b:=1000000000) (by decide) bH];have aq:xs.take i=xs:=zaV (by omega);have e2:al.take i=al:=zaV (by omega);rw[aq,e2,jF,ev]at aB;have amZ:=lM bH;have:c=0:=by
   rcases zcx c with h|h
   ·exact h
   ·exfalso;have:c=1:=by omega
    subst this;rw[hF]at amZ;omega
  subst this;show dc _=dc _;rw[show val 1000000000 outs=a-b by omega]
def B0:bN where
 L:=Nat×Nat
 args:=fun(a,b)=>[dn a,dn b]
 pre:=fun(a,b)=>eA 1073741824 a∧eA 1073741824 b
 res:=fun(a,b)=>dn (a*b)
def aqB{x y o:Nat}(hc:c<1000000000)(J:x<1000000000)(ay:y<1000000000)(ak:o<1000000000):x*y+o+c<1000000000000000000:=by
 have h1:x*y<=999999999*999999999:=zaS (by omega) (by omega);omega
def sn:bw a4.ctx 89 B0.spec:=by
 refine bZ [(157,xe.spec)] WI.1 ?_;intro⟨a,b⟩ ⟨(ha:(aT _ a).length<=_),(hb:(aT _ b).length<=_)⟩ H aK;have h1:=hA (b:=1000000000) (by decide) a;have h2:=hA (b:=1000000000) (by decide) b;have jF:=gV (b:=1000000000) (by decide) a;have ev:=gV (b:=1000000000) (by decide) b;show aS.ok _ ⟨_,_,⟨_,_,[(0,dc (aT 1000000000 a)),(1,dc (aT 1000000000 b))]⟩⟩;generalize aT 1000000000 a=xs at *;generalize aT 1000000000 b=al at *;refine ag 13 ?_;refine ax 13 (.i .i64 ((xs.length+al.length:Nat):Int)) rfl cS ?_;refine lj gu 0 ?_;refine I ?_;refine cw (L:=Nat×ac Nat) (fun(i,outs)=>i<=xs.length∧outs.length=xs.length+al.length∧cY 1000000000 outs∧val 1000000000 (outs.take (i+al.length))=val 1000000000 (xs.take i)*val 1000000000 al)
  (fun((i:Nat),(outs:ac Nat))=>⟨[.a 2 false 1 Nat gu outs],1,[(0,dc xs),(1,dc al),(5,.aN 0 1 0 (xs.length+al.length) (xs.length+al.length)),(6,.i .i64 i)]⟩)
  (fun l=>xs.length-l.1) [0] (0,List.replicate (xs.length+al.length) 0) ⟨by omega,by simp,tp (by decide) _,by simp[val,val_zero]⟩ (by show xs.length-0<bc+1;unfold bc;omega) hd ?_
 rintro⟨i,outs⟩ ⟨aa,hF,bH,aB⟩;refine I ?_;refine cP (fun h=> ?_) (fun h=> ?_)
 ·have h:i<xs.length:=by omega
  have mw:=h1 _ (fy h);refine I ?_;refine cw (L:=Nat×ac Nat×Nat) (fun(j,os,c)=>j<=al.length∧os.length=xs.length+al.length∧cY 1000000000 os∧c<1000000000∧(∀k,i+j<=k->os[k]? =outs[k]?)∧val 1000000000 (os.take (i+j))+1000000000^(i+j)*c=val 1000000000 (outs.take (i+j))+1000000000^i*(xs[i]*val 1000000000 (al.take j)))
   (fun((j:Nat),(os:ac Nat),(c:Nat))=>⟨[.a 2 false 1 Nat gu os],1,[(0,dc xs),(1,dc al),(5,.aN 0 1 0 (xs.length+al.length) (xs.length+al.length)),(6,.i .i64 i),(7,.i .i64 c),(8,.i .i64 j)]⟩)
   (fun l=>al.length-l.1) [0] (0,outs,0) ⟨by omega,hF,bH,by omega,fun _ _=>rfl,by simp[val]⟩ (by show al.length-0<bc+1;unfold bc;omega) hd ?_
  rintro⟨j,os,c⟩ ⟨hj,D6,uO,hc,nu,mu⟩;refine I ?_;refine cP (fun rW=> ?_) (fun rW=> ?_)
  ·have rW:j<al.length:=by omega
   have H6:=h2 _ (fy rW);have kl:i+j<os.length:=by omega
   have NA:os[i+j]=outs[i+j]:=by
    have:=nu (i+j) (b6 _);rw[bE kl,bE (by omega)]at this;exact Option.some.inj this
   have NB:=uO _ (fy kl);have g:=aqB hc mw H6 NB;refine I ?_;refine dO 31 (.i .i64 ((i+j:Nat):Int)) rfl rfl cS ?_;refine I ?_;refine gl ?_;refine pM os[i+j] (bE kl) ?_;refine I ?_;refine dp xs[i] (bE h) ?_;refine I ?_;refine dp al[j] (bE rW) ?_;refine ag 44 ?_;have agT:IntKind.i64.wrap (IntKind.i64.wrap ((c:Int)+os[i+j])+IntKind.i64.wrap ((xs[i]:Int)*al[j]))=((c+(xs[i]*al[j]+os[i+j]):Nat):Int):=by
    rw[<-zaK];rw[hG (n:=(c:Int)+os[i+j]) (by omega) (by omega),hG (n:=((xs[i]*al[j]:Nat):Int)) (by omega) (by omega),hG (by omega) (by omega)];omega
   refine dO 44 (.i .i64 ((c+(xs[i]*al[j]+os[i+j]):Nat):Int)) rfl rfl (congrArg (ae.i .i64) agT) ?_;refine ag 48 ?_;refine ax 48 (.i .i64 ((i+j:Nat):Int)) rfl cS ?_;obtain⟨T,gz⟩:∃T,T=c+(xs[i]*al[j]+os[i+j]):=⟨_,rfl⟩;refine ax 7 (.i .i64 (T:Nat)) rfl (by rw[gz]) ?_;have avg:T<1000000000000000000:=by omega
   refine ag 50 ?_;refine ax 50 (.i .i64 ((T%1000000000:Nat):Int)) rfl rfl ?_;refine hU ?_;refine iC (T%1000000000) ?_;refine ag 53 ?_;refine ax 53 (.i .i64 ((T/1000000000:Nat):Int)) rfl (by show ae.i _ (IntKind.i64.wrap ((T/1000000000:Nat):Int))=_;exact cS rfl (by omega) (by omega)) (I ?_);refine aU [0] (j+1,os.set (i+j) (T%1000000000),T/1000000000) ⟨by show al.length-(j+1)<al.length-j;omega,by omega,by simp[D6],nD uO _ (zaj _ (by decide)),by omega,fun k hk=>by rw[zbq (by omega)];exact nu k (by omega),?_⟩
    (eO ⟨rfl,rfl,rfl,rfl,rfl,fa,trivial⟩ ⟨_,rfl,rfl,fun _=>rfl⟩)
   rw[<-zbW,iO (l:=os.set (i+j) _) (by simp;omega),iO (l:=outs) (by omega),iO rW,zbg (b6 _),zbe,zak,<-NA,gz];exact Za (by rw[zal]) mu
  ·have hj:j=al.length:=by omega
   subst hj;refine ag 58 ?_;refine ax 58 (.i .i64 ((i+al.length:Nat):Int)) rfl cS (I ?_);refine hU ?_;refine iC c ?_;refine I ?_;refine aU [0] (i+1,os.set (i+al.length) c) ⟨by show xs.length-(i+1)<xs.length-i;omega,by omega,by simp[D6],nD uO _ hc,?_⟩ (eO ⟨rfl,rfl,rfl,fa,trivial⟩ ⟨_,rfl,rfl,fun _=>rfl⟩);rw[show i+1+al.length=i+al.length+1 by omega,iO (l:=os.set _ _) (by simp;omega),zbg (b6 _),zbe,mu,aB,iO h,kM (b6 _),zah,zan]
 ·have aa:i=xs.length:=by omega
  subst aa;refine I ?_;refine gq 61 ?_;refine aX xg outs (by show outs.length<=_;omega) (I ?_);refine aM rfl (.of ?_);show dc (e0 outs)=dn (a*b);rw[kM (l:=xs) (b6 _),kM (l:=outs) (by omega)]at aB;rw[zT (b:=1000000000) (by decide) bH,aB,jF,ev];rfl
def x3:aT 1000000000 1=[1]:=by rw[ot (by decide) (by decide),show 1/1000000000=0 from rfl,fL]
def Fa:bN where
 L:=Unit
 args:=fun _=>[]
 pre:=fun _=>True
 res:=fun _=>dn 1
def zG:bw a4.ctx 158 Fa.spec:=by
 refine bZ [] UY.1 ?_;intro _ _ H aK;refine ag 1 ?_;refine m7 0 gu [1] ?_;refine gq 1 ?_;refine I ?_;exact aM rfl (.of (by show dc [1]=dc _;rw[x3]))
def ca(x:Rat):ae:=.agg [.i .i64 x.num.sign,dn x.num.natAbs,dc (if x.num=0 then[]else aT 1000000000 x.den)]
def abg:bN where
 L:=Rat
 args:=fun x=>[ca x]
 pre:=fun _=>True
 res:=fun x=>.i .i64 x.num.sign
def xd:bw a4.ctx 95 abg.spec:=by
 refine bZ [] WO.1 ?_;intro(x:Rat) _ H aK;refine I ?_;exact aM rfl (.refl _)
def zB:bN where
 L:=Rat
 args:=fun x=>[ca x]
 pre:=fun _=>True
 res:=fun x=>dn x.den
def sm:bw a4.ctx 90 zB.spec:=by
 refine bZ [(158,Fa.spec)] WJ.1 ?_;intro(x:Rat) _ H aK;refine I ?_;refine cP (fun h=> ?_) (fun h=> ?_)
 ·have h:x.num=0:=zbS.1 h;have ao:x.den=1:=by have:=x.reduced;rw[h]at this;simpa[Nat.Coprime]using this
  refine I ?_;refine aX zG () trivial (I ?_);exact aM rfl (.of (by show dn 1=dn x.den;rw[ao]))
 ·have h:x.num≠0:=fun e=>h (by rw[e];rfl);refine I ?_;exact aM rfl (.of (by show dc (if _ then _ else _)=dc _;rw[zaa h]))
def P3:bN where
 L:=Rat
 args:=fun x=>[ca x]
 pre:=fun _=>True
 res:=fun x=>ca (-x)
def aa7:bw a4.ctx 93 P3.spec:=by
 refine bZ [] WM.1 ?_;intro(x:Rat) _ H aK;refine I ?_;refine aM rfl (.of ?_);show ae.agg [.i _ (IntKind.i64.wrap (-x.num.sign)),_,_]=ae.agg [.i _ _,_,_];have df:∀n:Int,-1<=n.sign∧n.sign<=1:=fun n=>by
  rcases(show n<0∨n=0∨0<n by omega)with h|h|h
  ·rw[zcW h];decide
  ·rw[h];decide
  ·rw[zcz h];decide
 have:=df x.num;rw[hG (by omega) (by omega),zds,zea,Int.sign_neg,zdt];simp[dn,dc]
def FE{own:ac bd}{p:Nat}{e cK:bJ}{o:bd}(h:mH [k] cK e)(ak:∃bD,own[k]? =some bD∧jT [k] o bD)(hp:pinned p [k] 0=true:=by rfl):Sub p [k] ⟨own,n,e⟩ ⟨[o],1,cK⟩:=⟨by simp,rfl,⟨ak,trivial⟩,h,hp⟩
def aa5:bN where
 L:=Nat
 args:=fun n=>[.i .u64 n]
 pre:=fun n=>n<18446744073709551616
 res:=fun n=>dn n
def aqC(m:Nat):ac Nat->cr
 |[]=>⟨[],0,[(0,.i .u64 m),(3,.nl)]⟩
 |d::ds=>⟨[.a 2 true 1 Nat gu (d::ds)],1,[(0,.i .u64 m),(3,.aN 0 1 0 (d::ds).length (d::ds).length)]⟩
def aa6:bw a4.ctx 160 aa5.spec:=by
 refine bZ [] U1.1 ?_;intro(n:Nat) (hn:n<18446744073709551616) H aK;have hl:(aT 1000000000 n).length<=3:=ke (by decide) (by omega);refine I ?_;refine cw (L:=Nat×ac Nat) (fun(m,l)=>m<=n∧aT 1000000000 n=l++aT 1000000000 m) (fun(m,l)=>aqC m l) (fun l=>(aT 1000000000 l.1).length) [] (n,[]) ⟨b6 _,rfl⟩ (by show(aT 1000000000 n).length<bc+1;unfold bc;omega) eW ?_;rintro⟨m,l⟩ ⟨hm,ao⟩;have gf:l.length<=3:=by rw[ao]at hl;simp at hl;omega
 have step:m≠0->(aT 1000000000 (m/1000000000)).length<(aT 1000000000 m).length∧m/1000000000<=n∧aT 1000000000 n=(l++[m%1000000000])++aT 1000000000 (m/1000000000):=fun h=>by
  rw[ao,ot (by decide) h];simp;omega
 have hq:((m%1000000000:Nat):Int)<9223372036854775808:=by omega
 have W3:m/1000000000%18446744073709551616=m/1000000000:=by omega
 have gX: -9223372036854775808<=((m%1000000000:Nat):Int):=by omega
 cases l with
 |nil=>
  refine I ?_;refine cP (fun h=> ?_) (fun h=> ?_)
  ·have step:=step (by omega);refine ag 9 ?_;refine ax 9 (.i .i64 ((m%1000000000:Nat):Int)) rfl (cS rfl gX hq) (I ?_);refine l8 gu [m%1000000000] (eR (R:=gu) [m%1000000000] rfl) ?_;refine I ?_;exact aU [1] (m/1000000000,[m%1000000000]) step (FE ⟨nw (congrArg Int.ofNat W3),rfl,trivial⟩ ⟨_,rfl,rfl,fun _=>rfl⟩)
  ·have h0:m=0:=by omega
   subst h0;rw[fL]at ao;refine I ?_;exact aM rfl (bV.nl.trans (.of (by show dc []=dc _;rw[ao];rfl)))
 |cons d ds=>
  refine I ?_;refine cP (fun h=> ?_) (fun h=> ?_)
  ·have step:=step (by omega);refine ag 9 ?_;refine ax 9 (.i .i64 ((m%1000000000:Nat):Int)) rfl (cS rfl gX hq) (I ?_);have kj:ds.length<=2:=by simp at gf;omega
   refine lI (R:=gu) [m%1000000000] (eR (R:=gu) [m%1000000000] rfl) ?_;refine I ?_;exact aU [2] (m/1000000000,d::(ds++[m%1000000000])) step (FE ⟨nw (congrArg Int.ofNat W3),congrArg (fun k=>some (ae.aN 2 1 0 k k)) (by simp),trivial⟩ ⟨_,rfl,rfl,fun _=>rfl⟩)
  ·have h0:m=0:=by omega
   subst h0;rw[fL,zcX]at ao;refine ag 14 ?_;refine gq 14 ?_;refine I ?_;exact aM rfl (.of (by show dc (d::ds)=dc _;rw[ao]))
def aaY:bN where
 L:=Nat
 args:=fun a=>[dn a]
 pre:=fun a=>eA 1073741824 a
 res:=fun a=>dn (a/2)
def JJ:bw a4.ctx 251 aaY.spec:=by
 refine bZ [(157,xe.spec)] VI.1 ?_;intro(a:Nat) (ha:(aT _ a).length<=_) H aK;have h1:=hA (b:=1000000000) (by decide) a;have jF:=gV (b:=1000000000) (by decide) a;show aS.ok _ ⟨_,_,⟨_,_,[(0,dc (aT 1000000000 a))]⟩⟩;generalize aT 1000000000 a=xs at *;refine I ?_;refine lj gu 0 ?_;refine I ?_;refine cw (L:=Nat×ac Nat×Nat) (fun(k,outs,r)=>k<=xs.length∧outs.length=xs.length∧cY 1000000000 outs∧r<2∧val 1000000000 (xs.drop k)=val 1000000000 (outs.drop k)*2+r)
  (fun((k:Nat),(outs:ac Nat),(r:Nat))=>⟨[.a 2 false 1 Nat gu outs],1,[(0,dc xs),(3,.aN 0 1 0 xs.length xs.length),(4,.i .i64 r),(5,.i .i64 ((k:Int)-1))]⟩)
  (fun l=>l.1) [0] (xs.length,List.replicate xs.length 0,0) ⟨by omega,by simp,tp (by decide) _,by decide,by simp[val]⟩ (by show xs.length<bc+1;unfold bc;omega) (eO ⟨rfl,rfl,rfl,fa,trivial⟩ ⟨_,rfl,rfl,fun _=>rfl⟩) ?_
 rintro⟨k,outs,r⟩ ⟨hk,hF,bH,aL,aB⟩;cases k with
 |zero=>
  refine I ?_;refine gq 30 ?_;refine aX xg outs (by show outs.length<=_;omega) (I ?_);rw[zar,zar]at aB;refine aM rfl (.of ?_);show dc (e0 outs)=dn (a/2);rw[zT (b:=1000000000) (by decide) bH,show a/2=val 1000000000 outs by omega];rfl
 |succ m=>
  have J:m<xs.length:=by omega
  have mw:=h1 _ (fy J);have ml:=acr aL mw;refine ax 5 (.i .i64 (m:Nat)) rfl fv (I ?_);refine ax 13 (.b true) rfl (by simp) (I ?_);refine db xs[m] (bE J) ?_;refine ag 22 ?_;refine ax 22 (.i .i64 ((r*1000000000+xs[m]:Nat):Int)) rfl (congrArg (ae.i .i64) (by rw[hG (n:=(r:Int)*1000000000) (by omega) (by omega),hG (by omega) (by omega)];omega)) ?_;obtain⟨T,yo⟩:∃T,T=r*1000000000+xs[m]:=⟨_,rfl⟩;have gz:T<2000000000:=by omega
  rw[<-yo]at ml;refine ax 22 (.i .i64 (T:Nat)) rfl (by rw[yo]) (ag 26 ?_);refine ax 26 (.i .i64 ((T/2:Nat):Int)) rfl (by show ae.i _ (IntKind.i64.wrap ((T/2:Nat):Int))=_;exact cS rfl (by omega) (by omega)) ?_;refine hU ?_;refine iC (T/2) ?_;refine ag 29 ?_;refine ax 29 (.i .i64 ((T%2:Nat):Int)) rfl rfl (I ?_);have af:xs.drop m=xs[m]::xs.drop (m+1):=fP J;refine aU [0] (m,outs.set m (T/2),T%2) ⟨by simp,by omega,by simp[hF],nD bH _ ml,zaj _ (by decide),?_⟩ (eO ⟨rfl,rfl,rfl,fa,trivial⟩ ⟨_,rfl,rfl,fun _=>rfl⟩);rw[af,fP (l:=outs.set m _) (by simp;omega),zbe,zdb (by omega),yo];exact acs aB
def aa9:bN where
 L:=Nat
 args:=fun a=>[dn a]
 pre:=fun a=>True
 res:=fun a=>.b (decide (a%2=1))
def JK:bw a4.ctx 250 aa9.spec:=by
 refine bZ [] VH.1 ?_;intro(a:Nat) _ H aK;show aS.ok _ ⟨_,_,⟨_,_,[(0,dc (aT 1000000000 a))]⟩⟩;by_cases h0:a=0
 ·subst h0;rw[fL];refine I ?_;exact aM rfl (.refl _)
 ·rw[ot (by decide) h0];refine I ?_;refine ax 6 (.b true) rfl (by simp) (I ?_);refine db (j:=0) (a%1000000000) rfl ?_;refine ag 10 ?_;refine ax 10 (.i .i64 ((a%1000000000%2:Nat):Int)) rfl rfl (I ?_);refine aM rfl (.of ?_);show ae.b (decide _)=ae.b (decide _);congr 2;apply propext;omega
def akE{W:Nat}(iS:V=v*P+nd)(AY:nd<P)(fm:W=w*P+pE)(aB:0<V):w/(v+1)<=W/V:=by
 rw[zbQ aB];have h1:w/(v+1)*(v+1)<=w:=zdX _ _;have h2:V<=(v+1)*P:=by rw[zah];omega
 calc w/(v+1)*V<=w/(v+1)*((v+1)*P):=pA _ h2
  _=w/(v+1)*(v+1)*P:=(zan _ _ _).symm
  _<=w*P:=jo _ h1
  _<=W:=by omega
def akD{W:Nat}(iS:V=v*P+nd)(uB:pE<P)(fm:W=w*P+pE)(aB:0<v)(eZ:0<P):W/V<=(w+1)/v:=by
 have sX:0<V:=by have:=zaM aB eZ;omega
 rw[zbQ aB];have h1:W/V*V<=W:=zdX _ _;have h2:W/V*(v*P)<=W/V*V:=pA _ (by omega);have ab:W/V*v*P<(w+1)*P:=by rw[zan,zah];omega
 exact zaL (zdq ab)
def dW{l:Nat}(h:eA k a)(hl:k<=l:=by decide):eA l a:=zag h hl
def Sz:n<2^k↔cf n<=k:=⟨Lz,fun h=>by
 by_cases h0:n=0
 ·subst h0;exact zbO k
 ·exact gH (xO h0).2 (zaI (by decide) h)⟩
def aeJ:29*((aT 1000000000 n).length-1)<=cf n∧cf n<=30*(aT 1000000000 n).length:=by
 constructor
 ·refine zdv fun h=> ?_;have hl:0<(aT 1000000000 n).length:=by omega
  have h1:=(x4 (b:=1000000000) (n:=n) (i:=(aT 1000000000 n).length-1) (by decide)).1 (by omega);have h2:1000000000^((aT 1000000000 n).length-1)<=n:=zdv fun aC=>h1 (zbI aC);have ab:(2^29)^((aT 1000000000 n).length-1)<=1000000000^((aT 1000000000 n).length-1):=zco (by decide) _;rw[<-zbk]at ab;have:=Sz.2 (zaL h);omega
 ·refine Lz (gH (sO (b6 _)) ?_);rw[zbk];exact zco (by decide) _
def dP(k:Nat)(x:Rat):Prop:=eA k x.num.natAbs∧eA k x.den
def tw{b l:Nat}(ha:eA k a)(hb:eA l b):eA (k+l) (a*b):=ke (by decide) (by rw[zal];exact zeK (sO ha) (sO hb))
def Fe:bN where
 L:=Rat×Rat
 args:=fun(x,y)=>[ca x,ca y]
 pre:=fun(x,y)=>dP 268435456 x∧dP 268435456 y
 res:=fun(x,y)=>.i .i64 (iR x y)
def Ch(n:Int): -1<=n.sign∧n.sign<=1:=by
 rcases(show n<0∨n=0∨0<n by omega)with h|h|h
 ·rw[zcW h];decide
 ·rw[h];decide
 ·rw[zcz h];decide
def JN:bw a4.ctx 30 Fe.spec:=by
 refine bZ [(90,zB.spec),(89,B0.spec),(88,w8.spec)] VW.1 ?_;intro⟨x,y⟩ ⟨(J:dP _ x),(ay:dP _ y)⟩ H aK;obtain⟨fg,e1,mg⟩:=S1 x y;have j6:=Ch x.num;have nL:=Ch y.num;refine I ?_;refine cP (fun h=> ?_) (fun h=> ?_)
 ·refine I ?_;exact aM rfl (.of (by show ae.i .i64 (-1)=ae.i .i64 (iR x y);rw[fg h]))
 refine I ?_;refine cP (fun h1=> ?_) (fun h1=> ?_)
 ·refine I ?_;exact aM rfl (.of (by show ae.i .i64 1=ae.i .i64 (iR x y);rw[e1 h1]))
 have he:x.num.sign=y.num.sign:=by omega
 refine I ?_;refine bC sm y trivial (I ?_);refine bC sn (x.num.natAbs,y.den) ⟨dW J.1,dW ay.2⟩ (I ?_);refine bC sm x trivial (I ?_);refine bC sn (y.num.natAbs,x.den) ⟨dW ay.1,dW J.2⟩ (I ?_);refine bC vw (x.num.natAbs*y.den,y.num.natAbs*x.den) ⟨dW (tw J.1 ay.2),dW (tw ay.1 J.2)⟩ (I ?_);refine aM rfl (.of ?_);show ae.i .i64 (IntKind.i64.wrap (x.num.sign*jH _ _))=ae.i .i64 (iR x y);rw[mg he];refine congrArg _ (FU rfl ?_ ?_)
 all_goals
  have af:x.num.sign= -1∨x.num.sign=0∨x.num.sign=1:=by omega
  unfold jH;rcases af with h|h|h<;>rw[h]<;>split<;>(try split)<;>decide
end Go.ah.aW
namespace Go.ah.aW
variable{b a n m:Nat}
def GS{k:Nat}(hb:2<=b)(h:(aT b n).length<=k):n<b^k:=by
 have h1:=lM (hA hb n);rw[gV hb]at h1;exact zbL h1 (zaI (by omega) h)
def ac3(hb:2<=b)(h:(aT b n).length=m+1):(aT b n)[m]? =some (n/b^m):=by
 rw[um hb (by omega),zbU];have:=GS hb (zde h);rw[zak]at this;exact zcC this
def atS(hb:2<=b)(h:m+1<(aT b n).length)(aE:n<b^(m+2)):
 (aT b n)[m]? =some (n/b^m%b)∧(aT b n)[m+1]? =some (n/b^(m+1))∧n/b^m%b+b*(n/b^(m+1))=n/b^m:=by
 refine⟨um hb (by omega),?_,?_⟩
 ·rw[um hb h,zbU];rw[show m+2=(m+1)+1 from rfl,zak]at aE;exact zcC aE
 ·rw[zak,<-zbf];exact zcP _ _
def WV(ha:a%2=0)(h:Nat.gcd a b%2=1):Nat.gcd (a/2) b=Nat.gcd a b:=by
 obtain⟨c,rfl⟩:∃c,a=2*c:=⟨a/2,by omega⟩;have hb:b%2=1:=by
  rcases zdB b with h0|h0
  ·have:2∣Nat.gcd (2*c) b:=Nat.dvd_gcd ⟨c,rfl⟩ (zeP h0);omega
  ·exact h0
 have hc:Nat.Coprime 2 b:=by
  show Nat.gcd 2 b=1;rw[Nat.gcd_rec,hb];exact Nat.gcd_one_left 2
 rw[zdY _ (by decide)];exact(Nat.Coprime.gcd_mul_left_cancel c hc).symm
def akr(hb:b%2=0)(h:Nat.gcd a b%2=1):Nat.gcd a (b/2)=Nat.gcd a b:=by
 rw[zcy,WV hb (by rw[zcy];exact h),zcy]
def gcd_both(ha:a%2=0)(hb:b%2=0):2*Nat.gcd (a/2) (b/2)=Nat.gcd a b:=by
 obtain⟨c,rfl⟩:∃c,a=2*c:=⟨a/2,by omega⟩;obtain⟨d,rfl⟩:∃d,b=2*d:=⟨b/2,by omega⟩;rw[zdY _ (by decide),zdY _ (by decide),Nat.gcd_mul_left]
def WW(h:b<=a):Nat.gcd (a-b) b=Nat.gcd a b:=by
 conv=>rhs;rw[show a=(a-b)+b by omega]
 simp
def WX(h:¬(a%2=0∧b%2=0)):Nat.gcd a b%2=1:=by
 rcases zdB (Nat.gcd a b)with h0|h0
 ·have h1:2∣Nat.gcd a b:=zeP h0;have h2:=zdw h1 (zdr a b);have ab:=zdw h1 (Nat.gcd_dvd_right a b);exact absurd ⟨Nat.mod_eq_zero_of_dvd h2,Nat.mod_eq_zero_of_dvd ab⟩ h
 ·exact h0
def dec(n:Nat):ac Nat:=if n=0 then[0]else(aT 10 n).reverse
def hg(l:ac Nat):ac bv:=l.map fun d=>UInt8.ofNat (48+d)
def Gi(l m:ac Nat):hg (l++m)=hg l++hg m:=by unfold hg;rw[zcg]
def tU(l:ac Nat):(hg l).length=l.length:=by unfold hg;rw[zbu]
def ja(k n:Nat):ac Nat:=(List.range k).map fun j=>n/10^j%10
def YL(k n:Nat):ja (k+1) n=ja k n++[n/10^k%10]:=by unfold ja;rw[zew,zcg];rfl
def y9(k n:Nat):(ja k n).length=k:=by unfold ja;rw[zbu,zdn]
def YK(k n:Nat):cY 10 (ja k n):=fun d ao=>by
 unfold ja at ao;obtain⟨j,_,rfl⟩:=zbX.1 ao;exact zaj _ (by decide)
def YM(k n:Nat):val 10 (ja k n)=n%10^k:=by
 induction k with
 |zero=>rw[zcU,zcT];rfl
 |succ k a1=>rw[YL,nN,a1,y9,Nat.mod_pow_succ];rfl
def apy{l m:ac Nat}(h:cY b l)(aC:cY b m):cY b (l++m):=fun d ao=>(zbw.1 ao).elim (h d) (aC d)
def Du(l:ac Nat):cY 10 (l.flatMap (ja 9)):=fun d ao=>by
 obtain⟨x,_,h⟩:=List.mem_flatMap.1 ao;exact YK 9 x d h
theorem Ud:∀{l:ac Nat},cY 1000000000 l->val 10 (l.flatMap (ja 9))=val 1000000000 l
 |[],_=>rfl
 |x::l,h=>by
  rw[zdk,nN,Ud (fun d ao=>h d (zaB _ ao)),YM,y9];have:=h x (by simp);show x%1000000000+1000000000*_=_;rw[zbU this];rfl
def Tp(n:Nat):cY 10 (dec n):=by
 unfold dec;split
 ·intro d ao;simp at ao;omega
 ·exact fun d ao=>hA (by decide) n d (zdx.1 ao)
def agr(n:Nat):dec n≠[]:=by
 unfold dec;split
 ·simp
 ·intro h;exact absurd ((qD (by decide)).1 (zeQ.1 h)) (by assumption)
def ags(n:Nat):val 10 (dec n).reverse=n:=by
 unfold dec;split
 ·rename_i h;rw[h];rfl
 ·rw[zeR,gV (by decide)]
def Row(l:ac Nat):Prop:=l≠[]∧cY 10 l∧(l=[0]∨l.head?≠some 0)
variable{l:ac Nat}
def atW(h:l.getLast?≠some 0):e0 l=l:=by
 rcases zbG l with rfl|⟨dC,d,rfl⟩
 ·rfl
 ·rw[zbH]at *;rw[sz,zaa (fun e=>h (by simp[e]))]
def ary(h:Row l):dec (val 10 l.reverse)=l:=by
 obtain⟨h1,h2,ab⟩:=h;have ok:cY 10 l.reverse:=fun d ao=>h2 d (zdx.1 ao);rcases ab with rfl|ab
 ·rfl
 ·have aF:e0 l.reverse=l.reverse:=atW (by rw[List.getLast?_reverse];exact ab);have ao:=AJ (b:=10) (by decide) ok aF;unfold dec;split
  ·rename_i h0;rw[h0,fL]at ao;exact absurd (zeQ.1 ao.symm) h1
  ·rw[ao,zeR]
def nU(s:ac bv):ac Nat:=s.map fun c=>c.toNat-48
def bQ(s:ac bv):Nat:=val 10 (nU s).reverse
def jS(s:ac bv):Prop:=∀c∈s,48<=c.toNat∧c.toNat<=57
instance(s:ac bv):Decidable (jS s):=by unfold jS;infer_instance
def hL(s:ac bv):Prop:=s≠[]∧jS s∧(s=[48]∨s.head?≠some 48)
variable{s p:ac bv}
instance(s:ac bv):Decidable (hL s):=by unfold hL;infer_instance
def aev(h:jS s):hg (nU s)=s:=by
 unfold hg nU;rw[zch]
 conv=>rhs;rw[<-List.map_id s]
 refine zdJ fun c hc=> ?_;have:=h c hc;show UInt8.ofNat (48+(c.toNat-48))=c;rw[show 48+(c.toNat-48)=c.toNat by omega,zeF]
def GV{d:Nat}(h:d<10):(UInt8.ofNat (48+d)).toNat=48+d:=by
 rw[zeS];omega
def agG(h:cY 10 l):nU (hg l)=l:=by
 unfold hg nU;rw[zch]
 conv=>rhs;rw[<-List.map_id l]
 refine zdJ fun d ao=> ?_;have:=h d ao;show(UInt8.ofNat (48+d)).toNat-48=d;rw[GV this];omega
def aeu(h:cY 10 l):jS (hg l):=fun c hc=>by
 unfold hg at hc;obtain⟨d,ao,rfl⟩:=zbX.1 hc;have:=h d ao;rw[GV this];omega
def Tz(h:jS s):cY 10 (nU s):=fun d ao=>by
 unfold nU at ao;obtain⟨c,hc,rfl⟩:=zbX.1 ao;have:=h c hc;omega
def aeS(h:hL s):Row (nU s):=by
 obtain⟨h1,h2,ab⟩:=h;refine⟨fun e=>h1 (List.map_eq_nil_iff.1 e),Tz h2,?_⟩;rcases ab with rfl|ab
 ·left;rfl
 ·right;cases s with
  |nil=>exact absurd rfl h1
  |cons c s=>
   have hc:=h2 c (by simp);simp only[nU,zaZ,List.head?_cons,ne_eq,Option.some.injEq]at ab⊢;intro e;exact ab (zct.1 (by show c.toNat=48;omega))
def dX(n:Nat):ac bv:=hg (dec n)
def C9(h:hL s):dX (bQ s)=s:=by
 unfold dX bQ;rw[ary (aeS h),aev h.2.1]
def are(n:Nat):bQ (dX n)=n:=by
 unfold dX bQ;rw[agG (Tp n),ags]
def agp(n:Nat):jS (dX n):=aeu (Tp n)
def x0(n:Nat):dX n≠[]:=fun h=>agr n (List.map_eq_nil_iff.1 h)
def Zo(h:jS s):(47:bv)∉s:=fun hm=>by have:=h _ hm;simp at this
def cutAt:ac bv->ac bv×am (ac bv)
 |[]=>([],none)
 |c::s=>if c=47 then([],some s)else(c::(cutAt s).1,(cutAt s).2)
theorem GL:∀{s p q:ac bv},(47:bv)∉p->s=p++47::q->cutAt s=(p,some q)
 |_,[],q,_,rfl=>rfl
 |_,c::p,q,h,rfl=>by
  have hc:c≠47:=fun e=>h (by simp[e]);have:=GL (s:=p++47::q) (p:=p) (q:=q) (fun hm=>h (zaB _ hm)) rfl;show(if c=47 then _ else(c::(cutAt (p++47::q)).1,(cutAt (p++47::q)).2))=_;rw[zaa hc,this]
theorem Te:∀{s:ac bv},(47:bv)∉s->cutAt s=(s,none)
 |[],_=>rfl
 |c::s,h=>by
  have hc:c≠47:=fun e=>h (by simp[e]);show(if c=47 then _ else _)=_;rw[zaa hc,Te (fun hm=>h (zaB _ hm))]
def GK(s:ac bv):(47:bv)∉(cutAt s).1∧(∀q,(cutAt s).2=some q->s=(cutAt s).1++47::q)∧((cutAt s).2=none->s=(cutAt s).1):=by
 induction s with
 |nil=>exact⟨by simp[cutAt],fun q h=>by simp[cutAt]at h,fun _=>rfl⟩
 |cons c s a1=>
  by_cases hc:c=47
  ·subst hc;refine⟨by simp[cutAt],fun q h=> ?_,fun h=>by simp[cutAt]at h⟩;simp[cutAt]at h;subst h;rfl
  ·have e:cutAt (c::s)=(c::(cutAt s).1,(cutAt s).2):=zaa hc;obtain⟨h1,h2,ab⟩:=a1;rw[e];refine⟨fun hm=>(zap.1 hm).elim (fun e=>hc e.symm) h1,fun q h=> ?_,fun h=> ?_⟩
   ·show c::s=c::((cutAt s).1++47::q);rw[<-h2 q h]
   ·show c::s=c::(cutAt s).1;rw[<-ab h]
def df(s:ac bv):Bool×ac bv:=match s with
 |[]=>(false,[])
 |c::t=>if c=45 then(true,t)else(false,c::t)
def h4(n:Bool)(p:Nat):Int:=if n then -(p:Int)else p
def nG(s:ac bv):am Rat:=
 if hL (cutAt (df s).2).1∧¬((df s).1=true∧(cutAt (df s).2).1=[48])then match(cutAt (df s).2).2 with
  |none=>some (mkRat (h4 (df s).1 (bQ (cutAt (df s).2).1)) 1)
  |some q=>if hL q∧q≠[48]∧q≠[49]∧Nat.gcd (bQ (cutAt (df s).2).1) (bQ q)=1 then some (mkRat (h4 (df s).1 (bQ (cutAt (df s).2).1)) (bQ q))else none
 else none
def ff(x:Rat):ac bv:=(if x.num<0 then[45]else[])++dX x.num.natAbs++(if x.den=1 then[]else 47::dX x.den)
def At(h:hL s)(h0:bQ s=0):s=[48]:=by rw[<-C9 h,h0];rfl
def SD(h:hL s)(h0:bQ s=1):s=[49]:=by
 rw[<-C9 h,h0];show hg (dec 1)=_;unfold dec;rw[zaa (by decide),ot (by decide) (by decide),show 1/10=0 from rfl,fL];rfl
def OE(n:Int)(d:Nat)(h:d≠0):(mkRat n d).num=n/((n.natAbs.gcd d:Nat):Int)∧(mkRat n d).den=d/n.natAbs.gcd d:=by
 rw[<-Rat.normalize_eq_mkRat h,Rat.normalize_eq h];exact⟨rfl,rfl⟩
def zN(n:Bool)(p:Nat):(h4 n p).natAbs=p:=by cases n<;>simp[h4]
def ado{n:Bool}{p q:Nat}(hn:n=true->p≠0)(hq:q≠0)(aO:Nat.gcd p q=1):ff (mkRat (h4 n p) q)=(if n=true then[45]else[])++dX p++(if q=1 then[]else 47::dX q):=by
 obtain⟨h1,h2⟩:=OE (h4 n p) q hq;rw[zN,aO]at h1 h2;unfold ff;rw[h1,h2,zbJ];have:(h4 n p/((1:Nat):Int))=h4 n p:=Int.ediv_one _;rw[this,zN];congr 2;cases n
 ·rw[zaa (by simp[h4]),zaa (by decide)]
 ·have:=hn rfl;rw[zab (by simp[h4];omega),zab rfl]
def af5{u ads v v':ac bv}(h:(47:bv)∉u)(aC:(47:bv)∉ads)(e:u++47::v=ads++47::v'):v=v':=by
 have:=GL (q:=v) h rfl;rw[e,GL (q:=v') aC rfl]at this;simpa using(congrArg Prod.snd this).symm
def at0{n:Bool}{q:ac bv}(hp:hL p)(hq:hL q)(hn:¬(n=true∧p=[48]))(h0:q≠[48])(h1:q≠[49]):
 ff (mkRat (h4 n (bQ p)) (bQ q))=(if n=true then[45]else[])++p++47::q↔Nat.gcd (bQ p) (bQ q)=1:=by
 have lf:bQ q≠0:=fun e=>h0 (At hq e);have eD:bQ q≠1:=fun e=>h1 (SD hq e);have gg:(47:bv)∉(if n=true then[45]else[])++p:=fun hm=>by
  rcases zbw.1 hm with h|h
  ·cases n<;>simp at h
  ·exact Zo hp.2.1 h
 constructor
 ·intro h;obtain⟨h2,ab⟩:=OE (h4 n (bQ p)) (bQ q) lf;rw[zN]at ab;have Zw:∀(b:Prop) [Decidable b] (k:Nat),(47:bv)∉(if b then[45]else[])++dX k:=fun b _ k hm=>by
   rcases zbw.1 hm with h|h
   ·split at h<;>simp at h
   ·exact Zo (agp k) h
  unfold ff at h;by_cases ao:(mkRat (h4 n (bQ p)) (bQ q)).den=1
  ·rw[zab ao,zcX]at h;exact absurd (h▸Zw _ _) (by simp)
  ·rw[zaa ao]at h;have e:=af5 (Zw _ _) gg h;have e2:(mkRat (h4 n (bQ p)) (bQ q)).den=bQ q:=by rw[<-are (mkRat _ _).den,e]
   rw[ab]at e2;have aO:0<Nat.gcd (bQ p) (bQ q):=zfe _ (by omega);refine Nat.le_antisymm (zdv fun h=> ?_) aO;have:=zdo (zaG lf) h;omega
 ·intro aO;rw[ado (fun h e=>hn ⟨h,At hp e⟩) lf aO,zaa eD,C9 hp,C9 hq]
def at1{n:Bool}(hp:hL p)(hn:¬(n=true∧p=[48])):ff (mkRat (h4 n (bQ p)) 1)=(if n=true then[45]else[])++p:=by
 rw[ado (fun h e=>hn ⟨h,At hp e⟩) (by decide) (zdZ _),zab rfl,zcX,C9 hp]
open Go.ah
set_option maxRecDepth 100000
set_option maxHeartbeats 4000000
variable{k d i:Nat}{x:Rat}{r q:Nat}{y:Rat}
def PX:bN where
 L:=Nat×Nat
 args:=fun(a,b)=>[dn a,dn b]
 pre:=fun(a,b)=>eA 268435456 a∧eA 268435456 b∧b≠0
 res:=fun(a,b)=>.bM [dn (a/b),dn (a%b)]
def aqq{W:Nat}(hb:(aT 1000000000 b).length=m+1)(fm:b<=W)(aE:W<1000000000*b):
 0<b/1000000000^m∧b/1000000000^m<1000000000∧W/1000000000^m/(b/1000000000^m+1)<=W/b∧W/b<=min ((W/1000000000^m+1)/(b/1000000000^m)) 999999999∧W/1000000000^m<1000000000*1000000000∧0<W/b∧W<1000000000^(m+2):=by
 have kW:0<b:=by
  refine zaG fun e=> ?_;rw[e,fL]at hb;simp at hb
 have eZ:0<1000000000^m:=zat (by decide);have h1:=(x4 (b:=1000000000) (n:=b) (i:=m) (by decide)).1 (by omega);have h2:=GS (b:=1000000000) (by decide) (zde hb);have kC:b=b/1000000000^m*1000000000^m+b%1000000000^m:=by rw[zam];exact(zbr _ _).symm
 have TI:W=W/1000000000^m*1000000000^m+W%1000000000^m:=by rw[zam];exact(zbr _ _).symm
 have uB:W<1000000000^(m+2):=by
  rw[show m+2=(m+1)+1 from rfl,zak,zam];exact gH aE (pA _ (zaL h2))
 refine⟨zaG h1,?_,akE kC (zaj _ eZ) TI kW,?_,?_,zcV fm kW,uB⟩
 ·exact zcC (by rwa [zak]at h2)
 ·have ab:=akD kC (zaj W eZ) TI (zaG h1) eZ;have aD:W/b<1000000000:=zcC (by rw[zam];exact aE);omega
 ·refine zcC ?_;rw[show m+2=m+(1+1)from rfl,zal,zal,Nat.pow_one]at uB;exact uB
def x5(h0:d≠0)(h:d<1000000000):aT 1000000000 d=[d]:=by
 rw[ot (by decide) h0,gR h,zbI h,fL]
def Q2(h:d<1000000000):e0 (d::aT 1000000000 r)=aT 1000000000 (d+1000000000*r):=by
 rw[zT (b:=1000000000) (by decide) (fun x J=>by
  rcases zap.1 J with rfl|J
  ·exact h
  ·exact hA (by decide) r x J)]
 simp only[val];rw[gV (by decide)]
def S3:jH a b<=0↔a<=b:=by
 unfold jH;split
 ·omega
 ·split<;>omega
def aqo(h:r<b)(hb:eA k b):eA k r:=ke (by decide) (Nat.lt_trans h (sO hb))
def aqp{dt:ac Nat}:(List.replicate (i+1) 0++dt).set i d=List.replicate i 0++d::dt:=by
 rw[List.replicate_succ',zcb,List.set_append_right _ _ (by simp)];simp
def PW(xs dt:ac Nat)(b m i W:Nat)(e:bJ):cr:=⟨[.a 2 false 1 Nat gu (List.replicate (i+1) 0++dt)],1,(0,dc xs)::(1,dc (aT 1000000000 b))::(6,.aN 0 1 0 xs.length xs.length)::(7,.i .i64 ((m+1:Nat):Int))::(8,dn W)::(9,.i .i64 i)::e⟩
def PY:bw a4.ctx 199 PX.spec:=by
 refine bZ [(157,xe.spec),(88,w8.spec),(89,B0.spec),(153,JQ.spec)] Vj.1 ?_;intro⟨a,b⟩ ⟨(ha:(aT _ a).length<=_),(hb:(aT _ b).length<=_),(kW:b≠0)⟩ H aK;have h1:=hA (b:=1000000000) (by decide) a;have jF:=gV (b:=1000000000) (by decide) a;obtain⟨m,hm⟩:∃m,(aT 1000000000 b).length=m+1:=⟨(aT 1000000000 b).length-1,by
  have:(aT 1000000000 b).length≠0:=fun e=>kW ((qD (by decide)).1 (zbz e));omega⟩
 have A2:=ac3 (b:=1000000000) (by decide) hm;show aS.ok _ ⟨_,_,⟨_,_,[(0,dc (aT 1000000000 a)),(1,dc (aT 1000000000 b))]⟩⟩;generalize r2:aT 1000000000 a=xs at *;refine I ?_;refine lj gu 0 ?_;refine I ?_;rw[hm];refine dS 8 (dc []) rfl bV.nl ?_;refine ax 8 (dn 0) rfl (by unfold dn;rw[fL]) ?_;refine cw (L:=Nat×ac Nat×Nat) (fun(k,dt,r)=>k+dt.length=xs.length∧cY 1000000000 dt∧r<b∧val 1000000000 (xs.drop k)=val 1000000000 dt*b+r)
  (fun((k:Nat),(dt:ac Nat),(r:Nat))=>⟨[.a 2 false 1 Nat gu (List.replicate k 0++dt)],1,[(0,dc xs),(1,dc (aT 1000000000 b)),(6,.aN 0 1 0 xs.length xs.length),(7,.i .i64 ((m+1:Nat):Int)),(8,dn r),(9,.i .i64 ((k:Int)-1))]⟩)
  (fun l=>l.1) [0] (xs.length,[],0) ⟨by simp,fun x J=>by simp at J,by omega,by simp[val]⟩ (by show xs.length<bc+1;unfold bc;omega) ?_ ?_
 ·exact eO ⟨rfl,rfl,rfl,rfl,rfl,fa,trivial⟩ ⟨_,rfl,by simp,fun _=>rfl⟩
 rintro⟨k,dt,r⟩ ⟨hk,bH,aL,aB⟩;cases k with
 |zero=>
  refine I ?_;refine gq 99 ?_;refine aX xg dt (by show dt.length<=_;omega) (I ?_);refine aM rfl (.of ?_);show ae.bM [dc (e0 dt),dn r]=ae.bM [dn (a/b),dn (a%b)];rw[zar,jF]at aB;have ao:=Nat.div_mod_unique (zaG kW) (a:=a) (c:=r) (d:=val 1000000000 dt);obtain⟨aq,e2⟩:=ao.2 ⟨by rw[aB,zam];exact zcf _ _,aL⟩;rw[zT (by decide) bH,aq,e2];rfl
 |succ i=>
  have J:i<xs.length:=by omega
  have mw:=h1 _ (fy J);obtain⟨W,fm⟩:∃W,W=xs[i]+1000000000*r:=⟨_,rfl⟩;have alh:W<1000000000*b:=by omega
  have wH:∀q ee:Nat,q*b+ee=W->val 1000000000 (xs.drop i)=val 1000000000 (q::dt)*b+ee:=fun q ee h=>by
   rw[fP J];simp only[val];rw[aB,zah,zaq,zan];omega
  have NM:=aqo aL hb;refine ax 9 (.i .i64 (i:Nat)) rfl fv (I ?_);refine ax 23 (.b true) rfl (by simp) (ag 26 ?_);refine ih (L:=Unit) (fun _=>True) (fun _=>PW xs dt b m i W []) ?_ ?_
  ·refine I ?_;refine db xs[i] (bE J) ?_;refine I ?_;refine m7 1 gu [xs[i]] ?_;by_cases qQ:r=0
   ·subst qQ;refine ax 31 (dc []) rfl (by unfold dn;rw[fL]) ?_;refine aqO (R:=gu) (QR rfl (fun _=>rfl) (fun _=>rfl)) ?_;refine gq 32 ?_;refine aX xg [xs[i]] (by show 1<=_;decide) (I ?_);refine aU [0] () trivial (eO ⟨rfl,rfl,rfl,rfl,congrArg (fun l=>some (dc l)) ?_,rfl,trivial⟩ ⟨_,rfl,rfl,fun _=>rfl⟩);have:=Q2 (d:=xs[i]) (r:=0) mw;rw[fL]at this;rw[fm];exact this
   ·have cb:aT 1000000000 r≠[]:=fun e=>qQ ((qD (by decide)).1 e);have hl:0<(aT 1000000000 r).length:=zbn.2 cb;have NM:(aT 1000000000 r).length<=268435456:=NM;refine abw (R:=gu) (aT 1000000000 r) (QR rfl (fun _=>rfl) (fun _=>rfl)) (xs[i]::aT 1000000000 r) ?_ (h0:=cb);refine gq 32 ?_;refine aX xg (xs[i]::aT 1000000000 r) (by show(aT _ r).length+1<=_;omega) (I ?_);refine aU [0] () trivial (eO ⟨rfl,rfl,rfl,rfl,congrArg (fun l=>some (dc l)) ?_,rfl,trivial⟩ ⟨_,rfl,rfl,fun _=>rfl⟩);rw[fm];exact Q2 mw
  intro _ _;have MW:eA 268435457 W:=by
   have:=Q2 (d:=xs[i]) (r:=r) mw;have h2:=adk (xs[i]::aT 1000000000 r);rw[this,<-fm]at h2;exact zag h2 (Nat.succ_le_succ NM)
  refine I ?_;refine aX vw (W,b) ⟨dW MW,dW hb⟩ (I ?_);refine cP (fun h=> ?_) (fun h=> ?_)
  ·have h:W<b:=GC h;refine I ?_;refine aU [0] (i,0::dt,W) ⟨by simp,by simp;omega,?_,h,wH 0 W (by omega)⟩ (eO ⟨rfl,rfl,rfl,rfl,rfl,fa,trivial⟩ ⟨_,rfl,by rw[List.replicate_succ',zcb];rfl,fun _=>rfl⟩);intro x J;rcases zap.1 J with rfl|J
   ·decide
   ·exact bH x J
  have mR:b<=W:=GD h;obtain⟨t1,t2,t3,t4,t5,t6,t7⟩:=aqq hm mR alh;have FK:m<(aT 1000000000 W).length:=(x4 (by decide)).2 (by have:=Nat.div_le_div_right (c:=1000000000^m) mR;omega);have awa:=ke (b:=1000000000) (by decide) t7;have Q5:∃iP:Nat,(aT 1000000000 W)[m]? =some iP∧(((aT 1000000000 W).length=m+1∧iP=W/1000000000^m)∨((aT 1000000000 W).length=m+2∧∃y:Nat,(aT 1000000000 W)[m+1]? =some y∧iP+1000000000*y=W/1000000000^m)):=by
   rcases(show(aT 1000000000 W).length=m+1∨(aT 1000000000 W).length=m+2 by omega)with h|h
   ·exact⟨_,ac3 (by decide) h,.inl ⟨h,rfl⟩⟩
   ·obtain⟨aH,aI,bj⟩:=atS (b:=1000000000) (by decide) (show m+1<_ by omega) t7;exact⟨_,aH,.inr ⟨h,_,aI,bj⟩⟩
  generalize Bj:b/1000000000^m=v at *;generalize eL:W/1000000000^m=w at *;obtain⟨iP,El,Q5⟩:=Q5;refine I ?_;refine ax 40 (.i .i64 (m:Nat)) rfl cS (I ?_);refine db iP El ?_;refine ag 10 ?_
  iterate 3 refine jd ?_
  refine ih (L:=Unit) (fun _=>True) (fun _=>PW xs dt b m i W [(10,.i .i64 (w:Nat))]) ?_ ?_
  ·refine I ?_;rcases Q5 with⟨aH,aI⟩|⟨aH,y,aI,bj⟩
   ·refine ax 46 (.b false) rfl (by rw[aH];simp) (I ?_);exact aU [0] () trivial (eO ⟨rfl,rfl,rfl,rfl,rfl,rfl,by rw[<-aI];rfl,trivial⟩ ⟨_,rfl,rfl,fun _=>rfl⟩)
   ·refine ax 46 (.b true) rfl (by rw[aH];simp) (I ?_);refine db y aI ?_;refine I ?_;refine aU [0] () trivial (eO ⟨rfl,rfl,rfl,rfl,rfl,rfl,?_,trivial⟩ ⟨_,rfl,rfl,fun _=>rfl⟩);exact congrArg (fun n=>some (ae.i .i64 n)) (by rw[hG (n:=1000000000*(y:Int)) (by omega) (by omega),hG (by omega) (by omega)];omega)
  intro _ _;refine I ?_;refine dO 57 (.i .i64 (m:Nat)) rfl rfl cS ?_;refine dp v A2 ?_;refine ag 60 ?_;refine dO 60 (.i .i64 ((v+1:Nat):Int)) rfl rfl cS ?_;refine Mb ?_;refine ag 63 ?_;refine dO 63 (.i .i64 ((w+1:Nat):Int)) rfl rfl cS ?_;refine ag 66 ?_;refine dO 66 (.i .i64 (m:Nat)) rfl rfl cS ?_;refine dp v A2 ?_;refine I ?_;refine Mb ?_;refine ag 70 ?_;obtain⟨lo,fG⟩:∃lo,lo=w/(v+1):=⟨_,rfl⟩;obtain⟨aa,g6⟩:∃aa,aa=min ((w+1)/v) 999999999:=⟨_,rfl⟩;rw[<-fG]at t3;rw[<-g6]at t4;refine dO 61 (.i .i64 (lo:Nat)) rfl rfl (by rw[fG]) ?_;refine dO 70 (.i .i64 (aa:Nat)) rfl rfl (by rw[g6];exact fv (by generalize(w+1)/v=u;omega)) ?_;have alX:aa<=999999999:=by generalize(w+1)/v=u at *;omega
  have aoP:∀d:Nat,d≠0->d<1000000000->eA 268435457 (b*d):=fun d h0 h=>tw (k:=268435456) (l:=1) hb (by show(aT _ d).length<=1;rw[x5 h0 h];exact b6 _);generalize ml:W/b=q at *;have iU:0<b:=zaG kW;refine I ?_;refine cw (L:=Nat×Nat) (fun(l,h)=>l<=q∧q<=h∧h<=999999999) (fun((l:Nat),(h:Nat))=>PW xs dt b m i W [(11,.i .i64 l),(12,.i .i64 h)]) (fun l=>l.2-l.1) [0] (lo,aa) ⟨t3,t4,alX⟩ (by show aa-lo<bc+1;unfold bc;omega) hd ?_;rintro⟨l,h⟩ ⟨aH,aI,bj⟩;refine I ?_;refine cP (fun aE=> ?_) (fun aE=> ?_)
  ·have aE:l<h:=by omega
   obtain⟨l4,al7⟩:∃l4,l4=(l+h+1)/2:=⟨_,rfl⟩;refine ag 76 ?_;refine ax 76 (.i .i64 ((l+h:Nat):Int)) rfl cS (ag 77 ?_);refine ax 77 (.i .i64 ((l+h+1:Nat):Int)) rfl cS (ag 78 ?_);refine ax 78 (.i .i64 (l4:Nat)) rfl (by rw[al7];show ae.i _ (IntKind.i64.wrap (((l+h+1)/2:Nat):Int))=_;exact cS rfl (by omega) (by omega)) ?_;have Bc:l4≠0:=by omega
   have yJ:l4<1000000000:=by omega
   refine I ?_;refine m7 1 gu [l4] ?_;refine gq 81 ?_;refine ax 81 (dn l4) rfl (by unfold dn;rw[x5 Bc yJ];rfl) ?_;refine aX sn (b,l4) ⟨dW hb,by show(aT _ l4).length<=_;rw[x5 Bc yJ];exact kv rfl⟩ (I ?_);refine aX vw (b*l4,W) ⟨dW (aoP l4 Bc yJ),dW MW⟩ (I ?_);have Xm:b*l4<=W↔l4<=q:=by rw[<-ml,zbQ iU,zam]
   refine cP (fun hc=> ?_) (fun hc=> ?_)
   ·have hc:=Xm.1 (S3.1 hc);refine I ?_;exact aU [0] (l4,h) ⟨by show h-l4<h-l;omega,hc,aI,bj⟩ hd
   ·have hc:q<l4:=Nat.lt_of_not_le fun aC=>hc (S3.2 (Xm.2 aC));refine I ?_;exact aU [0] (l,l4-1) ⟨by show l4-1-l<h-l;omega,aH,by show q<=l4-1;omega,by show l4-1<=_;omega⟩ (eO ⟨rfl,rfl,rfl,rfl,rfl,rfl,rfl,fa,trivial⟩ ⟨_,rfl,rfl,fun _=>rfl⟩)
  ·have he:l=q:=by omega
   subst he;have yJ:l<1000000000:=by omega
   have Bc:l≠0:=by omega
   have Bg:b*l<=W:=by rw[<-ml];exact Nat.mul_div_le W b
   refine I ?_;refine hU ?_;refine iC l ?_;refine I ?_;refine m7 1 gu [l] ?_;refine gq 96 ?_;refine ax 96 (dn l) rfl (by unfold dn;rw[x5 Bc yJ];rfl) ?_;refine aX sn (b,l) ⟨dW hb,by show(aT _ l).length<=_;rw[x5 Bc yJ];exact kv rfl⟩ ?_;refine aX Fh (W,b*l) ⟨dW MW,Bg⟩ (I ?_);have al9:W-b*l=W%b:=by have:=zbr W b;rw[ml]at this;omega
   refine aU [0] (i,l::dt,W-b*l) ⟨by simp,by simp;omega,?_,by rw[al9];exact zaj _ iU,wH l _ (by rw[zam l b];omega)⟩ (eO ⟨rfl,rfl,rfl,rfl,rfl,fa,trivial⟩ ⟨_,rfl,by rw[aqp],fun _=>rfl⟩);intro x J;rcases zap.1 J with rfl|J
   ·exact yJ
   ·exact bH x J
def pw(h:eA k b)(hl:a<=b):eA k a:=ke (by decide) (zaz hl (sO h))
def BX(h:eA k a):cf a<=30*k:=zag aeJ.2 (pA _ h)
def Iw:(aT 1000000000 n).length=0↔n=0:=by rw[zeM];exact qD (by decide)
def aaX:bN where
 L:=Nat×Nat
 args:=fun(a,b)=>[dn a,dn b]
 pre:=fun(a,b)=>eA 268435456 a∧eA 268435456 b∧b≠0
 res:=fun(a,b)=>dn (Nat.gcd a b)
def zE(x y t:Nat):cr:=⟨[],0,[(0,dn x),(1,dn y),(5,.i .i64 t)]⟩
def aqv:bw a4.ctx 198 aaX.spec:=by
 refine bZ [(199,PX.spec),(250,aa9.spec),(251,aaY.spec),(88,w8.spec),(153,JQ.spec),(152,PR.spec)] Vi.1 ?_;intro⟨a,b⟩ ⟨(ha:eA _ a),(hb:eA _ b),(kW:b≠0)⟩ H aK;refine I ?_;refine aX PY (a,b) ⟨ha,hb,kW⟩ (I ?_);have aL:a%b<b:=zaj _ (zaG kW);have aO:Nat.gcd (a%b) b=Nat.gcd a b:=by rw[zcy a b,Nat.gcd_rec b a]
 have qr:eA 268435456 (a%b):=pw hb (zaL aL);generalize J:a%b=iP at *;refine cP (fun h=> ?_) (fun h=> ?_)
 ·have h:iP=0:=Iw.1 (by omega);subst h;refine I ?_;exact aM rfl (.of (by show dn b=dn (Nat.gcd a b);rw[<-aO,zeT]))
 have h:iP≠0:=fun e=>h (by rw[e,fL];rfl);refine I ?_;refine rf (L:=Nat×Nat×Nat) (fun(x,y,t)=>x≠0∧y≠0∧eA 268435456 x∧eA 268435456 y∧t<=10000000000∧2^t*Nat.gcd x y=Nat.gcd a b∧Nat.gcd x y%2=1) (fun(x,y,t)=>zE x y t) ?_ ?_
 ·refine cw (L:=Nat×Nat×Nat) (fun(x,y,t)=>x≠0∧y≠0∧eA 268435456 x∧eA 268435456 y∧t+cf x<=10000000000∧2^t*Nat.gcd x y=Nat.gcd a b) (fun(x,y,t)=>zE x y t) (fun l=>cf l.1) [] (iP,b,0) ⟨h,kW,qr,hb,by have:=BX qr;show 0+_<=_;omega,by rw[zcU,zaw,aO]⟩ (by have:=BX qr;show cf iP<bc+1;unfold bc;omega) eW ?_;rintro⟨x,y,t⟩ ⟨aH,aI,bj,cn,cT,eB⟩;refine I ?_;refine aX JK x trivial (I ?_);by_cases uS:x%2=1
  ·refine ax 20 (.b false) rfl (by rw[zad uS];rfl) (I ?_);exact aU [] (x,y,t) ⟨aH,aI,bj,cn,by omega,eB,WX (fun h=>by omega)⟩ eW
  refine ax 20 (.b true) rfl (by rw[zai uS];rfl) (I ?_);have uS:x%2=0:=by omega
  refine aX JK y trivial (I ?_);by_cases H5:y%2=1
  ·refine ax 24 (.b false) rfl (by rw[zad H5];rfl) (I ?_);exact aU [] (x,y,t) ⟨aH,aI,bj,cn,by omega,eB,WX (fun h=>by omega)⟩ eW
  refine ax 24 (.b true) rfl (by rw[zai H5];rfl) ?_;have H5:y%2=0:=by omega
  refine I ?_;refine aX JJ x (dW bj) (I ?_);refine aX JJ y (dW cn) (I ?_);have mn:=Ap (n:=x) (by omega);have qM:=gcd_both uS H5;exact aU [] (x/2,y/2,t+1) ⟨by show cf (x/2)<cf x;omega,by show x/2≠0;omega,by show y/2≠0;omega,pw bj (zaH _ _),pw cn (zaH _ _),by show t+1+cf (x/2)<=_;omega,by rw[zak,zan,qM];exact eB⟩ (kr ⟨rfl,rfl,fa,trivial⟩)
 rintro⟨X,Y,t⟩ ⟨aH,aI,bj,cn,cT,eB,gb⟩;obtain⟨g,HH⟩:∃g,g=Nat.gcd X Y:=⟨_,rfl⟩;rw[<-HH]at eB gb;refine I ?_;refine rf (L:=Unit) (fun _=>True) (fun _=>⟨[],0,[(1,dn g),(5,.i .i64 t)]⟩) ?_ ?_
 ·refine cw (L:=Nat×Nat) (fun(x,y)=>y≠0∧eA 268435456 x∧eA 268435456 y∧Nat.gcd x y=g) (fun(x,y)=>zE x y t) (fun l=>2*(cf l.1+cf l.2)+l.1%2) [] (X,Y) ⟨aI,bj,cn,HH.symm⟩ (by have:=BX bj;have:=BX cn;show 2*(cf X+cf Y)+X%2<bc+1;unfold bc;omega) eW ?_;rintro⟨x,y⟩ ⟨h1,h2,ab,aD⟩;refine I ?_;refine cP (fun hl=> ?_) (fun hl=> ?_)
  ·have El:x≠0:=fun e=>by rw[e,fL]at hl;simp at hl
   refine I ?_;refine rf (L:=Nat) (fun eF=>eF%2=1∧eA 268435456 eF∧Nat.gcd eF y=g∧2*cf eF<=2*cf x+x%2-1) (fun eF=>zE eF y t) ?_ ?_
   ·refine cw (L:=Nat) (fun eF=>eF≠0∧eA 268435456 eF∧Nat.gcd eF y=g∧cf eF<=cf x∧(eF=x∨cf eF<cf x)) (fun eF=>zE eF y t) cf [] x ⟨El,h2,aD,b6 _,.inl rfl⟩ (by have:=BX h2;show cf x<bc+1;unfold bc;omega) eW ?_;rintro eF ⟨bf,bL,eM,uZ,Ip⟩;refine I ?_;refine aX JK eF trivial (I ?_);refine B6 (fun ak=> ?_) (fun ak=> ?_)
    ·have mn:=Ap (n:=eF) (by omega);have ak:eF%2=0:=by omega
     refine I ?_;refine aX JJ eF (dW bL) (I ?_);exact aU [] (eF/2) ⟨by show cf (eF/2)<cf eF;omega,by omega,pw bL (zaH _ _),by rw[WV ak (by rw[eM];exact gb)];exact eM,by omega,.inr (by omega)⟩ eW
    ·refine I ?_;exact aU [] eF ⟨ak,bL,eM,by rcases Ip with rfl|Ip<;>omega⟩ eW
   rintro eF ⟨bf,bL,eM,uZ⟩;refine I ?_;refine rf (L:=Nat) (fun fi=>fi%2=1∧eA 268435456 fi∧Nat.gcd eF fi=g∧cf fi<=cf y) (fun fi=>zE eF fi t) ?_ ?_
   ·refine cw (L:=Nat) (fun fi=>fi≠0∧eA 268435456 fi∧Nat.gcd eF fi=g∧cf fi<=cf y) (fun fi=>zE eF fi t) cf [] y ⟨h1,ab,eM,b6 _⟩ (by have:=BX ab;show cf y<bc+1;unfold bc;omega) eW ?_;rintro fi ⟨Io,iA,tc,Yi⟩;refine I ?_;refine aX JK fi trivial (I ?_);refine B6 (fun ak=> ?_) (fun ak=> ?_)
    ·have mn:=Ap (n:=fi) (by omega);have ak:fi%2=0:=by omega
     refine I ?_;refine aX JJ fi (dW iA) (I ?_);exact aU [] (fi/2) ⟨by show cf (fi/2)<cf fi;omega,by omega,pw iA (zaH _ _),by rw[akr ak (by rw[tc];exact gb)];exact tc,by omega⟩ eW
    ·refine I ?_;exact aU [] fi ⟨ak,iA,tc,Yi⟩ eW
   rintro fi ⟨Io,iA,tc,Yi⟩;refine I ?_;by_cases am7:fi=1
   ·subst am7;rw[zdZ]at tc;refine ax 1 (dc [1]) rfl (by unfold dn;rw[x3]) ?_;refine ax 47 (.b true) rfl (by rw[x3];rfl) (I ?_);refine db (j:=0) 1 rfl ?_;refine I ?_;exact aU [] () trivial (kr ⟨by rw[<-tc];unfold dn;rw[x3];rfl,rfl,trivial⟩)
   refine ih (L:=Unit) (fun _=>True) (fun _=>⟨[],0,[(0,dn eF),(1,dn fi),(5,.i .i64 t),(52,.b false)]⟩) ?_ ?_
   ·by_cases kZ:(aT 1000000000 fi).length=1
    ·have XX:fi<1000000000:=sO (k:=1) (zde kZ);refine ax 47 (.b true) rfl (by rw[kZ];rfl) ?_;refine ax 1 (dc [fi]) rfl (by unfold dn;rw[x5 (by omega) XX]) (I ?_);refine db (j:=0) fi rfl ?_;refine I ?_;exact aU [] () trivial (kr ⟨rfl,by unfold dn;rw[x5 (by omega) XX];rfl,rfl,congrArg (fun b=>some (ae.b b)) (zai (by omega)),trivial⟩)
    ·refine ax 47 (.b false) rfl (by rw[zai (by omega)]) (I ?_);exact aU [] () trivial eW
   intro _ _;refine I ?_;refine aX vw (eF,fi) ⟨dW bL,dW iA⟩ (I ?_);have qN:=Ap (n:=eF) (by omega);refine cP (fun hc=> ?_) (fun hc=> ?_)
   ·have hc:=GC hc;refine I ?_;refine aX Fh (fi,eF) ⟨dW iA,zaL hc⟩ (I ?_);have iU:=Ly (zca fi eF);exact aU [] (fi-eF,eF) ⟨by show 2*(cf (fi-eF)+cf eF)+(fi-eF)%2<2*(cf x+cf y)+x%2;omega,by show eF≠0;omega,pw iA (zca _ _),bL,by rw[WW (zaL hc),zcy];exact tc⟩ eW
   ·have hc:=GD hc;refine I ?_;refine aX Fh (eF,fi) ⟨dW bL,hc⟩ (I ?_);have iU:=Ly (zca eF fi);exact aU [] (eF-fi,fi) ⟨by show 2*(cf (eF-fi)+cf fi)+(eF-fi)%2<2*(cf x+cf y)+x%2;omega,by show fi≠0;omega,pw bL (zca _ _),iA,by rw[WW hc];exact tc⟩ eW
  ·have El:x=0:=Iw.1 (by omega);subst El;rw[zeT]at aD;refine I ?_;exact aU [] () trivial (kr ⟨by rw[<-aD];rfl,rfl,trivial⟩)
 intro _ _;refine I ?_;refine cw (L:=Nat) (fun i=>i<=t) (fun(i:Nat)=>⟨[],0,[(1,dn (2^i*g)),(5,.i .i64 t),(6,.i .i64 i)]⟩) (fun i=>t-i) [] 0 (zac _) (by show t-0<bc+1;unfold bc;omega) (kr ⟨by rw[zcU,zaw];rfl,rfl,rfl,trivial⟩) ?_;intro(i:Nat) aa;refine I ?_;refine cP (fun h=> ?_) (fun h=> ?_)
 ·have h:i<t:=by omega
  have eh:2^i*g<=b:=zag (jo g (zaI (by decide) aa)) (by rw[eB];exact zeN _ (zaG kW));refine I ?_;refine aX aaN (2^i*g,2^i*g) ⟨dW (pw hb eh),dW (pw hb eh)⟩ (I ?_);exact aU [] (i+1) ⟨by show t-(i+1)<t-i;omega,h⟩ (kr ⟨congrArg (fun n=>some (dn n)) (by rw[zak,zam (2^i) 2,zan];omega),rfl,fa,trivial⟩)
 ·have he:i=t:=by omega
  subst he;refine I ?_;exact aM rfl (.of (by show dn _=dn _;rw[eB]))
def aa0:bV (.agg [.i .i64 0,.nl,.nl]) (ca 0):=bV.agg ⟨.refl _,bV.nl.trans (.of (by show dc []=dc (aT _ 0);rw[fL])),bV.nl,trivial⟩
def aaM{n:Bool}{p:Nat}(hp:p≠0)(hq:q≠0):ca (mkRat (if n then -(p:Int)else p) q)= .agg [.i .i64 (if n then -1 else 1),dn (p/p.gcd q),dn (q/p.gcd q)]:=by
 obtain⟨h1,h2⟩:=ZC (neg:=n) hp hq;have aO:0<p.gcd q:=zeL _ (by omega);have ao:0<p/p.gcd q:=zcV (Nat.le_of_dvd (by omega) (zdr p q)) aO;unfold ca;rw[h1,h2];generalize p/p.gcd q=a at *;cases n
 ·simp only[zbt,if_false];rw[zaa (by omega),zcz (by omega)];rfl
 ·simp only[if_true];rw[zaa (by omega),zcW (by omega),zdt];rfl
def xa:bN where
 L:=Int×Nat×Nat
 args:=fun(s,p,q)=>[.i .i64 s,dn p,dn q]
 pre:=fun(s,p,q)=> -1<=s∧s<=1∧eA 268435456 p∧eA 268435456 q∧q≠0
 res:=fun(s,p,q)=>ca (mkRat (s*p) q)
def aqi{s:Int}{p:Nat}(h1: -1<=s)(h2:s<=1)(af:s≠0)(hp:p≠0)(hq:q≠0):ca (mkRat (s*p) q)= .agg [.i .i64 s,dn (p/p.gcd q),dn (q/p.gcd q)]:=by
 rcases(show s=1∨s= -1 by omega)with rfl|rfl
 ·have:=aaM (n:=false) hp hq;rw[zaa (by decide),zaa (by decide)]at this;rw[Int.one_mul];exact this
 ·have:=aaM (n:=true) hp hq;rw[zab rfl,zab rfl]at this;rw[zcF,Int.one_mul];exact this
def AB:jH a b=0↔a=b:=by
 unfold jH;split
 ·omega
 ·split<;>omega
def JG:eA 1073741824 1:=by show(aT _ 1).length<=_;rw[x3];exact kv rfl
def xb:bw a4.ctx 148 xa.spec:=by
 refine bZ [(158,Fa.spec),(88,w8.spec),(198,aaX.spec),(199,PX.spec)] UN.1 ?_;intro⟨s,p,q⟩ ⟨(h1: -1<=s),(h2:s<=1),(hp:eA _ p),(hq:eA _ q),(gX:q≠0)⟩ H aK;have zero:s*(p:Int)=0->bV (.agg [.i .i64 0,.nl,.nl]) (xa.res (s,p,q)):=fun h=>aa0.trans (.of (by show ca 0=ca (mkRat (s*p) q);rw[h,Rat.zero_mkRat]));refine ag 11 ?_;by_cases s6:p=0
 ·refine ax 11 (.b true) rfl (by show ae.b (decide (((aT 1000000000 p).length:Int)=0))=_;rw[zad (by have:=Iw.2 s6;omega)]) (I ?_);exact aM rfl (zero (by rw[s6];simp))
 refine ax 11 (.b false) rfl (by show ae.b (decide (((aT 1000000000 p).length:Int)=0))=_;rw[zai (by have:=mt Iw.1 s6;omega)]) (ag 13 ?_);by_cases mY:s=0
 ·refine KE 13 mY (I ?_);exact aM rfl (zero (by rw[mY];simp))
 refine KD 13 mY ?_;have fq:=aqi h1 h2 mY s6 gX;have fin:∀{dZ gZ:Nat},dZ=p/p.gcd q->gZ=q/p.gcd q->bV (.agg [.i .i64 s,dn dZ,dn gZ]) (xa.res (s,p,q)):=fun aq e2=>.of (by rw[aq,e2];exact fq.symm);refine I ?_;refine aX zG () trivial ?_;refine aX vw (p,1) ⟨dW hp,JG⟩ (ag 20 ?_);by_cases mV:p=1
 ·refine ax 20 (.b true) rfl (by show ae.b (decide _)=_;rw[zad (AB.2 mV)]) (I ?_);exact aM rfl (fin (by rw[mV];simp) (by rw[mV];simp))
 refine ax 20 (.b false) rfl (by show ae.b (decide _)=_;rw[zai (mt AB.1 mV)]) (I ?_);refine aX zG () trivial (I ?_);refine aX vw (q,1) ⟨dW hq,JG⟩ (ag 24 ?_);by_cases yO:q=1
 ·refine ax 24 (.b true) rfl (by show ae.b (decide _)=_;rw[zad (AB.2 yO)]) (I ?_);exact aM rfl (fin (by rw[yO];simp) (by rw[yO];simp))
 refine ax 24 (.b false) rfl (by show ae.b (decide _)=_;rw[zai (mt AB.1 yO)]) ?_;have aO:0<p.gcd q:=zfe _ (zaG gX);have HJ:eA 268435456 (p.gcd q):=pw hq (zeN _ (zaG gX));refine I ?_;refine aX aqv (p,q) ⟨hp,hq,gX⟩ (I ?_);refine aX zG () trivial ?_;refine aX vw (p.gcd q,1) ⟨dW HJ,JG⟩ (I ?_);refine ih (L:=Nat×Nat) (fun(dZ,gZ)=>dZ=p/p.gcd q∧gZ=q/p.gcd q) (fun(dZ,gZ)=>⟨[.c 34 [.i .i64 0,.nl,.nl]],1,[(0,.i .i64 s),(1,dn dZ),(2,dn gZ),(6,.p 0 0)]⟩) ?_ ?_
 ·refine cP (fun hc=> ?_) (fun hc=> ?_)
  ·refine I ?_;refine aX PY (p,p.gcd q) ⟨hp,HJ,by show p.gcd q≠0;omega⟩ (I ?_);refine aX PY (q,p.gcd q) ⟨hq,HJ,by show p.gcd q≠0;omega⟩ (I ?_);exact aU [0] (p/p.gcd q,q/p.gcd q) ⟨rfl,rfl⟩ hd
  ·have hc:p.gcd q=1:=AB.1 (Decidable.not_not.1 hc);refine I ?_;exact aU [0] (p,q) ⟨by rw[hc,zbJ],by rw[hc,zbJ]⟩ hd
 rintro⟨dZ,gZ⟩ ⟨aq,e2⟩;refine I ?_;exact aM rfl (fin aq e2)
def w9:bN where
 L:=Int
 args:=fun n=>[.i .i64 n]
 pre:=fun n=> -9223372036854775808<=n∧n<9223372036854775808
 res:=fun n=>ca (mkRat n 1)
def aaO(h:n<18446744073709551616):eA 3 n:=ke (by decide) (by omega)
def oT:bw a4.ctx 92 w9.spec:=by
 refine bZ [(160,aa5.spec),(158,Fa.spec),(148,xa.spec)] WL.1 ?_;intro(n:Int) ⟨(h1:_<=n),(h2:n<_)⟩ H aK;have eD:eA 268435456 1:=by show(aT _ 1).length<=_;rw[x3];exact kv rfl
 refine I ?_;refine cP (fun h=> ?_) (fun h=> ?_)
 ·obtain⟨m,hm⟩:∃m:Nat,m=n.natAbs:=⟨_,rfl⟩;refine ag 6 ?_;refine ax 6 (.i .i64 (n+1)) rfl (cS rfl (by omega) (by omega)) (ag 7 ?_);refine ax 7 (.i .i64 ((m-1:Nat):Int)) rfl cS (ag 9 ?_);have agV:((m-1)%18446744073709551616+1)%18446744073709551616=m:=by omega
  refine ax 9 (.i .u64 (m:Nat)) rfl (congrArg (fun n:Nat=>ae.i .u64 (n:Int)) agV) ?_;refine aX aa6 m (by show m<_;omega) (I ?_);refine aX zG () trivial ?_;refine aX xb (-1,m,1) ⟨by decide,by decide,dW (aaO (by omega)),eD,by decide⟩ (I ?_);exact aM rfl (.of (by show ca _=ca _;rw[show -1*(m:Int)=n by omega]))
 ·obtain⟨m,hm⟩:∃m:Nat,n=(m:Int):=⟨n.toNat,by omega⟩;subst hm;refine ag 14 ?_;refine ax 14 (.i .u64 (m:Nat)) rfl fv ?_;refine aX aa6 m (by show m<_;omega) (I ?_);refine aX zG () trivial ?_;refine aX xb (1,m,1) ⟨by decide,by decide,dW (aaO (by omega)),eD,by decide⟩ (I ?_);exact aM rfl (.of (by show ca _=ca _;rw[Int.one_mul]))
def PS{s:Int}(h:s*(k:Int)=x.num*y.den+y.num*x.den):mkRat (s*k) (x.den*y.den)=x+y:=by rw[h,zeb]
def ab6(n:Int):n=n.sign*(n.natAbs:Int):=(zdu n).symm
def cN(x:Rat):ac ae:=[.i .i64 x.num.sign,dn x.num.natAbs,dc (if x.num=0 then[]else aT 1000000000 x.den)]
def Fc:bN where
 L:=Rat×Rat
 args:=fun(x,y)=>[ca x,ca y]
 pre:=fun(x,y)=>dP 67108864 x∧dP 67108864 y
 res:=fun(x,y)=>ca (x+y)
def zH:bw a4.ctx 84 Fc.spec:=by
 refine bZ [(90,zB.spec),(89,B0.spec),(152,PR.spec),(153,JQ.spec),(88,w8.spec),(148,xa.spec)] WC.1 ?_;intro⟨x,y⟩ ⟨(J:dP _ x),(ay:dP _ y)⟩ H aK;have gE:eA 134217728 (x.num.natAbs*y.den):=tw J.1 ay.2;have iB:eA 134217728 (y.num.natAbs*x.den):=tw ay.1 J.2;have y4:eA 134217728 (x.den*y.den):=tw J.2 ay.2;have ab:x.den*y.den≠0:=zbZ x.den_nz y.den_nz;have j6:=Ch x.num;have nL:=Ch y.num;refine I ?_;refine bC sm y trivial (I ?_);refine bC sn (x.num.natAbs,y.den) ⟨dW J.1,dW ay.2⟩ (I ?_);refine bC sm x trivial (I ?_);refine bC sn (y.num.natAbs,x.den) ⟨dW ay.1,dW J.2⟩ (I ?_);refine bC sm x trivial (I ?_);refine bC sm y trivial (I ?_);refine bC sn (x.den,y.den) ⟨dW J.2,dW ay.2⟩ (ag 27 ?_);refine ih (L:=Bool) (fun t=>t=decide (x.num.sign=0∨y.num.sign=0∨x.num.sign=y.num.sign)) (fun t=>⟨[.c 34 (cN x),.c 34 (cN y),.c 34 [.i .i64 0,.nl,.nl]],3,[(2,.p 0 0),(3,.p 1 0),(4,.p 2 0),(5,dn (x.num.natAbs*y.den)),(6,dn (y.num.natAbs*x.den)),(7,dn (x.den*y.den)),(38,.b t)]⟩) ?_ ?_
 ·by_cases fg:x.num.sign=0
  ·refine ax 27 (.b true) rfl (by rw[zad fg]) (I ?_);exact aU [0,1,2] true (by simp[fg]) Fz
  refine ax 27 (.b false) rfl (by rw[zai fg]) (ag 32 ?_);by_cases e1:y.num.sign=0
  ·refine ax 32 (.b true) rfl (by rw[zad e1]) (I ?_);exact aU [0,1,2] true (by simp[e1]) Fz
  refine ax 32 (.b false) rfl (by rw[zai e1]) (I ?_);exact aU [0,1,2] (decide (x.num.sign=y.num.sign)) (by simp only[fg,e1,false_or]) Fz
 intro t aF;have ex:=ab6 x.num;have uv:=ab6 y.num;by_cases hc:x.num.sign=0∨y.num.sign=0∨x.num.sign=y.num.sign
 ·refine ax 38 (.b true) rfl (by rw[aF,zad hc]) (I ?_);refine ih (L:=Int) (fun s=> -1<=s∧s<=1∧s*((x.num.natAbs*y.den+y.num.natAbs*x.den:Nat):Int)=x.num*y.den+y.num*x.den) (fun s=>⟨[.c 34 (cN x),.c 34 (cN y),.c 34 [.i .i64 0,.nl,.nl]],3,[(4,.p 2 0),(5,dn (x.num.natAbs*y.den)),(6,dn (y.num.natAbs*x.den)),(7,dn (x.den*y.den)),(8,.i .i64 s)]⟩) ?_ ?_
  ·refine cP (fun h=> ?_) (fun h=> ?_)
   ·refine I ?_;refine aU [0,1,2] y.num.sign ⟨nL.1,nL.2,?_⟩ Fz;have h0:x.num=0:=zbS.1 h
    conv=>rhs;rw[uv]
    rw[h0];simp[zbR]
   ·refine I ?_;refine aU [0,1,2] x.num.sign ⟨j6.1,j6.2,?_⟩ Fz;have wI:y.num=x.num.sign*(y.num.natAbs:Int):=by
     rcases hc with aC|aC|aC
     ·exact absurd aC h
     ·rw[zbS.1 aC];simp
     ·rw[aC];exact uv
    conv=>rhs;rw[ex,wI]
    rw[zdg,zaK,zaK,Int.mul_add,zbR,zbR]
  rintro s ⟨s1,s2,Ki⟩;refine I ?_;refine aX aaN (x.num.natAbs*y.den,y.num.natAbs*x.den) ⟨dW gE,dW iB⟩ (I ?_);refine aX xb (s,x.num.natAbs*y.den+y.num.natAbs*x.den,x.den*y.den) ⟨s1,s2,dW (RG gE iB),dW y4,ab⟩ (I ?_);exact aM rfl (.of (congrArg ca (PS Ki)))
 ·refine ax 38 (.b false) rfl (by rw[aF,zai hc]) ?_;have HS:y.num.sign= -x.num.sign:=by omega
  refine I ?_;refine aX vw (x.num.natAbs*y.den,y.num.natAbs*x.den) ⟨dW gE,dW iB⟩ (I ?_);have key:∀(s:Int) (a b:Nat),b<=a->s*((a-b:Nat):Int)=s*a+(-s)*b:=fun s a b h=>by rw[show((a-b:Nat):Int)=(a:Int)-b by omega,Int.mul_sub,zcF];rfl
  refine cP (fun h=> ?_) (fun h=> ?_)
  ·have aE:=GC h;refine I ?_;refine bC Fh (y.num.natAbs*x.den,x.num.natAbs*y.den) ⟨dW iB,zaL aE⟩ (I ?_);refine bC xb (y.num.sign,y.num.natAbs*x.den-x.num.natAbs*y.den,x.den*y.den) ⟨nL.1,nL.2,dW (pw iB (zca _ _)),dW y4,ab⟩ (I ?_);refine aM rfl (.of (congrArg ca (PS ?_)));rw[key _ _ _ (zaL aE)]
   conv=>rhs;rw[ex,uv]
   rw[HS,zaK,zaK,Int.neg_neg,zbR,zbR,Int.add_comm]
  ·have mR:=GD h;refine I ?_;refine bC Fh (x.num.natAbs*y.den,y.num.natAbs*x.den) ⟨dW gE,mR⟩ (I ?_);refine bC xb (x.num.sign,x.num.natAbs*y.den-y.num.natAbs*x.den,x.den*y.den) ⟨j6.1,j6.2,dW (pw gE (zca _ _)),dW y4,ab⟩ (I ?_);refine aM rfl (.of (congrArg ca (PS ?_)));rw[key _ _ _ mR]
   conv=>rhs;rw[ex,uv]
   rw[HS,zaK,zaK,zbR,zbR]
def Ff:bN where
 L:=Rat×Rat
 args:=fun(x,y)=>[ca x,ca y]
 pre:=fun(x,y)=>dP 67108864 x∧dP 67108864 y
 res:=fun(x,y)=>ca (x-y)
def ape(h:dP k x):dP k (-x):=by
 unfold dP;rw[zds,zea,zdt];exact h
def xc:bw a4.ctx 34 Ff.spec:=by
 refine bZ [(93,P3.spec),(84,Fc.spec)] V0.1 ?_;intro⟨x,y⟩ ⟨(J:dP _ x),(ay:dP _ y)⟩ H aK;refine I ?_;refine bC aa7 y trivial (I ?_);refine bC zH (x,-y) ⟨J,ape ay⟩ (I ?_);exact aM rfl (.of (by show ca (x+ -y)=ca (x-y);rw[zec]))
def Zt:dP 1 (mkRat 1 1):=by
 show eA 1 1∧eA 1 1;unfold eA;rw[x3];exact⟨b6 _,b6 _⟩
def cC{l:Nat}(h:dP k x)(hl:k<=l:=by decide):dP l x:=⟨dW h.1 hl,dW h.2 hl⟩
def aaZ:bN where
 L:=Rat
 args:=fun x=>[ca x]
 pre:=fun x=>dP 67108864 x
 res:=fun x=>.b (decide (x.den=1))
def aqw:bw a4.ctx 102 aaZ.spec:=by
 refine bZ [(90,zB.spec),(158,Fa.spec),(88,w8.spec)] Uu.1 ?_;intro(x:Rat) (J:dP _ x) H aK;refine I ?_;refine aX sm x trivial ?_;refine aX zG () trivial ?_;refine aX vw (x.den,1) ⟨dW J.2,JG⟩ (I ?_);exact aM rfl (.of (by show ae.b (decide _)=ae.b (decide _);congr 1;rw[decide_eq_decide];exact AB))
def SZ:iR x y<0↔x<y:=by
 unfold iR;constructor
 ·intro h;split at h
  ·assumption
  split at h<;>omega
 ·intro h;rw[zab h];decide
def apd{n:Int}(h1:eA k n.natAbs)(h2:eA k d)(ao:d≠0):dP k (mkRat n d):=by
 obtain⟨aq,e2⟩:=IN n d ao;refine⟨pw h1 ?_,pw h2 ?_⟩
 ·rw[aq,Int.natAbs_ediv_of_dvd (Int.ofNat_dvd_left.2 (zdr _ _))];exact zaH _ _
 ·rw[e2];exact zaH _ _
def aqy{c:Int}:bV (.bM [.agg [.i .i64 0,.nl,.nl],.i .i64 c]) (.bM [ca 0,.i .i64 c]):=.bM ⟨aa0,.refl _,trivial⟩
def Zk:bN where
 L:=Nat
 args:=fun n=>[.i .i64 n]
 pre:=fun n=>n<1000000000
 res:=fun n=>.s (hg (ja 9 n).reverse)
def ap7(n i:Nat):n/10^i<=n:=zaH _ _
def ao3:bw a4.ctx 167 Zk.spec:=by
 refine bZ [] U7.1 ?_;intro(n:Nat) (hn:n<1000000000) H aK;refine I ?_;refine cw (L:=Nat) (fun i=>i<=9) (fun(i:Nat)=>⟨[],0,[(0,.i .i64 (n/10^i:Nat)),(3,.s (hg (ja i n).reverse)),(4,.i .i64 i)]⟩) (fun i=>9-i) [] 0 (zac _) (by show 9-0<bc+1;unfold bc;omega) (kr ⟨by simp;rfl,rfl,rfl,trivial⟩) ?_;intro(i:Nat) aa;have hm:=ap7 n i;have af:n/10^(i+1)=n/10^i/10:=by rw[zak,zbf]
 have hl:hg (ja (i+1) n).reverse=hg [n/10^i%10]++hg (ja i n).reverse:=by rw[YL,zcc,Gi];rfl
 have hlen:(hg (ja i n).reverse).length=i:=by rw[tU,zby,y9]
 generalize e3:n/10^i=m at *;refine I ?_;refine cP (fun h=> ?_) (fun h=> ?_)
 ·have h:i<9:=by omega
  refine ag 10 ?_;refine ax 10 (.i .i64 ((m%10:Nat):Int)) rfl rfl (ag 11 ?_);refine ax 11 (.i .i64 ((48+m%10:Nat):Int)) rfl cS (ag 12 ?_);refine ax 12 (.i .u8 ((UInt8.ofNat (48+m%10)).toNat:Int)) rfl (by rw[zeS]) (I ?_);refine m7 0 lP [UInt8.ofNat (48+m%10)] ?_;refine Qi (hg [m%10]) ?_;refine I ?_;refine tz ?_ (hl:=by rw[hlen];show 1+i<=_;omega);refine ax 16 (.s (hg (ja (i+1) n).reverse)) rfl (by rw[hl]) (I ?_);exact aU [] (i+1) ⟨by show 9-(i+1)<9-i;omega,h⟩ (kr ⟨by rw[af];show some (ae.i _ (IntKind.i64.wrap ((m/10:Nat):Int)))=_;exact fa rfl (by omega) (by omega),rfl,fa,trivial⟩)
 ·have he:i=9:=by omega
  subst he;refine I ?_;exact aM rfl (.refl _)
def Qc:bN where
 L:=Nat
 args:=fun n=>[dn n]
 pre:=fun n=>eA 1073741824 n
 res:=fun n=>.s (dX n)
def Tq(h:d<10):dec d=[d]:=by
 unfold dec;split
 ·rename_i h0;rw[h0]
 ·rw[ot (by decide) (by assumption),gR h,zbI h,fL];rfl
def atU{dC:ac Nat}(h:d≠0):e0 (dC++[d])=dC++[d]:=by rw[sz,zaa h]
theorem MB:∀l:ac Nat,(l.flatMap (ja 9)).length=9*l.length
 |[]=>rfl
 |x::l=>by rw[zdk,zaE,MB l,y9,zax];omega
def JR:bw a4.ctx 101 Qc.spec:=by
 refine bZ [(167,Zk.spec)] Ut.1 ?_;intro(n:Nat) (hn:(aT _ n).length<=_) H aK;have h1:=hA (b:=1000000000) (by decide) n;have auh:=gV (b:=1000000000) (by decide) n;show aS.ok _ ⟨_,_,⟨_,_,[(0,dc (aT 1000000000 n))]⟩⟩;generalize aT 1000000000 n=xs at *;refine I ?_;refine rf (L:=Unit) (fun _=>True) (fun _=>⟨[],0,[(3,.s (hg (xs.flatMap (ja 9)).reverse))]⟩) ?_ ?_
 ·refine cw (L:=Nat) (fun k=>k<=xs.length) (fun(k:Nat)=>⟨[],0,[(0,dc xs),(3,.s (hg ((xs.drop k).flatMap (ja 9)).reverse)),(4,.i .i64 ((k:Int)-1))]⟩) id [] xs.length (b6 _) (by show xs.length<bc+1;unfold bc;omega) (kr ⟨rfl,by rw[zcn];rfl,fa,trivial⟩) ?_;intro(k:Nat) hk;cases k with
  |zero=>
   refine I ?_;exact aU [] () trivial eW
  |succ m=>
   have J:m<xs.length:=by omega
   have mw:=h1 _ (fy J);have kE:=MB (xs.drop (m+1));refine ax 4 (.i .i64 (m:Nat)) rfl fv (I ?_);refine ax 9 (.b true) rfl (by simp) (I ?_);refine db xs[m] (bE J) ?_;refine I ?_;refine aX ao3 xs[m] mw ?_;refine tz ?_ (hl:=by rw[tU,tU,zby,zby,kE,y9,zaF];omega);refine ax 18 (.s (hg ((xs.drop m).flatMap (ja 9)).reverse)) rfl (by rw[fP J,zdk,zcc,Gi]) (I ?_);exact aU [] m ⟨by simp,by omega⟩ (kr ⟨rfl,rfl,fa,trivial⟩)
 intro _ _;have bH:=Du xs;have wH:=Ud h1;have hlen:=MB xs;rw[auh]at wH;generalize xs.flatMap (ja 9)=Ms at *;refine I ?_;refine cw (L:=ac Nat) (fun es=>cY 10 es∧val 10 es=n∧es.length<=Ms.length) (fun es=>⟨[],0,[(3,.s (hg es.reverse))]⟩) List.length [] Ms ⟨bH,wH,b6 _⟩ (by show Ms.length<bc+1;unfold bc;omega) eW ?_;rintro es ⟨aH,aI,bj⟩;rcases zbG es with rfl|⟨dC,d,rfl⟩
 ·have mo:n=0:=by rw[<-aI];rfl
  refine I ?_;refine aM rfl (.of ?_);show ae.s [48]=ae.s (dX n);rw[mo];rfl
 rw[zbH]at *;have ao:d<10:=aH d (by simp);have af:hg (dC++[d]).reverse=UInt8.ofNat (48+d)::hg dC.reverse:=by rw[zcc];rfl
 rw[nN]at aI;simp only[val,zcm,zbh]at aI;refine ax 3 (.s (UInt8.ofNat (48+d)::hg dC.reverse)) rfl (by rw[af]) (ag 22 ?_);have hl:(hg dC.reverse).length=dC.length:=by rw[tU,zby]
 by_cases aa:dC=[]
 ·subst aa;refine ax 22 (.b false) rfl (by simp[hg]) (I ?_);refine aM rfl (.of ?_);show ae.s (hg [d])=ae.s (dX n);have:n=d:=by simp[val]at aI;exact aI.symm
  rw[this];congr 1;unfold dX;rw[Tq ao]
 have avt:0<dC.length:=zbn.2 aa;refine ax 22 (.b true) rfl (by rw[zax,hl];simp;omega) (I ?_);refine nH (UInt8.ofNat (48+d)) (j:=0) rfl ?_;refine ag 25 ?_;have jK:=GV ao;by_cases sY:d=0
 ·refine ax 25 (.b true) rfl (by rw[jK,sY];rfl) (I ?_);refine sr (p:=1) (hg dC.reverse) ?_ (hp:=by simp) (hq:=by simp);refine I ?_;exact aU [] dC ⟨by simp,fun x J=>aH x (by simp[J]),by rw[sY]at aI;simpa using aI,by simp at bj;omega⟩ eW
 ·refine ax 25 (.b false) rfl (by rw[jK];exact congrArg ae.b (zai (by omega))) (I ?_);refine aM rfl (.of ?_);show ae.s (UInt8.ofNat (48+d)::hg dC.reverse)=ae.s (dX n);rw[<-af];have e:=AJ (b:=10) (by decide) aH (atU sY);rw[nN]at e;simp only[val,zcm,zbh]at e;rw[aI]at e;have mo:n≠0:=fun h=>by rw[h,fL]at e;simp at e
  unfold dX dec;rw[zaa mo,e]
def Sd(h:eA k n):(dX n).length<=9*k+1:=by
 unfold dX dec;rw[tU];split
 ·simp
 ·rw[zby];refine zdC (ke (b:=10) (by decide) ?_);have:=sO h;rw[show(1000000000:Nat)=10^9 from rfl,<-zbk]at this;exact this
def JF:bN where
 L:=Rat
 args:=fun x=>[ca x]
 pre:=fun x=>dP 67108864 x
 res:=fun x=>.s (ff x)
def rb:bw a4.ctx 38 JF.spec:=by
 refine bZ [(101,Qc.spec),(102,aaZ.spec)] V4.1 ?_;intro(x:Rat) (J:dP _ x) H aK;have gE:=Sd J.1;have iB:=Sd J.2;refine I ?_;refine aX JR x.num.natAbs (dW J.1) (I ?_);have acu:x.num.sign<0↔x.num<0:=Int.sign_neg_iff;obtain⟨u,hu⟩:∃u,u=(if x.num<0 then[45]else[])++dX x.num.natAbs:=⟨_,rfl⟩;have km:u.length<=9*67108864+2:=by
  rw[hu,zaE];have:(if x.num<0 then([45]:ac bv)else[]).length<=1:=by split<;>simp
  omega
 refine ih (L:=Unit) (fun _=>True) (fun _=>⟨[.c 34 (cN x)],1,[(1,.p 0 0),(3,.s u)]⟩) ?_ ?_
 ·refine cP (fun h=> ?_) (fun h=> ?_)
  ·refine I ?_;refine tz ?_ (hl:=by show 1+(dX _).length<=_;omega);refine I ?_;exact aU [0] () trivial (eO ⟨rfl,by rw[hu,zab (acu.1 h)];rfl,trivial⟩ ⟨_,rfl,rfl⟩)
  ·refine I ?_;exact aU [0] () trivial (eO ⟨rfl,by rw[hu,zaa (fun aC=>h (acu.2 aC))];rfl,trivial⟩ ⟨_,rfl,rfl⟩)
 intro _ _;refine I ?_;refine aX aqw x J (I ?_);refine B6 (fun h=> ?_) (fun h=> ?_)
 ·have h0:x.num≠0:=fun e=>h (by have:=x.reduced;rw[e]at this;simpa[Nat.Coprime]using this);refine I ?_;refine tz ?_ (hl:=by show u.length+1<=_;omega);refine ag 18 ?_;refine ax 18 (dn x.den) rfl (by rw[zaa h0];rfl) ?_;refine aX JR x.den (dW J.2) ?_;refine tz ?_ (hl:=by rw[zaE];show u.length+1+(dX _).length<=_;omega);refine I ?_;refine aM rfl (.of ?_);show ae.s (u++[47]++dX x.den)=ae.s (ff x);unfold ff;rw[<-hu,zaa h,zcb];rfl
 ·refine I ?_;refine aM rfl (.of ?_);show ae.s u=ae.s (ff x);unfold ff;rw[<-hu,zab h,zcX]
def P8:bN where
 L:=ac bv
 args:=fun s=>[.s s]
 pre:=fun s=>s.length<=1073741824
 res:=fun s=>.b (decide (hL s))
def aek(h:i<s.length)(h1:jS (s.take i))(h2:48<=s[i].toNat∧s[i].toNat<=57):jS (s.take (i+1)):=by
 rw[zce h];intro c hc;rcases zbw.1 hc with hc|hc
 ·exact h1 c hc
 ·simp at hc;subst hc;exact h2
def P9:bw a4.ctx 200 P8.spec:=by
 refine bZ [] Vl.1 ?_;intro(s:ac bv) (af:s.length<=_) H aK;refine I ?_;refine rf (L:=Unit) (fun _=>jS s) (fun _=>⟨[],0,[(0,.s s)]⟩) ?_ ?_
 ·refine cw (L:=Nat) (fun i=>i<=s.length∧jS (s.take i)) (fun(i:Nat)=>⟨[],0,[(0,.s s),(3,.i .i64 i)]⟩) (fun i=>s.length-i) [] 0 ⟨zac _,fun c hc=>by simp at hc⟩ (by show s.length-0<bc+1;unfold bc;omega) eW ?_;rintro(i:Nat) ⟨aa,ha⟩;refine I ?_;refine cP (fun h=> ?_) (fun h=> ?_)
  ·have h:i<s.length:=by omega
   have hm:s[i]∈s:=fy h;refine I ?_;refine nH s[i] (bE h) ?_;refine ag 14 ?_;have bad:¬(48<=s[i].toNat∧s[i].toNat<=57)->bV (.b false) (P8.res s):=fun h=>.of (by show ae.b false=ae.b (decide _);rw[zai (fun hb=>h (hb.2.1 _ hm))]);by_cases h1:s[i].toNat<48
   ·refine ax 14 (.b true) rfl (by rw[zad (by omega)]) (I ?_);exact aM rfl (bad (by omega))
   refine ax 14 (.b false) rfl (by rw[zai (by omega)]) (I ?_);refine nH s[i] (bE h) ?_;refine I ?_;refine cP (fun h2=> ?_) (fun h2=> ?_)
   ·refine I ?_;exact aM rfl (bad (by omega))
   ·refine I ?_;exact aU [] (i+1) ⟨by show s.length-(i+1)<s.length-i;omega,h,aek h ha (by omega)⟩ (kr ⟨rfl,fa,trivial⟩)
  ·have he:i=s.length:=by omega
   subst he;rw[zaX]at ha;refine I ?_;exact aU [] () ha eW
 intro _ eI;cases s with
 |nil=>
  refine ag 23 ?_;refine ax 23 (.b false) rfl rfl (I ?_);exact aM rfl (.of (by show ae.b false=ae.b (decide _);rw[zai (fun hb=>hb.1 rfl)]))
 |cons c t=>
  refine ag 23 ?_;refine ax 23 (.b true) rfl (by simp) (ag 26 ?_);by_cases hb:c::t=[48]
  ·refine ax 26 (.b true) rfl (by rw[hb];rfl) (I ?_);exact aM rfl (.of (by show ae.b true=ae.b (decide _);rw[zad ⟨by simp,eI,.inl hb⟩]))
  refine ax 26 (.b false) rfl (by rw[zaJ.2 hb]) (I ?_);refine nH c (j:=0) rfl ?_;refine I ?_;refine aM rfl (.of ?_);show ae.b (decide _)=ae.b (decide _);congr 1;rw[decide_eq_decide];constructor
  ·intro h;refine⟨by simp,eI,.inr fun e=>h ?_⟩;have e:c=48:=by simpa using e
   rw[e];rfl
  ·rintro⟨_,_,h|h⟩ e
   ·exact hb h
   ·exact h (congrArg some (zct.1 (show c.toNat=48 by omega)))
def zL(s:ac bv):ae:=
 match(cutAt (df s).2).2 with
 |none=>.bM [.s (df s).2,.s [49],.i .i64 (if(df s).1=true then -1 else 1),.b (decide (hL (df s).2∧¬((df s).1=true∧(df s).2=[48])))]
 |some q=>.bM [.s (cutAt (df s).2).1,.s q,.i .i64 (if(df s).1=true then -1 else 1),.b (decide (hL (cutAt (df s).2).1∧hL q∧q≠[48]∧q≠[49]∧¬((df s).1=true∧(cutAt (df s).2).1=[48])))]
def Tr{p:Prop}[Decidable p]{b:Bool}:decide p=b↔(p↔b=true):=by cases b<;>simp
def JO:bN where
 L:=ac bv
 args:=fun s=>[.s s]
 pre:=fun s=>s.length<=1073741824
 res:=fun s=>zL s
def af3(h:i<s.length)(h1:(47:bv)∉s.take i)(h2:s[i]=47):cutAt s=(s.take i,some (s.drop (i+1))):=by
 refine GL h1 ?_;rw[<-h2,<-fP h,zbD]
def aqF:bw a4.ctx 155 JO.spec:=by
 refine bZ [(200,P8.spec)] UU.1 ?_;intro(s:ac bv) (af:s.length<=_) H aK;have H3:(df s).2.length<=s.length:=by
  unfold df;split
  ·exact zac _
  ·split<;>simp
 refine ag 7 ?_
 iterate 3 refine jd ?_
 refine ih (L:=Unit) (fun _=>True) (fun _=>⟨[],0,[(6,.s (df s).2),(7,.i .i64 (if(df s).1=true then -1 else 1))]⟩) ?_ ?_
 ·cases s with
  |nil=>
   refine I ?_;exact aU [] () trivial eW
  |cons c t=>
   refine ag 15 ?_;refine ax 15 (.b true) rfl (by simp) (I ?_);refine nH c (j:=0) rfl ?_;refine I ?_;by_cases hc:c=45
   ·subst hc;refine ax 19 (.b true) rfl rfl (I ?_);refine sr (p:=1) t ?_ (hp:=by simp) (hq:=by simp);refine I ?_;exact aU [] () trivial eW
   ·have aO:df (c::t)=(false,c::t):=zaa hc;refine ax 19 (.b false) rfl (congrArg ae.b (zai (fun e=>hc (zct.1 (show c.toNat=45 by omega))))) (I ?_);exact aU [] () trivial (kr ⟨by rw[aO];rfl,by rw[aO];rfl,trivial⟩)
 intro _ _;obtain⟨⟨n,t⟩,aO⟩:∃g,g=df s:=⟨_,rfl⟩;rw[<-aO]at H3;have fin:∀{r},zL s=r->bV r (JO.res s):=fun h=>.of h.symm;unfold zL at fin;rw[<-aO]at fin⊢;simp only at fin H3;obtain⟨ch,oE⟩:∃ch:Int,ch=if n=true then -1 else 1:=⟨_,rfl⟩;have wF:decide (ch>0)= !n:=by rw[oE];cases n<;>rfl
 refine ax 7 (.i .i64 ch) rfl (by rw[oE]) ?_;rw[<-oE]at fin;refine I ?_;refine rf (L:=Unit) (fun _=>(47:bv)∉t) (fun _=>⟨[],0,[(6,.s t),(7,.i .i64 ch)]⟩) ?_ ?_
 ·refine cw (L:=Nat) (fun i=>i<=t.length∧(47:bv)∉t.take i) (fun(i:Nat)=>⟨[],0,[(6,.s t),(7,.i .i64 ch),(8,.i .i64 i)]⟩) (fun i=>t.length-i) [] 0 ⟨zac _,fun hm=>by simp at hm⟩ (by show t.length-0<bc+1;unfold bc;omega) eW ?_;rintro(i:Nat) ⟨aa,ha⟩;refine I ?_;refine cP (fun h=> ?_) (fun h=> ?_)
  ·have h:i<t.length:=by omega
   refine I ?_;refine nH t[i] (bE h) ?_;refine I ?_;refine cP (fun hc=> ?_) (fun hc=> ?_)
   ·have hc:t[i]=47:=zct.1 (show t[i].toNat=47 by omega);have qK:=af3 h ha hc;rw[qK]at fin;simp only at fin;generalize eZ:t.take i=P at *;generalize ml:t.drop (i+1)=Q at *;have r8:P.length<=t.length:=by rw[<-eZ];simp;omega
    have Bs:Q.length<=t.length:=by rw[<-ml];simp
    refine I ?_;refine GN P ?_ (hl:=by rw[<-eZ];simp);refine ag 37 ?_;refine dO 37 (.i .i64 ((i+1:Nat):Int)) rfl rfl cS ?_;refine GN Q ?_ (hl:=by rw[<-ml];exact zaV (by simp));refine I ?_;have bad:¬(hL P∧hL Q∧Q≠[48]∧Q≠[49]∧¬(n=true∧P=[48]))->bV (.bM [.s P,.s Q,.i .i64 ch,.b false]) (JO.res s):=fun h=>fin (by rw[zai h]);refine aX P9 P (by show P.length<=_;omega) (ag 44 ?_);by_cases h1:hL P
    ·refine KE 44 h1 (I ?_);refine aX P9 Q (by show Q.length<=_;omega) (ag 48 ?_);by_cases h2:hL Q
     ·refine KE 48 h2 (ag 52 ?_);by_cases ab:Q=[48]
      ·refine ax 52 (.b false) rfl (by rw[ab];rfl) (I ?_);exact aM rfl (bad (fun h=>h.2.2.1 ab))
      refine ax 52 (.b true) rfl (by rw[zaJ.2 ab];rfl) (ag 56 ?_);by_cases aD:Q=[49]
      ·refine ax 56 (.b false) rfl (by rw[aD];rfl) (I ?_);exact aM rfl (bad (fun h=>h.2.2.2.1 aD))
      refine ax 56 (.b true) rfl (by rw[zaJ.2 aD];rfl) (ag 59 ?_);by_cases bg:P=[48]
      ·refine ax 59 (.b false) rfl (by rw[bg];rfl) (I ?_);refine aM rfl (fin ?_);rw[wF];refine congrArg (fun b=>ae.bM [.s P,.s Q,.i .i64 ch,.b b]) ?_;rw[Tr];simp[h2,ab,aD,bg];exact fun _=>bg▸h1
      ·refine ax 59 (.b true) rfl (by rw[zaJ.2 bg];rfl) (I ?_);exact aM rfl (fin (by rw[zad ⟨h1,h2,ab,aD,fun h=>bg h.2⟩]))
     ·refine KD 48 h2 (I ?_);exact aM rfl (bad (fun h=>h2 h.2.1))
    ·refine KD 44 h1 (I ?_);exact aM rfl (bad (fun h=>h1 h.1))
   ·have hc:t[i]≠47:=fun e=>hc (by rw[e];rfl);refine I ?_;refine aU [] (i+1) ⟨by show t.length-(i+1)<t.length-i;omega,h,?_⟩ (kr ⟨rfl,rfl,fa,trivial⟩);rw[zce h];intro hm;rcases zbw.1 hm with hm|hm
    ·exact ha hm
    ·simp at hm;exact hc hm.symm
  ·have he:i=t.length:=by omega
   subst he;rw[zaX]at ha;refine I ?_;exact aU [] () ha eW
 intro _ gL;rw[Te gL]at fin;simp only at fin;refine I ?_;refine aX P9 t (by show t.length<=_;omega) (ag 68 ?_);by_cases hb:hL t
 ·refine KE 68 hb (ag 71 ?_);by_cases h0:t=[48]
  ·refine ax 71 (.b false) rfl (by rw[h0];rfl) (I ?_);refine aM rfl (fin ?_);rw[wF];refine congrArg (fun b=>ae.bM [.s t,.s [49],.i .i64 ch,.b b]) ?_;rw[Tr];simp[h0];exact fun _=>h0▸hb
  ·refine ax 71 (.b true) rfl (by rw[zaJ.2 h0];rfl) (I ?_);refine aM rfl (fin ?_);rw[zad ⟨hb,fun h=>h0 h.2⟩]
 ·refine KD 68 hb (I ?_);refine aM rfl (fin ?_);rw[zai (fun h=>hb h.1)]
def Qo(u v:ac bv):bQ (u++v)=bQ v+10^v.length*bQ u:=by
 unfold bQ nU;rw[zcg,zcc,nN,zby,zbu]
def Qq(w:ac bv)(c:bv):bQ (w++[c])=(c.toNat-48)+10*bQ w:=by
 rw[Qo];simp[bQ,nU,val]
def vy(h:jS s):bQ s<10^s.length:=by
 have:=lM (b:=10) (ds:=(nU s).reverse) (fun d ao=>Tz h d (zdx.1 ao));rw[zby]at this;unfold nU at this;rw[zbu]at this;exact this
def abe:bN where
 L:=ac bv
 args:=fun s=>[.s s]
 pre:=fun s=>jS s∧s.length<=1073741824
 res:=fun s=>dn (bQ s)
def aqE(s:ac bv)(i:Int):ac Nat->cr
 |[]=>⟨[],0,[(0,.s s),(3,.nl),(4,.i .i64 i)]⟩
 |d::ds=>⟨[.a 2 true 1 Nat gu (d::ds)],1,[(0,.s s),(3,.aN 0 1 0 (d::ds).length (d::ds).length),(4,.i .i64 i)]⟩
def arh{es:ac Nat}{lo:Nat}(h:bQ s=val 1000000000 es+1000000000^es.length*bQ (s.take r))(aL:r<=s.length)(fG:lo=r-9):
 bQ s=val 1000000000 (es++[bQ ((s.take r).drop lo)])+1000000000^(es++[bQ ((s.take r).drop lo)]).length*bQ (s.take lo):=by
 have e:s.take r=s.take lo++(s.take r).drop lo:=by
  conv=>lhs;rw[<-zbD lo (s.take r)]
  rw[zdi,zaC (by omega)]
 have e2:bQ (s.take r)=bQ ((s.take r).drop lo)+1000000000*bQ (s.take lo):=by
  conv=>lhs;rw[e,Qo]
  congr 1;rcases(show lo=0∨r=lo+9 by omega)with h0|h0
  ·subst h0;simp[bQ,nU,val]
  ·rw[zaF,zay,zaC aL,h0,zfb]
 rw[h,e2,nN,zaE,zal];simp only[val,zax,List.length_nil,zcm,zbh,zaP,Nat.pow_one];rw[zaq,zan];omega
def abf:bw a4.ctx 156 abe.spec:=by
 refine bZ [(157,xe.spec)] UW.1 ?_;intro(s:ac bv) ⟨(eI:jS s),(af:s.length<=_)⟩ H aK;refine I ?_;refine cw (L:=Int×ac Nat) (fun(i,es)=>i<=s.length∧-9<=i∧es.length+i.toNat<=s.length∧cY 1000000000 es∧bQ s=val 1000000000 es+1000000000^es.length*bQ (s.take i.toNat)) (fun(i,es)=>aqE s i es) (fun l=>l.1.toNat) [] ((s.length:Int),[]) ⟨Int.le_refl _,by show -9<=(s.length:Int);omega,by simp,fun x J=>by simp at J,by simp[val]⟩ (by show((s.length:Int)).toNat<bc+1;unfold bc;omega) eW ?_;rintro⟨i,es⟩ ⟨h1,h2,ab,aD,bg⟩;obtain⟨r,aL⟩:∃r,r=i.toNat:=⟨_,rfl⟩;rw[<-aL]at ab bg;obtain⟨lo,fG⟩:∃lo,lo=r-9:=⟨_,rfl⟩;have oF:=arh bg (by omega) fG;have jK:jS ((s.take r).drop lo):=fun c hc=>eI c (zbY (zcS hc));have aE:=vy jK;have avw:bQ ((s.take r).drop lo)<1000000000:=gH aE (zaI (n:=10) (by decide) (show _<=9 by simp;omega));have ix:¬0<i->aT 1000000000 (bQ s)=e0 es:=fun h=>by
  have:r=0:=by omega
  rw[this]at bg;rw[zT (b:=1000000000) (by decide) aD,bg];simp[bQ,nU,val]
 have piece:∀k:Nat,lo<=k->k<=r->bQ ((s.take k).drop lo)<10^(k-lo):=fun k uL kl=>by
  have h:=vy (s:=(s.take k).drop lo) (fun c hc=>eI c (zbY (zcS hc)))
  rwa [zaF,zay,zaC (by omega)]at h
 cases es with
 |nil=>
  refine I ?_;refine cP (fun aa=> ?_) (fun aa=> ?_)
  ·have pX:i=(r:Int):=by omega
   subst pX;refine ag 14 ?_;refine ax 14 (.i .i64 ((r:Int)-9)) rfl (cS rfl (by omega) (by omega)) (ag 15 ?_);refine ax 15 (.i .i64 (lo:Nat)) rfl fv (I ?_);refine rf (L:=Unit) (fun _=>True) (fun _=>⟨[],0,[(0,.s s),(3,.nl),(4,.i .i64 (r:Int)),(5,.i .i64 (bQ ((s.take r).drop lo):Nat))]⟩) ?_ ?_
   ·refine cw (L:=Nat) (fun k=>lo<=k∧k<=r) (fun(k:Nat)=>⟨[],0,[(0,.s s),(3,.nl),(4,.i .i64 (r:Int)),(5,.i .i64 (bQ ((s.take k).drop lo):Nat)),(6,.i .i64 k)]⟩) (fun k=>r-k) [] lo ⟨b6 _,by omega⟩ (by show r-lo<bc+1;unfold bc;omega) (kr ⟨rfl,rfl,rfl,by rw[zaY (by simp;omega)];rfl,rfl,trivial⟩) ?_;rintro(k:Nat) ⟨bf,bL⟩;refine I ?_;refine cP (fun hk=> ?_) (fun hk=> ?_)
    ·have hk:k<r:=by omega
     have wz:k<s.length:=by omega
     have hp:=piece k bf (by omega);have yN:(10:Nat)^(k-lo)<=10^9:=zaI (by decide) (by omega);have hc:=eI _ (fy wz);have wF:bQ ((s.take (k+1)).drop lo)=(s[k].toNat-48)+10*bQ ((s.take k).drop lo):=by
      rw[zce wz,zeD (by simp;omega),Qq]
     generalize hn:bQ ((s.take k).drop lo)=n at *;have ama:n<1000000000:=by omega
     refine I ?_;refine nH s[k] (bE wz) ?_;refine ag 26 ?_;have Di:(s[k].toNat+(256*48-48))%256=s[k].toNat-48:=by omega
     refine ax 26 (.i .u8 ((s[k].toNat-48:Nat):Int)) rfl (congrArg (fun n:Nat=>ae.i .u8 (n:Int)) Di) (I ?_);refine aU [] (k+1) ⟨by show r-(k+1)<r-k;omega,by omega,hk⟩ (kr ⟨rfl,rfl,rfl,?_,fa,trivial⟩);rw[wF];exact congrArg (fun n=>some (ae.i .i64 n)) (by rw[hG (n:=10*(n:Int)) (by omega) (by omega),hG (n:=((s[k].toNat-48:Nat):Int)) (by omega) (by omega),hG (by omega) (by omega)];omega)
    ·have he:k=r:=by omega
     subst he;refine I ?_;exact aU [] () trivial eW
   intro _ _;generalize hn:bQ ((s.take r).drop lo)=n at *;refine I ?_;refine l8 gu [n] (eR (R:=gu) [n] rfl) ?_;refine I ?_;exact aU [1] ((r:Int)-9,[n]) ⟨by show((r:Int)-9).toNat<((r:Int)).toNat;omega,by omega,by omega,by simp;omega,fun x J=>by simp at J;omega,by rw[show((r:Int)-9).toNat=lo by omega];exact oF⟩ (FE ⟨rfl,rfl,fa,trivial⟩ ⟨_,rfl,rfl,fun _=>rfl⟩)
  ·refine I ?_;refine dS 33 (dc []) rfl bV.nl ?_;refine aX xg [] (by show 0<=_;decide) (I ?_);exact aM rfl (.of (by show dc (e0 [])=dc _;rw[<-ix aa]))
 |cons d ds=>
  refine I ?_;refine cP (fun aa=> ?_) (fun aa=> ?_)
  ·have pX:i=(r:Int):=by omega
   subst pX;refine ag 14 ?_;refine ax 14 (.i .i64 ((r:Int)-9)) rfl (cS rfl (by omega) (by omega)) (ag 15 ?_);refine ax 15 (.i .i64 (lo:Nat)) rfl fv (I ?_);refine rf (L:=Unit) (fun _=>True) (fun _=>⟨[.a 2 true 1 Nat gu (d::ds)],1,[(0,.s s),(3,.aN 0 1 0 (d::ds).length (d::ds).length),(4,.i .i64 (r:Int)),(5,.i .i64 (bQ ((s.take r).drop lo):Nat))]⟩) ?_ ?_
   ·refine cw (L:=Nat) (fun k=>lo<=k∧k<=r) (fun(k:Nat)=>⟨[.a 2 true 1 Nat gu (d::ds)],1,[(0,.s s),(3,.aN 0 1 0 (d::ds).length (d::ds).length),(4,.i .i64 (r:Int)),(5,.i .i64 (bQ ((s.take k).drop lo):Nat)),(6,.i .i64 k)]⟩) (fun k=>r-k) [0] lo ⟨b6 _,by omega⟩ (by show r-lo<bc+1;unfold bc;omega) (eO ⟨rfl,rfl,rfl,by rw[zaY (by simp;omega)];rfl,rfl,trivial⟩ ⟨_,rfl,rfl,fun _=>rfl⟩) ?_;rintro(k:Nat) ⟨bf,bL⟩;refine I ?_;refine cP (fun hk=> ?_) (fun hk=> ?_)
    ·have hk:k<r:=by omega
     have wz:k<s.length:=by omega
     have hp:=piece k bf (by omega);have yN:(10:Nat)^(k-lo)<=10^9:=zaI (by decide) (by omega);have hc:=eI _ (fy wz);have wF:bQ ((s.take (k+1)).drop lo)=(s[k].toNat-48)+10*bQ ((s.take k).drop lo):=by
      rw[zce wz,zeD (by simp;omega),Qq]
     generalize hn:bQ ((s.take k).drop lo)=n at *;have ama:n<1000000000:=by omega
     refine I ?_;refine nH s[k] (bE wz) ?_;refine ag 26 ?_;have Di:(s[k].toNat+(256*48-48))%256=s[k].toNat-48:=by omega
     refine ax 26 (.i .u8 ((s[k].toNat-48:Nat):Int)) rfl (congrArg (fun n:Nat=>ae.i .u8 (n:Int)) Di) (I ?_);refine aU [0] (k+1) ⟨by show r-(k+1)<r-k;omega,by omega,hk⟩ (eO ⟨rfl,rfl,rfl,?_,fa,trivial⟩ ⟨_,rfl,rfl,fun _=>rfl⟩);rw[wF];exact congrArg (fun n=>some (ae.i .i64 n)) (by rw[hG (n:=10*(n:Int)) (by omega) (by omega),hG (n:=((s[k].toNat-48:Nat):Int)) (by omega) (by omega),hG (by omega) (by omega)];omega)
    ·have he:k=r:=by omega
     subst he;refine I ?_;exact aU [0] () trivial hd
   intro _ _;generalize hn:bQ ((s.take r).drop lo)=n at *;refine I ?_;have kj:ds.length<=1073741824:=by simp at ab;omega
   refine lI (R:=gu) [n] (eR (R:=gu) [n] rfl) ?_;refine I ?_;refine aU [2] ((r:Int)-9,d::(ds++[n])) ⟨by show((r:Int)-9).toNat<((r:Int)).toNat;omega,by omega,by omega,by simp at ab ⊢;omega,?_,by rw[show((r:Int)-9).toNat=lo by omega];exact oF⟩ (FE ⟨rfl,congrArg (fun k=>some (ae.aN 2 1 0 k k)) (by simp),fa,trivial⟩ ⟨_,rfl,rfl,fun _=>rfl⟩);intro x J;rcases zbw.1 (show x∈(d::ds)++[n]from J)with h|h
   ·exact aD x h
   ·simp at h;omega
  ·refine I ?_;refine gq 33 ?_;refine aX xg (d::ds) (by show(d::ds).length<=_;omega) (I ?_);exact aM rfl (.of (by show dc (e0 (d::ds))=dc _;rw[<-ix aa]))
def ab7(s:ac bv):s=(if(df s).1=true then[45]else[])++(df s).2:=by
 unfold df;split
 ·rfl
 ·split
  ·rename_i c t h;rw[h];rfl
  ·rfl
def aaQ(h:jS s)(hl:s.length<=9*k):eA k (bQ s):=ke (by decide) (by
 refine gH (vy h) (zag (zaI (by decide) hl) ?_);rw[zbk];exact b6 _)
def arZ(n:Bool)(p:Nat):(if n=true then(-1:Int)else 1)*(p:Int)=h4 n p:=by cases n<;>simp[h4]
def arA{N:Nat}(fq:1<=N)(af:s.length<=N):∃P Q b,zL s= .bM [.s P,.s Q,.i .i64 (if(df s).1=true then -1 else 1),.b b]∧(b=false->nG s=none)∧
 (b=true->hL P∧hL Q∧P.length<=N∧Q.length<=N∧bQ Q≠0∧(ff (mkRat (h4 (df s).1 (bQ P)) (bQ Q))=s->nG s=some (mkRat (h4 (df s).1 (bQ P)) (bQ Q)))∧(ff (mkRat (h4 (df s).1 (bQ P)) (bQ Q))≠s->nG s=none)):=by
 have s7:=ab7 s;unfold nG zL;obtain⟨⟨n,t⟩,aO⟩:∃g,g=df s:=⟨_,rfl⟩;rw[<-aO]at s7⊢;simp only at s7⊢;have l1:t.length<=N:=by have:=congrArg List.length s7;rw[zaE]at this;omega
 obtain⟨fg,e1,mg⟩:=GK t;obtain⟨⟨P,Q⟩,hq⟩:∃g,g=cutAt t:=⟨_,rfl⟩;rw[<-hq]at fg e1 mg⊢;simp only at fg e1 mg⊢;cases Q with
 |none=>
  have MT:=mg rfl;subst MT;refine⟨t,[49],_,rfl,fun h=>zaa (of_decide_eq_false h),fun h=> ?_⟩;have a8:=zbB h;have e:=at1 a8.1 a8.2;exact⟨a8.1,by decide,l1,fq,by decide,fun _=>by rw[zab a8];rfl,fun h=>absurd (e.trans s7.symm) h⟩
 |some q=>
  have aF:=e1 q rfl;have r8:P.length+q.length<=N:=by have:=congrArg List.length aF;rw[zaE,zax]at this;omega
  refine⟨P,q,_,rfl,fun h=> ?_,fun h=> ?_⟩
  ·have a8:=of_decide_eq_false h;by_cases h1:hL P∧¬(n=true∧P=[48])
   ·rw[zab h1];exact zaa (fun h=>a8 ⟨h1.1,h.1,h.2.1,h.2.2.1,h1.2⟩)
   ·rw[zaa h1]
  ·obtain⟨c3,eP,lq,vT,tV⟩:=zbB h;have e:=at0 c3 eP tV lq vT;rw[zcb,<-aF,<-s7]at e;refine⟨c3,eP,by omega,by omega,fun h=>lq (At eP h),fun h=> ?_,fun h=> ?_⟩
   ·rw[zab ⟨c3,tV⟩];exact zab ⟨eP,lq,vT,e.1 h⟩
   ·rw[zab ⟨c3,tV⟩];exact zaa (fun hh=>h (e.2 hh.2.2.2))
def F6(b:Bool):ac ae:=[.b b]
def jN(c:bv):Bool:=decide (48<=c.toNat∧c.toNat<=57)
def x2:ac Bool:=(List.range 256).map fun j=>decide (48<=j∧j<=57)
def qC:ac ae:=x2.flatMap F6
def agx{j:Nat}(h:j<256):qC.drop j= .b (decide (48<=j∧j<=57))::qC.drop (j+1):=by
 have e:qC=x2.map ae.b:=by unfold qC;rw[List.map_eq_flatMap];rfl
 have hl:j<x2.length:=by unfold x2;rw[zbu,zdn];exact h
 rw[e,<-zeG,<-zeG,fP hl,zaZ];congr 2;simp[x2]
def M1:bN where
 L:=bv
 args:=fun c=>[.ip qC,.i .u8 (c.toNat:Int)]
 pre:=fun _=>True
 res:=fun c=>.b (jN c)
def Xh:bw a4.ctx 278 M1.spec:=by
 refine bZ [] VR.1 ?_;intro(c:bv) _ H aK;have hc:c.toNat<256:=c.toNat_lt;refine I ?_;refine g9 (anf rfl rfl hc) ?_;refine ax 8 (.ip (.b (jN c)::qC.drop (c.toNat+1))) rfl (by rw[zbc,agx hc];rfl) (I ?_);exact aM rfl (.refl _)
def acY:bN where
 L:=ac bv
 args:=fun s=>[.s s,.ip qC]
 pre:=fun s=>s.length<=1073741824
 res:=fun s=>.s (s.dropWhile jN)
def atQ:bw a4.ctx 221 acY.spec:=by
 refine bZ [(278,M1.spec)] Vu.1 ?_;intro(s:ac bv) (af:s.length<=_) H aK;refine I ?_;refine cw (L:=ac bv) (fun t=>t.dropWhile jN=s.dropWhile jN∧t.length<=s.length) (fun t=>⟨[],0,[(0,.s t),(1,.ip qC)]⟩) List.length [] s ⟨rfl,b6 _⟩ (by show s.length<bc+1;unfold bc;omega) eW ?_;rintro t ⟨h1,h2⟩;cases t with
 |nil=>
  refine I ?_;exact aM rfl (.of (by show ae.s []=ae.s _;rw[<-h1];rfl))
 |cons c t=>
  refine ag 7 ?_;refine ax 7 (.b true) rfl (by simp) (I ?_);refine nH c (j:=0) rfl ?_;refine aX Xh c trivial (I ?_);by_cases hc:jN c=true
  ·refine ax 12 (.b false) rfl (by show ae.b (!jN c)=_;rw[hc];rfl) (I ?_);refine sr (p:=1) t ?_ (hp:=by simp) (hq:=by simp);refine I ?_;exact aU [] t ⟨by simp,by rw[<-h1,zef,zab hc],by simp at h2;omega⟩ eW
  ·have hc:jN c=false:=by simpa using hc
   refine ax 12 (.b true) rfl (by show ae.b (!jN c)=_;rw[hc];rfl) (I ?_);exact aM rfl (.of (by show ae.s (c::t)=ae.s _;rw[<-h1,zef,zaa (by rw[hc];decide)]))
def ob(s:ac bv):ac bv:=(s.reverse.dropWhile jN).reverse
def acM(t:ac bv)(c:bv):ob (t++[c])=if jN c=true then ob t else t++[c]:=by
 unfold ob;rw[zcc];show((c::t.reverse).dropWhile jN).reverse=_;rw[zef];split
 ·rfl
 ·simp
def adi:bN where
 L:=ac bv
 args:=fun s=>[.s s,.ip qC]
 pre:=fun s=>s.length<=1073741824
 res:=fun s=>.s (ob s)
def atT:bw a4.ctx 222 adi.spec:=by
 refine bZ [(278,M1.spec)] Vv.1 ?_;intro(s:ac bv) (af:s.length<=_) H aK;refine I ?_;refine cw (L:=ac bv) (fun t=>ob t=ob s∧t.length<=s.length) (fun t=>⟨[],0,[(0,.s t),(1,.ip qC)]⟩) List.length [] s ⟨rfl,b6 _⟩ (by show s.length<bc+1;unfold bc;omega) eW ?_;rintro t ⟨h1,h2⟩;rcases zbG t with rfl|⟨t,c,rfl⟩
 ·refine I ?_;exact aM rfl (.of (by show ae.s []=ae.s _;rw[<-h1];rfl))
 ·rw[zbH]at *;have hl:(t++[c]).length=t.length+1:=by simp
  refine ag 7 ?_;refine ax 7 (.b true) rfl (by simp) (ag 12 ?_);refine ax 12 (.i .i64 (t.length:Nat)) rfl (by rw[hl];exact cS) ?_;refine nH c (show(t++[c])[t.length]? =some c by simp) ?_;refine aX Xh c trivial (I ?_);by_cases hc:jN c=true
  ·refine ax 15 (.b false) rfl (by show ae.b (!jN c)=_;rw[hc];rfl) (ag 19 ?_);refine ax 19 (.i .i64 (t.length:Nat)) rfl (by rw[hl];exact cS) ?_;refine sr (p:=0) t ?_ (hp:=zac _) (hq:=by simp);refine I ?_;exact aU [] t ⟨by simp,by rw[<-h1,acM,zab hc],by omega⟩ eW
  ·refine ax 15 (.b true) rfl (by show ae.b (!jN c)=_;rw[show jN c=false by simpa using hc];rfl) (I ?_);exact aM rfl (.of (by show ae.s (t++[c])=ae.s _;rw[<-h1,acM,zaa hc]))
def Cg:Nat->ac Bool
 |0=>List.replicate 256 false
 |n+1=>(Cg n).set (48+n) true
theorem ab3:∀n,(Cg n).length=256
 |0=>zav
 |n+1=>by unfold Cg;rw[zbj];exact ab3 n
def arY:Cg 10=x2:=by kernel_rfl
def Dd:ac bv:=[48,49,50,51,52,53,54,55,56,57]
def agE(h:i<10):Dd[i]? =some (UInt8.ofNat (48+i)):=by
 rcases(show i=0∨i=1∨i=2∨i=3∨i=4∨i=5∨i=6∨i=7∨i=8∨i=9 by omega)with rfl|rfl|rfl|rfl|rfl|rfl|rfl|rfl|rfl|rfl<;>rfl
def Y5:bN where
 L:=Unit
 args:=fun _=>[.s Dd]
 pre:=fun _=>True
 res:=fun _=>.bM [.agg qC,.b true]
def aoL:bw a4.ctx 220 Y5.spec:=by
 refine bZ [] Vt.1 ?_;intro _ _ H aK;refine ag 3 ?_;refine m7 0 F6 (Cg 0) ?_;refine I ?_;refine cw (L:=Nat) (fun i=>i<=10) (fun(i:Nat)=>⟨[.a 313 false 1 Bool F6 (Cg i)],1,[(0,.s Dd),(2,.p 0 0),(4,.i .i64 i)]⟩) (fun i=>10-i) [0] 0 (zac _) (by show 10-0<bc+1;unfold bc;omega) hd ?_;intro(i:Nat) aa;refine I ?_;have hl:((Dd.length:Nat):Int)=10:=rfl;refine cP (fun h=> ?_) (fun h=> ?_)
 ·have h:i<10:=by omega
  have hn:(UInt8.ofNat (48+i)).toNat=48+i:=GV h;refine I ?_;refine nH (UInt8.ofNat (48+i)) (agE h) ?_;refine ax 14 (.i .u8 ((48+i:Nat):Int)) rfl (by rw[hn]) (I ?_);refine cP (fun aC=> ?_) (fun aC=> ?_)
  ·omega
  refine I ?_;refine aq1 ?_;refine iC true ?_ (hj:=by rw[ab3];omega);refine I ?_;exact aU [0] (i+1) ⟨by show 10-(i+1)<10-i;omega,h⟩ (eO ⟨rfl,rfl,fa,trivial⟩ ⟨_,rfl,rfl,fun _=>rfl⟩)
 ·have he:i=10:=by omega
  subst he;rw[arY];refine I ?_;refine aqR 0 ?_;refine I ?_;exact aM rfl (.of rfl)
def adj:bN where
 L:=ac bv
 args:=fun s=>[.s s,.s Dd]
 pre:=fun s=>s.length<=1073741824
 res:=fun s=>.s ((ob s).dropWhile jN)
def atF(s:ac bv):(ob s).length<=s.length:=by
 unfold ob;rw[zby,<-(zby:s.reverse.length=s.length)];exact(List.dropWhile_sublist _).length_le
def atE:bw a4.ctx 182 adj.spec:=by
 refine bZ [(220,Y5.spec),(222,adi.spec),(221,acY.spec)] Vd.1 ?_;intro(s:ac bv) (af:s.length<=_) H aK;refine ag 9 ?_;by_cases h:s=[]
 ·subst h;refine I ?_;exact aM rfl (.refl _)
 refine ax 9 (.b false) rfl (by rw[zaJ.2 h]) (I ?_);refine aX aoL () trivial (I ?_);refine m7 0 F6 x2 ?_;refine aqY 5 ?_;refine ax 5 (.ip qC) rfl rfl ?_;refine aX atT s af (I ?_);refine aX atQ (ob s) (zag (atF s) af) (I ?_);exact aM rfl (.refl _)
theorem drop_nil:∀{s:ac bv},s.dropWhile jN=[]↔∀c∈s,jN c=true
 |[]=>by simp
 |c::s=>by
  rw[zef];by_cases h:jN c=true
  ·rw[zab h,drop_nil];simp[h]
  ·rw[zaa h];simp[h]
def X8{c:bv}:jN c=true↔48<=c.toNat∧c.toNat<=57:=by unfold jN;rw[decide_eq_true_iff]
def strip_nil:(ob s).dropWhile jN=[]↔jS s:=by
 rw[drop_nil];unfold jS;constructor
 ·intro h;have h1:ob s=[]:=by
   rcases zbG (ob s)with h0|⟨t,c,h0⟩
   ·exact h0
   ·rw[zbH]at h0;have hc:=h c (by rw[h0];simp);have e:s.reverse.dropWhile jN=c::t.reverse:=by
     have:=congrArg List.reverse h0;unfold ob at this;rw[zeR,zcc]at this;exact this
    have:=List.head_dropWhile_not jN (l:=s.reverse) (by rw[e];simp);simp only[e,List.head_cons]at this;rw[hc]at this;cases this
  unfold ob at h1;have h2:=drop_nil.1 (zeQ.1 h1);exact fun c hc=>X8.1 (h2 c (zdx.2 hc))
 ·intro h;have h2:s.reverse.dropWhile jN=[]:=drop_nil.2 fun c hc=>X8.2 (h c (zdx.1 hc));unfold ob;rw[h2];intro c hc;simp at hc
def abO:bN where
 L:=ac bv
 args:=fun s=>[.s s]
 pre:=fun s=>s.length<=1073741824
 res:=fun s=>.b (decide (hL s))
def Qs:bw a4.ctx 113 abO.spec:=by
 refine bZ [(182,adj.spec)] Uy.1 ?_;intro(s:ac bv) (af:s.length<=_) H aK;refine ag 5 ?_;cases s with
 |nil=>
  refine ax 5 (.b false) rfl rfl (I ?_);exact aM rfl (.of (by show ae.b false=ae.b (decide _);rw[zai (fun hb=>hb.1 rfl)]))
 |cons c t=>
  refine ax 5 (.b true) rfl rfl (I ?_);refine aX atE (c::t) af (ag 10 ?_);by_cases eI:jS (c::t)
  ·refine ax 10 (.b true) rfl (by show ae.b (_==[])=_;rw[strip_nil.2 eI];rfl) (ag 13 ?_);by_cases hb:c::t=[48]
   ·refine ax 13 (.b true) rfl (by rw[hb];rfl) (I ?_);exact aM rfl (.of (by show ae.b true=ae.b (decide _);rw[zad ⟨by simp,eI,.inl hb⟩]))
   refine ax 13 (.b false) rfl (by rw[zaJ.2 hb]) (I ?_);refine nH c (j:=0) rfl ?_;refine I ?_;refine aM rfl (.of ?_);show ae.b (decide _)=ae.b (decide _);congr 1;rw[decide_eq_decide];constructor
   ·intro h;refine⟨by simp,eI,.inr fun e=>h ?_⟩;have e:c=48:=by simpa using e
    rw[e];rfl
   ·rintro⟨_,_,h|h⟩ e
    ·exact hb h
    ·exact h (congrArg some (zct.1 (show c.toNat=48 by omega)))
  ·refine ax 10 (.b false) rfl (by show ae.b (_==[])=_;rw[zaJ.2 (mt strip_nil.1 eI)]) (I ?_);exact aM rfl (.of (by show ae.b false=ae.b (decide _);rw[zai (fun hb=>eI hb.2.1)]))
theorem X4:∀s:ac bv,(match qU 47 s with
 |none=>cutAt s=(s,none)
 |some i=>i<s.length∧cutAt s=(s.take i,some (s.drop (i+1))))
 |[]=>rfl
 |c::s=>by
  have a1:=X4 s;have e:qU 47 (c::s)=cond (Nat.beq c.toNat (47:bv).toNat) (some 0) (bm (qU 47 s) (fun i=>some (Nat.succ i)) none):=rfl;by_cases hc:c=47
  ·subst hc;rw[e,show Nat.beq (47:bv).toNat (47:bv).toNat=true from rfl];exact⟨zcO _,rfl⟩
  ·have hb:Nat.beq c.toNat (47:bv).toNat=false:=by
    rw[zbV];exact fun h=>hc (zct.1 (eo h))
   have e2:cutAt (c::s)=(c::(cutAt s).1,(cutAt s).2):=zaa hc;rw[e,hb,cond_false];cases h:qU 47 s with
   |none=>
    rw[h]at a1;show cutAt (c::s)=_;rw[e2,show cutAt s=(s,none)from a1]
   |some i=>
    rw[h]at a1;obtain⟨h1,h2⟩:=a1;show i+1<s.length+1∧cutAt (c::s)=_;rw[e2,h2];exact⟨by omega,rfl⟩
def XJ:bN where
 L:=ac bv
 args:=fun s=>[.s s,.s [45]]
 pre:=fun s=>s.length<=1073741824
 res:=fun s=>.b (df s).1
def amm:bw a4.ctx 216 XJ.spec:=by
 refine bZ [] MJ.1 ?_;intro(s:ac bv) (af:s.length<=_) H aK;refine ag 10 ?_;cases s with
 |nil=>
  refine ax 10 (.b false) rfl rfl (I ?_);exact aM rfl (.refl _)
 |cons c t=>
  refine ax 10 (.b true) rfl (by simp;omega) (I ?_);refine sr (p:=0) (q:=1) [c] ?_ (hq:=by simp);refine I ?_;refine aM rfl (.of ?_);show ae.b ([c]==[45])=ae.b (df (c::t)).1;by_cases hc:c=45
  ·subst hc;rfl
  ·rw[show df (c::t)=(false,c::t)from zaa hc,zaJ.2 (by simpa using hc)]
def GG:bN where
 L:=ac bv
 args:=fun s=>[.s s,.s [45]]
 pre:=fun s=>s.length<=1073741824
 res:=fun s=>.bM [.s (df s).2,.b (df s).1]
def afp:bw a4.ctx 180 GG.spec:=by
 refine bZ [(216,XJ.spec)] Vb.1 ?_;intro(s:ac bv) (af:s.length<=_) H aK;refine I ?_;refine aX amm s af (I ?_);cases s with
 |nil=>
  refine I ?_;exact aM rfl (.refl _)
 |cons c t=>
  by_cases hc:c=45
  ·subst hc;refine ax 9 (.b false) rfl rfl (I ?_);refine sr (p:=1) t ?_ (hp:=by simp) (hq:=by simp);refine I ?_;exact aM rfl (.refl _)
  ·have aO:df (c::t)=(false,c::t):=zaa hc;refine ax 9 (.b true) rfl (by show ae.b (!(df (c::t)).1)=_;rw[aO];rfl) (I ?_);exact aM rfl (.of (by show ae.bM _=ae.bM [.s (df (c::t)).2,.b (df (c::t)).1];rw[aO]))
def afo:bw a4.ctx 111 GG.spec:=by
 refine bZ [(180,GG.spec)] Uw.1 ?_;intro(s:ac bv) (af:s.length<=_) H aK;refine I ?_;refine aX afp s af (I ?_);exact aM rfl (.refl _)
def Ye:bN where
 L:=ac bv
 args:=fun s=>[.s s,.i .u8 47]
 pre:=fun s=>s.length<=1073741824
 res:=fun s=>.i .i64 (uU 47 s)
def anJ:bw a4.ctx 274 Ye.spec:=by
 refine bZ [] VQ.1 ?_;intro(s:ac bv) (af:s.length<=_) H aK;refine I ?_;refine g9 (ank (c:=47) rfl rfl) ?_;refine I ?_;exact aM rfl (.refl _)
def Yc:bN where
 L:=ac bv
 args:=fun s=>[.s s,.s [47]]
 pre:=fun s=>s.length<=1073741824
 res:=fun s=>.i .i64 (uU 47 s)
def anI:bw a4.ctx 217 Yc.spec:=by
 refine bZ [(274,Ye.spec)] Vr.1 ?_;intro(s:ac bv) (af:s.length<=_) H aK;refine I ?_;by_cases h:[47]=s
 ·refine ax 16 (.b true) rfl (by rw[<-h];rfl) (I ?_);exact aM rfl (.of (by show ae.i _ 0=ae.i _ (uU 47 s);rw[<-h];rfl))
 refine ax 16 (.b false) rfl (by rw[zaJ.2 h]) (I ?_);refine nH 47 (j:=0) rfl ?_;refine aX anJ s af (I ?_);exact aM rfl (.refl _)
def oo(s:ac bv):ae:=match(cutAt s).2 with
 |none=>.bM [.s s,.s [],.b false]
 |some q=>.bM [.s (cutAt s).1,.s q,.b true]
def C8:bN where
 L:=ac bv
 args:=fun s=>[.s s,.s [47]]
 pre:=fun s=>s.length<=1073741824
 res:=fun s=>oo s
def af6:bw a4.ctx 181 C8.spec:=by
 refine bZ [(217,Yc.spec)] Vc.1 ?_;intro(s:ac bv) (af:s.length<=_) H aK;have aa:=X4 s;have fin:∀{r},oo s=r->bV r (C8.res s):=fun h=>.of h.symm;unfold oo at fin;refine I ?_;refine aX anI s af ?_;cases J:qU 47 s with
 |none=>
  rw[J]at aa;have aa:cutAt s=(s,none):=aa;rw[aa]at fin;refine ax 10 (.i .i64 (-1)) rfl (by show ae.i _ (uU 47 s)=_;unfold uU;rw[J]) (I ?_);exact aM rfl (fin rfl)
 |some i=>
  rw[J]at aa;obtain⟨h1,h2⟩:i<s.length∧cutAt s=(s.take i,some (s.drop (i+1))):=aa;rw[h2]at fin;refine ax 10 (.i .i64 (i:Nat)) rfl (by show ae.i _ (uU 47 s)=_;unfold uU;rw[J]) (I ?_);refine GN (s.take i) ?_ (hl:=by simp);refine ag 20 ?_;refine dO 20 (.i .i64 ((i+1:Nat):Int)) rfl rfl (cS (by simp) (by simp;omega) (by simp;omega)) ?_;refine GN (s.drop (i+1)) ?_ (hl:=zaV (by simp));refine I ?_;exact aM rfl (fin rfl)
def af4:bw a4.ctx 112 C8.spec:=by
 refine bZ [(181,C8.spec)] Ux.1 ?_;intro(s:ac bv) (af:s.length<=_) H aK;refine I ?_;refine aX af6 s af ?_;cases J:(cutAt s).2 with
 |none=>
  refine ax 9 (.bM [.s s,.s [],.b false]) rfl (by show oo s=_;unfold oo;rw[J]) (I ?_);exact aM rfl (.of (by show _=oo s;unfold oo;rw[J]))
 |some q=>
  refine ax 9 (.bM [.s (cutAt s).1,.s q,.b true]) rfl (by show oo s=_;unfold oo;rw[J]) (I ?_);exact aM rfl (.of (by show _=oo s;unfold oo;rw[J]))
def zw:ac ae:=(List.range 20).map fun k=>.i .u64 ((10^k:Nat):Int)
def iQ(H:bu):Prop:=∃vs el bk a3,H 2=some (.cells vs el bk a3)∧∀a5,dH a5 zw [] vs
def iQ.up{H a5:bu}(h:dj H a5):iQ H->iQ a5:=fun⟨vs,el,bk,a3,h1,h2⟩=>⟨vs,el,bk,a3,h _ _ h1,h2⟩
def ap5{j:Nat}(h:j<20):zw.drop j= .i .u64 ((10^j:Nat):Int)::zw.drop (j+1):=by
 have hl:j<zw.length:=by unfold zw;rw[zbu,zdn];exact h
 rw[fP hl];congr 1;simp[zw]
def Yz:bN where
 L:=Nat
 args:=fun n=>[.i .u64 n]
 pre:=fun n=>n<4294967296
 res:=fun n=>.i .i64 (cf n:Nat)
def aoi:ac bv:=[0,1,2,2,3,3,3,3,4,4,4,4,4,4,4,4,5,5,5,5,5,5,5,5,5,5,5,5,5,5,5,5,6,6,6,6,6,6,6,6,6,6,6,6,6,6,6,6,6,6,6,6,6,6,6,6,6,6,6,6,6,6,6,6,7,7,7,7,7,7,7,7,7,7,7,7,7,7,7,7,7,7,7,7,7,7,7,7,7,7,7,7,7,7,7,7,7,7,7,7,7,7,7,7,7,7,7,7,7,7,7,7,7,7,7,7,7,7,7,7,7,7,7,7,7,7,7,7,8,8,8,8,8,8,8,8,8,8,8,8,8,8,8,8,8,8,8,8,8,8,8,8,8,8,8,8,8,8,8,8,8,8,8,8,8,8,8,8,8,8,8,8,8,8,8,8,8,8,8,8,8,8,8,8,8,8,8,8,8,8,8,8,8,8,8,8,8,8,8,8,8,8,8,8,8,8,8,8,8,8,8,8,8,8,8,8,8,8,8,8,8,8,8,8,8,8,8,8,8,8,8,8,8,8,8,8,8,8,8,8,8,8,8,8,8,8,8,8,8,8,8,8,8,8,8,8]
def aoj:∀m,m<256->aoi[m]? =some (UInt8.ofNat (cf m))∧cf m<=8:=by decide +kernel
def aog:bw a4.ctx 248 Yz.spec:=by
 refine bZ [] VF.1 ?_;intro(n:Nat) (hn:n<4294967296) H aK;refine I ?_;refine cP (fun h=> ?_) (fun h=> ?_)
 ·omega
 refine I ?_;refine ih (fun((m:Nat),(k:Nat))=>m<65536∧k<=16∧cf n=cf m+k) (fun(m,k)=>⟨[],0,[(0,.i .u64 m),(2,.i .i64 k)]⟩) ?_ ?_
 ·refine cP (fun h=> ?_) (fun h=> ?_)
  ·refine I ?_;exact aU [] (n/65536,16) ⟨by omega,by decide,CW 16 n (by omega)⟩ eW
  ·refine I ?_;exact aU [] (n,0) ⟨by omega,by decide,rfl⟩ eW
 rintro⟨m,k⟩ ⟨hm,hk,hb⟩;refine I ?_;refine ih (fun((m:Nat),(k:Nat))=>m<256∧k<=24∧cf n=cf m+k) (fun(m,k)=>⟨[],0,[(0,.i .u64 m),(2,.i .i64 k)]⟩) ?_ ?_
 ·refine cP (fun h=> ?_) (fun h=> ?_)
  ·refine I ?_;exact aU [] (m/256,k+8) ⟨by omega,by omega,by rw[hb,CW 8 m (by omega),show(2:Nat)^8=256 from rfl];omega⟩ (kr ⟨rfl,fa,trivial⟩)
  ·refine I ?_;exact aU [] (m,k) ⟨by omega,by omega,hb⟩ eW
 rintro⟨m,k⟩ ⟨hm,hk,hb⟩;refine I ?_;refine ax 21 (.i .u8 (m:Nat)) rfl fv ?_;obtain⟨t1,t2⟩:=aoj m hm;refine nH _ t1 ?_;refine I ?_;have e:(UInt8.ofNat (cf m)).toNat=cf m:=by simp;omega
 rw[e];refine aM rfl (.of ?_);show ae.i _ _=ae.i .i64 (cf n:Nat);rw[hb,hG (n:=((cf m:Nat):Int)) (by omega) (by omega)];exact cS
def Yq:bN where
 L:=Nat
 args:=fun b=>[.i .i64 b]
 pre:=fun b=>b<=64
 res:=fun b=>.i .i64 ((b*78913/262144:Nat):Int)
def an5:bw a4.ctx 291 Yq.spec:=by
 refine bZ [] VU.1 ?_;intro(b:Nat) (hb:b<=64) H aK;refine ag 4 ?_;refine ax 4 (.i .i64 ((b*78913:Nat):Int)) rfl cS (I ?_);exact aM rfl (.refl _)
def Sg:bN where
 L:=Bool
 args:=fun b=>[.b b]
 pre:=fun _=>True
 res:=fun b=>.i .i64 (if b=true then 1 else 0)
def aeB:bw a4.ctx 292 Sg.spec:=by
 refine bZ [] VV.1 ?_;intro(b:Bool) _ H aK;refine I ?_;cases b with
 |true=>
  refine I ?_;exact aM rfl (.refl _)
 |false=>
  refine I ?_;exact aM rfl (.refl _)
def aoX:∀b,b<31->(b*78913/262144=0∨10^(b*78913/262144-1)<=2^(b-1))∧2^b<=10^(b*78913/262144+1)∧b*78913/262144<10:=by decide +kernel
def aoW(h0:n≠0)(hn:n<1000000000):(aT 10 n).length=cf n*78913/262144+(if 10^(cf n*78913/262144)<=n then 1 else 0)∧cf n*78913/262144<10∧cf n<=30:=by
 obtain⟨h1,h2⟩:=xO h0;have hb:cf n<=30:=Sz.1 (show n<2^30 by omega);obtain⟨t1,t2,t3⟩:=aoX (cf n) (by omega);generalize cf n*78913/262144=l at *;have hu:=ke (b:=10) (n:=n) (k:=l+1) (by decide) (by omega);refine⟨?_,t3,hb⟩;split
 ·rename_i h;have:=Dc (b:=10) (n:=n) (k:=l) (by decide) h;omega
 ·rename_i h;have ab:=ke (b:=10) (n:=n) (k:=l) (by decide) (by omega);rcases t1 with t1|t1
  ·subst t1;omega
  ·rcases zcx l with aD|aD
   ·subst aD;omega
   ·have:=Dc (b:=10) (n:=n) (k:=l-1) (by decide) (by omega);omega
def Zi:bN where
 L:=Nat
 args:=fun n=>[.i .u64 n]
 pre:=fun n=>n≠0∧n<1000000000
 res:=fun n=>.i .i64 ((aT 10 n).length:Nat)
 hp:=iQ
 hm:=iQ.up
def aoV:bw a4.ctx 253 Zi.spec:=by
 refine pK [(248,Yz.spec),(291,Yq.spec),(292,Sg.spec)] VK.1 ?_;intro(n:Nat) ⟨(h0:n≠0),(hn:n<1000000000)⟩ H aK ⟨vs,el,bk,a3,aO,ao⟩;obtain⟨aq,e2,bS⟩:=aoW h0 hn;refine I ?_;refine aX aog n (by show n<_;omega) ?_;refine aX an5 (cf n) (by show cf n<=_;omega) ?_;generalize hl:cf n*78913/262144=l at *;refine ax 6 (.i .i64 (l:Nat)) rfl (by rw[<-hl];rfl) (I ?_);refine aqZ aO ao (j:=l) ?_;refine ax 10 (.ip (.i .u64 ((10^l:Nat):Int)::zw.drop (l+1))) rfl (by rw[ap5 (by omega)]) (ag 12 ?_);refine ax 12 (.b (decide (10^l<=n))) rfl (congrArg ae.b (by rw[decide_eq_decide];exact Int.ofNat_le)) ?_;refine aX aeB (decide (10^l<=n)) trivial ?_;obtain⟨q,hq⟩:∃q:Nat,q=if 10^l<=n then 1 else 0:=⟨_,rfl⟩;have yO:q<=1:=by rw[hq];split<;>decide
 rw[<-hq]at aq;refine ax 13 (.i .i64 (q:Nat)) rfl (by show ae.i _ (if decide _=true then 1 else 0)=_;rw[hq];by_cases h:10^l<=n<;>simp[h]) (I ?_);exact aM rfl (.of (by
  show ae.i _ _=ae.i .i64 ((aT 10 n).length:Nat);rw[aq];exact cS))
