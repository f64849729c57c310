/- What the functions of the program and of the document compute, for every input, and the plain laws of it (part 1); conditions as in the statements. -/
import Derived.Test.YtdinjknpilkilaaGreatDoorS1
import Derived.Test.YtdinjknpilkilaaGreatDoorT
set_option linter.all false
namespace Go.ah.aW
def e0:ac Nat->ac Nat
 |[]=>[]
 |d::ds=>match e0 ds with
  |[]=>if d=0 then[]else[d]
  |r=>d::r
def val(b:Nat):ac Nat->Nat
 |[]=>0
 |d::ds=>d+b*val b ds
def cY(b:Nat)(ds:ac Nat):Prop:=∀d∈ds,d<b
variable{b:Nat}{l:ac Nat}{i:Nat}
def sz(dC:ac Nat)(d:Nat):e0 (dC++[d])=if d=0 then e0 dC else dC++[d]:=by
 induction dC with
 |nil=>simp[e0]
 |cons x xs a1=>
  simp only[List.cons_append];rw[e0,a1];by_cases h:d=0
  ·rw[zab h,zab h,e0]
  ·rw[zaa h,zaa h];cases xs<;>rfl
def nN(b:Nat)(xs al:ac Nat):val b (xs++al)=val b xs+b^xs.length*val b al:=by
 induction xs with
 |nil=>simp[val]
 |cons x xs a1=>
  simp only[List.cons_append,val,a1,zax,zak,zaq];rw[<-zan,zam b (b^xs.length)];omega
def atZ(b:Nat)(ds:ac Nat):val b (e0 ds)=val b ds:=by
 suffices h:∀n (ds:ac Nat),ds.length=n->val b (e0 ds)=val b ds from h _ ds rfl
 intro n
 induction n with
 |zero=>intro ds h;rw[zbz h];rfl
 |succ n a1=>
  intro ds h;rcases zbG ds with rfl|⟨dC,d,rfl⟩
  ·rfl
  ·rw[zbH]at *;rw[sz];split
   ·rename_i h0;rw[a1 dC (by simpa using h),nN,h0];simp[val]
   ·rfl
def atX(ds:ac Nat)(h:cY b ds):cY b (e0 ds):=by
 induction ds with
 |nil=>exact h
 |cons d ds a1=>
  have h1:=a1 (fun x J=>h x (zaB _ J));have h2:=h d (by simp);unfold e0;split
  ·split
   ·exact fun x J=>by simp at J
   ·intro x J;simp at J;omega
  ·rename_i r aL;intro x J;rcases zap.1 J with rfl|J
   ·exact h2
   ·exact h1 x J
def atY(ds:ac Nat):e0 (e0 ds)=e0 ds:=by
 suffices h:∀n (ds:ac Nat),ds.length=n->e0 (e0 ds)=e0 ds from h _ ds rfl
 intro n
 induction n with
 |zero=>intro ds h;rw[zbz h];rfl
 |succ n a1=>
  intro ds h;rcases zbG ds with rfl|⟨dC,d,rfl⟩
  ·rfl
  ·rw[zbH]at *;rw[sz];split
   ·exact a1 dC (by simpa using h)
   ·rename_i h0;rw[sz,zaa h0]
def adk(ds:ac Nat):(e0 ds).length<=ds.length:=by
 induction ds with
 |nil=>exact zae _
 |cons d ds a1=>
  unfold e0;split
  ·split<;>simp
  ·rename_i aL;simp;exact a1
def lM{ds:ac Nat}(h:cY b ds):val b ds<b^ds.length:=by
 induction ds with
 |nil=>simp[val]
 |cons d ds a1=>
  have h1:=h d (by simp);have h2:=a1 (fun x J=>h x (zaB _ J));simp only[val,zax,zak];have:b*(val b ds+1)<=b*b^ds.length:=zaQ _ h2;rw[zam (b^ds.length)];rw[zaq]at this;omega
def I4{dC:ac Nat}{d:Nat}(h:e0 (dC++[d])=dC++[d]):b^dC.length<=val b (dC++[d])∧d≠0:=by
 rw[sz]at h;by_cases ao:d=0
 ·rw[zab ao]at h;have:=adk dC;rw[h]at this;simp at this;omega
 ·refine⟨?_,ao⟩;rw[nN];simp only[val];have:b^dC.length*1<=b^dC.length*(d+b*0):=zaQ _ (by omega);omega
def Iz(hb:0<b){x y:ac Nat}(J:cY b x)(ay:e0 y=y)(h:x.length<y.length):val b x<val b y:=by
 rcases zbG y with rfl|⟨dC,d,rfl⟩
 ·simp at h
 ·rw[zbH]at *;have h1:=lM J;have h2:=(I4 (b:=b) ay).1;have ab:b^x.length<=b^dC.length:=zaI hb (by simp at h;omega);omega
def KA{p dZ s:ac Nat}{x y:Nat}(hp:cY b p)(hl:p.length=dZ.length)(h:x<y):val b (p++x::s)<val b (dZ++y::s):=by
 rw[nN,nN,<-hl];simp only[val];have h1:=lM hp;have h2:b^p.length*(x+b*val b s+1)<=b^p.length*(y+b*val b s):=zaQ _ (by omega);rw[zaq _ (x+b*val b s) 1,zbc]at h2;omega
def iO(h:i<l.length):val b (l.take (i+1))=val b (l.take i)+b^i*l[i]:=by
 rw[zce h,nN];simp only[val,zay,zaC (zaL h),zcm,zbh]
def kM(h:l.length<=i):val b (l.take i)=val b l:=by rw[zaV h]
def aT(b n:Nat):ac Nat:=if h:b<2∨n=0 then[]else n%b::aT b (n/b)
termination_by n
decreasing_by
 exact zdo (by omega) (by omega)
variable{n k P o c x y u w d:Nat}
def fL(b:Nat):aT b 0=[]:=by rw[aT];simp
def ot(hb:2<=b)(hn:n≠0):aT b n=n%b::aT b (n/b):=by rw[aT,dif_neg (by omega)]
def gV(hb:2<=b)(n:Nat):val b (aT b n)=n:=by
 induction n using Nat.strongRecOn with
 |ind n a1=>
  by_cases hn:n=0
  ·subst hn;rw[fL];rfl
  ·rw[ot hb hn,val,a1 _ (zdo (by omega) (by omega))];exact zcP n b
def hA(hb:2<=b)(n:Nat):cY b (aT b n):=by
 induction n using Nat.strongRecOn with
 |ind n a1=>
  by_cases hn:n=0
  ·subst hn;rw[fL];exact fun x J=>by simp at J
  ·rw[ot hb hn];intro x J;rcases zap.1 J with rfl|J
   ·exact zaj _ (by omega)
   ·exact a1 _ (zdo (by omega) (by omega)) x J
def qD(hb:2<=b):aT b n=[]↔n=0:=by
 constructor
 ·intro h;have:=gV hb n;rw[h]at this;simp[val]at this;omega
 ·intro h;subst h;exact fL b
def x6(hb:2<=b)(n:Nat):e0 (aT b n)=aT b n:=by
 induction n using Nat.strongRecOn with
 |ind n a1=>
  by_cases hn:n=0
  ·subst hn;rw[fL];rfl
  ·rw[ot hb hn,e0,a1 _ (zdo (by omega) (by omega))];by_cases ao:n/b=0
   ·rw[ao,fL];have:n%b=n:=zbU ((Nat.div_eq_zero_iff_lt (by omega)).1 ao);rw[this];simp[hn]
   ·cases he:aT b (n/b)with
    |nil=>exact absurd ((qD hb).1 he) ao
    |cons x xs=>rfl
theorem AJ{b:Nat}(hb:2<=b):∀{ds:ac Nat},cY b ds->e0 ds=ds->aT b (val b ds)=ds
 |[],_,_=>fL b
 |d::ds,h,aF=>by
  have h1:=h d (by simp);have h2:cY b ds:=fun x J=>h x (zaB _ J);have ab:e0 ds=ds∧(ds=[]->d≠0):=by
   rw[e0]at aF;cases aL:e0 ds with
   |nil=>
    rw[aL]at aF;simp only at aF;split at aF
    ·cases aF
    ·cases aF;exact⟨rfl,fun _=>by assumption⟩
   |cons x xs=>
    rw[aL]at aF;have aF:d::x::xs=d::ds:=aF;cases aF;exact⟨rfl,fun h=>by cases h⟩
  have aB:val b (d::ds)≠0:=by
   simp only[val];cases kj:ds with
   |nil=>have:=ab.2 kj;simp[val];exact this
   |cons x xs=>
    intro h0;have aD:=AJ hb h2 ab.1;have:b*val b (x::xs)=0:=by omega
    have:val b (x::xs)=0:=by
     rcases Nat.mul_eq_zero.1 this with h|h
     ·omega
     ·exact h
    rw[kj,this,fL]at aD;cases aD
  rw[ot hb aB];have aq:val b (d::ds)%b=d:=by simp only[val];rw[zdV,zbU h1]
  have e2:val b (d::ds)/b=val b ds:=by simp only[val];rw[zcQ _ _ (by omega),zbI h1];omega
  rw[aq,e2,AJ hb h2 ab.1]
def zT(hb:2<=b){ds:ac Nat}(h:cY b ds):e0 ds=aT b (val b ds):=by
 rw[<-atZ,AJ hb (atX ds h) (atY ds)]
def ke(hb:2<=b)(h:n<b^k):(aT b n).length<=k:=by
 have aF:=x6 hb n;have aB:=gV hb n;rcases zbG (aT b n)with he|⟨dC,d,he⟩
 ·rw[he];simp
 ·rw[zbH]at he;rw[he]at aF aB;have h1:=(I4 (b:=b) aF).1;rw[aB]at h1;have ab:=(zdp (by omega:1<b)).1 (zaz h1 h);rw[he];simp;omega
def Dc(hb:2<=b)(h:b^k<=n):k<(aT b n).length:=by
 have h1:=lM (hA hb n);rw[gV hb]at h1;exact(zdp (by omega:1<b)).1 (zaz h h1)
def RI(hb:0<b)(h:o+P*c=u+w):o+P*((c+x+y)%b)+P*b*((c+x+y)/b)=u+P*x+(w+P*y):=by
 have h1:P*(c+x+y)=P*((c+x+y)%b)+P*b*((c+x+y)/b):=by
  rw[zan,<-zaq,zcP]
 rw[zaq,zaq]at h1;omega
def acR{bW:Nat}(h:u+P*c=o+w)(ao:x+b*bW=d+y+c):u+P*x+P*b*bW=o+P*d+(w+P*y):=by
 have h1:P*x+P*b*bW=P*d+P*y+P*c:=by
  rw[zan,<-zaq,<-zaq,<-zaq,ao]
 omega
def nD(h:cY b l)(i:Nat)(ao:d<b):cY b (l.set i d):=fun x J=>by
 rcases List.mem_or_eq_of_mem_set J with h1|h1
 ·exact h x h1
 ·omega
def tp(hb:0<b)(n:Nat):cY b (List.replicate n 0):=fun x J=>by
 have:=List.eq_of_mem_replicate J;omega
def val_zero(b n:Nat):val b (List.replicate n 0)=0:=by
 induction n with
 |zero=>rfl
 |succ n a1=>simp[zdT,val,a1]
def jH(a b:Nat):Int:=if a<b then -1 else if a=b then 0 else 1
open Go.ah
set_option maxRecDepth 100000
set_option maxHeartbeats 4000000
variable{f:ci}{S:bN}
def bZ(K:ac (Nat×fX))(xf:dy)(h:∀l,S.pre l->∀H aK,aS.ok ⟨cG bn (c0 a4.ctx (b8 K)) (bc+1),bc+1,f,H,[],aK,Fin S l xf.res⟩ ⟨[],.c xf.body,⟨[],0,ov 0 (S.args l)⟩⟩)
 (J:bn.get f=some xf:=by kernel_rfl) (hl:∀l,(S.args l).length<=xf.aP:=by exact fun _=>kv rfl):bw a4.ctx f S.spec:=af1 a4.hO jf (b8 K) J hl h
def pK(K:ac (Nat×fX))(xf:dy)(h:∀l,S.pre l->∀H aK,S.hp H->aS.ok ⟨cG bn (c0 a4.ctx (b8 K)) (bc+1),bc+1,f,H,[],aK,Fin S l xf.res⟩ ⟨[],.c xf.body,⟨[],0,ov 0 (S.args l)⟩⟩)
 (J:bn.get f=some xf:=by kernel_rfl) (hl:∀l,(S.args l).length<=xf.aP:=by exact fun _=>kv rfl):bw a4.ctx f S.spec:=L6 a4.hO jf (b8 K) J hl h
def LN(K:ac (Nat×fX))(xf:dy){S:ka}(h:∀l,S.pre l->∀H i0 aK,i0.length=(S.own l).length->aS.ok ⟨cG bn (c0 a4.ctx (b8 K)) (bc+1),bc+1,f,H,i0,aK,KU S l xf.res⟩ ⟨[],.c xf.body,⟨S.own l,(S.own l).length,ov 0 (S.args l)⟩⟩)
 (J:bn.get f=some xf:=by kernel_rfl) (hl:∀l,(S.args l).length<=xf.aP:=by exact fun _=>kv rfl):bw a4.ctx f S.spec:=af0 a4.hO jf (b8 K) J hl h
def fZ(d:Nat):ac ae:=[.i .u32 d]
def c6(ds:ac Nat):ae:=.aZ 1 Nat fZ ds
def dm(n:Nat):ae:=c6 (aT 4294967296 n)
def FU{n m:Int}(h:n=m)(h1: -9223372036854775808<=n)(h2:n<9223372036854775808):IntKind.i64.wrap n=m:=by rw[hG h1 h2,h]
def adL(n:Int):IntKind.u64.wrap n=n%18446744073709551616:=by
 rw[<-ma];exact tG _ _ (by decide)
def KB:bN where
 L:=ac Nat
 args:=fun ds=>[c6 ds]
 pre:=fun ds=>ds.length<=1099511627776
 res:=fun ds=>c6 (e0 ds)
def atV:bw a4.ctx 197 KB.spec:=by
 refine bZ [] Vh.1 ?_;intro(ds:ac Nat) (hp:ds.length<=1099511627776) H aK;refine I ?_;refine cw (fun es:ac Nat=>e0 es=e0 ds∧es.length<=ds.length) (fun es=>⟨[],0,[(0,c6 es)]⟩) List.length [] ds ⟨rfl,b6 _⟩ (by show ds.length<bc+1;unfold bc;omega) eW ?_;rintro es ⟨h1,h2⟩;rcases zbG es with rfl|⟨dC,d,rfl⟩
 ·refine I ?_;exact aM rfl (.of (by rw[show KB.res ds=c6 (e0 ds)from rfl,<-h1];rfl))
 ·rw[zbH]at *;have hl:(dC++[d]).length=dC.length+1:=by simp
  refine I ?_;refine ax 6 (.b true) rfl (by simp) (I ?_);refine ax 10 (.i .i64 (dC.length:Nat)) rfl (by rw[hl,hG]<;>simp<;>omega) ?_;refine g9 (N0 rfl rfl (show(dC++[d])[dC.length]? =some d by simp)) ?_;refine I ?_;refine zI rfl (fun ao=> ?_) (fun ao=> ?_)
  ·have ao:d=0:=by simpa using ao
   refine I ?_;refine ax 18 (.i .i64 (dC.length:Nat)) rfl (by rw[hl,hG]<;>simp<;>omega) ?_;refine g9 (QM (p:=0) rfl rfl ⟨_,rfl⟩ (zac _) (by simp)) ?_;refine I ?_;refine aU [] dC ⟨by simp,by rw[<-h1,sz,zab ao],by omega⟩ (kr ⟨?_,trivial⟩);simp[dR,m8,c6]
  ·have ao:d≠0:=by simpa using ao
   refine I ?_;exact aM rfl (.of (by rw[show KB.res ds=c6 (e0 ds)from rfl,<-h1,sz,zaa ao]))
def ud:bN where
 L:=ac Nat
 args:=fun ds=>[c6 ds]
 pre:=fun ds=>cY 4294967296 ds∧ds.length<=1099511627776
 res:=fun ds=>dm (val 4294967296 ds)
def ue:bw a4.ctx 144 ud.spec:=by
 refine bZ [(197,KB.spec)] UJ.1 ?_;intro(ds:ac Nat) ⟨(h1:cY 4294967296 ds),(h2:ds.length<=_)⟩ H aK;refine I ?_;refine aX atV ds h2 (I ?_);exact aM rfl (.of (by show c6 (e0 ds)=c6 _;rw[zT (by decide) h1]))
def zp:bN where
 L:=Nat
 args:=fun n=>[.i .u64 n]
 pre:=fun n=>n<18446744073709551616
 res:=fun n=>dm n
def sg:bw a4.ctx 116 zp.spec:=by
 refine bZ [(144,ud.spec)] UB.1 ?_;intro(n:Nat) (hp:n<18446744073709551616) H aK;refine I ?_;refine abx 0 (z:=1) (R:=fZ) [n%4294967296,n/4294967296] rfl (by show[ae.i _ _,ae.i _ _]=[ae.i _ _,ae.i _ _];rw[show n/2^32%4294967296=n/4294967296 by omega]) (fun _=>rfl) ?_;refine abz 8 [n%4294967296,n/4294967296] rfl rfl rfl rfl (by decide) (fun _=>rfl) ?_;refine aX ue [n%4294967296,n/4294967296] ⟨fun x J=> ?_,by simp⟩ ?_
 ·simp at J;rcases J with rfl|rfl<;>omega
 refine I ?_;exact aM rfl (.of (by show dm _=dm _;simp[val];congr 1;omega))
def dE(k n:Nat):Prop:=(aT 4294967296 n).length<=k
variable{a s B r h R v j:Nat}
def Lc:bN where
 L:=Nat×Nat
 args:=fun(a,b)=>[dm a,dm b]
 pre:=fun(a,b)=>dE 1073741824 a∧dE 1073741824 b
 res:=fun(a,b)=>dm (a+b)
def RE:bw a4.ctx 119 Lc.spec:=by
 refine bZ [(144,ud.spec)] UE.1 ?_;intro⟨a,b⟩ ⟨(ha:(aT _ a).length<=_),(hb:(aT _ b).length<=_)⟩ H aK;show aS.ok _ ⟨_,_,⟨_,_,[(0,c6 (aT 4294967296 a)),(1,c6 (aT 4294967296 b))]⟩⟩;refine I ?_;refine ih (fun((xs:ac Nat),(al:ac Nat))=>al.length<=xs.length∧xs.length<=1073741824∧cY 4294967296 xs∧cY 4294967296 al∧val 4294967296 xs+val 4294967296 al=a+b) (fun(xs,al)=>⟨[],0,[(0,c6 xs),(1,c6 al)]⟩) ?_ ?_
 ·refine cP (fun h=> ?_) (fun h=> ?_)
  ·have h:(aT 4294967296 a).length<(aT 4294967296 b).length:=by omega
   refine I ?_;exact aU [] (aT _ b,aT _ a) ⟨by omega,hb,hA (by decide) _,hA (by decide) _,by rw[gV (by decide),gV (by decide),zcf]⟩ eW
  ·have h:(aT 4294967296 b).length<=(aT 4294967296 a).length:=by omega
   refine I ?_;exact aU [] (aT _ a,aT _ b) ⟨h,ha,hA (by decide) _,hA (by decide) _,by rw[gV (by decide),gV (by decide)]⟩ eW
 rintro⟨xs,al⟩ ⟨hl,J,h1,h2,af⟩;refine I ?_;refine ax 18 (.i .i64 ((xs.length+1:Nat):Int)) rfl cS ?_;refine lj fZ 0 ?_;refine I ?_;refine cw (L:=Nat×ac Nat×Nat) (fun(i,outs,c)=>i<=xs.length∧outs.length=xs.length+1∧cY 4294967296 outs∧c<=1∧val 4294967296 (outs.take i)+4294967296^i*c=val 4294967296 (xs.take i)+val 4294967296 (al.take i))
  (fun((i:Nat),(outs:ac Nat),(c:Nat))=>⟨[.a 232 false 1 Nat fZ outs],1,[(0,c6 xs),(1,c6 al),(5,.aN 0 1 0 (xs.length+1) (xs.length+1)),(6,.i .u64 c),(20,c6 xs),(21,.i .i64 xs.length),(22,.i .i64 i)]⟩)
  (fun l=>xs.length-l.1) [0] (0,List.replicate (xs.length+1) 0,0) ⟨by omega,by simp,tp (by decide) _,by omega,by simp[val]⟩ (by show xs.length-0<bc+1;unfold bc;omega) hd ?_
 rintro⟨i,outs,c⟩ ⟨aa,hF,bH,hc,aB⟩;refine I ?_;refine cP (fun h=> ?_) (fun h=> ?_)
 ·have h:i<xs.length:=by omega
  have En:xs[i]? =some xs[i]:=bE h;have aE:=h1 _ (fy h);refine I ?_;refine db xs[i] En ?_;refine I ?_;refine ih (fun y=>y<4294967296∧val 4294967296 (al.take (i+1))=val 4294967296 (al.take i)+4294967296^i*y) (fun(y:Nat)=>⟨[.a 232 false 1 Nat fZ outs],1,[(0,c6 xs),(1,c6 al),(5,.aN 0 1 0 (xs.length+1) (xs.length+1)),(6,.i .u64 ((c+xs[i]+y:Nat):Int)),(7,.i .i64 i),(20,c6 xs),(21,.i .i64 xs.length),(22,.i .i64 i)]⟩) ?_ ?_
  ·refine cP (fun aC=> ?_) (fun aC=> ?_)
   ·have aC:i<al.length:=by simpa using aC
    have Eo:al[i]? =some al[i]:=bE aC;have D0:=h2 _ (fy aC);refine I ?_;refine db al[i] Eo ?_;refine I ?_;refine aU [0] al[i] ⟨D0,iO aC⟩ (eO ⟨rfl,rfl,rfl,?_,rfl,rfl,rfl,rfl,trivial⟩ ⟨_,rfl,rfl,fun _=>rfl⟩);exact nw
   ·have aC:al.length<=i:=by simpa using aC
    refine I ?_;refine aU [0] 0 ⟨by decide,by rw[kM (by omega),kM aC];simp⟩ (eO ⟨rfl,rfl,rfl,?_,rfl,rfl,rfl,rfl,trivial⟩ ⟨_,rfl,rfl,fun _=>rfl⟩);exact nw
  rintro y ⟨ay,gC⟩;refine I ?_;refine hU ?_;refine iC ((c+xs[i]+y)%4294967296) ?_;refine I ?_;refine aU [0] (i+1,outs.set i ((c+xs[i]+y)%4294967296),(c+xs[i]+y)/4294967296) ⟨by show xs.length-(i+1)<xs.length-i;omega,by omega,by simp[hF],nD bH _ (zaj _ (by decide)),by omega,?_⟩ (eO ⟨rfl,rfl,rfl,rfl,rfl,rfl,?_,trivial⟩ ⟨_,rfl,rfl,fun _=>rfl⟩)
  ·rw[iO (l:=outs.set i _) (by simp;omega),iO h,gC,zbg (b6 _),zbe,zak];exact RI (by decide) aB
  ·exact fa
 ·have h:i=xs.length:=by have:xs.length<=i:=by omega
                         omega
  subst h;refine I ?_;refine hU ?_;refine iC (c%4294967296) ?_;refine I ?_;refine gq 56 ?_;refine aX ue (outs.set xs.length (c%4294967296)) ⟨nD bH _ (zaj _ (by decide)),by simp[hF];omega⟩ (I ?_);refine aM rfl (.of ?_);show dm _=dm _;congr 1;rw[<-kM (i:=xs.length+1) (by simp[hF]),iO (by simp;omega),zbg (b6 _),zbe,gR (by omega),aB,kM (b6 _),kM hl,af]
def acO:bN where
 L:=Nat×Nat
 args:=fun(a,b)=>[dm a,dm b]
 pre:=fun(a,b)=>dE 1073741824 a∧b<=a
 res:=fun(a,b)=>dm (a-b)
def Oo(h:b<=a):(aT 4294967296 b).length<=(aT 4294967296 a).length:=by
 have h1:=lM (hA (b:=4294967296) (by decide) a);rw[gV (by decide)]at h1;exact ke (by decide) (by omega)
def acQ:bw a4.ctx 120 acO.spec:=by
 refine bZ [(144,ud.spec)] UF.1 ?_;intro⟨a,b⟩ ⟨(ha:(aT _ a).length<=_),(hb:b<=a)⟩ H aK;have hl:=Oo hb;have h1:=hA (b:=4294967296) (by decide) a;have h2:=hA (b:=4294967296) (by decide) b;have jF:=gV (b:=4294967296) (by decide) a;have ev:=gV (b:=4294967296) (by decide) b;show aS.ok _ ⟨_,_,⟨_,_,[(0,c6 (aT 4294967296 a)),(1,c6 (aT 4294967296 b))]⟩⟩;generalize aT 4294967296 a=xs at *;generalize aT 4294967296 b=al at *;refine I ?_;refine lj fZ 0 ?_;refine I ?_;refine cw (L:=Nat×ac Nat×Nat) (fun(i,outs,c)=>i<=xs.length∧outs.length=xs.length∧cY 4294967296 outs∧c<=1∧val 4294967296 (xs.take i)+4294967296^i*c=val 4294967296 (outs.take i)+val 4294967296 (al.take i))
  (fun((i:Nat),(outs:ac Nat),(c:Nat))=>⟨[.a 232 false 1 Nat fZ outs],1,[(0,c6 xs),(1,c6 al),(5,.aN 0 1 0 xs.length xs.length),(6,.i .u64 c),(13,c6 xs),(14,.i .i64 xs.length),(15,.i .i64 i)]⟩)
  (fun l=>xs.length-l.1) [0] (0,List.replicate xs.length 0,0) ⟨by omega,by simp,tp (by decide) _,by omega,by simp[val]⟩ (by show xs.length-0<bc+1;unfold bc;omega) hd ?_
 rintro⟨i,outs,c⟩ ⟨aa,hF,bH,hc,aB⟩;refine I ?_;refine cP (fun h=> ?_) (fun h=> ?_)
 ·have h:i<xs.length:=by omega
  have En:xs[i]? =some xs[i]:=bE h;have aE:=h1 _ (fy h);refine I ?_;refine db xs[i] En ?_;refine I ?_;refine ih (fun y=>y<4294967296∧val 4294967296 (al.take (i+1))=val 4294967296 (al.take i)+4294967296^i*y) (fun(y:Nat)=>⟨[.a 232 false 1 Nat fZ outs],1,[(0,c6 xs),(1,c6 al),(5,.aN 0 1 0 xs.length xs.length),(9,.i .u64 (((xs[i]+18446744073709551616-c-y)%18446744073709551616:Nat):Int)),(7,.i .i64 i),(13,c6 xs),(14,.i .i64 xs.length),(15,.i .i64 i)]⟩) ?_ ?_
  ·refine cP (fun aC=> ?_) (fun aC=> ?_)
   ·have aC:i<al.length:=by simpa using aC
    have Eo:al[i]? =some al[i]:=bE aC;have D0:=h2 _ (fy aC);refine I ?_;refine db al[i] Eo ?_;refine I ?_;exact aU [0] al[i] ⟨D0,iO aC⟩ (eO ⟨rfl,rfl,rfl,nw,rfl,rfl,rfl,rfl,trivial⟩ ⟨_,rfl,rfl,fun _=>rfl⟩)
   ·have aC:al.length<=i:=by simpa using aC
    refine I ?_;exact aU [0] 0 ⟨by decide,by rw[kM (by omega),kM aC];simp⟩ (eO ⟨rfl,rfl,rfl,nw,rfl,rfl,rfl,rfl,trivial⟩ ⟨_,rfl,rfl,fun _=>rfl⟩)
  rintro y ⟨ay,gC⟩;generalize aF:(xs[i]+18446744073709551616-c-y)%18446744073709551616=t;refine I ?_;refine hU ?_;refine iC (t%4294967296) ?_;refine I ?_;refine aU [0] (i+1,outs.set i (t%4294967296),t/9223372036854775808) ⟨by show xs.length-(i+1)<xs.length-i;omega,by omega,by simp[hF],nD bH _ (zaj _ (by decide)),by omega,?_⟩ (eO ⟨rfl,rfl,rfl,rfl,rfl,rfl,fa,trivial⟩ ⟨_,rfl,rfl,fun _=>rfl⟩);rw[iO (l:=outs.set i _) (by simp;omega),iO h,gC,zbg (b6 _),zbe,zak];exact acR aB (by omega)
 ·have h:i=xs.length:=by have:xs.length<=i:=by omega
                         omega
  subst h;refine I ?_;refine gq 43 ?_;refine aX ue outs ⟨bH,by omega⟩ (I ?_);refine aM rfl (.of ?_);show dm _=dm _;congr 1;rw[kM (b6 _),kM (l:=outs) (by omega),kM hl]at aB;have ab:=lM bH;rw[hF]at ab;have pd:c=0:=by
   rcases zao 0 c with h|h
   ·have:c=1:=by omega
    rw[this]at aB;omega
   ·omega
  rw[pd]at aB;show _=a-b;omega
def C3:bN where
 L:=Nat×Nat
 args:=fun(a,b)=>[dm a,dm b]
 pre:=fun(a,b)=>dE 1073741824 a∧dE 1073741824 b
 res:=fun(a,b)=>.i .i64 (jH a b)
def AA(h:a<b):jH a b= -1:=by unfold jH;rw[zab h]
def GB(h:b<a):jH a b=1:=by unfold jH;rw[zaa (by omega),zaa (by omega)]
def S2(a:Nat):jH a a=0:=by unfold jH;simp
def GZ{m:Nat}(h:m<l.length):l=l.take m++l[m]::l.drop (m+1):=by
 rw[<-fP h,zbD]
def L1:bw a4.ctx 61 C3.spec:=by
 refine bZ [] Wg.1 ?_;intro⟨a,b⟩ ⟨(ha:(aT _ a).length<=_),(hb:(aT _ b).length<=_)⟩ H aK;have h1:=hA (b:=4294967296) (by decide) a;have h2:=hA (b:=4294967296) (by decide) b;have t1:=x6 (b:=4294967296) (by decide) a;have t2:=x6 (b:=4294967296) (by decide) b;have jF:=gV (b:=4294967296) (by decide) a;have ev:=gV (b:=4294967296) (by decide) b;show aS.ok _ ⟨_,_,⟨_,_,[(0,c6 (aT 4294967296 a)),(1,c6 (aT 4294967296 b))]⟩⟩;generalize aT 4294967296 a=xs at *;generalize aT 4294967296 b=al at *;have fin:∀{r:Int},jH a b=r->bV (.i .i64 r) (C3.res (a,b)):=fun h=>by rw[<-h];exact .refl _
 refine I ?_;refine cP (fun h=> ?_) (fun h=> ?_)
 ·have h:xs.length≠al.length:=by omega
  refine I ?_;refine cP (fun h=> ?_) (fun h=> ?_)
  ·have h:xs.length<al.length:=by omega
   refine I ?_;have:=Iz (b:=4294967296) (by decide) h1 t2 h;exact aM rfl (fin (AA (by omega)))
  ·have h:al.length<xs.length:=by have:al.length<=xs.length:=by omega
                                  omega
   refine I ?_;have:=Iz (b:=4294967296) (by decide) h2 t1 h;exact aM rfl (fin (GB (by omega)))
 have h:xs.length=al.length:=by omega
 refine I ?_;refine cw (L:=Nat) (fun k=>k<=xs.length∧xs.drop k=al.drop k) (fun(k:Nat)=>⟨[],0,[(0,c6 xs),(1,c6 al),(5,.i .i64 ((k:Int)-1))]⟩) id [] xs.length ⟨b6 _,by rw[zcn,h,zcn]⟩ (by show xs.length<bc+1;unfold bc;omega) (kr ⟨rfl,rfl,fa,trivial⟩) ?_;rintro(k:Nat) ⟨hk,ao⟩;cases k with
 |zero=>
  refine I ?_;exact aM rfl (fin (by simp at ao;rw[ao]at jF;rw[<-jF,<-ev];exact S2 _))
 |succ m=>
  have J:m<xs.length:=by omega
  have ay:m<al.length:=by omega
  have e:((m+1:Nat):Int)-1=(m:Nat):=by omega
  refine ax 5 (.i .i64 (m:Nat)) rfl (fv e) (I ?_);refine ax 20 (.b true) rfl (by simp) (I ?_);refine dp xs[m] (bE J) ?_;refine I ?_;refine dp al[m] (bE ay) ?_;refine I ?_;have j6:=GZ J;have nL:=GZ ay;refine cP (fun h=> ?_) (fun h=> ?_)
  ·have cb:xs[m]≠al[m]:=by omega
   refine I ?_;refine dp xs[m] (bE J) ?_;refine I ?_;refine dp al[m] (bE ay) ?_;refine I ?_;refine cP (fun h=> ?_) (fun h=> ?_)
   ·have aE:xs[m]<al[m]:=by omega
    refine I ?_;refine aM rfl (fin (AA ?_));rw[<-jF,<-ev,j6,nL,ao];exact KA (fun x J=>h1 x (zbY J)) (by simp;omega) aE
   ·have aE:al[m]<xs[m]:=by have:al[m]<=xs[m]:=by omega
                            omega
    refine I ?_;refine aM rfl (fin (GB ?_));rw[<-jF,<-ev,j6,nL,ao];exact KA (fun x J=>h2 x (zbY J)) (by simp;omega) aE
  ·have he:xs[m]=al[m]:=by omega
   refine I ?_;refine aU [] m ⟨by simp,by omega,?_⟩ (kr ⟨rfl,rfl,fa,trivial⟩);rw[fP J,fP ay,he,ao]
def OG(hc:c<4294967296)(J:x<4294967296)(ay:y<4294967296)(ak:o<4294967296):x*y<18446744073709551616∧x*y+o<18446744073709551616∧c+(x*y+o)<18446744073709551616:=by
 have h1:x*y<=4294967295*4294967295:=zaS (by omega) (by omega);omega
def Za{Q:Nat}(eZ:P=Q*R)(h:o+P*c=a+Q*(x*b)):o+P*((c+(x*y+d))%B)+P*B*((c+(x*y+d))/B)=a+P*d+Q*(x*(b+R*y)):=by
 have h1:P*(c+(x*y+d))=P*((c+(x*y+d))%B)+P*B*((c+(x*y+d))/B):=by
  rw[zan,<-zaq,zcP]
 have h2:Q*(x*(b+R*y))=Q*(x*b)+P*(x*y):=by
  rw[eZ,zaq,zaq,zan Q R,Nat.mul_left_comm x R y]
 rw[zaq,zaq]at h1;omega
def zg:bN where
 L:=Nat×Nat
 args:=fun(a,b)=>[dm a,dm b]
 pre:=fun(a,b)=>dE 1073741824 a∧dE 1073741824 b
 res:=fun(a,b)=>dm (a*b)
def q2:bw a4.ctx 59 zg.spec:=by
 refine bZ [(144,ud.spec)] We.1 ?_;intro⟨a,b⟩ ⟨(ha:(aT _ a).length<=_),(hb:(aT _ b).length<=_)⟩ H aK;have h1:=hA (b:=4294967296) (by decide) a;have h2:=hA (b:=4294967296) (by decide) b;have jF:=gV (b:=4294967296) (by decide) a;have ev:=gV (b:=4294967296) (by decide) b;show aS.ok _ ⟨_,_,⟨_,_,[(0,c6 (aT 4294967296 a)),(1,c6 (aT 4294967296 b))]⟩⟩;generalize aT 4294967296 a=xs at *;generalize aT 4294967296 b=al at *;refine I ?_;refine ax 15 (.i .i64 ((xs.length+al.length:Nat):Int)) rfl cS ?_;refine lj fZ 0 ?_;refine I ?_;refine cw (L:=Nat×ac Nat) (fun(i,outs)=>i<=xs.length∧outs.length=xs.length+al.length∧cY 4294967296 outs∧val 4294967296 (outs.take (i+al.length))=val 4294967296 (xs.take i)*val 4294967296 al)
  (fun((i:Nat),(outs:ac Nat))=>⟨[.a 232 false 1 Nat fZ outs],1,[(1,c6 al),(5,.aN 0 1 0 (xs.length+al.length) (xs.length+al.length)),(17,c6 xs),(18,.i .i64 xs.length),(19,.i .i64 i)]⟩)
  (fun l=>xs.length-l.1) [0] (0,List.replicate (xs.length+al.length) 0) ⟨by omega,by simp,tp (by decide) _,by simp[val,val_zero]⟩ (by show xs.length-0<bc+1;unfold bc;omega) hd ?_
 rintro⟨i,outs⟩ ⟨aa,hF,bH,aB⟩;refine I ?_;refine cP (fun h=> ?_) (fun h=> ?_)
 ·have h:i<xs.length:=by omega
  have mw:=h1 _ (fy h);refine I ?_;refine db xs[i] (bE h) ?_;refine I ?_;refine cw (L:=Nat×ac Nat×Nat) (fun(j,os,c)=>j<=al.length∧os.length=xs.length+al.length∧cY 4294967296 os∧c<4294967296∧(∀k,i+j<=k->os[k]? =outs[k]?)∧val 4294967296 (os.take (i+j))+4294967296^(i+j)*c=val 4294967296 (outs.take (i+j))+4294967296^i*(xs[i]*val 4294967296 (al.take j)))
   (fun((j:Nat),(os:ac Nat),(c:Nat))=>⟨[.a 232 false 1 Nat fZ os],1,[(1,c6 al),(5,.aN 0 1 0 (xs.length+al.length) (xs.length+al.length)),(17,c6 xs),(18,.i .i64 xs.length),(19,.i .i64 i),(6,.i .i64 i),(7,.i .u32 (xs[i]:Nat)),(8,.i .u64 c),(24,c6 al),(25,.i .i64 al.length),(26,.i .i64 j)]⟩)
   (fun l=>al.length-l.1) [0] (0,outs,0) ⟨by omega,hF,bH,by omega,fun _ _=>rfl,by simp[val]⟩ (by show al.length-0<bc+1;unfold bc;omega) hd ?_
  rintro⟨j,os,c⟩ ⟨hj,D6,uO,hc,nu,mu⟩;refine I ?_;refine cP (fun rW=> ?_) (fun rW=> ?_)
  ·have rW:j<al.length:=by omega
   have H6:=h2 _ (fy rW);have kl:i+j<os.length:=by omega
   have NA:os[i+j]=outs[i+j]:=by
    have:=nu (i+j) (b6 _);rw[bE kl,bE (by omega)]at this;exact Option.some.inj this
   have NB:=uO _ (fy kl);obtain⟨aH,aI,bj⟩:=OG hc mw H6 NB;refine I ?_;refine db al[j] (bE rW) ?_;refine I ?_;refine ax 40 (.i .i64 ((i+j:Nat):Int)) rfl cS ?_;refine hU ?_;refine sq os[i+j] (bE kl) ?_
   iterate 3 refine jd ?_
   refine ax 45 (.i .u64 ((c+(xs[i]*al[j]+os[i+j]):Nat):Int)) rfl (fv ?_) ?_
   ·have aq:xs[i]%18446744073709551616=xs[i]:=by omega
    have e2:al[j]%18446744073709551616=al[j]:=by omega
    have bS:os[i+j]%18446744073709551616=os[i+j]:=by omega
    rw[aq,e2,bS,gR aH,gR aI,gR bj]
   refine I ?_;refine ax 49 (.i .i64 ((i+j:Nat):Int)) rfl cS ?_;generalize gz:c+(xs[i]*al[j]+os[i+j])=T at *;refine hU ?_;refine iC (T%4294967296) ?_;refine I ?_;refine aU [0] (j+1,os.set (i+j) (T%4294967296),T/4294967296) ⟨by show al.length-(j+1)<al.length-j;omega,by omega,by simp[D6],nD uO _ (zaj _ (by decide)),by omega,fun k hk=>by rw[zbq (by omega)];exact nu k (by omega),?_⟩
    (eO ⟨rfl,rfl,rfl,rfl,rfl,rfl,rfl,rfl,rfl,rfl,fa,trivial⟩ ⟨_,rfl,rfl,fun _=>rfl⟩)
   rw[<-zbW,iO (l:=os.set (i+j) _) (by simp;omega),iO (l:=outs) (by omega),iO rW,zbg (b6 _),zbe,zak,<-NA,<-gz];exact Za (by rw[zal]) mu
  ·have hj:j=al.length:=by omega
   subst hj;refine I ?_;refine ax 60 (.i .i64 ((i+al.length:Nat):Int)) rfl cS (I ?_);refine hU ?_;refine iC (c%4294967296) ?_;refine I ?_;refine aU [0] (i+1,os.set (i+al.length) (c%4294967296)) ⟨by show xs.length-(i+1)<xs.length-i;omega,by omega,by simp[D6],nD uO _ (zaj _ (by decide)),?_⟩ (eO ⟨rfl,rfl,rfl,rfl,fa,trivial⟩ ⟨_,rfl,rfl,fun _=>rfl⟩);rw[show i+1+al.length=i+al.length+1 by omega,iO (l:=os.set _ _) (by simp;omega),zbg (b6 _),zbe,gR hc,mu,aB,iO h,kM (b6 _),zah,zan]
 ·have aa:i=xs.length:=by omega
  subst aa;refine I ?_;refine gq 65 ?_;refine aX ue outs ⟨bH,by omega⟩ (I ?_);refine aM rfl (.of ?_);show dm _=dm _;congr 1;rw[kM (l:=xs) (b6 _),kM (l:=outs) (by omega)]at aB;rw[aB,jF,ev]
def acs{X O:Nat}(h:X=O*d+r):x+B*X=((r*B+x)/d+B*O)*d+(r*B+x)%d:=by
 have h1:=zbr (r*B+x) d;rw[zah,h,zan,zam (_/d) d,zaq,zam r B]at *;omega
def acr(aL:r<d)(J:x<B):(r*B+x)/d<B:=by
 rw[zcR (by omega)];have:(r+1)*B<=d*B:=jo _ aL;rw[zam B d];rw[zah]at this;omega
def aai(J:x<2^k):h*2^k|||x=h*2^k+x:=by
 rw[zam,<-zfd J]
def Ps(aL:r<4294967296)(J:x<4294967296):(r*2^32%18446744073709551616%18446744073709551616|||x%18446744073709551616%18446744073709551616)=r*4294967296+x:=by
 have aq:r*2^32%18446744073709551616%18446744073709551616=r*2^32:=by omega
 have e2:x%18446744073709551616%18446744073709551616=x:=by omega
 rw[aq,e2,aai (k:=32) J]
def QN:bN where
 L:=Nat×Nat
 args:=fun(a,b)=>[dm a,.i .u32 b]
 pre:=fun(a,b)=>dE 1073741824 a∧0<b∧b<4294967296
 res:=fun(a,b)=>.bM [dm (a/b),.i .u32 ((a%b:Nat):Int)]
def QO:bw a4.ctx 162 QN.spec:=by
 refine bZ [(144,ud.spec)] U3.1 ?_;intro⟨a,d⟩ ⟨(ha:(aT _ a).length<=_),(sY:0<d),(ao:d<_)⟩ H aK;have h1:=hA (b:=4294967296) (by decide) a;have jF:=gV (b:=4294967296) (by decide) a;show aS.ok _ ⟨_,_,⟨_,_,[(0,c6 (aT 4294967296 a)),(1,.i .u32 d)]⟩⟩;generalize aT 4294967296 a=xs at *;refine I ?_;refine lj fZ 0 ?_;refine I ?_;refine cw (L:=Nat×ac Nat×Nat) (fun(k,outs,r)=>k<=xs.length∧outs.length=xs.length∧cY 4294967296 outs∧r<d∧val 4294967296 (xs.drop k)=val 4294967296 (outs.drop k)*d+r)
  (fun((k:Nat),(outs:ac Nat),(r:Nat))=>⟨[.a 232 false 1 Nat fZ outs],1,[(0,c6 xs),(1,.i .u32 d),(4,.aN 0 1 0 xs.length xs.length),(6,.i .u64 r),(7,.i .i64 ((k:Int)-1))]⟩)
  (fun l=>l.1) [0] (xs.length,List.replicate xs.length 0,0) ⟨by omega,by simp,tp (by decide) _,sY,by simp[val]⟩ (by show xs.length<bc+1;unfold bc;omega) (eO ⟨rfl,rfl,rfl,rfl,fa,trivial⟩ ⟨_,rfl,rfl,fun _=>rfl⟩) ?_
 rintro⟨k,outs,r⟩ ⟨hk,hF,bH,aL,aB⟩;cases k with
 |zero=>
  refine I ?_;refine gq 38 ?_;refine aX ue outs ⟨bH,by omega⟩ (I ?_);rw[zar,zar]at aB;have hq:a/d=val 4294967296 outs:=by rw[<-jF,aB,zam];rw[Nat.mul_add_div sY,zbI aL];omega
  have hm:a%d=r:=by rw[<-jF,aB,zam,Nat.mul_add_mod,gR aL]
  exact aM rfl (.bM ⟨.of (by show dm _=dm (a/d);rw[hq]),.of (fv (by show((r%4294967296:Nat):Int)=((a%d:Nat):Int);omega)),trivial⟩)
 |succ m=>
  have J:m<xs.length:=by omega
  have mw:=h1 _ (fy J);have ml:=acr aL mw;have gz:r*4294967296+xs[m]<18446744073709551616:=by
   have:(r+1)*4294967296<=4294967296*4294967296:=jo _ (by omega);omega
  refine ax 7 (.i .i64 (m:Nat)) rfl fv (I ?_);refine ax 15 (.b true) rfl (by simp) (I ?_);refine db xs[m] (bE J) ?_
  iterate 3 refine jd ?_
  refine ax 25 (.i .u64 ((r*4294967296+xs[m]:Nat):Int)) rfl (fv (congrArg _ (Ps (by omega) mw))) ?_;generalize yo:r*4294967296+xs[m]=T at *;refine I ?_;refine ax 30 (.i .u64 (d:Nat)) rfl fv ?_;refine aq5 ?_;refine I ?_;refine hU ?_;refine iC (T/d%4294967296) ?_;refine I ?_;refine ax 36 (.i .u64 (d:Nat)) rfl fv ?_;refine abA ?_;refine I ?_;have af:xs.drop m=xs[m]::xs.drop (m+1):=fP J;refine aU [0] (m,outs.set m (T/d%4294967296),T%d) ⟨by simp,by omega,by simp[hF],nD bH _ (zaj _ (by decide)),zaj _ sY,?_⟩ (eO ⟨rfl,rfl,rfl,rfl,fa,trivial⟩ ⟨_,rfl,rfl,fun _=>rfl⟩);rw[af,fP (l:=outs.set m _) (by simp;omega),zbe,zdb (by omega),gR ml,<-yo];exact acs aB
def ace(af:s<32)(hh:h<2^s):h|||(x*2^s)%4294967296=h+(x*2^s)%4294967296:=by
 have e:4294967296=2^s*2^(32-s):=by rw[<-zal,show s+(32-s)=32 by omega]
 have e2:(x*2^s)%4294967296=2^s*(x%2^(32-s)):=by rw[e,zam x,Nat.mul_mod_mul_left]
 rw[e2,Nat.or_comm,<-zfd hh,zcf]
def PF(af:s<32):2^s<=2147483648:=by
 have:2^s<=2^31:=zaI (by decide) (by omega);exact this
def ar2(af:s<32)(J:x<4294967296):x*2^s<9223372036854775808:=by
 have h1:x*2^s<=4294967295*2147483648:=zaS (by omega) (PF af);omega
def ar1(J:x<4294967296):x*2^s/4294967296<2^s:=by
 have h0:0<2^s:=zbO s;rw[zcR (by decide),zam];exact(Nat.mul_lt_mul_left h0).2 J
def ar3(aB:o+P*h=a):o+P*(h+v%4294967296)+P*4294967296*(v/4294967296)=a+P*v:=by
 have h1:P*v=P*(v%4294967296)+P*4294967296*(v/4294967296):=by
  rw[zan,<-zaq];congr 1;omega
 rw[zaq];omega
def acd(n:Nat):2^n=2^(n%32)*4294967296^(n/32):=by
 rw[show(4294967296:Nat)=2^32 from rfl,<-zbk,<-zal];congr 1;omega
def aaH(h:k<9223372036854775808):ae.i .i64 (IntKind.i64.wrap ((k:Int).tdiv 32))=ae.i .i64 ((k/32:Nat):Int):=cS rfl (by show _<=((k/32:Nat):Int);omega) (by show((k/32:Nat):Int)<_;omega)
def ab9:bN where
 L:=Nat×Nat
 args:=fun(a,b)=>[dm a,.i .i64 b]
 pre:=fun(a,b)=>dE 1073741824 a∧b<34359738368
 res:=fun(a,b)=>dm (a*2^b)
def aca:bw a4.ctx 226 ab9.spec:=by
 refine bZ [(144,ud.spec)] Vx.1 ?_;intro⟨a,n⟩ ⟨(ha:(aT _ a).length<=_),(hn:n<_)⟩ H aK;have h1:=hA (b:=4294967296) (by decide) a;have jF:=gV (b:=4294967296) (by decide) a;show aS.ok _ ⟨_,_,⟨_,_,[(0,c6 (aT 4294967296 a)),(1,.i .i64 n)]⟩⟩;generalize aT 4294967296 a=xs at *;refine I ?_;refine cP (fun h=> ?_) (fun h=> ?_)
 ·have h0:xs=[]:=zbz (by omega);subst h0;have:a=0:=jF.symm;subst this;refine I ?_;exact aM rfl (bV.nl.trans (.of (by show c6 []=dm (0*2^n);rw[zaA];show _=c6 (aT _ 0);rw[fL])))
 iterate 2 refine jd ?_
 refine jd ?_;refine jd ?_;refine jd ?_;refine jd ?_;refine jd ?_;refine ax 15 _ rfl (aaH (by omega)) ?_
 iterate 3 refine jd ?_
 refine ax 17 (.i .i64 ((n%32:Nat):Int)) rfl (fv rfl) ?_;generalize hq:n/32=q;have af:n%32<32:=zaj _ (by decide);have ix:=acd n;rw[hq]at ix;generalize n%32=s at *;refine I ?_;refine ax 23 (.i .i64 ((xs.length+q+1:Nat):Int)) rfl (by rw[hG (n:=(xs.length:Int)+q) (by omega) (by omega)];exact cS) ?_;refine lj fZ 0 ?_;refine I ?_;refine cw (L:=Nat×ac Nat) (fun(i,outs)=>i<=xs.length∧outs.length=xs.length+q+1∧cY 4294967296 outs∧(∃h,outs[i+q]? =some h∧h<2^s)∧val 4294967296 (outs.take (i+q+1))=val 4294967296 (xs.take i)*(2^s*4294967296^q))
  (fun((i:Nat),(outs:ac Nat))=>⟨[.a 232 false 1 Nat fZ outs],1,[(5,.i .i64 q),(6,.i .u64 s),(7,.aN 0 1 0 (xs.length+q+1) (xs.length+q+1)),(25,c6 xs),(26,.i .i64 xs.length),(27,.i .i64 i)]⟩)
  (fun l=>xs.length-l.1) [0] (0,List.replicate (xs.length+q+1) 0) ⟨by omega,by simp,tp (by decide) _,⟨0,by rw[zeH,zab (by omega)],zbO s⟩,by rw[List.take_replicate,val_zero];simp[val]⟩ (by show xs.length-0<bc+1;unfold bc;omega) (eO ⟨rfl,nw,rfl,rfl,rfl,rfl,trivial⟩ ⟨_,rfl,rfl,fun _=>rfl⟩) ?_
 rintro⟨i,outs⟩ ⟨aa,hF,bH,⟨h,hh,Xv⟩,aB⟩;refine I ?_;refine cP (fun aE=> ?_) (fun aE=> ?_)
 ·have aE:i<xs.length:=by omega
  have mw:=h1 _ (fy aE);have aH:=ar2 af mw;have aI:=ar1 (s:=s) mw;have bj:=PF af;refine I ?_;refine db xs[i] (bE aE) ?_
  iterate 3 refine jd ?_
  iterate 3 refine jd ?_
  iterate 3 refine jd ?_
  iterate 2 refine jd ?_
  refine ax 35 (.i .u64 ((xs[i]*2^s:Nat):Int)) rfl (fv ?_) ?_
  ·rw[gR (a:=xs[i]) (by omega),gR (by omega)]
  generalize iS:xs[i]*2^s=V at *;refine I ?_;refine ax 39 (.i .i64 ((i+q:Nat):Int)) rfl cS ?_;refine hU ?_;refine sq h hh ?_
  iterate 3 refine jd ?_
  refine ax 44 (.i .u32 ((h+V%4294967296:Nat):Int)) rfl (fv ?_) ?_
  ·rw[gR (a:=h) (by omega),Nat.mod_mod,<-iS,ace af Xv]
  have hu:h+V%4294967296<4294967296:=by
   rw[<-iS,<-ace af Xv];exact Nat.or_lt_two_pow (n:=32) (by omega) (zaj _ (by decide))
  generalize ald:h+V%4294967296=K6 at *;refine hU ?_;refine iC K6 ?_;refine I ?_;refine ax 50 (.i .i64 ((i+q+1:Nat):Int)) rfl (by rw[hG (n:=(i:Int)+q) (by omega) (by omega)];exact cS) ?_;refine hU ?_;refine iC (V/2^32%4294967296) ?_;refine I ?_;have ale:V/2^32%4294967296=V/4294967296:=by omega
  rw[ale];refine aU [0] (i+1,(outs.set (i+q) K6).set (i+q+1) (V/4294967296)) ⟨by show xs.length-(i+1)<xs.length-i;omega,by omega,by simp[hF],nD (nD bH _ hu) _ (by omega),⟨V/4294967296,by rw[show i+1+q=i+q+1 by omega,zcN (by simp;omega)],aI⟩,?_⟩
   (eO ⟨rfl,rfl,rfl,rfl,rfl,fa,trivial⟩ ⟨_,rfl,rfl,fun _=>rfl⟩)
  have a7:val 4294967296 (outs.take (i+q))+4294967296^(i+q)*h=val 4294967296 (xs.take i)*(2^s*4294967296^q):=by
   rw[<-aB,iO (by omega)];congr 2;exact(Option.some.inj ((bE (by omega)).symm.trans hh)).symm
  have aq:=ar3 (v:=V) a7;rw[show i+1+q+1=i+q+1+1 by omega,iO (by simp;omega),zbe,zbg (b6 _),iO (by simp;omega),zbe,zbg (b6 _),iO aE,<-ald,zak,aq,<-iS,zah,zal];congr 1
  ac_rfl
 ·have aa:i=xs.length:=by omega
  subst aa;refine I ?_;refine gq 56 ?_;refine aX ue outs ⟨bH,by omega⟩ (I ?_);refine aM rfl (.of ?_);show dm _=dm _;congr 1;rw[kM (l:=xs) (b6 _),kM (l:=outs) (by omega)]at aB;rw[aB,jF,<-ix]
def q6(h:cY b l)(k:Nat):cY b (l.take k):=fun x J=>h x (zbY J)
def wY(h:cY b l)(k:Nat):cY b (l.drop k):=fun x J=>h x (zcS J)
def KG(hk:k<=l.length):val b l=val b (l.take k)+b^k*val b (l.drop k):=by
 have:=nN b (l.take k) (l.drop k);rw[zbD,zay,zaC hk]at this;exact this
def adz(hb:0<b)(h:cY b l)(hk:k<=l.length):val b l/b^k=val b (l.drop k):=by
 have h2:=lM (q6 h k);rw[zay,zaC hk]at h2;rw[KG hk,zcQ _ _ (zat hb),zbI h2,zaP]
def ar8{W:Nat}(af:s<32)(fm:W=v+18446744073709551616*R):(W/2^s)%4294967296=(v/2^s)%4294967296:=by
 have e:18446744073709551616*R=2^s*(4294967296*(2^(32-s)*R)):=by
  rw[show(18446744073709551616:Nat)=4294967296*2^32 from rfl,show(2:Nat)^32=2^s*2^(32-s) by rw[<-zal,show s+(32-s)=32 by omega]]
  ac_rfl
 rw[fm,e,zcQ _ _ (zbO s),zdV]
def acf:bN where
 L:=Nat×Nat
 args:=fun(a,b)=>[dm a,.i .i64 b]
 pre:=fun(a,b)=>dE 1073741824 a∧b<9223372036854775808
 res:=fun(a,b)=>dm (a/2^b)
def ar7:bw a4.ctx 229 acf.spec:=by
 refine bZ [(144,ud.spec)] VA.1 ?_;intro⟨a,n⟩ ⟨(ha:(aT _ a).length<=_),(hn:n<_)⟩ H aK;have h1:=hA (b:=4294967296) (by decide) a;have jF:=gV (b:=4294967296) (by decide) a;show aS.ok _ ⟨_,_,⟨_,_,[(0,c6 (aT 4294967296 a)),(1,.i .i64 n)]⟩⟩;generalize aT 4294967296 a=xs at *
 iterate 3 refine jd ?_
 iterate 3 refine jd ?_
 iterate 3 refine jd ?_
 refine ax 11 _ rfl (aaH (by omega)) ?_
 iterate 2 refine jd ?_
 refine ax 13 (.i .i64 ((n%32:Nat):Int)) rfl (fv rfl) ?_;generalize hq:n/32=q;have af:n%32<32:=zaj _ (by decide);have ix:=acd n;rw[hq]at ix;generalize n%32=s at *;refine I ?_;have hdiv:a/2^n=a/4294967296^q/2^s:=by rw[ix,zam,zbf]
 refine cP (fun h=> ?_) (fun h=> ?_)
 ·refine I ?_;have h2:=lM h1;have ab:4294967296^xs.length<=4294967296^q:=zaI (by decide) (by omega);exact aM rfl (bV.nl.trans (.of (by show c6 []=dm (a/2^n);rw[hdiv,zbI (show a<4294967296^q by omega),Nat.zero_div];show _=c6 (aT _ 0);rw[fL])))
 have Bg:q<xs.length:=by omega
 refine I ?_;refine ax 22 (.i .i64 ((xs.length-q:Nat):Int)) rfl cS ?_;refine lj fZ 0 ?_;refine I ?_;have ali:a/4294967296^q=val 4294967296 (xs.drop q):=by rw[<-jF,adz (by decide) h1 (by omega)]
 have Xe:=lM (wY h1 q);rw[zaF]at Xe;generalize fq:xs.length-q=N at *;refine cw (L:=Nat×ac Nat) (fun(i,outs)=>i<=N∧outs.length=N∧cY 4294967296 outs∧val 4294967296 (outs.take i)=(val 4294967296 (xs.drop q)/2^s)%4294967296^i)
  (fun((i:Nat),(outs:ac Nat))=>⟨[.a 232 false 1 Nat fZ outs],1,[(0,c6 xs),(5,.i .i64 q),(6,.i .u64 s),(7,.aN 0 1 0 N N),(25,.i .i64 N),(26,.i .i64 i)]⟩)
  (fun l=>N-l.1) [0] (0,List.replicate N 0) ⟨by omega,by simp,tp (by decide) _,by simp[val,zcT]⟩ (by show N-0<bc+1;unfold bc;omega) (eO ⟨rfl,rfl,nw,rfl,rfl,rfl,trivial⟩ ⟨_,rfl,rfl,fun _=>rfl⟩) ?_
 rintro⟨i,outs⟩ ⟨aa,hF,bH,aB⟩;refine I ?_;refine cP (fun aE=> ?_) (fun aE=> ?_)
 ·have kD:i+q<xs.length:=by omega
  have mw:=h1 _ (fy kD);refine I ?_;refine ax 32 (.i .i64 ((i+q:Nat):Int)) rfl cS ?_;refine db xs[i+q] (bE kD) ?_
  iterate 2 refine jd ?_
  refine ax 35 (.i .u64 (xs[i+q]:Nat)) rfl fv (I ?_);refine ih (fun(v:Nat)=>∃R,val 4294967296 (xs.drop (i+q))=v+18446744073709551616*R) (fun(v:Nat)=>⟨[.a 232 false 1 Nat fZ outs],1,[(9,.i .u64 v),(8,.i .i64 i),(0,c6 xs),(5,.i .i64 q),(6,.i .u64 s),(7,.aN 0 1 0 N N),(25,.i .i64 N),(26,.i .i64 i)]⟩) ?_ ?_
  ·have TH:IntKind.i64.wrap (IntKind.i64.wrap ((i:Int)+q)+1)=((i+q+1:Nat):Int):=by rw[hG (n:=(i:Int)+q) (by omega) (by omega),hG]<;>omega
   rw[TH];refine cP (fun DR=> ?_) (fun DR=> ?_)
   ·have DR:i+q+1<xs.length:=by omega
    have H6:=h1 _ (fy DR);refine I ?_;refine ax 48 (.i .i64 ((i+q+1:Nat):Int)) rfl (fv TH) ?_;refine db xs[i+q+1] (bE DR) ?_;refine I ?_;refine aU [0] (xs[i+q]+4294967296*xs[i+q+1]) ⟨val 4294967296 (xs.drop (i+q+1+1)),?_⟩ (eO ⟨nw (congrArg _ ?_),rfl,rfl,rfl,rfl,rfl,rfl,rfl,trivial⟩ ⟨_,rfl,rfl,fun _=>rfl⟩)
    ·rw[fP kD,fP DR,val,val];omega
    ·have aq:xs[i+q+1]%18446744073709551616*2^32%18446744073709551616%18446744073709551616=xs[i+q+1]*2^32:=by omega
     have e2:xs[i+q]%18446744073709551616=xs[i+q]:=by omega
     rw[aq,e2,Nat.or_comm,aai (k:=32) mw];omega
   ·refine I ?_;refine aU [0] xs[i+q] ⟨0,?_⟩ hd;rw[fP kD,zcl (by omega),val,val]
  rintro(v:Nat) ⟨R,dY⟩;refine I ?_;refine aq8 ?_;refine I ?_;refine hU ?_;refine iC (v/2^s%4294967296) ?_;refine I ?_;refine aU [0] (i+1,outs.set i (v/2^s%4294967296)) ⟨by show N-(i+1)<N-i;omega,by omega,by simp[hF],nD bH _ (zaj _ (by decide)),?_⟩ (eO ⟨rfl,rfl,rfl,rfl,rfl,fa,trivial⟩ ⟨_,rfl,rfl,fun _=>rfl⟩);rw[iO (by simp;omega),zbg (b6 _),zbe,aB,zak,Nat.mod_mul,<-ar8 af dY,zbf,zam (2^s),<-zbf,adz (by decide) (wY h1 q) (by simp;omega),zbC,zcf q i]
 ·have Nh:i=N:=by omega
  subst Nh;refine I ?_;refine gq 62 ?_;refine aX ue outs ⟨bH,by omega⟩ (I ?_);refine aM rfl (.of ?_);show dm _=dm _;congr 1;rw[kM (l:=outs) (by omega),gR (zaz (zaH _ _) Xe)]at aB;show _=a/2^n;rw[aB,hdiv,ali]
def cf(n:Nat):Nat:=if n=0 then 0 else Nat.log2 n+1
def Ap(h:1<=n):cf n=cf (n/2)+1:=by
 unfold cf;rw[zaa (by omega)];by_cases h2:n/2=0
 ·rw[zab h2];have:n=1:=by omega
  subst this;rfl
 ·rw[zaa h2,Nat.log2_def,zab (by omega)]
theorem CW:∀(k n:Nat),2^k<=n->cf n=cf (n/2^k)+k
 |0,n,_=>by simp
 |k+1,n,h=>by
  have h0:2^(k+1)=2*2^k:=by rw[zak,zam]
  have hp:0<2^k:=zbO k;rw[Ap (by omega),CW k (n/2) (by rw[zbQ (by decide)];omega),zbf,h0];omega
def xO(h:n≠0):2^(cf n-1)<=n∧n<2^cf n:=by
 unfold cf;rw[zaa h];exact⟨Nat.log2_self_le h,Nat.lt_log2_self⟩
def p8:bN where
 L:=Nat
 args:=fun n=>[.i .u32 n]
 pre:=fun n=>n<4294967296
 res:=fun n=>.i .i64 (cf n:Nat)
def aok:bw a4.ctx 247 p8.spec:=by
 refine bZ [] VE.1 ?_;intro(n:Nat) (hn:n<4294967296) H aK;refine I ?_;refine ih (fun((m:Nat),(k:Nat))=>m<65536∧k<=16∧cf n=cf m+k) (fun(m,k)=>⟨[],0,[(0,.i .u32 m),(2,.i .i64 k)]⟩) ?_ ?_
 ·refine cP (fun h=> ?_) (fun h=> ?_)
  ·refine I ?_;exact aU [] (n/65536,16) ⟨by omega,by decide,CW 16 n (by omega)⟩ eW
  ·refine I ?_;exact aU [] (n,0) ⟨by omega,by decide,rfl⟩ eW
 rintro⟨m,k⟩ ⟨hm,hk,hb⟩;refine I ?_;refine ih (fun((m:Nat),(k:Nat))=>m<256∧k<=24∧cf n=cf m+k) (fun(m,k)=>⟨[],0,[(0,.i .u32 m),(2,.i .i64 k)]⟩) ?_ ?_
 ·refine cP (fun h=> ?_) (fun h=> ?_)
  ·refine I ?_;exact aU [] (m/256,k+8) ⟨by omega,by omega,by rw[hb,CW 8 m (by omega),show(2:Nat)^8=256 from rfl];omega⟩ (kr ⟨rfl,fa,trivial⟩)
  ·refine I ?_;exact aU [] (m,k) ⟨by omega,by omega,hb⟩ eW
 rintro⟨m,k⟩ ⟨hm,hk,hb⟩;refine I ?_;refine ax 15 (.i .u8 (m:Nat)) rfl fv ?_;have aY:∀m,m<256->([0,1,2,2,3,3,3,3,4,4,4,4,4,4,4,4,5,5,5,5,5,5,5,5,5,5,5,5,5,5,5,5,6,6,6,6,6,6,6,6,6,6,6,6,6,6,6,6,6,6,6,6,6,6,6,6,6,6,6,6,6,6,6,6,7,7,7,7,7,7,7,7,7,7,7,7,7,7,7,7,7,7,7,7,7,7,7,7,7,7,7,7,7,7,7,7,7,7,7,7,7,7,7,7,7,7,7,7,7,7,7,7,7,7,7,7,7,7,7,7,7,7,7,7,7,7,7,7,8,8,8,8,8,8,8,8,8,8,8,8,8,8,8,8,8,8,8,8,8,8,8,8,8,8,8,8,8,8,8,8,8,8,8,8,8,8,8,8,8,8,8,8,8,8,8,8,8,8,8,8,8,8,8,8,8,8,8,8,8,8,8,8,8,8,8,8,8,8,8,8,8,8,8,8,8,8,8,8,8,8,8,8,8,8,8,8,8,8,8,8,8,8,8,8,8,8,8,8,8,8,8,8,8,8,8,8,8,8,8,8,8,8,8,8,8,8,8,8,8,8,8,8,8,8,8,8]:ac bv)[m]? =some (UInt8.ofNat (cf m))∧cf m<=8:=by decide +kernel
 obtain⟨t1,t2⟩:=aY m hm;refine nH _ t1 ?_;refine I ?_;have e:(UInt8.ofNat (cf m)).toNat=cf m:=by simp;omega
 rw[e];refine aM rfl (.of ?_);show ae.i _ _=ae.i .i64 (cf n:Nat);rw[hb,hG (n:=((cf m:Nat):Int)) (by omega) (by omega)];exact cS
def YP:bN where
 L:=Nat
 args:=fun n=>[.i .u32 n]
 pre:=fun n=>n<4294967296
 res:=fun n=>.i .i64 ((32-cf n:Nat):Int)
def Sy(h:n<4294967296):cf n<=32:=by
 by_cases h0:n=0
 ·subst h0;decide
 ·have:=(xO h0).1;have:=(zdp (by decide:1<2)).1 (zaz this (show n<2^32 from h));omega
def aoE:bw a4.ctx 225 YP.spec:=by
 refine bZ [(247,p8.spec)] Vw.1 ?_;intro(n:Nat) (hn:n<4294967296) H aK;refine I ?_;refine aX aok n hn (I ?_);have:=Sy hn;exact aM rfl (.of cS)
def nT(b:Nat):Nat->Nat->ac Nat
 |0,_=>[]
 |k+1,n=>n%b::nT b k (n/b)
theorem De(b:Nat):∀k n,(nT b k n).length=k
 |0,_=>rfl
 |k+1,n=>by simp[nT,De b k]
theorem Ty{b:Nat}(hb:0<b):∀k n,cY b (nT b k n)
 |0,_=>fun x J=>by simp[nT]at J
 |k+1,n=>fun x J=>by
  rcases zap.1 J with rfl|J
  ·exact zaj _ hb
  ·exact Ty hb k _ x J
theorem Mg{b:Nat}:∀k n,val b (nT b k n)=n%b^k
 |0,n=>by simp[nT,val,zcT]
 |k+1,n=>by rw[nT,val,Mg k,zak,zam (b^k) b,Nat.mod_mul]
theorem GU{b:Nat}(hb:0<b):∀{l:ac Nat} {n k:Nat},cY b l->l.length=k->val b l=n->l=nT b k n
 |[],_,_,_,rfl,_=>rfl
 |d::l,_,_,h,rfl,rfl=>by
  have h1:=h d (by simp);rw[zax,nT,val,zdV,gR h1,zcQ _ _ hb,zbI h1,zaP,<-GU hb (fun x J=>h x (zaB _ J)) rfl rfl]
def acv{us os:ac Nat}(hl:os.length=us.length)(hj:j+k<=us.length)(af:∀p,p<j∨j+k<=p->os[p]? =us[p]?):os=us.take j++((os.drop j).take k++us.drop (j+k)):=by
 apply zbA;intro p;by_cases h1:p<j
 ·rw[zbm (by simp;omega),zaT,zab h1];exact af p (.inl h1)
 ·rw[zaW (by simp;omega),zay,zaC (by omega)];by_cases h2:p<j+k
  ·rw[zbm (by simp;omega),zaT,zab (by omega),zaR];congr 1;omega
  ·rw[zaW (by simp;omega)];have:((os.drop j).take k).length=k:=by simp;omega
   rw[this,zaR,af p (.inr (by omega))];congr 1;omega
def sB(h:j+i<l.length):val b ((l.drop j).take (i+1))=val b ((l.drop j).take i)+b^i*l[j+i]:=by
 rw[iO (by simp;omega),zdE]
def jQ(us:ac Nat)(j k n:Nat):ac Nat:=us.take j++(nT 4294967296 k n++us.drop (j+k))
def eX(us:ac Nat)(j k:Nat):Nat:=val 4294967296 ((us.drop j).take k)
def acU:ka where
 L:=ac Nat×Nat×ac Nat×Nat
 own:=fun(us,_,_,_)=>[.a 232 false 1 Nat fZ us]
 args:=fun(us,j,vs,g)=>[.aN 0 1 j (us.length-j) (us.length-j),c6 vs,.i .u64 g]
 pre:=fun(us,j,vs,g)=>j+vs.length<us.length∧cY 4294967296 us∧cY 4294967296 vs∧g<4294967296∧us.length<=1099511627776
 bl:=fun(us,j,vs,g)=>[.a 232 false 1 Nat fZ (jQ us j (vs.length+1) (eX us j (vs.length+1)+(if eX us j (vs.length+1)<g*val 4294967296 vs then 4294967296^(vs.length+1)else 0)-g*val 4294967296 vs))]
 res:=fun(us,j,vs,g)=>.b (decide (eX us j (vs.length+1)<g*val 4294967296 vs))
def atN:bw a4.ctx 227 acU.spec:=by
 refine LN [] Vy.1 ?_;rintro⟨us,j,vs,g⟩ ⟨h0,h1,h2,aO,km⟩ H i0 aK aa;obtain⟨b0,rfl⟩:∃b,i0=[b]:=zeI.1 aa;show aS.ok _ ⟨_,_,⟨[.a 232 false 1 Nat fZ us],1,[(0,.aN 0 1 j (us.length-j) (us.length-j)),(1,c6 vs),(2,.i .u64 g)]⟩⟩;refine I ?_;refine cw (L:=Nat×ac Nat×Nat×Nat) (fun(i,os,c,w)=>i<=vs.length∧os.length=us.length∧cY 4294967296 os∧c<4294967296∧w<=1∧(∀p,p<j∨j+i<=p->os[p]? =us[p]?)∧eX us j i+4294967296^i*(c+w)=eX os j i+g*val 4294967296 (vs.take i))
  (fun((i:Nat),(os:ac Nat),(c:Nat),(w:Nat))=>⟨[.a 232 false 1 Nat fZ os],1,[(0,.aN 0 1 j (us.length-j) (us.length-j)),(1,c6 vs),(2,.i .u64 g),(7,.i .u64 c),(8,.i .u64 w),(13,c6 vs),(14,.i .i64 vs.length),(15,.i .i64 i)]⟩)
  (fun l=>vs.length-l.1) [0] (0,us,0,0) ⟨by omega,rfl,h1,by omega,by omega,fun _ _=>rfl,by simp[eX,val]⟩ (by show vs.length-0<bc+1;unfold bc;omega) hd ?_
 rintro⟨i,os,c,w⟩ ⟨hD,hF,bH,hc,hw,nu,aB⟩;refine I ?_;refine cP (fun h=> ?_) (fun h=> ?_)
 ·have h:i<vs.length:=by omega
  have J:=h2 _ (fy h);have mS:j+i<os.length:=by omega
  have yM:os[j+i]=us[j+i]:=by
   have:=nu (j+i) (.inr (b6 _));rw[bE mS,bE (by omega)]at this;exact Option.some.inj this
  have ak:=bH _ (fy mS);obtain⟨jb,m0,EB⟩:=OG (o:=0) hc aO J (by decide);refine I ?_;refine db vs[i] (bE h) ?_;refine ag 25 ?_;refine ax 25 (.i .u64 ((c+g*vs[i]:Nat):Int)) rfl (fv (congrArg _ ?_)) ?_
  ·rw[gR (a:=vs[i]) (by omega),gR jb,gR (by omega)]
  have gz:c+g*vs[i]<18446744073709551616:=by omega
  generalize yo:c+g*vs[i]=T at *;refine I ?_;refine xj ?_;refine sq os[j+i] (bE mS) ?_;refine ag 36 ?_;refine ax 36 (.i .u64 (((os[j+i]+18446744073709551616-T%4294967296-w)%18446744073709551616:Nat):Int)) rfl fv ?_;generalize aF:(os[j+i]+18446744073709551616-T%4294967296-w)%18446744073709551616=t at *;refine I ?_;refine xj ?_;refine iC (t%4294967296) ?_;refine I ?_;refine aU [0] (i+1,os.set (j+i) (t%4294967296),T/4294967296,t/9223372036854775808) ⟨by show vs.length-(i+1)<vs.length-i;omega,by omega,by simp[hF],nD bH _ (zaj _ (by decide)),by omega,by omega,fun p hp=> ?_,?_⟩
   (eO ⟨rfl,rfl,rfl,rfl,rfl,rfl,rfl,fa,trivial⟩ ⟨_,rfl,rfl,fun _=>rfl⟩)
  ·rw[zbq (by omega)];exact nu p (by omega)
  ·unfold eX at aB⊢;rw[sB (by omega),sB (l:=os.set _ _) (by simp;omega),zbe,iO h,<-yM,zak];have aq:((os.set (j+i) (t%4294967296)).drop j).take i=(os.drop j).take i:=by
    rw[zdW];rw[zaa (by omega),show j+i-j=i by omega,zbg (b6 _)]
   rw[aq];have ao:os[j+i]+4294967296*(t/9223372036854775808)=t%4294967296+T%4294967296+w:=by omega
   have alc:T=T%4294967296+4294967296*(T/4294967296):=by omega
   generalize t/9223372036854775808=w' at *;generalize T/4294967296=bW at *;generalize T%4294967296=fj at *;generalize t%4294967296=kd at *;generalize 4294967296^i=P at *;have bf:P*(os[j+i]+4294967296*w')=P*(kd+fj+w):=by rw[ao]
   have bL:P*(c+g*vs[i])=P*(fj+4294967296*bW):=by rw[yo,alc]
   rw[zaq g,Nat.mul_left_comm g P];simp only[zaq,zan]at bf bL aB⊢;omega
 ·have aa:i=vs.length:=by omega
  subst aa;have mS:j+vs.length<os.length:=by omega
  have yM:os[j+vs.length]=us[j+vs.length]:=by
   have:=nu (j+vs.length) (.inr (b6 _));rw[bE mS,bE (by omega)]at this;exact Option.some.inj this
  have ak:=bH _ (fy mS);refine I ?_;refine xj ?_;refine sq os[j+vs.length] (bE mS) ?_;refine ag 56 ?_;refine ax 56 (.i .u64 (((os[j+vs.length]+18446744073709551616-c-w)%18446744073709551616:Nat):Int)) rfl fv ?_;generalize aF:(os[j+vs.length]+18446744073709551616-c-w)%18446744073709551616=t at *;refine I ?_;refine xj ?_;refine iC (t%4294967296) ?_;refine I ?_;have D7:cY 4294967296 (os.set (j+vs.length) (t%4294967296)):=nD bH _ (zaj _ (by decide));have p4:(((os.set (j+vs.length) (t%4294967296)).drop j).take (vs.length+1)).length=vs.length+1:=by simp;omega
  have Hu:=lM (q6 (wY D7 j) (vs.length+1));rw[p4]at Hu;have s8:=acv (us:=us) (os:=os.set (j+vs.length) (t%4294967296)) (j:=j) (k:=vs.length+1) (by simp[hF]) (by omega) (fun p hp=>by rw[zbq (by omega)];exact nu p (by omega));have Na:=GU (b:=4294967296) (by decide) (q6 (wY D7 j) (vs.length+1)) p4 rfl;generalize alb:val 4294967296 (((os.set (j+vs.length) (t%4294967296)).drop j).take (vs.length+1))=O at *;have key:eX us j (vs.length+1)+4294967296^(vs.length+1)*(t/9223372036854775808)=O+g*val 4294967296 vs:=by
   rw[<-alb];unfold eX at aB⊢;rw[sB (by omega),sB (l:=os.set _ _) (by simp;omega),zbe,<-yM,zak];have aq:((os.set (j+vs.length) (t%4294967296)).drop j).take vs.length=(os.drop j).take vs.length:=by
    rw[zdW];rw[zaa (by omega),show j+vs.length-j=vs.length by omega,zbg (b6 _)]
   rw[aq];rw[kM (b6 _)]at aB;have ao:os[j+vs.length]+4294967296*(t/9223372036854775808)=t%4294967296+c+w:=by omega
   generalize t/9223372036854775808=w' at *;generalize t%4294967296=kd at *;generalize 4294967296^vs.length=P at *;have bf:P*(os[j+vs.length]+4294967296*w')=P*(kd+c+w):=by rw[ao]
   simp only[zaq,zan]at bf aB⊢;omega
  have MX:eX us j (vs.length+1)+(if eX us j (vs.length+1)<g*val 4294967296 vs then 4294967296^(vs.length+1)else 0)-g*val 4294967296 vs=O∧(t/2^63=1↔eX us j (vs.length+1)<g*val 4294967296 vs):=by
   rcases(show t/9223372036854775808=0∨t/9223372036854775808=1 by omega)with hb|hb
   ·rw[hb]at key;rw[zaa (by omega)];exact⟨by omega,by omega⟩
   ·rw[hb]at key;rw[zab (by omega)];exact⟨by omega,by omega⟩
  refine l9 ⟨.inr rfl,⟨_,rfl,rfl,.of ?_⟩,[0],rfl,eO trivial ⟨_,rfl,?_,fun _=>rfl⟩⟩
  ·show ae.b (decide (((t/2^63:Nat):Int)=1))=ae.b (decide (eX us j (vs.length+1)<g*val 4294967296 vs));congr 1;rw[decide_eq_decide,<-MX.2];exact⟨fun h=>by omega,fun h=>by omega⟩
  ·show bd.a _ _ _ _ _ _=bd.a _ _ _ _ _ _;congr 1;rw[MX.1];unfold jQ;rw[<-Na];exact s8
def WZ:ka where
 L:=ac Nat×Nat×ac Nat
 own:=fun(us,_,_)=>[.a 232 false 1 Nat fZ us]
 args:=fun(us,j,vs)=>[.aN 0 1 j (us.length-j) (us.length-j),c6 vs]
 pre:=fun(us,j,vs)=>j+vs.length<us.length∧cY 4294967296 us∧cY 4294967296 vs∧us.length<=1099511627776
 bl:=fun(us,j,vs)=>[.a 232 false 1 Nat fZ (jQ us j (vs.length+1) (eX us j (vs.length+1)+val 4294967296 vs))]
 res:=fun _=>.bM []
theorem Mf{b:Nat}:∀k n,nT b k (n%b^k)=nT b k n
 |0,n=>rfl
 |k+1,n=>by
  rw[nT,nT,zak,zam (b^k) b,Nat.mod_mul_right_mod,Nat.mod_mul_right_div_self,Mf]
def akx:bw a4.ctx 228 WZ.spec:=by
 refine LN [] Vz.1 ?_;rintro⟨us,j,vs⟩ ⟨h0,h1,h2,km⟩ H i0 aK aa;obtain⟨b0,rfl⟩:∃b,i0=[b]:=zeI.1 aa;show aS.ok _ ⟨_,_,⟨[.a 232 false 1 Nat fZ us],1,[(0,.aN 0 1 j (us.length-j) (us.length-j)),(1,c6 vs)]⟩⟩;refine I ?_;refine cw (L:=Nat×ac Nat×Nat) (fun(i,os,c)=>i<=vs.length∧os.length=us.length∧cY 4294967296 os∧c<=1∧(∀p,p<j∨j+i<=p->os[p]? =us[p]?)∧eX os j i+4294967296^i*c=eX us j i+val 4294967296 (vs.take i))
  (fun((i:Nat),(os:ac Nat),(c:Nat))=>⟨[.a 232 false 1 Nat fZ os],1,[(0,.aN 0 1 j (us.length-j) (us.length-j)),(1,c6 vs),(4,.i .u64 c),(7,c6 vs),(8,.i .i64 vs.length),(9,.i .i64 i)]⟩)
  (fun l=>vs.length-l.1) [0] (0,us,0) ⟨by omega,rfl,h1,by omega,fun _ _=>rfl,by simp[eX,val]⟩ (by show vs.length-0<bc+1;unfold bc;omega) hd ?_
 rintro⟨i,os,c⟩ ⟨hD,hF,bH,hc,nu,aB⟩;refine I ?_;refine cP (fun h=> ?_) (fun h=> ?_)
 ·have h:i<vs.length:=by omega
  have J:=h2 _ (fy h);have mS:j+i<os.length:=by omega
  have yM:os[j+i]=us[j+i]:=by
   have:=nu (j+i) (.inr (b6 _));rw[bE mS,bE (by omega)]at this;exact Option.some.inj this
  have ak:=bH _ (fy mS);refine I ?_;refine db vs[i] (bE h) ?_;refine I ?_;refine xj ?_;refine sq os[j+i] (bE mS) ?_;refine ag 23 ?_;refine ax 23 (.i .u64 ((c+os[j+i]+vs[i]:Nat):Int)) rfl fv (I ?_);refine xj ?_;refine iC ((c+os[j+i]+vs[i])%4294967296) ?_;refine I ?_;refine aU [0] (i+1,os.set (j+i) ((c+os[j+i]+vs[i])%4294967296),(c+os[j+i]+vs[i])/4294967296) ⟨by show vs.length-(i+1)<vs.length-i;omega,by omega,by simp[hF],nD bH _ (zaj _ (by decide)),by omega,fun p hp=> ?_,?_⟩
   (eO ⟨rfl,rfl,rfl,rfl,rfl,fa,trivial⟩ ⟨_,rfl,rfl,fun _=>rfl⟩)
  ·rw[zbq (by omega)];exact nu p (by omega)
  ·unfold eX at aB⊢;rw[sB (l:=us) (by omega),sB (l:=os.set _ _) (by simp;omega),zbe,iO h,<-yM,zak];have aq:((os.set (j+i) ((c+os[j+i]+vs[i])%4294967296)).drop j).take i=(os.drop j).take i:=by
    rw[zdW];rw[zaa (by omega),show j+i-j=i by omega,zbg (b6 _)]
   rw[aq];exact RI (by decide) aB
 ·have aa:i=vs.length:=by omega
  subst aa;have mS:j+vs.length<os.length:=by omega
  have yM:os[j+vs.length]=us[j+vs.length]:=by
   have:=nu (j+vs.length) (.inr (b6 _));rw[bE mS,bE (by omega)]at this;exact Option.some.inj this
  have ak:=bH _ (fy mS);refine I ?_;refine xj ?_;refine sq os[j+vs.length] (bE mS) ?_;refine ag 39 ?_;refine ax 39 (.i .u32 (((os[j+vs.length]+c)%4294967296:Nat):Int)) rfl fv ?_;generalize aF:(os[j+vs.length]+c)%4294967296=t at *;refine xj ?_;refine iC t ?_;refine I ?_;have D7:cY 4294967296 (os.set (j+vs.length) t):=nD bH _ (by omega);have p4:(((os.set (j+vs.length) t).drop j).take (vs.length+1)).length=vs.length+1:=by simp;omega
  have Hu:=lM (q6 (wY D7 j) (vs.length+1));rw[p4]at Hu;have s8:=acv (us:=us) (os:=os.set (j+vs.length) t) (j:=j) (k:=vs.length+1) (by simp[hF]) (by omega) (fun p hp=>by rw[zbq (by omega)];exact nu p (by omega));have Na:=GU (b:=4294967296) (by decide) (q6 (wY D7 j) (vs.length+1)) p4 rfl;have key:(eX us j (vs.length+1)+val 4294967296 vs)%4294967296^(vs.length+1)=val 4294967296 (((os.set (j+vs.length) t).drop j).take (vs.length+1)):=by
   rw[<-gR Hu];have:eX us j (vs.length+1)+val 4294967296 vs=val 4294967296 (((os.set (j+vs.length) t).drop j).take (vs.length+1))+4294967296^(vs.length+1)*((os[j+vs.length]+c)/4294967296):=by
    unfold eX at aB⊢;rw[sB (l:=us) (by omega),sB (l:=os.set _ _) (by simp;omega),zbe,<-yM,zak];have aq:((os.set (j+vs.length) t).drop j).take vs.length=(os.drop j).take vs.length:=by
     rw[zdW];rw[zaa (by omega),show j+vs.length-j=vs.length by omega,zbg (b6 _)]
    rw[aq];rw[kM (l:=vs) (b6 _)]at aB;have ao:os[j+vs.length]+c=t+4294967296*((os[j+vs.length]+c)/4294967296):=by omega
    generalize(os[j+vs.length]+c)/4294967296=bW at *;generalize 4294967296^vs.length=P at *;have bf:P*(os[j+vs.length]+c)=P*(t+4294967296*bW):=by rw[ao]
    simp only[zaq,zan]at bf aB⊢;omega
   rw[this,zdV]
  refine l9 ⟨.inl rfl,⟨_,rfl,rfl,.refl _⟩,[0],rfl,eO trivial ⟨_,rfl,?_,fun _=>rfl⟩⟩;show bd.a _ _ _ _ _ _=bd.a _ _ _ _ _ _;congr 1;unfold jQ;rw[<-Mf,key,<-Na];exact s8
end Go.ah.aW
namespace Go.ah.aW
section
variable{B P V W v1 v2 h6 top nd pE q g over:Nat}
def anZ(iS:V=(v1*B+v2)*P+nd)(fm:W=(top*B+h6)*P+pE)(uB:pE<P)(NQ:h6<B)(h:q*V<=W):q*v1<=top:=by
 have h1:q*v1*(B*P)<=q*V:=by
  rw[zan];refine zaQ q ?_;rw[iS,zah,<-zan];omega
 have h2:W<(top+1)*(B*P):=by
  have:(top*B+h6+1)*P<=(top*B+B)*P:=zaD P (by omega);have e:(top*B+B)*P=(top+1)*(B*P):=by rw[<-zan,zah top 1 B,zaw]
  have e2:(top*B+h6+1)*P=(top*B+h6)*P+P:=by rw[zah _ 1 P,zaw]
  omega
 have:=zdq (zaz (zag h1 h) h2);omega
def anY(iS:V=(v1*B+v2)*P+nd)(fm:W=(top*B+h6)*P+pE)(uB:pE<P)(h:q*V<=W)(NJ:q<=g)(aF:top=g*v1+over)(aO:over*B+h6<g*v2):q<g:=by
 rcases zao q g with aC|aC
 ·exact aC
 ·have e:q=g:=by omega
  subst e;have h1:q*(v1*B+v2)*P<=q*V:=by
   rw[zan];refine zaQ q ?_;omega
  have h2:W<(top*B+h6+1)*P:=by rw[zah _ 1 P,zaw];omega
  have ab:=zdq (zaz (zag h1 h) h2);rw[aF,zaq,zah]at ab;have aq:q*(v1*B)=q*v1*B:=by rw[zan]
  omega
def anX(iS:V=(v1*B+v2)*P+nd)(AY:nd<P)(oG:0<v1)(fm:W=(top*B+h6)*P+pE)(aF:top=g*v1+over)(aO:g*v2<=over*B+h6)(Xs:g<=B):g*V<=W+V:=by
 have h1:g*V<=(g*(v1*B+v2)+g)*P:=by
  have:V<=(v1*B+v2+1)*P:=by rw[iS,zah _ 1 P,zaw];omega
  have:=zaQ g this;rw[<-zan,zaq g _ 1,zbc]at this;exact this
 have h2:g*(v1*B+v2)<=top*B+h6:=by
  rw[aF,zaq,zah];have aq:g*(v1*B)=g*v1*B:=by rw[zan]
  omega
 have ab:(g*(v1*B+v2)+g)*P<=(top*B+h6)*P+g*P:=by
  rw[zah];exact Nat.add_le_add_right (zaD P h2) _
 have aD:g*P<=V:=by
  have:g*P<=(v1*B+v2)*P:=zaD P (by
   have:B*1<=B*v1:=zaQ B oG;rw[zam v1 B];omega)
  omega
 omega
def Ym(iS:V=(v1*B+v2)*P+nd)(AY:nd<P)(mu:v2<B)(fm:W=(top*B+h6)*P+pE)(aF:top=g*v1+over)(ak:B<=over)(Xs:g<=B):g*V<=W:=by
 have h1:g*V<=g*((v1*B+B)*P):=by
  refine zaQ g ?_;have:(v1*B+v2+1)*P<=(v1*B+B)*P:=zaD P (by omega);rw[zah _ 1 P,zaw]at this;omega
 have h2:g*((v1*B+B)*P)=(g*v1+g)*B*P:=by
  rw[<-zan,zaq,zah (g*v1) g B,zan g v1 B]
 have ab:(g*v1+g)*B*P<=top*B*P:=zaD P (zaD B (by omega));have aD:top*B*P<=(top*B+h6)*P:=zaD P (by omega);omega
end
variable{V B v2 P nd:Nat}
def an1{v1 h:Nat}(iS:V=(v1*B+v2)*P+nd)(AY:nd<P)(mu:v2<B)(a8:0<B)(hn:h*(P*B)<=V):h<=v1:=by
 have h1:V<(v1+1)*(P*B):=by
  have h2:(v1*B+v2+1)*P<=(v1*B+B)*P:=zaD P (by omega);have e:(v1*B+B)*P=(v1+1)*(P*B):=by rw[show v1*B+B=(v1+1)*B by rw[zah,zaw]];ac_rfl
  rw[zah _ 1 P,zaw]at h2;omega
 have hp:0<P*B:=zaM (by omega) a8;have:=zdq (zaz hn h1);omega
def an0{W v1 pE top rn jP h6:Nat}(iS:V=(v1*B+v2)*P+nd)(AY:nd<P)(mu:v2<B)(a8:0<B)(fm:W=(top*B+h6)*P+pE)(aF:top=jP*B+rn)(h:W<V*B):jP<=v1:=by
 have h1:V<=(v1+1)*(P*B):=by
  have h2:(v1*B+v2+1)*P<=(v1*B+B)*P:=zaD P (by omega);have e:(v1*B+B)*P=(v1+1)*(P*B):=by rw[show v1*B+B=(v1+1)*B by rw[zah,zaw]];ac_rfl
  rw[zah _ 1 P,zaw]at h2;omega
 have ab:jP*(P*B*B)<=W:=by
  have:(jP*B*B)*P<=(top*B+h6)*P:=zaD P (by
   rw[aF,zah];omega)
  have e:jP*B*B*P=jP*(P*B*B):=by ac_rfl
  omega
 have aD:V*B<=(v1+1)*(P*B*B):=by
  have:=zaD B h1;rw[zan]at this;exact this
 have:=zdq (zaz ab (zbL h aD));omega
def anW{W g:Nat}(iS:0<V)(h1:W/V<=g)(h2:g*V<=W+V):(W<g*V->g-1=W/V∧0<g)∧(¬W<g*V->g=W/V):=by
 have ao:=zbr W V;have hm:=zaj W iS;constructor
 ·intro h;have ab:W/V<g:=(zcR iS).2 h;have aD:(g-1)*V<=W:=by
   rw[Nat.sub_mul];omega
  have:=(zbQ iS).2 aD;omega
 ·intro h;have:=(zbQ iS).2 (show g*V<=W by omega);omega
open Go.ah
set_option maxRecDepth 100000
set_option maxHeartbeats 4000000
variable{k:Nat}{us:ac Nat}{j X n a b m d x:Nat}{neg:Bool}{p q:Nat}
def KL(h:j+k<=us.length):(jQ us j k X).length=us.length:=by
 unfold jQ;simp[De];omega
def adJ(h:cY 4294967296 us):cY 4294967296 (jQ us j k X):=fun x J=>by
 unfold jQ at J;simp only[zbw]at J;rcases J with J|J|J
 ·exact h x (zbY J)
 ·exact Ty (by decide) _ _ x J
 ·exact h x (zcS J)
def auO(h:j+k<=us.length):val 4294967296 (jQ us j k X)=val 4294967296 (us.take j)+4294967296^j*(X%4294967296^k+4294967296^k*val 4294967296 (us.drop (j+k))):=by
 unfold jQ;rw[nN,nN,Mg,De,zay,zaC (by omega)]
def auP{Y:Nat}(h:j+k<=us.length):jQ (jQ us j k X) j k Y=jQ us j k Y:=by
 unfold jQ;rw[zeE (by simp;omega)];congr 2;rw[<-zbC,zdU (by simp;omega),zdU (De _ _ _)]
def auT(h:j+k<=us.length):eX (jQ us j k X) j k=X%4294967296^k:=by
 unfold eX jQ;rw[zdU (by simp;omega),zeE (De _ _ _),Mg]
def auM:jQ us j k (X%4294967296^k)=jQ us j k X:=by
 unfold jQ;rw[Mf]
def auN(h:j+k<=us.length)(bH:cY 4294967296 us):jQ us j k (eX us j k)=us:=by
 unfold jQ eX;rw[<-GU (by decide) (q6 (wY bH j) k) (by simp;omega) rfl];rw[<-zbC,zbD,zbD]
def adK(bH:cY 4294967296 us)(h:j+(n+1)<=us.length)(iS:V<4294967296^n)(hu:val 4294967296 us<V*4294967296^(j+1)):
 val 4294967296 us=val 4294967296 (us.take j)+4294967296^j*eX us j (n+1)∧val 4294967296 (us.drop (j+(n+1)))=0∧eX us j (n+1)<V*4294967296:=by
 have aq:=KG (b:=4294967296) (l:=us) (k:=j) (by omega);have e2:=KG (b:=4294967296) (l:=us.drop j) (k:=n+1) (by simp;omega);rw[zbC]at e2;have av:val 4294967296 (us.drop (j+(n+1)))=0:=by
  rcases zcx (val 4294967296 (us.drop (j+(n+1))))with h0|h0
  ·exact h0
  ·exfalso;have h1:4294967296^(j+(n+1))*1<=4294967296^(j+(n+1))*val 4294967296 (us.drop (j+(n+1))):=pA _ h0;have h2:V*4294967296^(j+1)<=4294967296^n*4294967296^(j+1):=jo _ (by omega);rw[<-zal,show n+(j+1)=j+(n+1) by omega]at h2;rw[e2,zaq,<-zan,<-zal]at aq;omega
 rw[av,zcm,zbh]at e2;refine⟨by rw[aq,e2];rfl,av,?_⟩;have ab:4294967296^j*eX us j (n+1)<4294967296^j*(V*4294967296):=by
  have:V*4294967296^(j+1)=4294967296^j*(V*4294967296):=by rw[zak];ac_rfl
  have bS:val 4294967296 (us.drop j)=eX us j (n+1):=e2;rw[bS]at aq;omega
 exact Nat.lt_of_mul_lt_mul_left ab
def agH{dt:ac Nat}{A:Nat}(bH:cY 4294967296 us)(h:j+(n+1)<=us.length)(hj:j<dt.length)(sX:0<V)(iS:V<4294967296^n)(hu:val 4294967296 us<V*4294967296^(j+1))(jW:A=val 4294967296 (dt.drop (j+1))*4294967296^(j+1)*V+val 4294967296 us):
 val 4294967296 (jQ us j (n+1) (eX us j (n+1)%V))<V*4294967296^j∧A=val 4294967296 ((dt.set j (eX us j (n+1)/V)).drop j)*4294967296^j*V+val 4294967296 (jQ us j (n+1) (eX us j (n+1)%V)):=by
 obtain⟨h1,h2,ab⟩:=adK bH h iS hu;have hm:=zaj (eX us j (n+1)) sX;have ao:=zbr (eX us j (n+1)) V;have avj:4294967296^n<=4294967296^(n+1):=zaI (by decide) (by omega);rw[auO h,h2,zcm,zbh,gR (a:=eX us j (n+1)%V) (by omega)];have aE:=lM (q6 bH j);rw[zay,zaC (by omega)]at aE;constructor
 ·have:4294967296^j*(eX us j (n+1)%V+1)<=4294967296^j*V:=pA _ hm;rw[zaq,zbc]at this;rw[zam V];omega
 ·have aq:val 4294967296 ((dt.set j (eX us j (n+1)/V)).drop j)=eX us j (n+1)/V+4294967296*val 4294967296 (dt.drop (j+1)):=by
   rw[fP (by simp;omega),zbe,zdb (by omega)];rfl
  have e2:4294967296^j*eX us j (n+1)=4294967296^j*(V*(eX us j (n+1)/V))+4294967296^j*(eX us j (n+1)%V):=by rw[<-zaq,ao]
  rw[jW,h1,aq,e2,zah,zah,zak];have bS:eX us j (n+1)/V*4294967296^j*V=4294967296^j*(V*(eX us j (n+1)/V)):=by ac_rfl
  have gK:4294967296*val 4294967296 (dt.drop (j+1))*4294967296^j*V=val 4294967296 (dt.drop (j+1))*(4294967296^j*4294967296)*V:=by ac_rfl
  rw[bS,gK];omega
def ao9{al:ac Nat}(hl:al.length=m+2)(bH:cY 4294967296 al)(aF:e0 al=al)(aB:val 4294967296 al=b):
 cf al[m+1]<=32∧0<cf al[m+1]∧b*2^(32-cf al[m+1])<4294967296^(m+2)∧2147483648*4294967296^(m+1)<=b*2^(32-cf al[m+1]):=by
 have ao:al[m+1]≠0:=by
  have e:al=al.take (m+1)++[al[m+1]]:=by
   have:=zbD (m+1) al;rw[fP (by omega),zcl (by omega)]at this;exact this.symm
  have:=aF;rw[e]at this;exact(I4 (b:=4294967296) this).2
 have aE:=bH _ (fy (show m+1<al.length by omega));have akY:=Sy aE;obtain⟨aH,aI⟩:=xO ao;have kW:0<cf al[m+1]:=by unfold cf;rw[zaa ao];omega
 have aq:b=val 4294967296 (al.take (m+1))+4294967296^(m+1)*al[m+1]:=by
  rw[<-aB,<-iO (by omega),zaV (by omega)]
 have h1:=lM (q6 bH (m+1));rw[zay,zaC (by omega)]at h1;generalize al[m+1]=d at *;have hp:0<2^(32-cf d):=zbO _;have e2:2^cf d*2^(32-cf d)=4294967296:=by rw[<-zal,show cf d+(32-cf d)=32 by omega]
 have bS:2^(cf d-1)*2^(32-cf d)=2147483648:=by rw[<-zal,show cf d-1+(32-cf d)=31 by omega]
 refine⟨akY,kW,?_,?_⟩
 ·have h2:b<4294967296^(m+1)*2^cf d:=by
   have:4294967296^(m+1)*(d+1)<=4294967296^(m+1)*2^cf d:=pA _ aI;rw[zaq,zbc]at this;omega
  have ab:=zeJ h2 hp;rw[zan,e2]at ab;rw[zak _ (m+1)];exact ab
 ·have h2:4294967296^(m+1)*2^(cf d-1)<=b:=by
   have:4294967296^(m+1)*2^(cf d-1)<=4294967296^(m+1)*d:=pA _ aH;omega
  have ab:=jo (2^(32-cf d)) h2;rw[zan,bS]at ab;rw[zam];exact ab
def apU{r:Nat}(aL:r<4294967296)(J:x<4294967296):(r%18446744073709551616*2^32%18446744073709551616%18446744073709551616|||x%18446744073709551616%18446744073709551616)=r*4294967296+x:=by
 rw[gR (a:=r) (by omega)];exact Ps aL J
def agD(P A rn jP h6:Nat):A+P*h6+P*4294967296*rn+P*4294967296*4294967296*jP=((jP*4294967296+rn)*4294967296+h6)*P+A:=by
 rw[zah,zah,zah];have aq:P*4294967296*4294967296*jP=jP*4294967296*4294967296*P:=by ac_rfl
 have e2:P*4294967296*rn=rn*4294967296*P:=by ac_rfl
 have bS:P*h6=h6*P:=by ac_rfl
 omega
def agC(P A rn jP:Nat):A+P*rn+P*4294967296*jP=(jP*4294967296+rn)*P+A:=by
 rw[zah];have aq:P*4294967296*jP=jP*4294967296*P:=by ac_rfl
 have e2:P*rn=rn*P:=by ac_rfl
 omega
def QT{g:Nat}(h:0<g)(h2:g<18446744073709551616):(g+(18446744073709551616*1-1))%18446744073709551616=g-1:=by omega
def DB{l:ac Nat}{i:Nat}(h:i<l.length):l[i]? =some l[i]:=bE h
def Mh:bN where
 L:=Nat×Nat
 args:=fun(a,b)=>[dm a,dm b]
 pre:=fun(a,b)=>dE 1073741823 a∧dE 1073741823 b∧b≠0
 res:=fun(a,b)=>.bM [dm (a/b),dm (a%b)]
def Mi:bw a4.ctx 183 Mh.spec:=by
 refine bZ [(61,C3.spec),(162,QN.spec),(116,zp.spec),(225,YP.spec),(226,ab9.spec),(229,acf.spec),(227,acU.spec),(228,WZ.spec),(144,ud.spec)] Ve.1 ?_;intro⟨a,b⟩ ⟨(ha:(aT _ a).length<=_),(hb:(aT _ b).length<=_),(kW:b≠0)⟩ H aK;show aS.ok _ ⟨_,_,⟨_,_,[(0,c6 (aT 4294967296 a)),(1,c6 (aT 4294967296 b))]⟩⟩;have mn:0<(aT 4294967296 b).length:=zbn.2 (fun h=>kW ((qD (by decide)).1 h));refine I ?_;refine aX L1 (a,b) ⟨by show(aT _ a).length<=_;omega,by show(aT _ b).length<=_;omega⟩ (I ?_);refine cP (fun h=> ?_) (fun h=> ?_)
 ·have aE:a<b:=by
   rcases zao a b with aC|aC
   ·exact aC
   ·have h:jH a b<0:=h;unfold jH at h;rw[zaa (by omega)]at h;split at h<;>omega
  refine I ?_;exact aM rfl (.bM ⟨bV.nl.trans (.of (by show c6 []=c6 (aT _ (a/b));rw[zbI aE,fL])),.of (by show c6 _=c6 (aT _ (a%b));rw[gR aE]),trivial⟩)
 have mR:b<=a:=by
  rcases zao a b with aC|aC
  ·exact absurd (show jH a b<0 by rw[AA aC];decide) h
  ·exact aC
 refine I ?_;refine cP (fun h1=> ?_) (fun h1=> ?_)
 ·have h1:(aT 4294967296 b).length=1:=by omega
  obtain⟨d,ao⟩:=zeI.1 h1;have aB:=gV (b:=4294967296) (by decide) b;have HB:=hA (b:=4294967296) (by decide) b;rw[ao]at aB HB;have A0:b=d:=by simp[val]at aB;exact aB.symm
  have yw:=HB d (by simp);rw[ao];subst A0;refine I ?_;refine db (j:=0) b rfl ?_;refine I ?_;refine aX QO (a,b) ⟨by show(aT _ a).length<=_;omega,by show 0<b;omega,yw⟩ (I ?_);refine ax 37 (.i .u64 ((a%b:Nat):Int)) rfl (fv (by have:=zaj a (show 0<b by omega);omega)) ?_;refine aX sg (a%b) (by have:=zaj a (show 0<b by omega);show a%b<_;omega) (I ?_);exact aM rfl (.bM ⟨.refl _,.refl _,trivial⟩)
 have am6:=hA (b:=4294967296) (by decide) a;have XY:=hA (b:=4294967296) (by decide) b;have cB:=gV (b:=4294967296) (by decide) a;have gC:=gV (b:=4294967296) (by decide) b;have am9:=x6 (b:=4294967296) (by decide) b;have gf:=Oo mR;generalize r2:aT 4294967296 a=xs at *;generalize wJ:aT 4294967296 b=al at *;obtain⟨m,hm⟩:∃m,al.length=m+2:=⟨al.length-2,by omega⟩;obtain⟨hH,fc,BD,zh⟩:=ao9 hm XY am9 gC;have ao:=XY _ (fy (show m+1<al.length by omega));refine I ?_;refine ax 41 (.i .i64 ((m+1:Nat):Int)) rfl cS ?_;refine db al[m+1] (bE (by omega)) ?_;refine I ?_;refine aX aoE al[m+1] ao ?_;generalize avo:al[m+1]=kd at *;refine ax 44 (.i .i64 ((32-cf kd:Nat):Int)) rfl rfl ?_;generalize he:32-cf kd=e at *;have avp:e<=31:=by omega
 refine I ?_;refine aX aca (b,e) ⟨by show(aT _ b).length<=_;rw[wJ];omega,by show e<_;omega⟩ ?_ (he:=by exact⟨.of (congrArg c6 wJ.symm),.refl _,trivial⟩);refine ax 47 (c6 (aT 4294967296 (b*2^e))) rfl rfl (I ?_);refine ax 50 (.i .i64 ((xs.length+1:Nat):Int)) rfl cS ?_;refine lj fZ 0 ?_;refine I ?_;refine aX aca (a,e) ⟨by show(aT _ a).length<=_;rw[r2];omega,by show e<_;omega⟩ ?_ (he:=by exact⟨.of (congrArg c6 r2.symm),.refl _,trivial⟩);have avd:a*2^e<2147483648*4294967296^xs.length:=by
  have h1:=lM am6;rw[cB]at h1;have h2:(a+1)*2^e<=4294967296^xs.length*2147483648:=zaS (by omega) (PF (by omega));have ab:0<2^e:=zbO e;rw[zah]at h2;omega
 have ak0:a*2^e<4294967296^(xs.length+1):=by
  rw[zak];have:0<4294967296^xs.length:=zat (by decide);omega
 have km:(aT 4294967296 (a*2^e)).length<=xs.length+1:=ke (by decide) ak0;refine I ?_;refine aqU (aT 4294967296 (a*2^e)) (QR rfl (fun _=>rfl) (fun _=>rfl)) ?_;refine I ?_;refine ax 61 (.i .i64 ((xs.length-al.length+1:Nat):Int)) rfl (by rw[hG (n:=(xs.length:Int)-al.length) (by omega) (by omega)];exact cS) ?_;refine lj fZ 0 ?_;refine I ?_;have iS:=gV (b:=4294967296) (by decide) (b*2^e);have DF:=hA (b:=4294967296) (by decide) (b*2^e);have AY:(aT 4294967296 (b*2^e)).length=m+2:=by
  have h1:=ke (b:=4294967296) (by decide) BD;have h2:=Dc (b:=4294967296) (n:=b*2^e) (k:=m+1) (by decide) (by
   have:0<4294967296^(m+1):=zat (by decide);omega)
  omega
 generalize jM:aT 4294967296 (b*2^e)=vs at *;have NT:(aT 4294967296 (a*2^e)++(List.replicate (xs.length+1) 0).drop (aT 4294967296 (a*2^e)).length).length=xs.length+1:=by simp;omega
 have oG:val 4294967296 (aT 4294967296 (a*2^e)++(List.replicate (xs.length+1) 0).drop (aT 4294967296 (a*2^e)).length)=a*2^e:=by
  rw[List.drop_replicate,nN,val_zero,gV (by decide)];omega
 have mu:cY 4294967296 (aT 4294967296 (a*2^e)++(List.replicate (xs.length+1) 0).drop (aT 4294967296 (a*2^e)).length):=fun x J=>by
  rcases zbw.1 J with J|J
  ·exact hA (by decide) _ x J
  ·exact tp (by decide) _ x (zcS J)
 generalize aT 4294967296 (a*2^e)++(List.replicate (xs.length+1) 0).drop (aT 4294967296 (a*2^e)).length=aub at *;refine cw (L:=Nat×ac Nat×ac Nat) (fun(k,us,dt)=>k<=xs.length-al.length+1∧us.length=xs.length+1∧cY 4294967296 us∧dt.length=xs.length-al.length+1∧cY 4294967296 dt∧(∀p,p<k->dt[p]? =some 0)∧val 4294967296 us<b*2^e*4294967296^k∧a*2^e=val 4294967296 (dt.drop k)*4294967296^k*(b*2^e)+val 4294967296 us)
  (fun((k:Nat),(us:ac Nat),(dt:ac Nat))=>⟨[.a 232 false 1 Nat fZ us,.a 232 false 1 Nat fZ dt],2,[(4,.aN 1 1 0 (xs.length-al.length+1) (xs.length-al.length+1)),(6,.i .i64 ((m+2:Nat):Int)),(9,.i .i64 e),(10,c6 vs),(11,.aN 0 1 0 (xs.length+1) (xs.length+1)),(12,.i .i64 ((k:Int)-1))]⟩)
  (fun l=>l.1) [0,1] (xs.length-al.length+1,aub,List.replicate (xs.length-al.length+1) 0) ⟨by omega,NT,mu,by simp,tp (by decide) _,fun p hp=>by rw[zeH,zab hp],?_,by rw[oG,zcl (by simp)];simp[val]⟩ (by show xs.length-al.length+1<bc+1;unfold bc;omega) (rl ⟨rfl,nw,rfl,rfl,rfl,fa,trivial⟩ ⟨_,rfl,rfl,fun _=>rfl⟩ ⟨_,rfl,rfl,fun _=>rfl⟩) ?_
 ·rw[oG];have h1:=jo (4294967296^(xs.length-al.length+1)) zh;rw[zan,<-zal,show m+1+(xs.length-al.length+1)=xs.length by omega]at h1;omega
 rintro⟨k,us,dt⟩ ⟨hk,km,p3,Bg,NK,gX,hu,jW⟩;cases k with
 |zero=>
  rw[zcU,zbc]at hu;rw[zcU,zbc,zar]at jW;refine ag 67 ?_
  iterate 9 refine jd ?_
  refine J9 4 ?_;refine J9 11 ?_;refine I ?_;refine bC ue dt ⟨NK,by omega⟩ (I ?_);refine agl (us.take (m+2)) ?_;refine I ?_;refine bC ue (us.take (m+2)) ⟨q6 p3 _,by simp;omega⟩ (I ?_);refine bC ar7 (val 4294967296 (us.take (m+2)),e) ⟨?_,by show e<_;omega⟩ ?_
  ·show(aT _ _).length<=_;have:=ke (b:=4294967296) (by decide) (lM (q6 p3 (m+2)));rw[zay]at this;omega
  refine I ?_;have MQ:0<2^e:=zbO e;have mm:0<b*2^e:=zaM (by omega) MQ;have r1:val 4294967296 (us.take (m+2))=val 4294967296 us:=by
   have aq:=KG (b:=4294967296) (l:=us) (k:=m+2) (by omega);rcases zcx (val 4294967296 (us.drop (m+2)))with h0|h0
   ·rw[h0]at aq;omega
   ·have:4294967296^(m+2)*1<=4294967296^(m+2)*val 4294967296 (us.drop (m+2)):=pA _ h0;omega
  have amv:val 4294967296 dt=a/b:=by
   have h1:a*2^e/(b*2^e)=a/b:=Nat.mul_div_mul_right _ _ MQ;rw[<-h1,jW,zcf,Nat.add_mul_div_right _ _ mm,zbI hu,zaP]
  have rY:val 4294967296 us/2^e=a%b:=by
   have h1:a*2^e%(b*2^e)=a%b*2^e:=Nat.mul_mod_mul_right _ _ _;rw[jW,zcf,Nat.add_mul_mod_self_right,gR hu]at h1;rw[h1,Nat.mul_div_cancel _ MQ]
  exact aM rfl (.bM ⟨.of (congrArg dm amv),.of (congrArg dm (by rw[r1];exact rY)),trivial⟩)
 |succ j=>
  refine ax 12 (.i .i64 (j:Nat)) rfl fv (I ?_);refine ax 67 (.b true) rfl (by simp) (I ?_);refine dO 73 (.i .i64 ((j+(m+2):Nat):Int)) rfl rfl cS ?_;refine gl ?_;refine pM us[j+(m+2)] (DB (by omega)) ?_;refine ag 82 ?_;refine dO 82 (.i .i64 ((j+(m+1):Nat):Int)) rfl rfl (by rw[hG (n:=(j:Int)+(m+2:Nat)) (by omega) (by omega)];exact cS) ?_;refine gl ?_;refine pM us[j+(m+1)] (DB (by omega)) ?_;refine ag 86 ?_;have amX:=p3 _ (fy (show j+(m+2)<us.length by omega));have amW:=p3 _ (fy (show j+(m+1)<us.length by omega));have NQ:=p3 _ (fy (show j+m<us.length by omega));have avP:=DF _ (fy (show m+1<vs.length by omega));have Bk:=DF _ (fy (show m<vs.length by omega));obtain⟨top,Eg⟩:∃top,top=us[j+(m+2)]*4294967296+us[j+(m+1)]:=⟨_,rfl⟩;refine dO 86 (.i .u64 (top:Nat)) rfl rfl (fv (congrArg _ ((apU amX amW).trans Eg.symm))) ?_;obtain⟨hJ,awc,adD⟩:=adK (n:=m+2) p3 (by omega) BD hu;have AZ:eX us j (m+2+1)=(top*4294967296+us[j+m])*4294967296^m+eX us j m:=by
   unfold eX;rw[Eg];rw[sB (by omega),sB (by omega),sB (by omega),zak,zak];exact agD _ _ _ _ _
  have wm:b*2^e=(vs[m+1]*4294967296+vs[m])*4294967296^m+val 4294967296 (vs.take m):=by
   rw[<-iS];have:val 4294967296 vs=val 4294967296 (vs.take (m+1+1)):=by rw[zaV (by omega)]
   rw[this,iO (by omega),iO (by omega),zak];exact agC _ _ _ _
  have uB:eX us j m<4294967296^m:=by
   have:=lM (q6 (wY p3 j) m);unfold eX;rw[zay,zaC (by simp;omega)]at this;exact this
  have DG:val 4294967296 (vs.take m)<4294967296^m:=by
   have:=lM (q6 DF m);rw[zay,zaC (by omega)]at this;exact this
  have Ei:0<vs[m+1]:=by
   rcases zcx vs[m+1]with h0|h0
   ·rw[h0,zaA,zaP]at wm;have h1:vs[m]*4294967296^m+4294967296^m<=4294967296^(m+1):=by
     have:(vs[m]+1)*4294967296^m<=4294967296*4294967296^m:=jo _ Bk;rw[zah,zaw]at this;rw[zak,zam _ 4294967296];exact this
    have h2:1*4294967296^(m+1)<=2147483648*4294967296^(m+1):=jo _ (by decide);omega
   ·exact h0
  have sX:0<b*2^e:=zaM (by omega) (zbO e);have XL:eX us j (m+2+1)/(b*2^e)<4294967296:=(zcR sX).2 (by rw[zam];exact adD);have XM:eX us j (m+2+1)/(b*2^e)*(b*2^e)<=eX us j (m+2+1):=zdX _ _;have jz:=agH (dt:=dt) (n:=m+2) p3 (by omega) (by omega) sX BD hu jW;generalize fm:eX us j (m+2+1)=W at *;generalize hq:W/(b*2^e)=q at *;generalize avh:b*2^e=V at *;generalize avL:us[j+(m+2)]=jP at *;generalize pn:us[j+(m+1)]=rn at *;generalize amQ:us[j+m]=h6 at *;generalize mr:vs[m+1]=v1 at *;generalize nZ:vs[m]=v2 at *;have Hr:vs[m+1]? =some v1:=by rw[DB (by omega),mr]
  have akO:vs[m]? =some v2:=by rw[DB (by omega),nZ]
  have akH:us[j+m]? =some h6:=by rw[DB (by omega),amQ]
  have avM:top<18446744073709551616:=by omega
  have avO:2147483648<=v1:=an1 wm DG Bk (by decide) (by rw[zak]at zh;exact zh);have avN:jP<=v1:=an0 wm DG Bk (by decide) AZ Eg adD;refine I ?_;refine dO 90 (.i .i64 ((m+1:Nat):Int)) rfl rfl cS ?_;refine dp v1 Hr ?_;refine ag 93 ?_;refine dO 93 (.i .u64 (v1:Nat)) rfl rfl fv ?_;refine agf ?_;refine I ?_;refine dO 98 (.i .i64 ((m+1:Nat):Int)) rfl rfl cS ?_;refine dp v1 Hr ?_;refine ag 101 ?_;refine dO 101 (.i .u64 (v1:Nat)) rfl rfl fv ?_;refine agj ?_;refine ag 15 ?_
  iterate 3 refine jd ?_
  refine ih (fun(g:Nat)=>q<=g∧g<4294967296∧g*V<=W+V) (fun(g:Nat)=>⟨[.a 232 false 1 Nat fZ us,.a 232 false 1 Nat fZ dt],2,[(4,.aN 1 1 0 (xs.length-al.length+1) (xs.length-al.length+1)),(6,.i .i64 ((m+2:Nat):Int)),(9,.i .i64 e),(10,c6 vs),(11,.aN 0 1 0 (xs.length+1) (xs.length+1)),(12,.i .i64 j),(14,.i .u64 g)]⟩) ?_ ?_
  ·refine I ?_;refine cw (L:=Nat×Nat) (fun(g,o)=>top=g*v1+o∧q<=g∧g<=4294967297∧o<4294967296)
    (fun((g:Nat),(o:Nat))=>⟨[.a 232 false 1 Nat fZ us,.a 232 false 1 Nat fZ dt],2,[(4,.aN 1 1 0 (xs.length-al.length+1) (xs.length-al.length+1)),(6,.i .i64 ((m+2:Nat):Int)),(9,.i .i64 e),(10,c6 vs),(11,.aN 0 1 0 (xs.length+1) (xs.length+1)),(12,.i .i64 j),(14,.i .u64 g),(15,.i .u64 o)]⟩)
    (fun l=>l.1) [0,1] (top/v1,top%v1) ⟨by rw[zam];exact(zbr top v1).symm,?_,?_,?_⟩ ?_ xp ?_
   ·exact(zbQ Ei).2 (anZ wm AZ uB NQ XM)
   ·have:top/v1<4294967298:=(zcR Ei).2 (by omega);omega
   ·have:=zaj top Ei;omega
   ·have:top/v1<=top:=zaH _ _;have h2:top/v1<4294967298:=(zcR Ei).2 (by omega);show top/v1<bc+1;unfold bc;omega
   rintro⟨g,o⟩ ⟨aF,NJ,Xs,ame⟩;refine ag 106 ?_;rcases zao g 4294967296 with aO|aO
   ·refine dO 106 (.b false) rfl rfl (by show ae.b (decide _)=_;congr 1;simp;omega) ?_;refine ag 110 ?_;refine dO 110 (.i .i64 (m:Nat)) rfl rfl cS ?_;refine I ?_;refine dp v2 akO ?_;obtain⟨bf,bL,eM⟩:=OG (c:=0) (o:=0) (by decide) aO Bk (by decide);refine ag 114 ?_;refine dO 114 (.i .u64 ((g*v2:Nat):Int)) rfl rfl (fv (congrArg _ (by rw[gR (a:=v2) (by omega),gR bf]))) ?_;refine ag 121 ?_;refine dO 121 (.i .i64 ((j+m:Nat):Int)) rfl rfl (by rw[hG (n:=(j:Int)+(m+2:Nat)) (by omega) (by omega)];exact cS) ?_;refine I ?_;refine gl ?_;refine I ?_;refine pM h6 akH ?_;refine ag 125 ?_;refine dO 125 (.i .u64 ((o*4294967296+h6:Nat):Int)) rfl rfl (fv (congrArg _ (Ps ame NQ))) ?_;refine I ?_;refine cP (fun hc=> ?_) (fun hc=> ?_)
    ·have aE:=anY wm AZ uB XM NJ aF (by omega);refine I ?_;have alV:(g-1)*v1+v1=g*v1:=by
      rw[<-zcJ,show(g-1).succ=g by omega]
     have ib:top=(g-1)*v1+(o+v1):=by omega
     refine ax 14 (.i .u64 ((g-1:Nat):Int)) rfl (fv (congrArg _ (QT (by omega) (by omega)))) ?_;refine ax 133 (.i .i64 ((m+1:Nat):Int)) rfl cS ?_;refine db v1 Hr ?_;refine ag 137 ?_;refine ax 137 (.i .u64 ((o+v1:Nat):Int)) rfl fv (I ?_);refine cP (fun hc=> ?_) (fun hc=> ?_)
     ·have hc:(((o+v1)/4294967296:Nat):Int)≠0:=hc;refine I ?_;have yt:=Ym wm DG Bk AZ ib (by omega) (by omega);have hle:=(zbQ sX).2 yt;rw[hq]at hle;exact aU [0,1] (g-1) ⟨by omega,by omega,by omega⟩ xp
     ·have hc:¬(((o+v1)/4294967296:Nat):Int)≠0:=hc;refine I ?_;exact aU [0,1] (g-1,o+v1) ⟨by show g-1<g;omega,ib,by omega,by omega,by omega⟩ xp
    ·refine I ?_;exact aU [0,1] g ⟨NJ,aO,anX wm DG Ei AZ aF (by omega) (by omega)⟩ xp
   ·refine dO 106 (.b true) rfl rfl (by show ae.b (decide _)=_;congr 1;simp;omega) ?_;refine I ?_;have alV:(g-1)*v1+v1=g*v1:=by
     rw[<-zcJ,show(g-1).succ=g by omega]
    have ib:top=(g-1)*v1+(o+v1):=by omega
    refine ax 14 (.i .u64 ((g-1:Nat):Int)) rfl (fv (congrArg _ (QT (by omega) (by omega)))) ?_;refine ax 133 (.i .i64 ((m+1:Nat):Int)) rfl cS ?_;refine db v1 Hr ?_;refine ag 137 ?_;refine ax 137 (.i .u64 ((o+v1:Nat):Int)) rfl fv (I ?_);refine cP (fun hc=> ?_) (fun hc=> ?_)
    ·have hc:(((o+v1)/4294967296:Nat):Int)≠0:=hc;refine I ?_;have yt:=Ym wm DG Bk AZ ib (by omega) (by omega);have hle:=(zbQ sX).2 yt;rw[hq]at hle;exact aU [0,1] (g-1) ⟨by omega,by omega,by omega⟩ xp
    ·have hc:¬(((o+v1)/4294967296:Nat):Int)≠0:=hc;refine I ?_;exact aU [0,1] (g-1,o+v1) ⟨by show g-1<g;omega,ib,by omega,by omega,by omega⟩ xp
  rintro(g:Nat) ⟨alR,qM,alS⟩;obtain⟨f1,f2⟩:=anW (W:=W) (V:=V) (g:=g) sX (by rw[hq];exact alR) alS;refine I ?_;refine cP (fun h0=> ?_) (fun h0=> ?_)
  ·have XK:q=0:=by omega
   have alg:W<V:=by
    have:=zbr W V;rw[hq,XK,zcm,zaP]at this;have:=zaj W sX;omega
   refine I ?_;rw[gR alg,<-fm,auN (by omega) p3,XK]at jz;have uR:dt.set j 0=dt:=by
    apply zbA;intro p;rw[zbb];split
    ·rename_i hp;subst hp;rw[zab (by omega),gX _ (by omega)]
    ·rfl
   rw[uR]at jz;exact aU [0,1] (j,us,dt) ⟨by show j<j+1;omega,by omega,km,p3,Bg,NK,fun p hp=>gX p (by omega),jz.1,jz.2⟩ (rl ⟨rfl,rfl,rfl,rfl,rfl,fa,trivial⟩ ⟨_,rfl,rfl,fun _=>rfl⟩ ⟨_,rfl,rfl,fun _=>rfl⟩)
  refine I ?_;refine abB ?_;refine I ?_;refine aby atN 0 (us,j,vs,g) ⟨by omega,p3,DF,qM,by omega⟩ ?_ (he:=by show[ae.aN 0 1 j _ _,c6 vs,ae.i .u64 (g:Nat)]=[ae.aN 0 1 j _ _,c6 vs,ae.i .u64 (g:Nat)];rw[km]);have a7:vs.length=m+2:=AY;have avk:∀X,X<V->X%4294967296^(m+2+1)=X:=fun X MX=>gR (by
   have:4294967296^(m+2)<=4294967296^(m+2+1):=zaI (by decide) (by omega);omega)
  have HC:=zbr W V;rw[hq]at HC;have HP:=zaj W sX;rw[show eX us j (vs.length+1)=W by rw[a7];exact fm,iS,a7];refine ax 148 (.b (decide (W<g*V))) rfl (by show ae.b (decide (eX us j (vs.length+1)<g*val 4294967296 vs))=_;rw[a7,fm,iS]) ?_;refine jd ?_;refine jd ?_;refine ih (fun(g:Nat)=>g=q) (fun(g:Nat)=>⟨[.a 232 false 1 Nat fZ (jQ us j (m+2+1) (W%V)),.a 232 false 1 Nat fZ dt],2,[(4,.aN 1 1 0 (xs.length-al.length+1) (xs.length-al.length+1)),(6,.i .i64 ((m+2:Nat):Int)),(9,.i .i64 e),(10,c6 vs),(11,.aN 0 1 0 (xs.length+1) (xs.length+1)),(12,.i .i64 j),(14,.i .u64 g)]⟩) ?_ ?_
  ·refine cP (fun hc=> ?_) (fun hc=> ?_)
   ·obtain⟨fg,e1⟩:=f1 hc;rw[zab hc];refine ag 14 ?_;refine ax 14 (.i .u64 ((g-1:Nat):Int)) rfl (fv (congrArg _ (QT (by omega) (by omega)))) (I ?_);refine abB ?_;refine I ?_;refine aby akx 0 (jQ us j (m+2+1) (W+4294967296^(m+2+1)-g*V),j,vs) ⟨by rw[KL (by omega)];omega,adJ p3,DF,by rw[KL (by omega)];omega⟩ ?_ (he:=by show[ae.aN 0 1 j _ _,c6 vs]=[ae.aN 0 1 j _ _,c6 vs];rw[KL (by omega),km]);refine I ?_;refine aU [0,1] (g-1) (fg.trans hq) (rl ⟨rfl,rfl,rfl,rfl,rfl,rfl,rfl,trivial⟩ ⟨_,rfl,?_,fun _=>rfl⟩ ⟨_,rfl,rfl,fun _=>rfl⟩);show bd.a _ _ _ _ _ _=bd.a _ _ _ _ _ _;congr 1;rw[a7,auP (by omega),auT (by omega),iS];have avr:(g-1)*V+V=g*V:=by rw[<-zcJ,show(g-1).succ=g by omega]
    have HJ:(g-1)*V=V*q:=by rw[fg,hq,zam]
    have kl:0<4294967296^(m+2+1):=zat (by decide);have avi:V<4294967296^(m+2+1):=by
     have:4294967296^(m+2)<=4294967296^(m+2+1):=zaI (by decide) (by omega);omega
    have key:((W+4294967296^(m+2+1)-g*V)%4294967296^(m+2+1)+V)%4294967296^(m+2+1)=W%V:=by
     generalize 4294967296^(m+2+1)=PP at *;rw[gR (show W+PP-g*V<PP by omega),show W+PP-g*V+V=W%V+PP by omega,Nat.add_mod_right,gR (by omega)]
    rw[<-auM,key]
   ·have fg:=f2 hc;rw[zaa hc];refine I ?_;refine aU [0,1] g (by omega) (rl ⟨rfl,rfl,rfl,rfl,rfl,rfl,rfl,trivial⟩ ⟨_,rfl,?_,fun _=>rfl⟩ ⟨_,rfl,rfl,fun _=>rfl⟩);show bd.a _ _ _ _ _ _=bd.a _ _ _ _ _ _;congr 2;rw[zbh];have:g*V=V*q:=by rw[fg,hq,zam]
    omega
  intro hr alQ;rw[show hr=q from alQ];refine I ?_;refine hU ?_;refine iC (q%4294967296) ?_;refine I ?_;rw[gR XL];refine aU [0,1] (j,jQ us j (m+2+1) (W%V),dt.set j q) ⟨by show j<j+1;omega,by omega,by rw[KL (by omega)];exact km,adJ p3,by simp[Bg],nD NK _ XL,fun p hp=>by rw[zbq (by omega)];exact gX p (by omega),jz.1,jz.2⟩ (rl ⟨rfl,rfl,rfl,rfl,rfl,fa,trivial⟩ ⟨_,rfl,rfl,fun _=>rfl⟩ ⟨_,rfl,rfl,fun _=>rfl⟩)
def u4(h:dE k a)(hb:b<=a):dE k b:=zag (Oo hb) h
def u3(h:dE k a):a<4294967296^k:=by
 have h1:=lM (hA (b:=4294967296) (by decide) a);rw[gV (by decide)]at h1;exact gH h1 (zaI (by decide) h)
def y5(h:a<4294967296^k):dE k a:=ke (by decide) h
def Ly(h:m<=n):cf m<=cf n:=by
 by_cases h0:m=0
 ·subst h0;exact zac _
 ·have h1:=(xO h0).1;have h2:=(xO (show n≠0 by omega)).2;have:=(zdp (by decide:1<2)).1 (zaz (zag h1 h) h2);omega
def aeK(h:m<=n/2)(hn:1<=n):cf m<cf n:=by
 have:=Ly h;rw[Ap hn];omega
def Lz(h:n<2^k):cf n<=k:=by
 by_cases h0:n=0
 ·subst h0;exact zac _
 ·have:=(zdp (by decide:1<2)).1 (zaz (xO h0).1 h);omega
def aeL(ha:dE k a)(hb:dE k b):cf (a*b)<=64*k:=Lz (by
 rw[show 64*k=32*k+32*k by omega,zal,zbk];exact zeK (u3 ha) (u3 hb))
def ahz{y:Nat}(ay:0<y)(h:y<=x):y*(x%y)<=x*y/2:=by
 have h1:x%y<y:=zaj x ay;have h2:2*(x%y)<=x:=by
  have:=zbr x y;have ab:y*1<=y*(x/y):=pA y (zcV h ay);omega
 rw[zbQ (by decide)];have:=pA y h2;rw[zam x y];have e:y*(x%y)*2=y*(2*(x%y)):=by ac_rfl
 omega
def MK:bN where
 L:=Nat×Nat
 args:=fun(a,b)=>[dm a,dm b]
 pre:=fun(a,b)=>dE 1073741823 a∧dE 1073741823 b
 res:=fun(a,b)=>dm (Nat.gcd a b)
def WU:bw a4.ctx 118 MK.spec:=by
 refine bZ [(183,Mh.spec)] UD.1 ?_;intro⟨a,b⟩ ⟨(ha:dE _ a),(hb:dE _ b)⟩ H aK;refine I ?_;refine cw (L:=Nat×Nat) (fun(x,y)=>dE 1073741823 x∧dE 1073741823 y∧Nat.gcd x y=Nat.gcd a b) (fun((x:Nat),(y:Nat))=>⟨[],0,[(0,dm x),(1,dm y)]⟩) (fun l=>2*cf (l.1*l.2)+if l.1<l.2 then 1 else 0) [] (a,b) ⟨ha,hb,rfl⟩ ?_ eW ?_
 ·show 2*cf (a*b)+(if a<b then 1 else 0)<bc+1;have:=aeL ha hb;unfold bc;split<;>omega
 rintro⟨x,y⟩ ⟨J,ay,aO⟩;refine I ?_;refine cP (fun h=> ?_) (fun h=> ?_)
 ·have NW:y≠0:=fun h0=>by subst h0;rw[fL]at h;simp at h
  refine I ?_;refine aX Mi (x,y) ⟨J,ay,NW⟩ (I ?_);refine aU [] (y,x%y) ⟨?_,ay,u4 ay (zaL (zaj x (by omega))),?_⟩ eW
  ·show 2*cf (y*(x%y))+(if y<x%y then 1 else 0)<2*cf (x*y)+(if x<y then 1 else 0);have hm:=zaj x (show 0<y by omega);rw[zaa (by omega)];by_cases NV:x<y
   ·rw[zab NV,gR NV,zam y x];omega
   ·rw[zaa NV];have hp:0<x*y:=zaM (by omega) (by omega);have:=aeK (ahz (by omega) (by omega)) hp;omega
  ·rw[<-aO,zcy x y,Nat.gcd_rec y x,zcy]
 ·have NW:y=0:=(qD (b:=4294967296) (by decide)).1 (zbz (by omega));subst NW;refine I ?_;refine aM rfl (.of ?_);show dm x=dm (Nat.gcd a b);rw[<-aO,Nat.gcd_zero_right]
def N7:bN where
 L:=Nat
 args:=fun n=>[dm n]
 pre:=fun _=>True
 res:=fun n=>.b (decide (n=1))
def agA:aT 4294967296 1=[1]:=by rw[ot (by decide) (by decide),show 1/4294967296=0 from rfl,fL]
def Ik:bw a4.ctx 117 N7.spec:=by
 refine bZ [] UC.1 ?_;intro(n:Nat) _ H aK;show aS.ok _ ⟨_,_,⟨_,_,[(0,c6 (aT 4294967296 n))]⟩⟩;have aB:=gV (b:=4294967296) (by decide) n;generalize kj:aT 4294967296 n=ds at *;refine ag 6 ?_
 match ds,aB,kj with
 |[],aB,kj=>
  refine I ?_;have:n=0:=by simp[val]at aB;exact aB.symm
  subst this;exact aM rfl (.refl _)
 |[d],aB,kj=>
  have:n=d:=by simp[val]at aB;exact aB.symm
  subst this;refine I ?_;refine db (j:=0) n rfl ?_;refine I ?_;refine aM rfl (.of ?_);show ae.b _=ae.b _;congr 1;rw[decide_eq_decide];exact⟨fun h=>by omega,fun h=>by omega⟩
 |d::kB::ds,aB,kj=>
  refine I ?_;refine aM rfl (.of ?_);show ae.b false=ae.b _;congr 1
  symm
  rw[decide_eq_false_iff_not];intro h1;subst h1;rw[agA]at kj;cases kj
def uh(d:Nat):ae:=.ko 1 Nat fZ (if d=1 then[]else aT 4294967296 d)
def cA(x:Rat):ac ae:=[.b (decide (x.num<0)),dm x.num.natAbs,uh x.den]
def c8(x:Rat):ae:=.agg (cA x)
def GP(h:d≠1):uh d= .ko 1 Nat fZ (aT 4294967296 d):=by unfold uh;rw[zaa h]
def Yx(h:d≠1)(h0:d≠0):bV (dm d) (uh d):=by
 rw[GP h];exact bV.ko (fun e=>h0 ((qD (by decide)).1 e))
def Ts(h:d≠1):bV (uh d) (dm d):=by
 rw[GP h];exact bV.au1
def IN(n:Int)(d:Nat)(h:d≠0):(mkRat n d).num=n/((n.natAbs.gcd d:Nat):Int)∧(mkRat n d).den=d/n.natAbs.gcd d:=by
 rw[<-Rat.normalize_eq_mkRat h,Rat.normalize_eq h];exact⟨rfl,rfl⟩
def ZC(hp:p≠0)(hq:q≠0):(mkRat (if neg then -(p:Int)else p) q).num=(if neg then -((p/p.gcd q:Nat):Int)else((p/p.gcd q:Nat):Int))∧(mkRat (if neg then -(p:Int)else p) q).den=q/p.gcd q:=by
 have aO:0<p.gcd q:=zeL _ (by omega);have ha:(if neg then -(p:Int)else(p:Int)).natAbs=p:=by cases neg<;>simp
 obtain⟨h1,h2⟩:=IN (if neg then -(p:Int)else p) q hq;rw[ha]at h1 h2;refine⟨?_,h2⟩;rw[h1];cases neg
 ·simp
 ·simp only[if_true];obtain⟨k,hk⟩:=zdr p q;generalize p.gcd q=g at *;subst hk;rw[zdY _ aO,zaK,<-Int.mul_neg,Int.mul_ediv_cancel_left _ (by omega)]
def Om{x:Rat}{c:ae}(h1:x.num=if neg then -(p:Int)else(p:Int))(h2:x.den=q)(hp:p≠0)(hc:bV c (uh q)):bV (.agg [.b neg,dm p,c]) (c8 x):=by
 refine bV.agg ⟨.of ?_,.of ?_,?_,trivial⟩
 ·congr 1;rw[h1];cases neg
  ·simp
  ·simp;omega
 ·congr 1;rw[h1];cases neg<;>simp
 ·rw[h2];exact hc
def le_zero:bV (.agg [.b false,.nl,.nl]) (c8 0):=bV.agg ⟨.refl _,bV.nl.trans (.of (by show c6 []=c6 (aT _ 0);rw[fL])),bV.se,trivial⟩
def zd:bN where
 L:=Bool×Nat×Nat
 args:=fun(n,p,q)=>[.b n,dm p,dm q]
 pre:=fun(_,p,q)=>dE 1073741823 p∧dE 1073741823 q∧q≠0
 res:=fun(n,p,q)=>c8 (mkRat (if n then -(p:Int)else p) q)
def u5:(aT 4294967296 n).length=0↔n=0:=by rw[zeM];exact qD (by decide)
def sa:bw a4.ctx 114 zd.spec:=by
 refine bZ [(117,N7.spec),(118,MK.spec),(183,Mh.spec)] Uz.1 ?_;intro⟨n,p,q⟩ ⟨(hp:dE _ p),(hq:dE _ q),(gX:q≠0)⟩ H aK;refine I ?_;refine cP (fun h=> ?_) (fun h=> ?_)
 ·have s6:p=0:=u5.1 (by omega);subst s6;refine I ?_;refine aM rfl (le_zero.trans (.of ?_));show c8 0=c8 (mkRat _ q);congr 1;cases n<;>simp
 have s6:p≠0:=fun h0=>h (by rw[h0,fL];rfl);have aO:0<p.gcd q:=zeL _ (by omega);refine I ?_;refine aX Ik q trivial (I ?_);refine ih (fun((dZ:Nat),(gZ:Nat))=>dZ=p/p.gcd q∧gZ=q/p.gcd q) (fun(dZ,gZ)=>⟨[.c 27 [.b false,.nl,.nl]],1,[(0,.b n),(1,dm dZ),(2,dm gZ),(6,.p 0 0)]⟩) ?_ ?_
 ·refine B6 (fun h1=> ?_) (fun h1=> ?_)
  ·refine I ?_;refine aX WU (p,q) ⟨hp,hq⟩ (I ?_);refine aX Ik (p.gcd q) trivial (I ?_);refine B6 (fun h2=> ?_) (fun h2=> ?_)
   ·have YC:dE 1073741823 (p.gcd q):=u4 hp (Nat.gcd_le_left _ (by omega));refine I ?_;refine aX Mi (p,p.gcd q) ⟨hp,YC,by show p.gcd q≠0;omega⟩ (I ?_);refine aX Mi (q,p.gcd q) ⟨hq,YC,by show p.gcd q≠0;omega⟩ (I ?_);exact aU [0] (p/p.gcd q,q/p.gcd q) ⟨rfl,rfl⟩ hd
   ·refine I ?_;exact aU [0] (p,q) ⟨by rw[h2,zbJ],by rw[h2,zbJ]⟩ hd
  ·refine I ?_;exact aU [0] (p,q) ⟨by rw[h1,zdZ,zbJ],by rw[h1,zdZ,zbJ]⟩ hd
 rintro⟨dZ,gZ⟩ ⟨aq,e2⟩;obtain⟨hH,fc⟩:=ZC (neg:=n) s6 gX;rw[<-aq]at hH;rw[<-e2]at fc;have mq:dZ≠0:=by
  have:=zcV (Nat.gcd_le_left q (show 0<p by omega)) aO;omega
 have NI:gZ≠0:=by
  have:=zcV (zeN p (show 0<q by omega)) aO;omega
 refine I ?_;refine aX Ik gZ trivial (I ?_);refine cP (fun ab=> ?_) (fun ab=> ?_)
 ·refine I ?_;exact aM rfl (Om hH fc mq (by rw[ab];exact bV.se))
 ·refine I ?_;exact aM rfl (Om hH fc mq (Yx ab NI))
def ba(k:Nat)(x:Rat):Prop:=dE k x.num.natAbs∧dE k x.den
variable{y:Rat}{l:Nat}
def xP:bN where
 L:=Rat
 args:=fun x=>[c8 x]
 pre:=fun _=>True
 res:=fun x=>dm x.den
def qv:bw a4.ctx 60 xP.spec:=by
 refine bZ [(116,zp.spec)] Wf.1 ?_;intro(x:Rat) _ H aK;refine ag 4 ?_;by_cases ao:x.den=1
 ·refine ax 4 (.ko 1 Nat fZ []) rfl (by show uh x.den=_;rw[ao];rfl) (I ?_);refine aX sg (1:Nat) (by show 1<_;decide) (I ?_);exact aM rfl (.of (by show dm 1=dm x.den;rw[ao]))
 ·refine ax 4 (.ko 1 Nat fZ (aT 4294967296 x.den)) rfl (GP ao) ?_;have cb:(aT 4294967296 x.den).isEmpty=false:=zeC.2 (fun e=>x.den_nz ((qD (by decide)).1 e));refine I ?_;refine aqW rfl (by show ng false _=false;rw[cb];rfl) ?_;refine I ?_;exact aM rfl (Ts ao)
def FB:bN where
 L:=Rat
 args:=fun x=>[c8 x]
 pre:=fun _=>True
 res:=fun x=>.i .i64 x.num.sign
def vC:bw a4.ctx 25 FB.spec:=by
 refine bZ [] VG.1 ?_;intro(x:Rat) _ H aK;refine I ?_;refine cP (fun h=> ?_) (fun h=> ?_)
 ·have h0:x.num.natAbs=0:=u5.1 (by omega);refine I ?_;exact aM rfl (.of (by show ae.i .i64 0=ae.i .i64 x.num.sign;rw[Int.natAbs_eq_zero.1 h0];rfl))
 have h0:x.num≠0:=fun e=>h (by rw[e];show((aT _ 0).length:Int)=0;rw[fL];rfl);refine I ?_;refine cP (fun h=> ?_) (fun h=> ?_)
 ·refine I ?_;exact aM rfl (.of (by show ae.i .i64 (-1)=ae.i .i64 x.num.sign;rw[zcW h]))
 ·refine I ?_;exact aM rfl (.of (by show ae.i .i64 1=ae.i .i64 x.num.sign;rw[zcz (by omega)]))
def OM:bN where
 L:=Rat
 args:=fun x=>[c8 x]
 pre:=fun _=>True
 res:=fun x=>c8 (-x)
def Zj:bw a4.ctx 65 OM.spec:=by
 refine bZ [] Wj.1 ?_;intro(x:Rat) _ H aK;have hle:∀{t:Bool},t=decide (-x.num<0)->bV (.agg [.b t,dm x.num.natAbs,uh x.den]) (c8 (-x)):=fun h=>by
  refine bV.agg ⟨.of (by rw[h,zds]),.of (by rw[zds,zdt]),.of (by rw[zea]),trivial⟩
 refine ag 6 ?_;by_cases hn:x.num<0
 ·refine ax 6 (.b false) rfl (by show ae.b (!decide _)=_;rw[zad hn];rfl) (I ?_);exact aM rfl (hle (by symm;simp;omega))
 ·refine ax 6 (.b true) rfl (by show ae.b (!decide _)=_;rw[zai hn];rfl) (I ?_);refine aM rfl (hle ?_);rw[decide_eq_decide];rcases(show 0<x.num∨x.num<=0 by omega)with h0|h0
  ·have:x.num.natAbs≠0:=by omega
   have:(aT 4294967296 x.num.natAbs).length≠0:=fun e=>this (u5.1 e);exact⟨fun _=>by omega,fun _=>by omega⟩
  ·have h1:x.num=0:=by omega
   have h2:(aT 4294967296 x.num.natAbs).length=0:=u5.2 (by omega);exact⟨fun h=>by omega,fun h=>by omega⟩
def iR(x y:Rat):Int:=if x<y then -1 else if x=y then 0 else 1
def Fo:bN where
 L:=Rat×Rat
 args:=fun(x,y)=>[c8 x,c8 y]
 pre:=fun(x,y)=>ba 268435456 x∧ba 268435456 y
 res:=fun(x,y)=>.i .i64 (iR x y)
def m2(ha:dE k a)(hb:dE l b):dE (k+l) (a*b):=y5 (by rw[zal];exact zeK (u3 ha) (u3 hb))
def ch(n:Bool)(p:Nat):Int:=if n then -(p:Int)else p
def EO(x:Rat):x.num=ch (decide (x.num<0)) x.num.natAbs:=by
 unfold ch;by_cases h:x.num<0
 ·rw[zad h,zab rfl];omega
 ·rw[zai h,zaa (by decide)];omega
def S1(x y:Rat):(x.num.sign<y.num.sign->iR x y= -1)∧(y.num.sign<x.num.sign->iR x y=1)∧(x.num.sign=y.num.sign->iR x y=x.num.sign*jH (x.num.natAbs*y.den) (y.num.natAbs*x.den)):=by
 have J:=x.den_nz;have ay:=y.den_nz;have lt:x<y↔x.num*y.den<y.num*x.den:=Rat.lt_iff x y;have eq:x=y↔x.num*y.den=y.num*x.den:=by
  constructor
  ·rintro rfl;rfl
  ·intro h;have h1:=(Rat.mkRat_eq_iff (n₁:=x.num) (n₂:=y.num) J ay).2 h;rw[zeO,zeO]at h1;exact h1
 have av2:(0:Int)<x.den:=by omega
 have av3:(0:Int)<y.den:=by omega
 have df:∀n:Int,(n<0∧n.sign= -1)∨(n=0∧n.sign=0)∨(0<n∧n.sign=1):=fun n=>by
  rcases(show n<0∨n=0∨0<n by omega)with h|h|h
  ·exact .inl ⟨h,zcW h⟩
  ·exact .inr (.inl ⟨h,by rw[h];rfl⟩)
  ·exact .inr (.inr ⟨h,zcz h⟩)
 have x8:x.num*(y.den:Int)=x.num.sign*((x.num.natAbs*y.den:Nat):Int):=by
  rw[zaK,<-zbR,zdu]
 have ag1:y.num*(x.den:Int)=y.num.sign*((y.num.natAbs*x.den:Nat):Int):=by
  rw[zaK,<-zbR,zdu]
 have Js:x.num≠0->0<x.num.natAbs*y.den:=fun h=>zaM (by omega) (by omega);have Jv:y.num≠0->0<y.num.natAbs*x.den:=fun h=>zaM (by omega) (by omega);rw[x8,ag1]at lt eq;unfold iR jH;generalize x.num.natAbs*y.den=A at *;generalize y.num.natAbs*x.den=C at *;simp only[lt,eq];rcases df x.num with⟨gU,hM⟩|⟨gU,hM⟩|⟨gU,hM⟩<;>rcases df y.num with⟨c3,eP⟩|⟨c3,eP⟩|⟨c3,eP⟩<;>rw[hM,eP]<;>refine⟨fun h=> ?_,fun h=> ?_,fun h=> ?_⟩<;>first
  |(exfalso;omega)
  |(have h1:=Js (by omega);have h2:=Jv (by omega);split<;>first|omega|(split<;>first|omega|(split<;>omega)))
  |(have h1:=Js (by omega);split<;>first|omega|(split<;>omega))
  |(have h2:=Jv (by omega);split<;>first|omega|(split<;>omega))
  |(split<;>first|omega|(split<;>first|omega|(split<;>omega)))
def dD(h:dE k a)(hl:k<=l:=by decide):dE l a:=zag h hl
def Kc:bw a4.ctx 13 Fo.spec:=by
 refine bZ [(25,FB.spec),(60,xP.spec),(59,zg.spec),(61,C3.spec)] UI.1 ?_;intro⟨x,y⟩ ⟨(J:ba _ x),(ay:ba _ y)⟩ H aK;obtain⟨fg,e1,mg⟩:=S1 x y;refine I ?_;refine bC vC x trivial (I ?_);refine bC vC y trivial (I ?_);have df:∀n:Int,-1<=n.sign∧n.sign<=1:=fun n=>by
  rcases(show n<0∨n=0∨0<n by omega)with h|h|h
  ·rw[zcW h];decide
  ·rw[h];decide
  ·rw[zcz h];decide
 refine cP (fun h=> ?_) (fun h=> ?_)
 ·refine I ?_;refine cP (fun h1=> ?_) (fun h1=> ?_)
  ·refine I ?_;exact aM rfl (.of (by show ae.i .i64 (-1)=ae.i .i64 (iR x y);rw[fg h1]))
  ·refine I ?_;exact aM rfl (.of (by show ae.i .i64 1=ae.i .i64 (iR x y);rw[e1 (by omega)]))
 have he:x.num.sign=y.num.sign:=by omega
 refine I ?_;refine bC qv y trivial (I ?_);refine bC q2 (x.num.natAbs,y.den) ⟨dD J.1,dD ay.2⟩ (I ?_);refine bC qv x trivial (I ?_);refine bC q2 (y.num.natAbs,x.den) ⟨dD ay.1,dD J.2⟩ (I ?_);refine bC L1 (x.num.natAbs*y.den,y.num.natAbs*x.den) ⟨?_,?_⟩ ?_
 ·exact dD (m2 J.1 ay.2)
 ·exact dD (m2 ay.1 J.2)
 refine I ?_;refine aM rfl (.of ?_);show ae.i .i64 (IntKind.i64.wrap (x.num.sign*jH _ _))=ae.i .i64 (iR x y);rw[<-mg he];have: -1<=iR x y∧iR x y<=1:=by
  unfold iR;split
  ·decide
  ·split<;>decide
 exact cS rfl (by omega) (by omega)
def GC(h:jH a b<0):a<b:=by
 unfold jH at h;split at h
 ·assumption
 ·split at h<;>omega
def GD(h:¬jH a b<0):b<=a:=by
 rcases zao a b with aC|aC
 ·exact absurd (show jH a b<0 by rw[AA aC];decide) h
 ·exact aC
def RH(ha:dE k a)(hb:dE k b):dE (k+1) (a+b):=y5 (by
 have h1:=u3 ha;have h2:=u3 hb;rw[zak];omega)
def add_same{x:Rat}{n:Bool}(J:x.num=ch n x.num.natAbs)(ay:y.num=ch n y.num.natAbs):mkRat (ch n (x.num.natAbs*y.den+y.num.natAbs*x.den)) (x.den*y.den)=x+y:=by
 rw[zeb];congr 1;have e:∀a b:Nat,ch n (a+b)=ch n a+ch n b:=fun a b=>by unfold ch;cases n<;>simp<;>omega
 have e2:∀a b:Nat,ch n (a*b)=ch n a*b:=fun a b=>by unfold ch;cases n<;>simp[zcF]
 rw[e,e2,e2,<-J,<-ay]
def RF{x:Rat}{n m:Bool}(HT:n≠m)(J:x.num=ch n x.num.natAbs)(ay:y.num=ch m y.num.natAbs)(h:y.num.natAbs*x.den<=x.num.natAbs*y.den):mkRat (ch n (x.num.natAbs*y.den-y.num.natAbs*x.den)) (x.den*y.den)=x+y:=by
 rw[zeb];congr 1;have e2:∀(k:Bool) (a b:Nat),ch k (a*b)=ch k a*b:=fun k a b=>by unfold ch;cases k<;>simp[zcF]
 have e:∀a b:Nat,b<=a->ch n (a-b)=ch n a+ch m b:=fun a b iT=>by unfold ch;cases n<;>cases m<;>simp at HT⊢<;>omega
 rw[e _ _ h,e2,e2,<-J,<-ay]
def B7:bN where
 L:=Rat×Rat
 args:=fun(x,y)=>[c8 x,c8 y]
 pre:=fun(x,y)=>ba 268435456 x∧ba 268435456 y
 res:=fun(x,y)=>c8 (x+y)
def B8:bw a4.ctx 48 B7.spec:=by
 refine bZ [(60,xP.spec),(59,zg.spec),(119,Lc.spec),(120,acO.spec),(61,C3.spec),(114,zd.spec)] Wa.1 ?_;intro⟨x,y⟩ ⟨(J:ba _ x),(ay:ba _ y)⟩ H aK;have j6:=EO x;have nL:=EO y;have gE:dE 536870912 (x.num.natAbs*y.den):=m2 J.1 ay.2;have iB:dE 536870912 (y.num.natAbs*x.den):=m2 ay.1 J.2;have y4:dE 536870912 (x.den*y.den):=m2 J.2 ay.2;have ab:x.den*y.den≠0:=zbZ x.den_nz y.den_nz;refine I ?_;refine bC qv y trivial (I ?_);refine bC q2 (x.num.natAbs,y.den) ⟨dD J.1,dD ay.2⟩ (I ?_);refine bC qv x trivial (I ?_);refine bC q2 (y.num.natAbs,x.den) ⟨dD ay.1,dD J.2⟩ (I ?_);refine bC qv x trivial (I ?_);refine bC qv y trivial (I ?_);refine bC q2 (x.den,y.den) ⟨dD J.2,dD ay.2⟩ (I ?_);refine zI rfl (fun h=> ?_) (fun h=> ?_)
 ·have af:decide (x.num<0)=decide (y.num<0):=zcM h;refine I ?_;refine bC RE (x.num.natAbs*y.den,y.num.natAbs*x.den) ⟨dD gE,dD iB⟩ (I ?_);refine bC sa (decide (x.num<0),x.num.natAbs*y.den+y.num.natAbs*x.den,x.den*y.den) ⟨dD (RH gE iB),dD y4,ab⟩ (I ?_);exact aM rfl (.of (congrArg c8 (add_same j6 (af▸nL))))
 have af:decide (x.num<0)≠decide (y.num<0):=ne_of_beq_false h;refine I ?_;refine aX L1 (x.num.natAbs*y.den,y.num.natAbs*x.den) ⟨dD gE,dD iB⟩ (I ?_);refine cP (fun h=> ?_) (fun h=> ?_)
 ·have aE:x.num.natAbs*y.den<y.num.natAbs*x.den:=GC h;refine I ?_;refine bC acQ (y.num.natAbs*x.den,x.num.natAbs*y.den) ⟨dD iB,zaL aE⟩ (I ?_);refine bC sa (decide (y.num<0),y.num.natAbs*x.den-x.num.natAbs*y.den,x.den*y.den) ⟨dD (u4 iB (zca _ _)),dD y4,ab⟩ (I ?_);refine aM rfl (.of (congrArg c8 ?_));have:=RF af.symm nL j6 (zaL aE);rw[Rat.add_comm,<-this,zam y.den x.den];rfl
 ·have mR:y.num.natAbs*x.den<=x.num.natAbs*y.den:=GD h;refine I ?_;refine bC acQ (x.num.natAbs*y.den,y.num.natAbs*x.den) ⟨dD gE,mR⟩ (I ?_);refine bC sa (decide (x.num<0),x.num.natAbs*y.den-y.num.natAbs*x.den,x.den*y.den) ⟨dD (u4 gE (zca _ _)),dD y4,ab⟩ (I ?_);exact aM rfl (.of (congrArg c8 (RF af j6 nL mR)))
def Fu:bN where
 L:=Rat×Rat
 args:=fun(x,y)=>[c8 x,c8 y]
 pre:=fun(x,y)=>ba 268435456 x∧ba 268435456 y
 res:=fun(x,y)=>c8 (x-y)
def EH{x:Rat}(h:ba k x):ba k (-x):=by
 unfold ba;rw[zds,zea,zdt];exact h
def Fv:bw a4.ctx 16 Fu.spec:=by
 refine bZ [(65,OM.spec),(48,B7.spec)] U0.1 ?_;intro⟨x,y⟩ ⟨(J:ba _ x),(ay:ba _ y)⟩ H aK;refine I ?_;refine bC Zj y trivial (I ?_);refine bC B8 (x,-y) ⟨J,EH ay⟩ (I ?_);exact aM rfl (.of (congrArg c8 (zec x y).symm))
def Ij:bN where
 L:=Int
 args:=fun n=>[.i .i64 n]
 pre:=fun n=> -9223372036854775808<=n∧n<9223372036854775808
 res:=fun n=>c8 (mkRat n 1)
def te(h:n<18446744073709551616):dE 2 n:=y5 h
def s9:bw a4.ctx 63 Ij.spec:=by
 refine bZ [(116,zp.spec),(114,zd.spec)] Wi.1 ?_;intro(n:Int) ⟨(h1:_<=n),(h2:n<_)⟩ H aK;cases n with
 |ofNat k=>
  have h2:(k:Int)<9223372036854775808:=h2;clear h1;refine I ?_;refine ax 12 (.i .u64 (k:Nat)) rfl fv ?_;refine aX sg k (by show k<_;omega) ?_;refine aX sg (1:Nat) (by show 1<_;decide) ?_;refine aX sa (false,k,1) ⟨dD (te (by omega)),dD (te (by decide)),by show 1≠0;decide⟩ (I ?_);exact aM rfl (.refl _)
 |negSucc k=>
  refine I ?_;refine abC rfl (by simp) ?_;refine ag 7 ?_;have agU:IntKind.u64.wrap (-(IntKind.u64.wrap (Int.negSucc k)))=((k+1:Nat):Int):=by
   rw[adL,adL];rw[Int.negSucc_eq]at *;omega
  refine ax 7 (.i .u64 ((k+1:Nat):Int)) rfl (fv agU) ?_;rw[Int.negSucc_eq]at h1;refine aX sg (k+1) (by show k+1<_;omega) ?_;refine aX sg (1:Nat) (by show 1<_;decide) ?_;refine aX sa (true,k+1,1) ⟨dD (te (by omega)),dD (te (by decide)),by show 1≠0;decide⟩ (I ?_);exact aM rfl (.refl _)
def vh{n:Int}(h1:dE k n.natAbs)(h2:dE k d)(ao:d≠0):ba k (mkRat n d):=by
 obtain⟨aq,e2⟩:=IN n d ao;refine⟨u4 h1 ?_,u4 h2 ?_⟩
 ·rw[aq,Int.natAbs_ediv_of_dvd (Int.ofNat_dvd_left.2 (zdr _ _))];exact zaH _ _
 ·rw[e2];exact zaH _ _
def b2{x:Rat}(h:ba k x)(hl:k<=l:=by decide):ba l x:=⟨dD h.1 hl,dD h.2 hl⟩
def aoe{c:Int}:bV (.bM [.agg [.b false,.nl,.nl],.i .i64 c]) (.bM [c8 0,.i .i64 c]):=.bM ⟨le_zero,.refl _,trivial⟩
def lF(n:Int)(h1: -9223372036854775808<=n)(h2:n<9223372036854775808):ba 2 (mkRat n 1):=vh (te (by omega)) (te (by decide)) (by decide)
def IV{x:Rat}(h1:ba a x)(h2:ba b y):ba (a+b+1) (x+y):=by
 rw[zeb];have jW:=m2 h1.1 h2.2;have a8:=m2 h2.1 h1.2;refine vh (u4 (RH jW (dD a8 (by omega))) ?_) (dD (m2 h1.2 h2.2) (by omega)) (zbZ x.den_nz y.den_nz);have:=Int.natAbs_add_le (x.num*y.den) (y.num*x.den);rw[zcA,zcA]at this;simpa using this
def q3{x:Rat}(h1:ba a x)(h2:ba b y):ba (a+b+1) (x-y):=by
 rw[zec];exact IV h1 (EH h2)
def Az{x:Rat}:0<iR x y↔y<x:=by
 unfold iR;constructor
 ·intro h;split at h
  ·omega
  split at h
  ·omega
  exact Rat.lt_of_le_of_ne (zcB.1 (by assumption)) (fun e=>by simp_all)
 ·intro h;rw[zaa (zcB.2 (Rat.le_of_lt h)),zaa (fun e=>by subst e;exact absurd h (zcB.2 (zed)))];decide
def gu(d:Nat):ac ae:=[.i .i64 d]
def dc(ds:ac Nat):ae:=.aZ 1 Nat gu ds
def dn(n:Nat):ae:=dc (aT 1000000000 n)
def eA(k n:Nat):Prop:=(aT 1000000000 n).length<=k
def xe:bN where
 L:=ac Nat
 args:=fun ds=>[dc ds]
 pre:=fun ds=>ds.length<=1099511627776
 res:=fun ds=>dc (e0 ds)
def xg:bw a4.ctx 157 xe.spec:=by
 refine bZ [] UX.1 ?_;intro(ds:ac Nat) (hp:ds.length<=1099511627776) H aK;refine I ?_;refine cw (fun es:ac Nat=>e0 es=e0 ds∧es.length<=ds.length) (fun es=>⟨[],0,[(0,dc es)]⟩) List.length [] ds ⟨rfl,b6 _⟩ (by show ds.length<bc+1;unfold bc;omega) eW ?_;rintro es ⟨h1,h2⟩;rcases zbG es with rfl|⟨dC,d,rfl⟩
 ·refine I ?_;exact aM rfl (.of (by rw[show xe.res ds=dc (e0 ds)from rfl,<-h1];rfl))
 ·rw[zbH]at *;have hl:(dC++[d]).length=dC.length+1:=by simp
  refine I ?_;refine ax 6 (.b true) rfl (by simp) (I ?_);refine ax 10 (.i .i64 (dC.length:Nat)) rfl (by rw[hl,hG]<;>simp<;>omega) ?_;refine g9 (N0 rfl rfl (show(dC++[d])[dC.length]? =some d by simp)) ?_;refine I ?_;refine zI rfl (fun ao=> ?_) (fun ao=> ?_)
  ·have ao:d=0:=by simpa using ao
   refine I ?_;refine ax 18 (.i .i64 (dC.length:Nat)) rfl (by rw[hl,hG]<;>simp<;>omega) ?_;refine g9 (QM (p:=0) rfl rfl ⟨_,rfl⟩ (zac _) (by simp)) ?_;refine I ?_;refine aU [] dC ⟨by simp,by rw[<-h1,sz,zab ao],by omega⟩ (kr ⟨?_,trivial⟩);simp[dR,m8,dc]
  ·have ao:d≠0:=by simpa using ao
   refine I ?_;exact aM rfl (.of (by rw[show xe.res ds=dc (e0 ds)from rfl,<-h1,sz,zaa ao]))
def w8:bN where
 L:=Nat×Nat
 args:=fun(a,b)=>[dn a,dn b]
 pre:=fun(a,b)=>eA 1073741824 a∧eA 1073741824 b
 res:=fun(a,b)=>.i .i64 (jH a b)
def vw:bw a4.ctx 88 w8.spec:=by
 refine bZ [] WH.1 ?_;intro⟨a,b⟩ ⟨(ha:(aT _ a).length<=_),(hb:(aT _ b).length<=_)⟩ H aK;have h1:=hA (b:=1000000000) (by decide) a;have h2:=hA (b:=1000000000) (by decide) b;have t1:=x6 (b:=1000000000) (by decide) a;have t2:=x6 (b:=1000000000) (by decide) b;have jF:=gV (b:=1000000000) (by decide) a;have ev:=gV (b:=1000000000) (by decide) b;show aS.ok _ ⟨_,_,⟨_,_,[(0,dc (aT 1000000000 a)),(1,dc (aT 1000000000 b))]⟩⟩;generalize aT 1000000000 a=xs at *;generalize aT 1000000000 b=al at *;have fin:∀{r:Int},jH a b=r->bV (.i .i64 r) (w8.res (a,b)):=fun h=>by rw[<-h];exact .refl _
 refine I ?_;refine cP (fun h=> ?_) (fun h=> ?_)
 ·have h:xs.length≠al.length:=by omega
  refine I ?_;refine cP (fun h=> ?_) (fun h=> ?_)
  ·have h:xs.length<al.length:=by omega
   refine I ?_;have:=Iz (b:=1000000000) (by decide) h1 t2 h;exact aM rfl (fin (AA (by omega)))
  ·have h:al.length<xs.length:=by have:al.length<=xs.length:=by omega
                                  omega
   refine I ?_;have:=Iz (b:=1000000000) (by decide) h2 t1 h;exact aM rfl (fin (GB (by omega)))
 have h:xs.length=al.length:=by omega
 refine I ?_;refine cw (L:=Nat) (fun k=>k<=xs.length∧xs.drop k=al.drop k) (fun(k:Nat)=>⟨[],0,[(0,dc xs),(1,dc al),(5,.i .i64 ((k:Int)-1))]⟩) id [] xs.length ⟨b6 _,by rw[zcn,h,zcn]⟩ (by show xs.length<bc+1;unfold bc;omega) (kr ⟨rfl,rfl,fa,trivial⟩) ?_;rintro(k:Nat) ⟨hk,ao⟩;cases k with
 |zero=>
  refine I ?_;exact aM rfl (fin (by simp at ao;rw[ao]at jF;rw[<-jF,<-ev];exact S2 _))
 |succ m=>
  have J:m<xs.length:=by omega
  have ay:m<al.length:=by omega
  have e:((m+1:Nat):Int)-1=(m:Nat):=by omega
  refine ax 5 (.i .i64 (m:Nat)) rfl (fv e) (I ?_);refine ax 20 (.b true) rfl (by simp) (I ?_);refine dp xs[m] (bE J) ?_;refine I ?_;refine dp al[m] (bE ay) ?_;refine I ?_;have j6:=GZ J;have nL:=GZ ay;refine cP (fun h=> ?_) (fun h=> ?_)
  ·have aE:xs[m]<al[m]:=by omega
   refine I ?_;refine aM rfl (fin (AA ?_));rw[<-jF,<-ev,j6,nL,ao];exact KA (fun x J=>h1 x (zbY J)) (by simp;omega) aE
  refine I ?_;refine dp xs[m] (bE J) ?_;refine I ?_;refine dp al[m] (bE ay) ?_;refine I ?_;refine cP (fun aC=> ?_) (fun aC=> ?_)
  ·have aE:al[m]<xs[m]:=by omega
   refine I ?_;refine aM rfl (fin (GB ?_));rw[<-jF,<-ev,j6,nL,ao];exact KA (fun x J=>h2 x (zbY J)) (by simp;omega) aE
  ·have he:xs[m]=al[m]:=by omega
   refine I ?_;refine aU [] m ⟨by simp,by omega,?_⟩ (kr ⟨rfl,rfl,fa,trivial⟩);rw[fP J,fP ay,he,ao]
end Go.ah.aW
namespace Go.ah.aW
variable{i b x y:Nat}
def x4{b n i:Nat}(hb:2<=b):i<(aT b n).length↔n/b^i≠0:=by
 have hp:0<b^i:=zat (by omega);constructor
 ·intro h e;have:=ke hb (k:=i) (n:=n) (by rcases Nat.div_eq_zero_iff.1 e with h|h<;>omega);omega
 ·intro h;exact Dc hb (by
   rcases zao n (b^i)with aC|aC
   ·exact absurd (zbI aC) h
   ·exact aC)
theorem um{b:Nat}(hb:2<=b):∀{n i:Nat},i<(aT b n).length->(aT b n)[i]? =some (n/b^i%b)
 |n,i,h=>by
  by_cases h0:n=0
  ·subst h0;rw[fL]at h;simp at h
  ·rw[ot hb h0]at h⊢;cases i with
   |zero=>simp
   |succ i=>
    rw[zdK,um hb (by simpa using h),zbf,zak,zam b]
def agz{n:Nat}(hb:2<=b)(h:i<(aT b n).length):(aT b n)[i]=n/b^i%b:=by
 have:=um hb h;rw[zcd h]at this;exact Option.some.inj this
def nh(b x y i:Nat):Nat:=(x%b^i+y%b^i)/b^i
def afV(b x y:Nat):nh b x y 0=0:=by simp[nh,zcT]
def Tc(hb:0<b):(x+y)/b^i=x/b^i+y/b^i+nh b x y i:=by
 have hp:0<b^i:=zat hb;unfold nh;have aq:=zbr x (b^i);have e2:=zbr y (b^i);have:x+y=(x%b^i+y%b^i)+b^i*(x/b^i+y/b^i):=by rw[zaq];omega
 rw[this,zcQ _ _ hp];omega
def afT(hb:0<b):nh b x y i<=1:=by
 have hp:0<b^i:=zat hb;have h1:=zaj x hp;have h2:=zaj y hp;unfold nh;have:(x%b^i+y%b^i)/b^i<2:=zcC (by omega);omega
def afU(hb:0<b):nh b x y (i+1)=(nh b x y i+x/b^i%b+y/b^i%b)/b:=by
 have hp:0<b^i:=zat hb;have e:∀z,z%b^(i+1)=z%b^i+b^i*(z/b^i%b):=fun z=>by
  rw[zak,Nat.mod_mul]
 unfold nh;rw[e x,e y,zak,<-zbf];congr 1;rw[show x%b^i+b^i*(x/b^i%b)+(y%b^i+b^i*(y/b^i%b))=(x%b^i+y%b^i)+b^i*(x/b^i%b+y/b^i%b) by rw[zaq];omega,zcQ _ _ hp];omega
def afS(hb:0<b):(nh b x y i+x/b^i%b+y/b^i%b)%b=(x+y)/b^i%b:=by
 rw[Tc hb];rw[show nh b x y i+x/b^i%b+y/b^i%b=nh b x y i+(x/b^i%b+y/b^i%b) by omega,zee,<-zee (x/b^i),<-zee,zcf]
def atO{l:ac Nat}(h:i<l.length):l.take (i+1)=l.take i++[l[i]]:=by
 rw[List.take_add_one,zcd h];rfl
