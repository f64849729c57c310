/- What the functions of the program and of the document compute, for every input (part 1); conditions as in the statements. -/
import Derived.Test.YtcfbdmddggcjgaaGreatDoorS1
import Derived.Test.YtcfbdmddggcjgaaGreatDoorT
import Derived.Test.YtcfbdmddggcjgaaGreatDoorL
set_option linter.all false
namespace Go.az.ck
open Go.az
set_option maxRecDepth 100000
set_option maxHeartbeats 4000000
theorem cz(K:List (Nat×Spec)){f:FuncId}(xf:aK){S:cn}(h:∀l,S.pre l->∀H a4,bl.ok ⟨dx a7 (en aN.ctx (cH K)) (cp+1),cp+1,f,H,[],a4,Fin S l xf.res⟩ ⟨[],.c xf.body,⟨[],0,nB 0 (S.args l)⟩⟩)
 (aa:a7.get f=some xf:=by kernel_rfl) (hl:∀l,(S.args l).length<=xf.ay:=by exact fun _=>jk rfl):ca aN.ctx f S.spec:=XW aN.cG cN (cH K) aa hl h
theorem uk(K:List (Nat×Spec)){f:FuncId}(xf:aK){S:cn}(h:∀l,S.pre l->∀H a4,S.hp H->bl.ok ⟨dx a7 (en aN.ctx (cH K)) (cp+1),cp+1,f,H,[],a4,Fin S l xf.res⟩ ⟨[],.c xf.body,⟨[],0,nB 0 (S.args l)⟩⟩)
 (aa:a7.get f=some xf:=by kernel_rfl) (hl:∀l,(S.args l).length<=xf.ay:=by exact fun _=>jk rfl):ca aN.ctx f S.spec:=Hi aN.cG cN (cH K) aa hl h
theorem M3(K:List (Nat×Spec)){f:FuncId}(xf:aK){S:jO}(h:∀l,S.pre l->∀H i0 a4,i0.length=(S.own l).length->bl.ok ⟨dx a7 (en aN.ctx (cH K)) (cp+1),cp+1,f,H,i0,a4,LD S l xf.res⟩ ⟨[],.c xf.body,⟨S.own l,(S.own l).length,nB 0 (S.args l)⟩⟩)
 (aa:a7.get f=some xf:=by kernel_rfl) (hl:∀l,(S.args l).length<=xf.ay:=by exact fun _=>jk rfl):ca aN.ctx f S.spec:=XV aN.cG cN (cH K) aa hl h
def ft(d:Nat):List al:=[.i .u32 d]
def db(ds:List Nat):al:=.gE 1 Nat ft ds
def df(n:Nat):al:=db (aU 4294967296 n)
theorem sk{n m:Int}(h:n=m)(J: -9223372036854775808<=n)(U:n<9223372036854775808):IntKind.i64.wrap n=m:=by rw[gD J U,h]
theorem UG(n:Int):IntKind.u64.wrap n=n%18446744073709551616:=by
 rw[<-kd];exact qP _ _ (by decide)
def Gj:cn where
 L:=List Nat
 args:=fun ds=>[db ds]
 pre:=fun ds=>ds.length<=1099511627776
 res:=fun ds=>db (eN ds)
theorem aml:ca aN.ctx 187 Gj.spec:=by
 refine cz [] f187 ?_;intro(ds:List Nat) (hp:ds.length<=1099511627776) H a4
 repeat refine ab rfl ?_
 refine e3 (fun es:List Nat=>eN es=eN ds∧es.length<=ds.length) (fun es=>⟨[],0,[(0,db es)]⟩) List.length [] ds ⟨rfl,cd _⟩ (by show ds.length<cp+1;unfold cp;omega) (dF ⟨rfl,trivial⟩) ?_;rintro es ⟨J,U⟩;rcases List.eq_nil_or_concat es with rfl|⟨c6,d,rfl⟩
 ·repeat refine ab rfl ?_
  exact a1 (a6 rfl rfl (.of (by rw[show Gj.res ds=db (eN ds)from rfl,<-J];rfl)))
 ·rw[List.concat_eq_append]at *;have hl:(c6++[d]).length=c6.length+1:=by simp
  repeat refine ab rfl ?_
  refine aH 6 (.b true) rfl (by simp) ?_
  repeat refine ab rfl ?_
  refine aH 10 (.i .i64 (c6.length:Nat)) rfl (by rw[hl,gD]<;>simp<;>omega) ?_;refine gH (IL rfl rfl (show(c6++[d])[c6.length]? =some d by simp)) ?_
  repeat refine ab rfl ?_
  refine vU rfl (fun ax=> ?_) (fun ax=> ?_)
  ·have ax:d=0:=by simpa using ax
   repeat refine ab rfl ?_
   refine aH 18 (.i .i64 (c6.length:Nat)) rfl (by rw[hl,gD]<;>simp<;>omega) ?_;refine gH (SR (p:=0) rfl rfl ⟨_,rfl⟩ (Nat.zero_le _) (by simp)) ?_
   repeat refine ab rfl ?_
   refine b0 [] c6 ⟨by simp,by rw[<-J,pY,if_pos ax],by omega⟩ (dF ⟨?_,trivial⟩);simp[fc,mN,db]
  ·have ax:d≠0:=by simpa using ax
   repeat refine ab rfl ?_
   exact a1 (a6 rfl rfl (.of (by rw[show Gj.res ds=db (eN ds)from rfl,<-J,pY,if_neg ax])))
def q9:cn where
 L:=List Nat
 args:=fun ds=>[db ds]
 pre:=fun ds=>cY 4294967296 ds∧ds.length<=1099511627776
 res:=fun ds=>df (val 4294967296 ds)
theorem ra:ca aN.ctx 76 q9.spec:=by
 refine cz [(187,Gj.spec)] f76 ?_;intro(ds:List Nat) ⟨(J:cY 4294967296 ds),(U:ds.length<=_)⟩ H a4
 repeat refine ab rfl ?_
 refine bm aml ds U ?_
 repeat refine ab rfl ?_
 exact a1 (a6 rfl rfl (.of (by show db (eN ds)=db _;rw[wb (by decide) J])))
def x8:cn where
 L:=Nat
 args:=fun n=>[.i .u64 n]
 pre:=fun n=>n<18446744073709551616
 res:=fun n=>df n
theorem r0:ca aN.ctx 22 x8.spec:=by
 refine cz [(76,q9.spec)] f22 ?_;intro(n:Nat) (hp:n<18446744073709551616) H a4
 repeat refine ab rfl ?_
 refine Sb 0 (z:=1) (R:=ft) [n%4294967296,n/4294967296] rfl (by show[al.i _ _,al.i _ _]=[al.i _ _,al.i _ _];rw[show n/2^32%4294967296=n/4294967296 by omega]) (fun _=>rfl) ?_;refine Sd 8 [n%4294967296,n/4294967296] rfl rfl rfl rfl (by decide) (fun _=>rfl) ?_;refine bm ra [n%4294967296,n/4294967296] ⟨fun x aa=> ?_,by simp⟩ ?_
 ·simp at aa;rcases aa with rfl|rfl<;>omega
 repeat refine ab rfl ?_
 exact a1 (a6 rfl rfl (.of (by show df _=df _;simp[val];congr 1;omega)))
def eo(k n:Nat):Prop:=(aU 4294967296 n).length<=k
def GG:cn where
 L:=Nat×Nat
 args:=fun(a,b)=>[df a,df b]
 pre:=fun(a,b)=>eo 1073741824 a∧eo 1073741824 b
 res:=fun(a,b)=>df (a+b)
theorem LO:ca aN.ctx 75 GG.spec:=by
 refine cz [(76,q9.spec)] f75 ?_;intro⟨a,b⟩ ⟨(a2:(aU _ a).length<=_),(hb:(aU _ b).length<=_)⟩ H a4;show bl.ok _ ⟨_,_,⟨_,_,[(0,db (aU 4294967296 a)),(1,db (aU 4294967296 b))]⟩⟩
 repeat refine ab rfl ?_
 refine hk (fun((xs:List Nat),(av:List Nat))=>av.length<=xs.length∧xs.length<=1073741824∧cY 4294967296 xs∧cY 4294967296 av∧val 4294967296 xs+val 4294967296 av=a+b) (fun(xs,av)=>⟨[],0,[(0,db xs),(1,db av)]⟩) ?_ ?_
 ·refine cu (fun h=> ?_) (fun h=> ?_)
  ·have h:(aU 4294967296 a).length<(aU 4294967296 b).length:=by omega
   repeat refine ab rfl ?_
   exact b0 [] (aU _ b,aU _ a) ⟨by omega,hb,gp (by decide) _,gp (by decide) _,by rw[fU (by decide),fU (by decide),Nat.add_comm]⟩ (dF ⟨rfl,rfl,trivial⟩)
  ·have h:(aU 4294967296 b).length<=(aU 4294967296 a).length:=by omega
   repeat refine ab rfl ?_
   exact b0 [] (aU _ a,aU _ b) ⟨h,a2,gp (by decide) _,gp (by decide) _,by rw[fU (by decide),fU (by decide)]⟩ (dF ⟨rfl,rfl,trivial⟩)
 rintro⟨xs,av⟩ ⟨hl,aa,J,U,ak⟩
 repeat refine ab rfl ?_
 refine aH 18 (.i .i64 ((xs.length+1:Nat):Int)) rfl cB ?_;refine n0 ft 0 ?_
 repeat refine ab rfl ?_
 refine e3 (L:=Nat×List Nat×Nat) (fun(i,outs,c)=>i<=xs.length∧outs.length=xs.length+1∧cY 4294967296 outs∧c<=1∧val 4294967296 (outs.take i)+4294967296^i*c=val 4294967296 (xs.take i)+val 4294967296 (av.take i))
  (fun((i:Nat),(outs:List Nat),(c:Nat))=>⟨[.a 160 false 1 Nat ft outs],1,[(0,db xs),(1,db av),(5,.bH 0 1 0 (xs.length+1) (xs.length+1)),(6,.i .u64 c),(20,db xs),(21,.i .i64 xs.length),(22,.i .i64 i)]⟩)
  (fun l=>xs.length-l.1) [0] (0,List.replicate (xs.length+1) 0,0) ⟨by omega,by simp,qC (by decide) _,by omega,by simp[val]⟩ (by show xs.length-0<cp+1;unfold cp;omega) (cT ⟨rfl,rfl,rfl,rfl,rfl,rfl,rfl,trivial⟩ ⟨_,rfl,rfl,fun _=>rfl⟩) ?_
 rintro⟨i,outs,c⟩ ⟨ag,gB,bM,hc,aD⟩
 repeat refine ab rfl ?_
 refine cu (fun h=> ?_) (fun h=> ?_)
 ·have h:i<xs.length:=by omega
  have AJ:xs[i]? =some xs[i]:=cA h;have bO:=J _ (ew h)
  repeat refine ab rfl ?_
  refine gY xs[i] AJ ?_
  repeat refine ab rfl ?_
  refine hk (fun y=>y<4294967296∧val 4294967296 (av.take (i+1))=val 4294967296 (av.take i)+4294967296^i*y) (fun(y:Nat)=>⟨[.a 160 false 1 Nat ft outs],1,[(0,db xs),(1,db av),(5,.bH 0 1 0 (xs.length+1) (xs.length+1)),(6,.i .u64 ((c+xs[i]+y:Nat):Int)),(7,.i .i64 i),(20,db xs),(21,.i .i64 xs.length),(22,.i .i64 i)]⟩) ?_ ?_
  ·refine cu (fun aL=> ?_) (fun aL=> ?_)
   ·have aL:i<av.length:=by simpa using aL
    have AK:av[i]? =some av[i]:=cA aL;have Am:=U _ (ew aL)
    repeat refine ab rfl ?_
    refine gY av[i] AK ?_
    repeat refine ab rfl ?_
    refine b0 [0] av[i] ⟨Am,hr aL⟩ (cT ⟨rfl,rfl,rfl,?_,rfl,rfl,rfl,rfl,trivial⟩ ⟨_,rfl,rfl,fun _=>rfl⟩);exact kZ
   ·have aL:av.length<=i:=by simpa using aL
    repeat refine ab rfl ?_
    refine b0 [0] 0 ⟨by decide,by rw[ji (by omega),ji aL];simp⟩ (cT ⟨rfl,rfl,rfl,?_,rfl,rfl,rfl,rfl,trivial⟩ ⟨_,rfl,rfl,fun _=>rfl⟩);exact kZ
  rintro y ⟨aJ,fK⟩
  repeat refine ab rfl ?_
  refine lH ?_;refine j9 ((c+xs[i]+y)%4294967296) ?_
  repeat refine ab rfl ?_
  refine b0 [0] (i+1,outs.set i ((c+xs[i]+y)%4294967296),(c+xs[i]+y)/4294967296) ⟨by show xs.length-(i+1)<xs.length-i;omega,by omega,by simp[gB],lC bM _ (Nat.mod_lt _ (by decide)),by omega,?_⟩ (cT ⟨rfl,rfl,rfl,rfl,rfl,rfl,?_,trivial⟩ ⟨_,rfl,rfl,fun _=>rfl⟩)
  ·rw[hr (l:=outs.set i _) (by simp;omega),hr h,fK,List.take_set_of_le (cd _),List.getElem_set_self,Nat.pow_succ];exact LR (by decide) aD
  ·exact eS
 ·have h:i=xs.length:=by have:xs.length<=i:=by omega
                         omega
  subst h
  repeat refine ab rfl ?_
  refine lH ?_;refine j9 (c%4294967296) ?_
  repeat refine ab rfl ?_
  refine l7 56 ?_;refine bm ra (outs.set xs.length (c%4294967296)) ⟨lC bM _ (Nat.mod_lt _ (by decide)),by simp[gB];omega⟩ ?_
  repeat refine ab rfl ?_
  refine a1 (a6 rfl rfl (.of ?_));show df _=df _;congr 1;rw[<-ji (i:=xs.length+1) (by simp[gB]),hr (by simp;omega),List.take_set_of_le (cd _),List.getElem_set_self,fY (by omega),aD,ji (cd _),ji hl,ak]
def Tn:cn where
 L:=Nat×Nat
 args:=fun(a,b)=>[df a,df b]
 pre:=fun(a,b)=>eo 1073741824 a∧b<=a
 res:=fun(a,b)=>df (a-b)
theorem I9{a b:Nat}(h:b<=a):(aU 4294967296 b).length<=(aU 4294967296 a).length:=by
 have J:=jz (gp (b:=4294967296) (by decide) a);rw[fU (by decide)]at J;exact iM (by decide) (by omega)
theorem Tp:ca aN.ctx 265 Tn.spec:=by
 refine cz [(76,q9.spec)] f265 ?_;intro⟨a,b⟩ ⟨(a2:(aU _ a).length<=_),(hb:b<=a)⟩ H a4;have hl:=I9 hb;have J:=gp (b:=4294967296) (by decide) a;have U:=gp (b:=4294967296) (by decide) b;have h6:=fU (b:=4294967296) (by decide) a;have nk:=fU (b:=4294967296) (by decide) b;show bl.ok _ ⟨_,_,⟨_,_,[(0,db (aU 4294967296 a)),(1,db (aU 4294967296 b))]⟩⟩;generalize aU 4294967296 a=xs at *;generalize aU 4294967296 b=av at *
 repeat refine ab rfl ?_
 refine n0 ft 0 ?_
 repeat refine ab rfl ?_
 refine e3 (L:=Nat×List Nat×Nat) (fun(i,outs,c)=>i<=xs.length∧outs.length=xs.length∧cY 4294967296 outs∧c<=1∧val 4294967296 (xs.take i)+4294967296^i*c=val 4294967296 (outs.take i)+val 4294967296 (av.take i))
  (fun((i:Nat),(outs:List Nat),(c:Nat))=>⟨[.a 160 false 1 Nat ft outs],1,[(0,db xs),(1,db av),(5,.bH 0 1 0 xs.length xs.length),(6,.i .u64 c),(13,db xs),(14,.i .i64 xs.length),(15,.i .i64 i)]⟩)
  (fun l=>xs.length-l.1) [0] (0,List.replicate xs.length 0,0) ⟨by omega,by simp,qC (by decide) _,by omega,by simp[val]⟩ (by show xs.length-0<cp+1;unfold cp;omega) (cT ⟨rfl,rfl,rfl,rfl,rfl,rfl,rfl,trivial⟩ ⟨_,rfl,rfl,fun _=>rfl⟩) ?_
 rintro⟨i,outs,c⟩ ⟨ag,gB,bM,hc,aD⟩
 repeat refine ab rfl ?_
 refine cu (fun h=> ?_) (fun h=> ?_)
 ·have h:i<xs.length:=by omega
  have AJ:xs[i]? =some xs[i]:=cA h;have bO:=J _ (ew h)
  repeat refine ab rfl ?_
  refine gY xs[i] AJ ?_
  repeat refine ab rfl ?_
  refine hk (fun y=>y<4294967296∧val 4294967296 (av.take (i+1))=val 4294967296 (av.take i)+4294967296^i*y) (fun(y:Nat)=>⟨[.a 160 false 1 Nat ft outs],1,[(0,db xs),(1,db av),(5,.bH 0 1 0 xs.length xs.length),(9,.i .u64 (((xs[i]+18446744073709551616-c-y)%18446744073709551616:Nat):Int)),(7,.i .i64 i),(13,db xs),(14,.i .i64 xs.length),(15,.i .i64 i)]⟩) ?_ ?_
  ·refine cu (fun aL=> ?_) (fun aL=> ?_)
   ·have aL:i<av.length:=by simpa using aL
    have AK:av[i]? =some av[i]:=cA aL;have Am:=U _ (ew aL)
    repeat refine ab rfl ?_
    refine gY av[i] AK ?_
    repeat refine ab rfl ?_
    exact b0 [0] av[i] ⟨Am,hr aL⟩ (cT ⟨rfl,rfl,rfl,kZ,rfl,rfl,rfl,rfl,trivial⟩ ⟨_,rfl,rfl,fun _=>rfl⟩)
   ·have aL:av.length<=i:=by simpa using aL
    repeat refine ab rfl ?_
    exact b0 [0] 0 ⟨by decide,by rw[ji (by omega),ji aL];simp⟩ (cT ⟨rfl,rfl,rfl,kZ,rfl,rfl,rfl,rfl,trivial⟩ ⟨_,rfl,rfl,fun _=>rfl⟩)
  rintro y ⟨aJ,fK⟩;generalize aX:(xs[i]+18446744073709551616-c-y)%18446744073709551616=t
  repeat refine ab rfl ?_
  refine lH ?_;refine j9 (t%4294967296) ?_
  repeat refine ab rfl ?_
  refine b0 [0] (i+1,outs.set i (t%4294967296),t/9223372036854775808) ⟨by show xs.length-(i+1)<xs.length-i;omega,by omega,by simp[gB],lC bM _ (Nat.mod_lt _ (by decide)),by omega,?_⟩ (cT ⟨rfl,rfl,rfl,rfl,rfl,rfl,eS,trivial⟩ ⟨_,rfl,rfl,fun _=>rfl⟩);rw[hr (l:=outs.set i _) (by simp;omega),hr h,fK,List.take_set_of_le (cd _),List.getElem_set_self,Nat.pow_succ];exact Tq aD (by omega)
 ·have h:i=xs.length:=by have:xs.length<=i:=by omega
                         omega
  subst h
  repeat refine ab rfl ?_
  refine l7 43 ?_;refine bm ra outs ⟨bM,by omega⟩ ?_
  repeat refine ab rfl ?_
  refine a1 (a6 rfl rfl (.of ?_));show df _=df _;congr 1;rw[ji (cd _),ji (l:=outs) (by omega),ji hl]at aD;have ah:=jz bM;rw[gB]at ah;have m3:c=0:=by
   rcases Nat.lt_or_ge 0 c with h|h
   ·have:c=1:=by omega
    rw[this]at aD;omega
   ·omega
  rw[m3]at aD;show _=a-b;omega
def wL:cn where
 L:=Nat×Nat
 args:=fun(a,b)=>[df a,df b]
 pre:=fun(a,b)=>eo 1073741824 a∧eo 1073741824 b
 res:=fun(a,b)=>.i .i64 (h8 a b)
theorem wM{a b:Nat}(h:a<b):h8 a b= -1:=by unfold h8;rw[if_pos h]
theorem CI{a b:Nat}(h:b<a):h8 a b=1:=by unfold h8;rw[if_neg (by omega),if_neg (by omega)]
theorem Ng(a:Nat):h8 a a=0:=by unfold h8;simp
theorem CZ{l:List Nat}{m:Nat}(h:m<l.length):l=l.take m++l[m]::l.drop (m+1):=by
 rw[<-iG h,List.take_append_drop]
theorem CH:ca aN.ctx 88 wL.spec:=by
 refine cz [] f88 ?_;intro⟨a,b⟩ ⟨(a2:(aU _ a).length<=_),(hb:(aU _ b).length<=_)⟩ H a4;have J:=gp (b:=4294967296) (by decide) a;have U:=gp (b:=4294967296) (by decide) b;have t1:=sK (b:=4294967296) (by decide) a;have t2:=sK (b:=4294967296) (by decide) b;have h6:=fU (b:=4294967296) (by decide) a;have nk:=fU (b:=4294967296) (by decide) b;show bl.ok _ ⟨_,_,⟨_,_,[(0,db (aU 4294967296 a)),(1,db (aU 4294967296 b))]⟩⟩;generalize aU 4294967296 a=xs at *;generalize aU 4294967296 b=av at *;have fin:∀{r:Int},h8 a b=r->c5 (.i .i64 r) (wL.res (a,b)):=fun h=>by rw[<-h];exact .refl _
 repeat refine ab rfl ?_
 refine cu (fun h=> ?_) (fun h=> ?_)
 ·have h:xs.length≠av.length:=by omega
  repeat refine ab rfl ?_
  refine cu (fun h=> ?_) (fun h=> ?_)
  ·have h:xs.length<av.length:=by omega
   repeat refine ab rfl ?_
   have:=Eh (b:=4294967296) (by decide) J t2 h;exact a1 (a6 rfl rfl (fin (wM (by omega))))
  ·have h:av.length<xs.length:=by have:av.length<=xs.length:=by omega
                                  omega
   repeat refine ab rfl ?_
   have:=Eh (b:=4294967296) (by decide) U t1 h;exact a1 (a6 rfl rfl (fin (CI (by omega))))
 have h:xs.length=av.length:=by omega
 repeat refine ab rfl ?_
 refine e3 (L:=Nat) (fun k=>k<=xs.length∧xs.drop k=av.drop k) (fun(k:Nat)=>⟨[],0,[(0,db xs),(1,db av),(5,.i .i64 ((k:Int)-1))]⟩) id [] xs.length ⟨cd _,by rw[List.drop_length,h,List.drop_length]⟩ (by show xs.length<cp+1;unfold cp;omega) (dF ⟨rfl,rfl,eS,trivial⟩) ?_;rintro(k:Nat) ⟨ae,ax⟩;cases k with
 |zero=>
  repeat refine ab rfl ?_
  exact a1 (a6 rfl rfl (fin (by simp at ax;rw[ax]at h6;rw[<-h6,<-nk];exact Ng _)))
 |succ m=>
  have aa:m<xs.length:=by omega
  have aJ:m<av.length:=by omega
  have e:((m+1:Nat):Int)-1=(m:Nat):=by omega
  refine aH 5 (.i .i64 (m:Nat)) rfl (ff e) ?_
  repeat refine ab rfl ?_
  refine aH 20 (.b true) rfl (by simp) ?_
  repeat refine ab rfl ?_
  refine mm xs[m] (cA aa) ?_
  repeat refine ab rfl ?_
  refine mm av[m] (cA aJ) ?_
  repeat refine ab rfl ?_
  have ho:=CZ aa;have mP:=CZ aJ;refine cu (fun h=> ?_) (fun h=> ?_)
  ·have cx:xs[m]≠av[m]:=by omega
   repeat refine ab rfl ?_
   refine mm xs[m] (cA aa) ?_
   repeat refine ab rfl ?_
   refine mm av[m] (cA aJ) ?_
   repeat refine ab rfl ?_
   refine cu (fun h=> ?_) (fun h=> ?_)
   ·have bO:xs[m]<av[m]:=by omega
    repeat refine ab rfl ?_
    refine a1 (a6 rfl rfl (fin (wM ?_)));rw[<-h6,<-nk,ho,mP,ax];exact Gi (fun x aa=>J x (List.mem_of_mem_take aa)) (by simp;omega) bO
   ·have bO:av[m]<xs[m]:=by have:av[m]<=xs[m]:=by omega
                            omega
    repeat refine ab rfl ?_
    refine a1 (a6 rfl rfl (fin (CI ?_)));rw[<-h6,<-nk,ho,mP,ax];exact Gi (fun x aa=>U x (List.mem_of_mem_take aa)) (by simp;omega) bO
  ·have he:xs[m]=av[m]:=by omega
   repeat refine ab rfl ?_
   refine b0 [] m ⟨by simp,by omega,?_⟩ (dF ⟨rfl,rfl,eS,trivial⟩);rw[iG aa,iG aJ,he,ax]
theorem Jp{c x y o:Nat}(hc:c<4294967296)(aa:x<4294967296)(aJ:y<4294967296)(ao:o<4294967296):x*y<18446744073709551616∧x*y+o<18446744073709551616∧c+(x*y+o)<18446744073709551616:=by
 have J:x*y<=4294967295*4294967295:=Nat.mul_le_mul (by omega) (by omega);omega
theorem Qk{B P Q R o c x y a b d:Nat}(iP:P=Q*R)(h:o+P*c=a+Q*(x*b)):o+P*((c+(x*y+d))%B)+P*B*((c+(x*y+d))/B)=a+P*d+Q*(x*(b+R*y)):=by
 have J:P*(c+(x*y+d))=P*((c+(x*y+d))%B)+P*B*((c+(x*y+d))/B):=by
  rw[Nat.mul_assoc,<-Nat.mul_add,Nat.mod_add_div]
 have U:Q*(x*(b+R*y))=Q*(x*b)+P*(x*y):=by
  rw[iP,Nat.mul_add,Nat.mul_add,Nat.mul_assoc Q R,Nat.mul_left_comm x R y]
 rw[Nat.mul_add,Nat.mul_add]at J;omega
def Et:cn where
 L:=Nat×Nat
 args:=fun(a,b)=>[df a,df b]
 pre:=fun(a,b)=>eo 1073741824 a∧eo 1073741824 b
 res:=fun(a,b)=>df (a*b)
theorem xV:ca aN.ctx 74 Et.spec:=by
 refine cz [(76,q9.spec)] f74 ?_;intro⟨a,b⟩ ⟨(a2:(aU _ a).length<=_),(hb:(aU _ b).length<=_)⟩ H a4;have J:=gp (b:=4294967296) (by decide) a;have U:=gp (b:=4294967296) (by decide) b;have h6:=fU (b:=4294967296) (by decide) a;have nk:=fU (b:=4294967296) (by decide) b;show bl.ok _ ⟨_,_,⟨_,_,[(0,db (aU 4294967296 a)),(1,db (aU 4294967296 b))]⟩⟩;generalize aU 4294967296 a=xs at *;generalize aU 4294967296 b=av at *
 repeat refine ab rfl ?_
 refine aH 15 (.i .i64 ((xs.length+av.length:Nat):Int)) rfl cB ?_;refine n0 ft 0 ?_
 repeat refine ab rfl ?_
 refine e3 (L:=Nat×List Nat) (fun(i,outs)=>i<=xs.length∧outs.length=xs.length+av.length∧cY 4294967296 outs∧val 4294967296 (outs.take (i+av.length))=val 4294967296 (xs.take i)*val 4294967296 av)
  (fun((i:Nat),(outs:List Nat))=>⟨[.a 160 false 1 Nat ft outs],1,[(1,db av),(5,.bH 0 1 0 (xs.length+av.length) (xs.length+av.length)),(17,db xs),(18,.i .i64 xs.length),(19,.i .i64 i)]⟩)
  (fun l=>xs.length-l.1) [0] (0,List.replicate (xs.length+av.length) 0) ⟨by omega,by simp,qC (by decide) _,by simp[val,val_zero]⟩ (by show xs.length-0<cp+1;unfold cp;omega) (cT ⟨rfl,rfl,rfl,rfl,rfl,trivial⟩ ⟨_,rfl,rfl,fun _=>rfl⟩) ?_
 rintro⟨i,outs⟩ ⟨ag,gB,bM,aD⟩
 repeat refine ab rfl ?_
 refine cu (fun h=> ?_) (fun h=> ?_)
 ·have h:i<xs.length:=by omega
  have kp:=J _ (ew h)
  repeat refine ab rfl ?_
  refine gY xs[i] (cA h) ?_
  repeat refine ab rfl ?_
  refine e3 (L:=Nat×List Nat×Nat) (fun(j,os,c)=>j<=av.length∧os.length=xs.length+av.length∧cY 4294967296 os∧c<4294967296∧(∀k,i+j<=k->os[k]? =outs[k]?)∧val 4294967296 (os.take (i+j))+4294967296^(i+j)*c=val 4294967296 (outs.take (i+j))+4294967296^i*(xs[i]*val 4294967296 (av.take j)))
   (fun((j:Nat),(os:List Nat),(c:Nat))=>⟨[.a 160 false 1 Nat ft os],1,[(1,db av),(5,.bH 0 1 0 (xs.length+av.length) (xs.length+av.length)),(17,db xs),(18,.i .i64 xs.length),(19,.i .i64 i),(6,.i .i64 i),(7,.i .u32 (xs[i]:Nat)),(8,.i .u64 c),(24,db av),(25,.i .i64 av.length),(26,.i .i64 j)]⟩)
   (fun l=>av.length-l.1) [0] (0,outs,0) ⟨by omega,gB,bM,by omega,fun _ _=>rfl,by simp[val]⟩ (by show av.length-0<cp+1;unfold cp;omega) (cT ⟨rfl,rfl,rfl,rfl,rfl,rfl,rfl,rfl,rfl,rfl,rfl,trivial⟩ ⟨_,rfl,rfl,fun _=>rfl⟩) ?_
  rintro⟨j,os,c⟩ ⟨hj,At,rE,hc,lr,kX⟩
  repeat refine ab rfl ?_
  refine cu (fun pt=> ?_) (fun pt=> ?_)
  ·have pt:j<av.length:=by omega
   have D5:=U _ (ew pt);have jH:i+j<os.length:=by omega
   have Iq:os[i+j]=outs[i+j]:=by
    have:=lr (i+j) (cd _);rw[cA jH,cA (by omega)]at this;exact Option.some.inj this
   have Ir:=rE _ (ew jH);obtain⟨aW,a0,bx⟩:=Jp hc kp D5 Ir
   repeat refine ab rfl ?_
   refine gY av[j] (cA pt) ?_
   repeat refine ab rfl ?_
   refine aH 40 (.i .i64 ((i+j:Nat):Int)) rfl cB ?_;refine lH ?_;refine yy os[i+j] (cA jH) ?_
   iterate 3 refine ab rfl ?_
   refine aH 45 (.i .u64 ((c+(xs[i]*av[j]+os[i+j]):Nat):Int)) rfl (ff ?_) ?_
   ·have aG:xs[i]%18446744073709551616=xs[i]:=by omega
    have e2:av[j]%18446744073709551616=av[j]:=by omega
    have cw:os[i+j]%18446744073709551616=os[i+j]:=by omega
    rw[aG,e2,cw,fY aW,fY a0,fY bx]
   repeat refine ab rfl ?_
   refine aH 49 (.i .i64 ((i+j:Nat):Int)) rfl cB ?_;generalize jG:c+(xs[i]*av[j]+os[i+j])=T at *;refine lH ?_;refine j9 (T%4294967296) ?_
   repeat refine ab rfl ?_
   refine b0 [0] (j+1,os.set (i+j) (T%4294967296),T/4294967296) ⟨by show av.length-(j+1)<av.length-j;omega,by omega,by simp[At],lC rE _ (Nat.mod_lt _ (by decide)),by omega,fun k ae=>by rw[List.getElem?_set_ne (by omega)];exact lr k (by omega),?_⟩
    (cT ⟨rfl,rfl,rfl,rfl,rfl,rfl,rfl,rfl,rfl,rfl,eS,trivial⟩ ⟨_,rfl,rfl,fun _=>rfl⟩)
   rw[<-Nat.add_assoc,hr (l:=os.set (i+j) _) (by simp;omega),hr (l:=outs) (by omega),hr pt,List.take_set_of_le (cd _),List.getElem_set_self,Nat.pow_succ,<-Iq,<-jG];exact Qk (by rw[Nat.pow_add]) kX
  ·have hj:j=av.length:=by omega
   subst hj
   repeat refine ab rfl ?_
   refine aH 60 (.i .i64 ((i+av.length:Nat):Int)) rfl cB ?_
   repeat refine ab rfl ?_
   refine lH ?_;refine j9 (c%4294967296) ?_
   repeat refine ab rfl ?_
   refine b0 [0] (i+1,os.set (i+av.length) (c%4294967296)) ⟨by show xs.length-(i+1)<xs.length-i;omega,by omega,by simp[At],lC rE _ (Nat.mod_lt _ (by decide)),?_⟩ (cT ⟨rfl,rfl,rfl,rfl,eS,trivial⟩ ⟨_,rfl,rfl,fun _=>rfl⟩);rw[show i+1+av.length=i+av.length+1 by omega,hr (l:=os.set _ _) (by simp;omega),List.take_set_of_le (cd _),List.getElem_set_self,fY hc,kX,aD,hr h,ji (cd _),Nat.add_mul,Nat.mul_assoc]
 ·have ag:i=xs.length:=by omega
  subst ag
  repeat refine ab rfl ?_
  refine l7 65 ?_;refine bm ra outs ⟨bM,by omega⟩ ?_
  repeat refine ab rfl ?_
  refine a1 (a6 rfl rfl (.of ?_));show df _=df _;congr 1;rw[ji (l:=xs) (cd _),ji (l:=outs) (by omega)]at aD;rw[aD,h6,nk]
theorem SX{B X O r x d:Nat}(h:X=O*d+r):x+B*X=((r*B+x)/d+B*O)*d+(r*B+x)%d:=by
 have J:=Nat.div_add_mod (r*B+x) d;rw[Nat.add_mul,h,Nat.mul_assoc,Nat.mul_comm (_/d) d,Nat.mul_add,Nat.mul_comm r B]at *;omega
theorem SW{B r x d:Nat}(aF:r<d)(aa:x<B):(r*B+x)/d<B:=by
 rw[Nat.div_lt_iff_lt_mul (by omega)];have:(r+1)*B<=d*B:=g5 _ aF;rw[Nat.mul_comm B d];rw[Nat.add_mul]at this;omega
theorem Ri{h x k:Nat}(aa:x<2^k):h*2^k|||x=h*2^k+x:=by
 rw[Nat.mul_comm,<-Nat.two_pow_add_eq_or_of_lt aa]
theorem JO{r x:Nat}(aF:r<4294967296)(aa:x<4294967296):(r*2^32%18446744073709551616%18446744073709551616|||x%18446744073709551616%18446744073709551616)=r*4294967296+x:=by
 have aG:r*2^32%18446744073709551616%18446744073709551616=r*2^32:=by omega
 have e2:x%18446744073709551616%18446744073709551616=x:=by omega
 rw[aG,e2,Ri (k:=32) aa]
def KX:cn where
 L:=Nat×Nat
 args:=fun(a,b)=>[df a,.i .u32 b]
 pre:=fun(a,b)=>eo 1073741824 a∧0<b∧b<4294967296
 res:=fun(a,b)=>.b5 [df (a/b),.i .u32 ((a%b:Nat):Int)]
theorem KY:ca aN.ctx 152 KX.spec:=by
 refine cz [(76,q9.spec)] f152 ?_;intro⟨a,d⟩ ⟨(a2:(aU _ a).length<=_),(uP:0<d),(ax:d<_)⟩ H a4;have J:=gp (b:=4294967296) (by decide) a;have h6:=fU (b:=4294967296) (by decide) a;show bl.ok _ ⟨_,_,⟨_,_,[(0,db (aU 4294967296 a)),(1,.i .u32 d)]⟩⟩;generalize aU 4294967296 a=xs at *
 repeat refine ab rfl ?_
 refine n0 ft 0 ?_
 repeat refine ab rfl ?_
 refine e3 (L:=Nat×List Nat×Nat) (fun(k,outs,r)=>k<=xs.length∧outs.length=xs.length∧cY 4294967296 outs∧r<d∧val 4294967296 (xs.drop k)=val 4294967296 (outs.drop k)*d+r)
  (fun((k:Nat),(outs:List Nat),(r:Nat))=>⟨[.a 160 false 1 Nat ft outs],1,[(0,db xs),(1,.i .u32 d),(4,.bH 0 1 0 xs.length xs.length),(6,.i .u64 r),(7,.i .i64 ((k:Int)-1))]⟩)
  (fun l=>l.1) [0] (xs.length,List.replicate xs.length 0,0) ⟨by omega,by simp,qC (by decide) _,uP,by simp[val]⟩ (by show xs.length<cp+1;unfold cp;omega) (cT ⟨rfl,rfl,rfl,rfl,eS,trivial⟩ ⟨_,rfl,rfl,fun _=>rfl⟩) ?_
 rintro⟨k,outs,r⟩ ⟨ae,gB,bM,aF,aD⟩;cases k with
 |zero=>
  repeat refine ab rfl ?_
  refine l7 38 ?_;refine bm ra outs ⟨bM,by omega⟩ ?_
  repeat refine ab rfl ?_
  rw[List.drop_zero,List.drop_zero]at aD;have hq:a/d=val 4294967296 outs:=by rw[<-h6,aD,Nat.mul_comm];rw[Nat.mul_add_div uP,Nat.div_eq_of_lt aF];omega
  have hm:a%d=r:=by rw[<-h6,aD,Nat.mul_comm,Nat.mul_add_mod,fY aF]
  exact a1 (a6 rfl rfl (.b5 ⟨.of (by show df _=df (a/d);rw[hq]),.of (ff (by show((r%4294967296:Nat):Int)=((a%d:Nat):Int);omega)),trivial⟩))
 |succ m=>
  have aa:m<xs.length:=by omega
  have kp:=J _ (ew aa);have nJ:=SW aF kp;have jG:r*4294967296+xs[m]<18446744073709551616:=by
   have:(r+1)*4294967296<=4294967296*4294967296:=g5 _ (by omega);omega
  refine aH 7 (.i .i64 (m:Nat)) rfl ff ?_
  repeat refine ab rfl ?_
  refine aH 15 (.b true) rfl (by simp) ?_
  repeat refine ab rfl ?_
  refine gY xs[m] (cA aa) ?_
  iterate 3 refine ab rfl ?_
  refine aH 25 (.i .u64 ((r*4294967296+xs[m]:Nat):Int)) rfl (ff (congrArg _ (JO (by omega) kp))) ?_;generalize uM:r*4294967296+xs[m]=T at *
  repeat refine ab rfl ?_
  refine aH 30 (.i .u64 (d:Nat)) rfl ff ?_;refine ajS ?_
  repeat refine ab rfl ?_
  refine lH ?_;refine j9 (T/d%4294967296) ?_
  repeat refine ab rfl ?_
  refine aH 36 (.i .u64 (d:Nat)) rfl ff ?_;refine ajT ?_
  repeat refine ab rfl ?_
  have ak:xs.drop m=xs[m]::xs.drop (m+1):=iG aa;refine b0 [0] (m,outs.set m (T/d%4294967296),T%d) ⟨by simp,by omega,by simp[gB],lC bM _ (Nat.mod_lt _ (by decide)),Nat.mod_lt _ uP,?_⟩ (cT ⟨rfl,rfl,rfl,rfl,eS,trivial⟩ ⟨_,rfl,rfl,fun _=>rfl⟩);rw[ak,iG (l:=outs.set m _) (by simp;omega),List.getElem_set_self,List.drop_set_of_lt (by omega),fY nJ,<-uM];exact SX aD
theorem SK{h x s:Nat}(ak:s<32)(hh:h<2^s):h|||(x*2^s)%4294967296=h+(x*2^s)%4294967296:=by
 have e:4294967296=2^s*2^(32-s):=by rw[<-Nat.pow_add,show s+(32-s)=32 by omega]
 have e2:(x*2^s)%4294967296=2^s*(x%2^(32-s)):=by rw[e,Nat.mul_comm x,Nat.mul_mod_mul_left]
 rw[e2,Nat.or_comm,<-Nat.two_pow_add_eq_or_of_lt hh,Nat.add_comm]
theorem EX{s:Nat}(ak:s<32):2^s<=2147483648:=by
 have:2^s<=2^31:=Nat.pow_le_pow_right (by decide) (by omega);exact this
theorem akH{x s:Nat}(ak:s<32)(aa:x<4294967296):x*2^s<9223372036854775808:=by
 have J:x*2^s<=4294967295*2147483648:=Nat.mul_le_mul (by omega) (EX ak);omega
theorem akG{x s:Nat}(aa:x<4294967296):x*2^s/4294967296<2^s:=by
 have h0:0<2^s:=Nat.two_pow_pos s;rw[Nat.div_lt_iff_lt_mul (by decide),Nat.mul_comm];exact(Nat.mul_lt_mul_left h0).2 aa
theorem akI{P o h v a:Nat}(aD:o+P*h=a):o+P*(h+v%4294967296)+P*4294967296*(v/4294967296)=a+P*v:=by
 have J:P*v=P*(v%4294967296)+P*4294967296*(v/4294967296):=by
  rw[Nat.mul_assoc,<-Nat.mul_add];congr 1;omega
 rw[Nat.mul_add];omega
theorem KS(n:Nat):2^n=2^(n%32)*4294967296^(n/32):=by
 rw[show(4294967296:Nat)=2^32 from rfl,<-Nat.pow_mul,<-Nat.pow_add];congr 1;omega
theorem Rz{k:Nat}(h:k<9223372036854775808):al.i .i64 (IntKind.i64.wrap ((k:Int).tdiv 32))=al.i .i64 ((k/32:Nat):Int):=cB rfl (by show _<=((k/32:Nat):Int);omega) (by show((k/32:Nat):Int)<_;omega)
def F7:cn where
 L:=Nat×Nat
 args:=fun(a,b)=>[df a,.i .i64 b]
 pre:=fun(a,b)=>eo 1073741824 a∧b<34359738368
 res:=fun(a,b)=>df (a*2^b)
theorem yI:ca aN.ctx 182 F7.spec:=by
 refine cz [(76,q9.spec)] f182 ?_;intro⟨a,n⟩ ⟨(a2:(aU _ a).length<=_),(hn:n<_)⟩ H a4;have J:=gp (b:=4294967296) (by decide) a;have h6:=fU (b:=4294967296) (by decide) a;show bl.ok _ ⟨_,_,⟨_,_,[(0,db (aU 4294967296 a)),(1,.i .i64 n)]⟩⟩;generalize aU 4294967296 a=xs at *
 repeat refine ab rfl ?_
 refine cu (fun h=> ?_) (fun h=> ?_)
 ·have h0:xs=[]:=List.eq_nil_of_length_eq_zero (by omega);subst h0;have:a=0:=h6.symm;subst this
  repeat refine ab rfl ?_
  exact a1 (a6 rfl rfl (c5.nl.trans (.of (by show db []=df (0*2^n);rw[Nat.zero_mul];show _=db (aU _ 0);rw[fV]))))
 iterate 2 refine ab rfl ?_
 refine ab rfl ?_;refine ab rfl ?_;refine ab rfl ?_;refine ab rfl ?_;refine ab rfl ?_;refine aH 15 _ rfl (Rz (by omega)) ?_
 iterate 3 refine ab rfl ?_
 refine aH 17 (.i .i64 ((n%32:Nat):Int)) rfl (ff rfl) ?_;generalize hq:n/32=q;have ak:n%32<32:=Nat.mod_lt _ (by decide);have kP:=KS n;rw[hq]at kP;generalize n%32=s at *
 repeat refine ab rfl ?_
 refine aH 23 (.i .i64 ((xs.length+q+1:Nat):Int)) rfl (by rw[gD (n:=(xs.length:Int)+q) (by omega) (by omega)];exact cB) ?_;refine n0 ft 0 ?_
 repeat refine ab rfl ?_
 refine e3 (L:=Nat×List Nat) (fun(i,outs)=>i<=xs.length∧outs.length=xs.length+q+1∧cY 4294967296 outs∧(∃h,outs[i+q]? =some h∧h<2^s)∧val 4294967296 (outs.take (i+q+1))=val 4294967296 (xs.take i)*(2^s*4294967296^q))
  (fun((i:Nat),(outs:List Nat))=>⟨[.a 160 false 1 Nat ft outs],1,[(5,.i .i64 q),(6,.i .u64 s),(7,.bH 0 1 0 (xs.length+q+1) (xs.length+q+1)),(25,db xs),(26,.i .i64 xs.length),(27,.i .i64 i)]⟩)
  (fun l=>xs.length-l.1) [0] (0,List.replicate (xs.length+q+1) 0) ⟨by omega,by simp,qC (by decide) _,⟨0,by rw[List.getElem?_replicate,if_pos (by omega)],Nat.two_pow_pos s⟩,by rw[List.take_replicate,val_zero];simp[val]⟩ (by show xs.length-0<cp+1;unfold cp;omega) (cT ⟨rfl,kZ,rfl,rfl,rfl,rfl,trivial⟩ ⟨_,rfl,rfl,fun _=>rfl⟩) ?_
 rintro⟨i,outs⟩ ⟨ag,gB,bM,⟨h,hh,OK⟩,aD⟩
 repeat refine ab rfl ?_
 refine cu (fun bO=> ?_) (fun bO=> ?_)
 ·have bO:i<xs.length:=by omega
  have kp:=J _ (ew bO);have aW:=akH ak kp;have a0:=akG (s:=s) kp;have bx:=EX ak
  repeat refine ab rfl ?_
  refine gY xs[i] (cA bO) ?_
  iterate 3 refine ab rfl ?_
  iterate 3 refine ab rfl ?_
  iterate 3 refine ab rfl ?_
  iterate 2 refine ab rfl ?_
  refine aH 35 (.i .u64 ((xs[i]*2^s:Nat):Int)) rfl (ff ?_) ?_
  ·rw[fY (a:=xs[i]) (by omega),fY (by omega)]
  generalize g2:xs[i]*2^s=V at *
  repeat refine ab rfl ?_
  refine aH 39 (.i .i64 ((i+q:Nat):Int)) rfl cB ?_;refine lH ?_;refine yy h hh ?_
  iterate 3 refine ab rfl ?_
  refine aH 44 (.i .u32 ((h+V%4294967296:Nat):Int)) rfl (ff ?_) ?_
  ·rw[fY (a:=h) (by omega),Nat.mod_mod,<-g2,SK ak OK]
  have hu:h+V%4294967296<4294967296:=by
   rw[<-g2,<-SK ak OK];exact Nat.or_lt_two_pow (n:=32) (by omega) (Nat.mod_lt _ (by decide))
  generalize aag:h+V%4294967296=eQ at *;refine lH ?_;refine j9 eQ ?_
  repeat refine ab rfl ?_
  refine aH 50 (.i .i64 ((i+q+1:Nat):Int)) rfl (by rw[gD (n:=(i:Int)+q) (by omega) (by omega)];exact cB) ?_;refine lH ?_;refine j9 (V/2^32%4294967296) ?_
  repeat refine ab rfl ?_
  have aah:V/2^32%4294967296=V/4294967296:=by omega
  rw[aah];refine b0 [0] (i+1,(outs.set (i+q) eQ).set (i+q+1) (V/4294967296)) ⟨by show xs.length-(i+1)<xs.length-i;omega,by omega,by simp[gB],lC (lC bM _ hu) _ (by omega),⟨V/4294967296,by rw[show i+1+q=i+q+1 by omega,List.getElem?_set_self (by simp;omega)],a0⟩,?_⟩
   (cT ⟨rfl,rfl,rfl,rfl,rfl,eS,trivial⟩ ⟨_,rfl,rfl,fun _=>rfl⟩)
  have bR:val 4294967296 (outs.take (i+q))+4294967296^(i+q)*h=val 4294967296 (xs.take i)*(2^s*4294967296^q):=by
   rw[<-aD,hr (by omega)];congr 2;exact(Option.some.inj ((cA (by omega)).symm.trans hh)).symm
  have aG:=akI (v:=V) bR;rw[show i+1+q+1=i+q+1+1 by omega,hr (by simp;omega),List.getElem_set_self,List.take_set_of_le (cd _),hr (by simp;omega),List.getElem_set_self,List.take_set_of_le (cd _),hr bO,<-aag,Nat.pow_succ,aG,<-g2,Nat.add_mul,Nat.pow_add];congr 1
  ac_rfl
 ·have ag:i=xs.length:=by omega
  subst ag
  repeat refine ab rfl ?_
  refine l7 56 ?_;refine bm ra outs ⟨bM,by omega⟩ ?_
  repeat refine ab rfl ?_
  refine a1 (a6 rfl rfl (.of ?_));show df _=df _;congr 1;rw[ji (l:=xs) (cd _),ji (l:=outs) (by omega)]at aD;rw[aD,h6,<-kP]
theorem oV{b:Nat}{l:List Nat}(h:cY b l)(k:Nat):cY b (l.take k):=fun x aa=>h x (List.mem_of_mem_take aa)
theorem tr{b:Nat}{l:List Nat}(h:cY b l)(k:Nat):cY b (l.drop k):=fun x aa=>h x (List.mem_of_mem_drop aa)
theorem Gl{b:Nat}{l:List Nat}{k:Nat}(ae:k<=l.length):val b l=val b (l.take k)+b^k*val b (l.drop k):=by
 have:=k8 b (l.take k) (l.drop k);rw[List.take_append_drop,List.length_take,Nat.min_eq_left ae]at this;exact this
theorem Uy{b:Nat}(hb:0<b){l:List Nat}(h:cY b l){k:Nat}(ae:k<=l.length):val b l/b^k=val b (l.drop k):=by
 have U:=jz (oV h k);rw[List.length_take,Nat.min_eq_left ae]at U;rw[Gl ae,Nat.add_mul_div_left _ _ (Nat.pow_pos hb),Nat.div_eq_of_lt U,Nat.zero_add]
theorem akN{W v R s:Nat}(ak:s<32)(gr:W=v+18446744073709551616*R):(W/2^s)%4294967296=(v/2^s)%4294967296:=by
 have e:18446744073709551616*R=2^s*(4294967296*(2^(32-s)*R)):=by
  rw[show(18446744073709551616:Nat)=4294967296*2^32 from rfl,show(2:Nat)^32=2^s*2^(32-s) by rw[<-Nat.pow_add,show s+(32-s)=32 by omega]]
  ac_rfl
 rw[gr,e,Nat.add_mul_div_left _ _ (Nat.two_pow_pos s),Nat.add_mul_mod_self_left]
def SL:cn where
 L:=Nat×Nat
 args:=fun(a,b)=>[df a,.i .i64 b]
 pre:=fun(a,b)=>eo 1073741824 a∧b<9223372036854775808
 res:=fun(a,b)=>df (a/2^b)
theorem akM:ca aN.ctx 185 SL.spec:=by
 refine cz [(76,q9.spec)] f185 ?_;intro⟨a,n⟩ ⟨(a2:(aU _ a).length<=_),(hn:n<_)⟩ H a4;have J:=gp (b:=4294967296) (by decide) a;have h6:=fU (b:=4294967296) (by decide) a;show bl.ok _ ⟨_,_,⟨_,_,[(0,db (aU 4294967296 a)),(1,.i .i64 n)]⟩⟩;generalize aU 4294967296 a=xs at *
 iterate 3 refine ab rfl ?_
 iterate 3 refine ab rfl ?_
 iterate 3 refine ab rfl ?_
 refine aH 11 _ rfl (Rz (by omega)) ?_
 iterate 2 refine ab rfl ?_
 refine aH 13 (.i .i64 ((n%32:Nat):Int)) rfl (ff rfl) ?_;generalize hq:n/32=q;have ak:n%32<32:=Nat.mod_lt _ (by decide);have kP:=KS n;rw[hq]at kP;generalize n%32=s at *
 repeat refine ab rfl ?_
 have hdiv:a/2^n=a/4294967296^q/2^s:=by rw[kP,Nat.mul_comm,Nat.div_div_eq_div_mul]
 refine cu (fun h=> ?_) (fun h=> ?_)
 ·repeat refine ab rfl ?_
  have U:=jz J;have ah:4294967296^xs.length<=4294967296^q:=Nat.pow_le_pow_right (by decide) (by omega);exact a1 (a6 rfl rfl (c5.nl.trans (.of (by show db []=df (a/2^n);rw[hdiv,Nat.div_eq_of_lt (show a<4294967296^q by omega),Nat.zero_div];show _=db (aU _ 0);rw[fV]))))
 have xB:q<xs.length:=by omega
 repeat refine ab rfl ?_
 refine aH 22 (.i .i64 ((xs.length-q:Nat):Int)) rfl cB ?_;refine n0 ft 0 ?_
 repeat refine ab rfl ?_
 have aal:a/4294967296^q=val 4294967296 (xs.drop q):=by rw[<-h6,Uy (by decide) J (by omega)]
 have Ou:=jz (tr J q);rw[List.length_drop]at Ou;generalize Dn:xs.length-q=N at *;refine e3 (L:=Nat×List Nat) (fun(i,outs)=>i<=N∧outs.length=N∧cY 4294967296 outs∧val 4294967296 (outs.take i)=(val 4294967296 (xs.drop q)/2^s)%4294967296^i)
  (fun((i:Nat),(outs:List Nat))=>⟨[.a 160 false 1 Nat ft outs],1,[(0,db xs),(5,.i .i64 q),(6,.i .u64 s),(7,.bH 0 1 0 N N),(25,.i .i64 N),(26,.i .i64 i)]⟩)
  (fun l=>N-l.1) [0] (0,List.replicate N 0) ⟨by omega,by simp,qC (by decide) _,by simp[val,Nat.mod_one]⟩ (by show N-0<cp+1;unfold cp;omega) (cT ⟨rfl,rfl,kZ,rfl,rfl,rfl,trivial⟩ ⟨_,rfl,rfl,fun _=>rfl⟩) ?_
 rintro⟨i,outs⟩ ⟨ag,gB,bM,aD⟩
 repeat refine ab rfl ?_
 refine cu (fun bO=> ?_) (fun bO=> ?_)
 ·have kS:i+q<xs.length:=by omega
  have kp:=J _ (ew kS)
  repeat refine ab rfl ?_
  refine aH 32 (.i .i64 ((i+q:Nat):Int)) rfl cB ?_;refine gY xs[i+q] (cA kS) ?_
  iterate 2 refine ab rfl ?_
  refine aH 35 (.i .u64 (xs[i+q]:Nat)) rfl ff ?_
  repeat refine ab rfl ?_
  refine hk (fun(v:Nat)=>∃R,val 4294967296 (xs.drop (i+q))=v+18446744073709551616*R) (fun(v:Nat)=>⟨[.a 160 false 1 Nat ft outs],1,[(9,.i .u64 v),(8,.i .i64 i),(0,db xs),(5,.i .i64 q),(6,.i .u64 s),(7,.bH 0 1 0 N N),(25,.i .i64 N),(26,.i .i64 i)]⟩) ?_ ?_
  ·have NJ:IntKind.i64.wrap (IntKind.i64.wrap ((i:Int)+q)+1)=((i+q+1:Nat):Int):=by rw[gD (n:=(i:Int)+q) (by omega) (by omega),gD]<;>omega
   rw[NJ];refine cu (fun Af=> ?_) (fun Af=> ?_)
   ·have Af:i+q+1<xs.length:=by omega
    have D5:=J _ (ew Af)
    repeat refine ab rfl ?_
    refine aH 48 (.i .i64 ((i+q+1:Nat):Int)) rfl (ff NJ) ?_;refine gY xs[i+q+1] (cA Af) ?_
    repeat refine ab rfl ?_
    refine b0 [0] (xs[i+q]+4294967296*xs[i+q+1]) ⟨val 4294967296 (xs.drop (i+q+1+1)),?_⟩ (cT ⟨kZ (congrArg _ ?_),rfl,rfl,rfl,rfl,rfl,rfl,rfl,trivial⟩ ⟨_,rfl,rfl,fun _=>rfl⟩)
    ·rw[iG kS,iG Af,val,val];omega
    ·have aG:xs[i+q+1]%18446744073709551616*2^32%18446744073709551616%18446744073709551616=xs[i+q+1]*2^32:=by omega
     have e2:xs[i+q]%18446744073709551616=xs[i+q]:=by omega
     rw[aG,e2,Nat.or_comm,Ri (k:=32) kp];omega
   ·repeat refine ab rfl ?_
    refine b0 [0] xs[i+q] ⟨0,?_⟩ (cT ⟨rfl,rfl,rfl,rfl,rfl,rfl,rfl,rfl,trivial⟩ ⟨_,rfl,rfl,fun _=>rfl⟩);rw[iG kS,List.drop_of_length_le (by omega),val,val]
  rintro(v:Nat) ⟨R,c9⟩
  repeat refine ab rfl ?_
  refine ajV ?_
  repeat refine ab rfl ?_
  refine lH ?_;refine j9 (v/2^s%4294967296) ?_
  repeat refine ab rfl ?_
  refine b0 [0] (i+1,outs.set i (v/2^s%4294967296)) ⟨by show N-(i+1)<N-i;omega,by omega,by simp[gB],lC bM _ (Nat.mod_lt _ (by decide)),?_⟩ (cT ⟨rfl,rfl,rfl,rfl,rfl,eS,trivial⟩ ⟨_,rfl,rfl,fun _=>rfl⟩);rw[hr (by simp;omega),List.take_set_of_le (cd _),List.getElem_set_self,aD,Nat.pow_succ,Nat.mod_mul,<-akN ak c9,Nat.div_div_eq_div_mul,Nat.mul_comm (2^s),<-Nat.div_div_eq_div_mul,Uy (by decide) (tr J q) (by simp;omega),List.drop_drop,Nat.add_comm q i]
 ·have aa0:i=N:=by omega
  subst aa0
  repeat refine ab rfl ?_
  refine l7 62 ?_;refine bm ra outs ⟨bM,by omega⟩ ?_
  repeat refine ab rfl ?_
  refine a1 (a6 rfl rfl (.of ?_));show df _=df _;congr 1;rw[ji (l:=outs) (by omega),fY (Nat.lt_of_le_of_lt (Nat.div_le_self _ _) Ou)]at aD;show _=a/2^n;rw[aD,hdiv,aal]
def bA(n:Nat):Nat:=if n=0 then 0 else Nat.log2 n+1
theorem sC{n:Nat}(h:1<=n):bA n=bA (n/2)+1:=by
 unfold bA;rw[if_neg (by omega)];by_cases U:n/2=0
 ·rw[if_pos U];have:n=1:=by omega
  subst this;rfl
 ·rw[if_neg U,Nat.log2_def,if_pos (by omega)]
theorem zl:∀(k n:Nat),2^k<=n->bA n=bA (n/2^k)+k
 |0,n,_=>by simp
 |k+1,n,h=>by
  have h0:2^(k+1)=2*2^k:=by rw[Nat.pow_succ,Nat.mul_comm]
  have hp:0<2^k:=Nat.two_pow_pos k;rw[sC (by omega),zl k (n/2) (by rw[Nat.le_div_iff_mul_le (by decide)];omega),Nat.div_div_eq_div_mul,h0];omega
theorem nq{n:Nat}(h:n≠0):2^(bA n-1)<=n∧n<2^bA n:=by
 unfold bA;rw[if_neg h];exact⟨Nat.log2_self_le h,Nat.lt_log2_self⟩
theorem VQ{n k:Nat}(J:2^k<=n)(U:n<2^(k+1)):bA n=k+1:=by
 have h0:n≠0:=by have:=Nat.two_pow_pos k;omega
 obtain⟨a,b⟩:=nq h0;have:=(Nat.pow_lt_pow_iff_right (by decide:1<2)).1 (Nat.lt_of_le_of_lt J b);have:=(Nat.pow_lt_pow_iff_right (by decide:1<2)).1 (Nat.lt_of_le_of_lt a U);omega
def oR:cn where
 L:=Nat
 args:=fun n=>[.i .u32 n]
 pre:=fun n=>n<4294967296
 res:=fun n=>.i .i64 (bA n:Nat)
theorem PN:ca aN.ctx 290 oR.spec:=by
 refine cz [] f290 ?_;intro(n:Nat) (hn:n<4294967296) H a4
 repeat refine ab rfl ?_
 refine hk (fun((m:Nat),(k:Nat))=>m<65536∧k<=16∧bA n=bA m+k) (fun(m,k)=>⟨[],0,[(0,.i .u32 m),(2,.i .i64 k)]⟩) ?_ ?_
 ·refine cu (fun h=> ?_) (fun h=> ?_)
  ·repeat refine ab rfl ?_
   exact b0 [] (n/65536,16) ⟨by omega,by decide,zl 16 n (by omega)⟩ (dF ⟨rfl,rfl,trivial⟩)
  ·repeat refine ab rfl ?_
   exact b0 [] (n,0) ⟨by omega,by decide,rfl⟩ (dF ⟨rfl,rfl,trivial⟩)
 rintro⟨m,k⟩ ⟨hm,ae,hb⟩
 repeat refine ab rfl ?_
 refine hk (fun((m:Nat),(k:Nat))=>m<256∧k<=24∧bA n=bA m+k) (fun(m,k)=>⟨[],0,[(0,.i .u32 m),(2,.i .i64 k)]⟩) ?_ ?_
 ·refine cu (fun h=> ?_) (fun h=> ?_)
  ·repeat refine ab rfl ?_
   exact b0 [] (m/256,k+8) ⟨by omega,by omega,by rw[hb,zl 8 m (by omega),show(2:Nat)^8=256 from rfl];omega⟩ (dF ⟨rfl,eS,trivial⟩)
  ·repeat refine ab rfl ?_
   exact b0 [] (m,k) ⟨by omega,by omega,hb⟩ (dF ⟨rfl,rfl,trivial⟩)
 rintro⟨m,k⟩ ⟨hm,ae,hb⟩
 repeat refine ab rfl ?_
 refine aH 15 (.i .u8 (m:Nat)) rfl ff ?_;have amc:∀m,m<256->([0,1,2,2,3,3,3,3,4,4,4,4,4,4,4,4,5,5,5,5,5,5,5,5,5,5,5,5,5,5,5,5,6,6,6,6,6,6,6,6,6,6,6,6,6,6,6,6,6,6,6,6,6,6,6,6,6,6,6,6,6,6,6,6,7,7,7,7,7,7,7,7,7,7,7,7,7,7,7,7,7,7,7,7,7,7,7,7,7,7,7,7,7,7,7,7,7,7,7,7,7,7,7,7,7,7,7,7,7,7,7,7,7,7,7,7,7,7,7,7,7,7,7,7,7,7,7,7,8,8,8,8,8,8,8,8,8,8,8,8,8,8,8,8,8,8,8,8,8,8,8,8,8,8,8,8,8,8,8,8,8,8,8,8,8,8,8,8,8,8,8,8,8,8,8,8,8,8,8,8,8,8,8,8,8,8,8,8,8,8,8,8,8,8,8,8,8,8,8,8,8,8,8,8,8,8,8,8,8,8,8,8,8,8,8,8,8,8,8,8,8,8,8,8,8,8,8,8,8,8,8,8,8,8,8,8,8,8,8,8,8,8,8,8,8,8,8,8,8,8,8,8,8,8,8,8]:List UInt8)[m]? =some (UInt8.ofNat (bA m))∧bA m<=8:=by decide +kernel
 obtain⟨t1,t2⟩:=amc m hm;refine lI _ t1 ?_
 repeat refine ab rfl ?_
 have e:(UInt8.ofNat (bA m)).toNat=bA m:=by simp;omega
 rw[e];refine a1 (a6 rfl rfl (.of ?_));show al.i _ _=al.i .i64 (bA n:Nat);rw[hb,gD (n:=((bA m:Nat):Int)) (by omega) (by omega)];exact cB
def P0:cn where
 L:=Nat
 args:=fun n=>[.i .u32 n]
 pre:=fun n=>n<4294967296
 res:=fun n=>.i .i64 ((32-bA n:Nat):Int)
theorem G5{n:Nat}(h:n<4294967296):bA n<=32:=by
 by_cases h0:n=0
 ·subst h0;decide
 ·have:=(nq h0).1;have:=(Nat.pow_lt_pow_iff_right (by decide:1<2)).1 (Nat.lt_of_le_of_lt this (show n<2^32 from h));omega
theorem ahS:ca aN.ctx 181 P0.spec:=by
 refine cz [(290,oR.spec)] f181 ?_;intro(n:Nat) (hn:n<4294967296) H a4
 repeat refine ab rfl ?_
 refine bm PN n hn ?_
 repeat refine ab rfl ?_
 have:=G5 hn;exact a1 (a6 rfl rfl (.of cB))
def lS(b:Nat):Nat->Nat->List Nat
 |0,_=>[]
 |k+1,n=>n%b::lS b k (n/b)
theorem zD(b:Nat):∀k n,(lS b k n).length=k
 |0,_=>rfl
 |k+1,n=>by simp[lS,zD b k]
theorem NC{b:Nat}(hb:0<b):∀k n,cY b (lS b k n)
 |0,_=>fun x aa=>by simp[lS]at aa
 |k+1,n=>fun x aa=>by
  rcases List.mem_cons.1 aa with rfl|aa
  ·exact Nat.mod_lt _ hb
  ·exact NC hb k _ x aa
theorem Hn{b:Nat}:∀k n,val b (lS b k n)=n%b^k
 |0,n=>by simp[lS,val,Nat.mod_one]
 |k+1,n=>by rw[lS,val,Hn k,Nat.pow_succ,Nat.mul_comm (b^k) b,Nat.mod_mul]
theorem CW{b:Nat}(hb:0<b):∀{l:List Nat} {n k:Nat},cY b l->l.length=k->val b l=n->l=lS b k n
 |[],_,_,_,rfl,_=>rfl
 |d::l,_,_,h,rfl,rfl=>by
  have J:=h d (by simp);rw[List.length_cons,lS,val,Nat.add_mul_mod_self_left,fY J,Nat.add_mul_div_left _ _ hb,Nat.div_eq_of_lt J,Nat.zero_add,<-CW hb (fun x aa=>h x (List.mem_cons_of_mem _ aa)) rfl rfl]
theorem SZ{us os:List Nat}{j k:Nat}(hl:os.length=us.length)(hj:j+k<=us.length)(ak:∀p,p<j∨j+k<=p->os[p]? =us[p]?):os=us.take j++((os.drop j).take k++us.drop (j+k)):=by
 apply List.ext_getElem?;intro p;by_cases J:p<j
 ·rw[List.getElem?_append_left (by simp;omega),List.getElem?_take,if_pos J];exact ak p (.inl J)
 ·rw[List.getElem?_append_right (by simp;omega),List.length_take,Nat.min_eq_left (by omega)];by_cases U:p<j+k
  ·rw[List.getElem?_append_left (by simp;omega),List.getElem?_take,if_pos (by omega),List.getElem?_drop];congr 1;omega
  ·rw[List.getElem?_append_right (by simp;omega)];have:((os.drop j).take k).length=k:=by simp;omega
   rw[this,List.getElem?_drop,ak p (.inr (by omega))];congr 1;omega
theorem p0{b:Nat}{l:List Nat}{j i:Nat}(h:j+i<l.length):val b ((l.drop j).take (i+1))=val b ((l.drop j).take i)+b^i*l[j+i]:=by
 rw[hr (by simp;omega),List.getElem_drop]
def il(us:List Nat)(j k n:Nat):List Nat:=us.take j++(lS 4294967296 k n++us.drop (j+k))
def eK(us:List Nat)(j k:Nat):Nat:=val 4294967296 ((us.drop j).take k)
def Tr:jO where
 L:=List Nat×Nat×List Nat×Nat
 own:=fun(us,_,_,_)=>[.a 160 false 1 Nat ft us]
 args:=fun(us,j,vs,g)=>[.bH 0 1 j (us.length-j) (us.length-j),db vs,.i .u64 g]
 pre:=fun(us,j,vs,g)=>j+vs.length<us.length∧cY 4294967296 us∧cY 4294967296 vs∧g<4294967296∧us.length<=1099511627776
 bZ:=fun(us,j,vs,g)=>[.a 160 false 1 Nat ft (il us j (vs.length+1) (eK us j (vs.length+1)+(if eK us j (vs.length+1)<g*val 4294967296 vs then 4294967296^(vs.length+1)else 0)-g*val 4294967296 vs))]
 res:=fun(us,j,vs,g)=>.b (decide (eK us j (vs.length+1)<g*val 4294967296 vs))
theorem ame:ca aN.ctx 183 Tr.spec:=by
 refine M3 [] f183 ?_;rintro⟨us,j,vs,g⟩ ⟨h0,J,U,aZ,rI⟩ H i0 a4 ag;obtain⟨kE,rfl⟩:∃b,i0=[b]:=List.length_eq_one_iff.1 ag;show bl.ok _ ⟨_,_,⟨[.a 160 false 1 Nat ft us],1,[(0,.bH 0 1 j (us.length-j) (us.length-j)),(1,db vs),(2,.i .u64 g)]⟩⟩
 repeat refine ab rfl ?_
 refine e3 (L:=Nat×List Nat×Nat×Nat) (fun(i,os,c,w)=>i<=vs.length∧os.length=us.length∧cY 4294967296 os∧c<4294967296∧w<=1∧(∀p,p<j∨j+i<=p->os[p]? =us[p]?)∧eK us j i+4294967296^i*(c+w)=eK os j i+g*val 4294967296 (vs.take i))
  (fun((i:Nat),(os:List Nat),(c:Nat),(w:Nat))=>⟨[.a 160 false 1 Nat ft os],1,[(0,.bH 0 1 j (us.length-j) (us.length-j)),(1,db vs),(2,.i .u64 g),(7,.i .u64 c),(8,.i .u64 w),(13,db vs),(14,.i .i64 vs.length),(15,.i .i64 i)]⟩)
  (fun l=>vs.length-l.1) [0] (0,us,0,0) ⟨by omega,rfl,J,by omega,by omega,fun _ _=>rfl,by simp[eK,val]⟩ (by show vs.length-0<cp+1;unfold cp;omega) (cT ⟨rfl,rfl,rfl,rfl,rfl,rfl,rfl,rfl,trivial⟩ ⟨_,rfl,rfl,fun _=>rfl⟩) ?_
 rintro⟨i,os,c,w⟩ ⟨js,gB,bM,hc,hw,lr,aD⟩
 repeat refine ab rfl ?_
 refine cu (fun h=> ?_) (fun h=> ?_)
 ·have h:i<vs.length:=by omega
  have aa:=U _ (ew h);have mA:j+i<os.length:=by omega
  have u1:os[j+i]=us[j+i]:=by
   have:=lr (j+i) (.inr (cd _));rw[cA mA,cA (by omega)]at this;exact Option.some.inj this
  have ao:=bM _ (ew mA);obtain⟨e0,gV,l2⟩:=Jp (o:=0) hc aZ aa (by decide)
  repeat refine ab rfl ?_
  refine gY vs[i] (cA h) ?_
  repeat refine bd 25 rfl ?_
  refine aH 25 (.i .u64 ((c+g*vs[i]:Nat):Int)) rfl (ff (congrArg _ ?_)) ?_
  ·rw[fY (a:=vs[i]) (by omega),fY e0,fY (by omega)]
  have jG:c+g*vs[i]<18446744073709551616:=by omega
  generalize uM:c+g*vs[i]=T at *
  repeat refine ab rfl ?_
  refine tI ?_;refine yy os[j+i] (cA mA) ?_
  repeat refine bd 36 rfl ?_
  refine aH 36 (.i .u64 (((os[j+i]+18446744073709551616-T%4294967296-w)%18446744073709551616:Nat):Int)) rfl ff ?_;generalize aX:(os[j+i]+18446744073709551616-T%4294967296-w)%18446744073709551616=t at *
  repeat refine ab rfl ?_
  refine tI ?_;refine j9 (t%4294967296) ?_
  repeat refine ab rfl ?_
  refine b0 [0] (i+1,os.set (j+i) (t%4294967296),T/4294967296,t/9223372036854775808) ⟨by show vs.length-(i+1)<vs.length-i;omega,by omega,by simp[gB],lC bM _ (Nat.mod_lt _ (by decide)),by omega,by omega,fun p hp=> ?_,?_⟩
   (cT ⟨rfl,rfl,rfl,rfl,rfl,rfl,rfl,eS,trivial⟩ ⟨_,rfl,rfl,fun _=>rfl⟩)
  ·rw[List.getElem?_set_ne (by omega)];exact lr p (by omega)
  ·unfold eK at aD⊢;rw[p0 (by omega),p0 (l:=os.set _ _) (by simp;omega),List.getElem_set_self,hr h,<-u1,Nat.pow_succ];have aG:((os.set (j+i) (t%4294967296)).drop j).take i=(os.drop j).take i:=by
    rw[List.drop_set];rw[if_neg (by omega),show j+i-j=i by omega,List.take_set_of_le (cd _)]
   rw[aG];have ax:os[j+i]+4294967296*(t/9223372036854775808)=t%4294967296+T%4294967296+w:=by omega
   have aaf:T=T%4294967296+4294967296*(T/4294967296):=by omega
   generalize t/9223372036854775808=w' at *;generalize T/4294967296=bE at *;generalize T%4294967296=gn at *;generalize t%4294967296=kJ at *;generalize 4294967296^i=P at *;have bg:P*(os[j+i]+4294967296*w')=P*(kJ+gn+w):=by rw[ax]
   have bK:P*(c+g*vs[i])=P*(gn+4294967296*bE):=by rw[uM,aaf]
   rw[Nat.mul_add g,Nat.mul_left_comm g P];simp only[Nat.mul_add,Nat.mul_assoc]at bg bK aD⊢;omega
 ·have ag:i=vs.length:=by omega
  subst ag;have mA:j+vs.length<os.length:=by omega
  have u1:os[j+vs.length]=us[j+vs.length]:=by
   have:=lr (j+vs.length) (.inr (cd _));rw[cA mA,cA (by omega)]at this;exact Option.some.inj this
  have ao:=bM _ (ew mA)
  repeat refine ab rfl ?_
  refine tI ?_;refine yy os[j+vs.length] (cA mA) ?_
  repeat refine bd 56 rfl ?_
  refine aH 56 (.i .u64 (((os[j+vs.length]+18446744073709551616-c-w)%18446744073709551616:Nat):Int)) rfl ff ?_;generalize aX:(os[j+vs.length]+18446744073709551616-c-w)%18446744073709551616=t at *
  repeat refine ab rfl ?_
  refine tI ?_;refine j9 (t%4294967296) ?_
  repeat refine ab rfl ?_
  have Au:cY 4294967296 (os.set (j+vs.length) (t%4294967296)):=lC bM _ (Nat.mod_lt _ (by decide));have mF:(((os.set (j+vs.length) (t%4294967296)).drop j).take (vs.length+1)).length=vs.length+1:=by simp;omega
  have Dp:=jz (oV (tr Au j) (vs.length+1));rw[mF]at Dp;have s8:=SZ (us:=us) (os:=os.set (j+vs.length) (t%4294967296)) (j:=j) (k:=vs.length+1) (by simp[gB]) (by omega) (fun p hp=>by rw[List.getElem?_set_ne (by omega)];exact lr p (by omega));have HZ:=CW (b:=4294967296) (by decide) (oV (tr Au j) (vs.length+1)) mF rfl;generalize aae:val 4294967296 (((os.set (j+vs.length) (t%4294967296)).drop j).take (vs.length+1))=O at *;have key:eK us j (vs.length+1)+4294967296^(vs.length+1)*(t/9223372036854775808)=O+g*val 4294967296 vs:=by
   rw[<-aae];unfold eK at aD⊢;rw[p0 (by omega),p0 (l:=os.set _ _) (by simp;omega),List.getElem_set_self,<-u1,Nat.pow_succ];have aG:((os.set (j+vs.length) (t%4294967296)).drop j).take vs.length=(os.drop j).take vs.length:=by
    rw[List.drop_set];rw[if_neg (by omega),show j+vs.length-j=vs.length by omega,List.take_set_of_le (cd _)]
   rw[aG];rw[ji (cd _)]at aD;have ax:os[j+vs.length]+4294967296*(t/9223372036854775808)=t%4294967296+c+w:=by omega
   generalize t/9223372036854775808=w' at *;generalize t%4294967296=kJ at *;generalize 4294967296^vs.length=P at *;have bg:P*(os[j+vs.length]+4294967296*w')=P*(kJ+c+w):=by rw[ax]
   simp only[Nat.mul_add,Nat.mul_assoc]at bg aD⊢;omega
  have HQ:eK us j (vs.length+1)+(if eK us j (vs.length+1)<g*val 4294967296 vs then 4294967296^(vs.length+1)else 0)-g*val 4294967296 vs=O∧(t/2^63=1↔eK us j (vs.length+1)<g*val 4294967296 vs):=by
   rcases(show t/9223372036854775808=0∨t/9223372036854775808=1 by omega)with hb|hb
   ·rw[hb]at key;rw[if_neg (by omega)];exact⟨by omega,by omega⟩
   ·rw[hb]at key;rw[if_pos (by omega)];exact⟨by omega,by omega⟩
  refine a1 ⟨.inr rfl,⟨_,rfl,rfl,.of ?_⟩,[0],rfl,cT trivial ⟨_,rfl,?_,fun _=>rfl⟩⟩
  ·show al.b (decide (((t/2^63:Nat):Int)=1))=al.b (decide (eK us j (vs.length+1)<g*val 4294967296 vs));congr 1;rw[decide_eq_decide,<-HQ.2];exact⟨fun h=>by omega,fun h=>by omega⟩
  ·show bJ.a _ _ _ _ _ _=bJ.a _ _ _ _ _ _;congr 1;rw[HQ.1];unfold il;rw[<-HZ];exact s8
def Oe:jO where
 L:=List Nat×Nat×List Nat
 own:=fun(us,_,_)=>[.a 160 false 1 Nat ft us]
 args:=fun(us,j,vs)=>[.bH 0 1 j (us.length-j) (us.length-j),db vs]
 pre:=fun(us,j,vs)=>j+vs.length<us.length∧cY 4294967296 us∧cY 4294967296 vs∧us.length<=1099511627776
 bZ:=fun(us,j,vs)=>[.a 160 false 1 Nat ft (il us j (vs.length+1) (eK us j (vs.length+1)+val 4294967296 vs))]
 res:=fun _=>.b5 []
theorem Hm{b:Nat}:∀k n,lS b k (n%b^k)=lS b k n
 |0,n=>rfl
 |k+1,n=>by
  rw[lS,lS,Nat.pow_succ,Nat.mul_comm (b^k) b,Nat.mod_mul_right_mod,Nat.mod_mul_right_div_self,Hm]
theorem ZE:ca aN.ctx 184 Oe.spec:=by
 refine M3 [] f184 ?_;rintro⟨us,j,vs⟩ ⟨h0,J,U,rI⟩ H i0 a4 ag;obtain⟨kE,rfl⟩:∃b,i0=[b]:=List.length_eq_one_iff.1 ag;show bl.ok _ ⟨_,_,⟨[.a 160 false 1 Nat ft us],1,[(0,.bH 0 1 j (us.length-j) (us.length-j)),(1,db vs)]⟩⟩
 repeat refine ab rfl ?_
 refine e3 (L:=Nat×List Nat×Nat) (fun(i,os,c)=>i<=vs.length∧os.length=us.length∧cY 4294967296 os∧c<=1∧(∀p,p<j∨j+i<=p->os[p]? =us[p]?)∧eK os j i+4294967296^i*c=eK us j i+val 4294967296 (vs.take i))
  (fun((i:Nat),(os:List Nat),(c:Nat))=>⟨[.a 160 false 1 Nat ft os],1,[(0,.bH 0 1 j (us.length-j) (us.length-j)),(1,db vs),(4,.i .u64 c),(7,db vs),(8,.i .i64 vs.length),(9,.i .i64 i)]⟩)
  (fun l=>vs.length-l.1) [0] (0,us,0) ⟨by omega,rfl,J,by omega,fun _ _=>rfl,by simp[eK,val]⟩ (by show vs.length-0<cp+1;unfold cp;omega) (cT ⟨rfl,rfl,rfl,rfl,rfl,rfl,trivial⟩ ⟨_,rfl,rfl,fun _=>rfl⟩) ?_
 rintro⟨i,os,c⟩ ⟨js,gB,bM,hc,lr,aD⟩
 repeat refine ab rfl ?_
 refine cu (fun h=> ?_) (fun h=> ?_)
 ·have h:i<vs.length:=by omega
  have aa:=U _ (ew h);have mA:j+i<os.length:=by omega
  have u1:os[j+i]=us[j+i]:=by
   have:=lr (j+i) (.inr (cd _));rw[cA mA,cA (by omega)]at this;exact Option.some.inj this
  have ao:=bM _ (ew mA)
  repeat refine ab rfl ?_
  refine gY vs[i] (cA h) ?_
  repeat refine ab rfl ?_
  refine tI ?_;refine yy os[j+i] (cA mA) ?_
  repeat refine bd 23 rfl ?_
  refine aH 23 (.i .u64 ((c+os[j+i]+vs[i]:Nat):Int)) rfl ff ?_
  repeat refine ab rfl ?_
  refine tI ?_;refine j9 ((c+os[j+i]+vs[i])%4294967296) ?_
  repeat refine ab rfl ?_
  refine b0 [0] (i+1,os.set (j+i) ((c+os[j+i]+vs[i])%4294967296),(c+os[j+i]+vs[i])/4294967296) ⟨by show vs.length-(i+1)<vs.length-i;omega,by omega,by simp[gB],lC bM _ (Nat.mod_lt _ (by decide)),by omega,fun p hp=> ?_,?_⟩
   (cT ⟨rfl,rfl,rfl,rfl,rfl,eS,trivial⟩ ⟨_,rfl,rfl,fun _=>rfl⟩)
  ·rw[List.getElem?_set_ne (by omega)];exact lr p (by omega)
  ·unfold eK at aD⊢;rw[p0 (l:=us) (by omega),p0 (l:=os.set _ _) (by simp;omega),List.getElem_set_self,hr h,<-u1,Nat.pow_succ];have aG:((os.set (j+i) ((c+os[j+i]+vs[i])%4294967296)).drop j).take i=(os.drop j).take i:=by
    rw[List.drop_set];rw[if_neg (by omega),show j+i-j=i by omega,List.take_set_of_le (cd _)]
   rw[aG];exact LR (by decide) aD
 ·have ag:i=vs.length:=by omega
  subst ag;have mA:j+vs.length<os.length:=by omega
  have u1:os[j+vs.length]=us[j+vs.length]:=by
   have:=lr (j+vs.length) (.inr (cd _));rw[cA mA,cA (by omega)]at this;exact Option.some.inj this
  have ao:=bM _ (ew mA)
  repeat refine ab rfl ?_
  refine tI ?_;refine yy os[j+vs.length] (cA mA) ?_
  repeat refine bd 39 rfl ?_
  refine aH 39 (.i .u32 (((os[j+vs.length]+c)%4294967296:Nat):Int)) rfl ff ?_;generalize aX:(os[j+vs.length]+c)%4294967296=t at *;refine tI ?_;refine j9 t ?_
  repeat refine ab rfl ?_
  have Au:cY 4294967296 (os.set (j+vs.length) t):=lC bM _ (by omega);have mF:(((os.set (j+vs.length) t).drop j).take (vs.length+1)).length=vs.length+1:=by simp;omega
  have Dp:=jz (oV (tr Au j) (vs.length+1));rw[mF]at Dp;have s8:=SZ (us:=us) (os:=os.set (j+vs.length) t) (j:=j) (k:=vs.length+1) (by simp[gB]) (by omega) (fun p hp=>by rw[List.getElem?_set_ne (by omega)];exact lr p (by omega));have HZ:=CW (b:=4294967296) (by decide) (oV (tr Au j) (vs.length+1)) mF rfl;have key:(eK us j (vs.length+1)+val 4294967296 vs)%4294967296^(vs.length+1)=val 4294967296 (((os.set (j+vs.length) t).drop j).take (vs.length+1)):=by
   rw[<-fY Dp];have:eK us j (vs.length+1)+val 4294967296 vs=val 4294967296 (((os.set (j+vs.length) t).drop j).take (vs.length+1))+4294967296^(vs.length+1)*((os[j+vs.length]+c)/4294967296):=by
    unfold eK at aD⊢;rw[p0 (l:=us) (by omega),p0 (l:=os.set _ _) (by simp;omega),List.getElem_set_self,<-u1,Nat.pow_succ];have aG:((os.set (j+vs.length) t).drop j).take vs.length=(os.drop j).take vs.length:=by
     rw[List.drop_set];rw[if_neg (by omega),show j+vs.length-j=vs.length by omega,List.take_set_of_le (cd _)]
    rw[aG];rw[ji (l:=vs) (cd _)]at aD;have ax:os[j+vs.length]+c=t+4294967296*((os[j+vs.length]+c)/4294967296):=by omega
    generalize(os[j+vs.length]+c)/4294967296=bE at *;generalize 4294967296^vs.length=P at *;have bg:P*(os[j+vs.length]+c)=P*(t+4294967296*bE):=by rw[ax]
    simp only[Nat.mul_add,Nat.mul_assoc]at bg aD⊢;omega
   rw[this,Nat.add_mul_mod_self_left]
  refine a1 ⟨.inl rfl,⟨_,rfl,rfl,.refl _⟩,[0],rfl,cT trivial ⟨_,rfl,?_,fun _=>rfl⟩⟩;show bJ.a _ _ _ _ _ _=bJ.a _ _ _ _ _ _;congr 1;unfold il;rw[<-Hm,key,<-HZ];exact s8
theorem Gs{us:List Nat}{j k X:Nat}(h:j+k<=us.length):(il us j k X).length=us.length:=by
 unfold il;simp[zD];omega
theorem UD{us:List Nat}{j k X:Nat}(h:cY 4294967296 us):cY 4294967296 (il us j k X):=fun x aa=>by
 unfold il at aa;simp only[List.mem_append]at aa;rcases aa with aa|aa|aa
 ·exact h x (List.mem_of_mem_take aa)
 ·exact NC (by decide) _ _ x aa
 ·exact h x (List.mem_of_mem_drop aa)
theorem am5{us:List Nat}{j k X:Nat}(h:j+k<=us.length):val 4294967296 (il us j k X)=val 4294967296 (us.take j)+4294967296^j*(X%4294967296^k+4294967296^k*val 4294967296 (us.drop (j+k))):=by
 unfold il;rw[k8,k8,Hn,zD,List.length_take,Nat.min_eq_left (by omega)]
theorem am6{us:List Nat}{j k X Y:Nat}(h:j+k<=us.length):il (il us j k X) j k Y=il us j k Y:=by
 unfold il;rw[List.take_left' (by simp;omega)];congr 2;rw[<-List.drop_drop,List.drop_left' (by simp;omega),List.drop_left' (zD _ _ _)]
theorem ana{us:List Nat}{j k X:Nat}(h:j+k<=us.length):eK (il us j k X) j k=X%4294967296^k:=by
 unfold eK il;rw[List.drop_left' (by simp;omega),List.take_left' (zD _ _ _),Hn]
theorem am3{us:List Nat}{j k X:Nat}:il us j k (X%4294967296^k)=il us j k X:=by
 unfold il;rw[Hm]
theorem am4{us:List Nat}{j k:Nat}(h:j+k<=us.length)(bM:cY 4294967296 us):il us j k (eK us j k)=us:=by
 unfold il eK;rw[<-CW (by decide) (oV (tr bM j) k) (by simp;omega) rfl];rw[<-List.drop_drop,List.take_append_drop,List.take_append_drop]
theorem UE{us:List Nat}{j n V:Nat}(bM:cY 4294967296 us)(h:j+(n+1)<=us.length)(g2:V<4294967296^n)(hu:val 4294967296 us<V*4294967296^(j+1)):
 val 4294967296 us=val 4294967296 (us.take j)+4294967296^j*eK us j (n+1)∧val 4294967296 (us.drop (j+(n+1)))=0∧eK us j (n+1)<V*4294967296:=by
 have aG:=Gl (b:=4294967296) (l:=us) (k:=j) (by omega);have e2:=Gl (b:=4294967296) (l:=us.drop j) (k:=n+1) (by simp;omega);rw[List.drop_drop]at e2;have a8:val 4294967296 (us.drop (j+(n+1)))=0:=by
  rcases Nat.eq_zero_or_pos (val 4294967296 (us.drop (j+(n+1))))with h0|h0
  ·exact h0
  ·exfalso;have J:4294967296^(j+(n+1))*1<=4294967296^(j+(n+1))*val 4294967296 (us.drop (j+(n+1))):=kA _ h0;have U:V*4294967296^(j+1)<=4294967296^n*4294967296^(j+1):=g5 _ (by omega);rw[<-Nat.pow_add,show n+(j+1)=j+(n+1) by omega]at U;rw[e2,Nat.mul_add,<-Nat.mul_assoc,<-Nat.pow_add]at aG;omega
 rw[a8,Nat.mul_zero,Nat.add_zero]at e2;refine⟨by rw[aG,e2];rfl,a8,?_⟩;have ah:4294967296^j*eK us j (n+1)<4294967296^j*(V*4294967296):=by
  have:V*4294967296^(j+1)=4294967296^j*(V*4294967296):=by rw[Nat.pow_succ];ac_rfl
  have cw:val 4294967296 (us.drop j)=eK us j (n+1):=e2;rw[cw]at aG;omega
 exact Nat.lt_of_mul_lt_mul_left ah
theorem Yv{us dj:List Nat}{j n V A:Nat}(bM:cY 4294967296 us)(h:j+(n+1)<=us.length)(hj:j<dj.length)(qg:0<V)(g2:V<4294967296^n)(hu:val 4294967296 us<V*4294967296^(j+1))(iv:A=val 4294967296 (dj.drop (j+1))*4294967296^(j+1)*V+val 4294967296 us):
 val 4294967296 (il us j (n+1) (eK us j (n+1)%V))<V*4294967296^j∧A=val 4294967296 ((dj.set j (eK us j (n+1)/V)).drop j)*4294967296^j*V+val 4294967296 (il us j (n+1) (eK us j (n+1)%V)):=by
 obtain⟨J,U,ah⟩:=UE bM h g2 hu;have hm:=Nat.mod_lt (eK us j (n+1)) qg;have ax:=Nat.div_add_mod (eK us j (n+1)) V;have anA:4294967296^n<=4294967296^(n+1):=Nat.pow_le_pow_right (by decide) (by omega);rw[am5 h,U,Nat.mul_zero,Nat.add_zero,fY (a:=eK us j (n+1)%V) (by omega)];have bO:=jz (oV bM j);rw[List.length_take,Nat.min_eq_left (by omega)]at bO;constructor
 ·have:4294967296^j*(eK us j (n+1)%V+1)<=4294967296^j*V:=kA _ hm;rw[Nat.mul_add,Nat.mul_one]at this;rw[Nat.mul_comm V];omega
 ·have aG:val 4294967296 ((dj.set j (eK us j (n+1)/V)).drop j)=eK us j (n+1)/V+4294967296*val 4294967296 (dj.drop (j+1)):=by
   rw[iG (by simp;omega),List.getElem_set_self,List.drop_set_of_lt (by omega)];rfl
  have e2:4294967296^j*eK us j (n+1)=4294967296^j*(V*(eK us j (n+1)/V))+4294967296^j*(eK us j (n+1)%V):=by rw[<-Nat.mul_add,ax]
  rw[iv,J,aG,e2,Nat.add_mul,Nat.add_mul,Nat.pow_succ];have cw:eK us j (n+1)/V*4294967296^j*V=4294967296^j*(V*(eK us j (n+1)/V)):=by ac_rfl
  have gz:4294967296*val 4294967296 (dj.drop (j+1))*4294967296^j*V=val 4294967296 (dj.drop (j+1))*(4294967296^j*4294967296)*V:=by ac_rfl
  rw[cw,gz];omega
theorem aim{av:List Nat}{b m:Nat}(hl:av.length=m+2)(bM:cY 4294967296 av)(aX:eN av=av)(aD:val 4294967296 av=b):
 bA av[m+1]<=32∧0<bA av[m+1]∧b*2^(32-bA av[m+1])<4294967296^(m+2)∧2147483648*4294967296^(m+1)<=b*2^(32-bA av[m+1]):=by
 have ax:av[m+1]≠0:=by
  have e:av=av.take (m+1)++[av[m+1]]:=by
   have:=List.take_append_drop (m+1) av;rw[iG (by omega),List.drop_of_length_le (by omega)]at this;exact this.symm
  have:=aX;rw[e]at this;exact(A5 (b:=4294967296) this).2
 have bO:=bM _ (ew (show m+1<av.length by omega));have Z2:=G5 bO;obtain⟨aW,a0⟩:=nq ax;have kk:0<bA av[m+1]:=by unfold bA;rw[if_neg ax];omega
 have aG:b=val 4294967296 (av.take (m+1))+4294967296^(m+1)*av[m+1]:=by
  rw[<-aD,<-hr (by omega),List.take_of_length_le (by omega)]
 have J:=jz (oV bM (m+1));rw[List.length_take,Nat.min_eq_left (by omega)]at J;generalize av[m+1]=d at *;have hp:0<2^(32-bA d):=Nat.two_pow_pos _;have e2:2^bA d*2^(32-bA d)=4294967296:=by rw[<-Nat.pow_add,show bA d+(32-bA d)=32 by omega]
 have cw:2^(bA d-1)*2^(32-bA d)=2147483648:=by rw[<-Nat.pow_add,show bA d-1+(32-bA d)=31 by omega]
 refine⟨Z2,kk,?_,?_⟩
 ·have U:b<4294967296^(m+1)*2^bA d:=by
   have:4294967296^(m+1)*(d+1)<=4294967296^(m+1)*2^bA d:=kA _ a0;rw[Nat.mul_add,Nat.mul_one]at this;omega
  have ah:=Nat.mul_lt_mul_of_pos_right U hp;rw[Nat.mul_assoc,e2]at ah;rw[Nat.pow_succ _ (m+1)];exact ah
 ·have U:4294967296^(m+1)*2^(bA d-1)<=b:=by
   have:4294967296^(m+1)*2^(bA d-1)<=4294967296^(m+1)*d:=kA _ aW;omega
  have ah:=g5 (2^(32-bA d)) U;rw[Nat.mul_assoc,cw]at ah;rw[Nat.mul_comm];exact ah
theorem aiZ{r x:Nat}(aF:r<4294967296)(aa:x<4294967296):(r%18446744073709551616*2^32%18446744073709551616%18446744073709551616|||x%18446744073709551616%18446744073709551616)=r*4294967296+x:=by
 rw[fY (a:=r) (by omega)];exact JO aF aa
theorem Ys(P A o5 ij gP:Nat):A+P*gP+P*4294967296*o5+P*4294967296*4294967296*ij=((ij*4294967296+o5)*4294967296+gP)*P+A:=by
 rw[Nat.add_mul,Nat.add_mul,Nat.add_mul];have aG:P*4294967296*4294967296*ij=ij*4294967296*4294967296*P:=by ac_rfl
 have e2:P*4294967296*o5=o5*4294967296*P:=by ac_rfl
 have cw:P*gP=gP*P:=by ac_rfl
 omega
theorem Yr(P A o5 ij:Nat):A+P*o5+P*4294967296*ij=(ij*4294967296+o5)*P+A:=by
 rw[Nat.add_mul];have aG:P*4294967296*ij=ij*4294967296*P:=by ac_rfl
 have e2:P*o5=o5*P:=by ac_rfl
 omega
theorem K1{g:Nat}(h:0<g)(U:g<18446744073709551616):(g+(18446744073709551616*1-1))%18446744073709551616=g-1:=by omega
theorem zV{l:List Nat}{i:Nat}(h:i<l.length):l[i]? =some l[i]:=cA h
def Ho:cn where
 L:=Nat×Nat
 args:=fun(a,b)=>[df a,df b]
 pre:=fun(a,b)=>eo 1073741823 a∧eo 1073741823 b∧b≠0
 res:=fun(a,b)=>.b5 [df (a/b),df (a%b)]
theorem Hp:ca aN.ctx 72 Ho.spec:=by
 refine cz [(88,wL.spec),(152,KX.spec),(22,x8.spec),(181,P0.spec),(182,F7.spec),(185,SL.spec),(183,Tr.spec),(184,Oe.spec),(76,q9.spec)] f72 ?_;intro⟨a,b⟩ ⟨(a2:(aU _ a).length<=_),(hb:(aU _ b).length<=_),(kk:b≠0)⟩ H a4;show bl.ok _ ⟨_,_,⟨_,_,[(0,db (aU 4294967296 a)),(1,db (aU 4294967296 b))]⟩⟩;have ru:0<(aU 4294967296 b).length:=List.length_pos_iff.2 (fun h=>kk ((oq (by decide)).1 h))
 repeat refine ab rfl ?_
 refine bm CH (a,b) ⟨by show(aU _ a).length<=_;omega,by show(aU _ b).length<=_;omega⟩ ?_
 repeat refine ab rfl ?_
 refine cu (fun h=> ?_) (fun h=> ?_)
 ·have bO:a<b:=by
   rcases Nat.lt_or_ge a b with aL|aL
   ·exact aL
   ·have h:h8 a b<0:=h;unfold h8 at h;rw[if_neg (by omega)]at h;split at h<;>omega
  repeat refine ab rfl ?_
  exact a1 (a6 rfl rfl (.b5 ⟨c5.nl.trans (.of (by show db []=db (aU _ (a/b));rw[Nat.div_eq_of_lt bO,fV])),.of (by show db _=db (aU _ (a%b));rw[fY bO]),trivial⟩))
 have kQ:b<=a:=by
  rcases Nat.lt_or_ge a b with aL|aL
  ·exact absurd (show h8 a b<0 by rw[wM aL];decide) h
  ·exact aL
 repeat refine ab rfl ?_
 refine cu (fun J=> ?_) (fun J=> ?_)
 ·have J:(aU 4294967296 b).length=1:=by omega
  obtain⟨d,ax⟩:=List.length_eq_one_iff.1 J;have aD:=fU (b:=4294967296) (by decide) b;have H0:=gp (b:=4294967296) (by decide) b;rw[ax]at aD H0;have xe:b=d:=by simp[val]at aD;exact aD.symm
  have z6:=H0 d (by simp);rw[ax];subst xe
  repeat refine ab rfl ?_
  refine gY (j:=0) b rfl ?_
  repeat refine ab rfl ?_
  refine bm KY (a,b) ⟨by show(aU _ a).length<=_;omega,by show 0<b;omega,z6⟩ ?_
  repeat refine ab rfl ?_
  refine aH 37 (.i .u64 ((a%b:Nat):Int)) rfl (ff (by have:=Nat.mod_lt a (show 0<b by omega);omega)) ?_;refine bm r0 (a%b) (by have:=Nat.mod_lt a (show 0<b by omega);show a%b<_;omega) ?_
  repeat refine ab rfl ?_
  exact a1 (a6 rfl rfl (.b5 ⟨.refl _,.refl _,trivial⟩))
 have aca:=gp (b:=4294967296) (by decide) a;have Pk:=gp (b:=4294967296) (by decide) b;have cM:=fU (b:=4294967296) (by decide) a;have fK:=fU (b:=4294967296) (by decide) b;have ace:=sK (b:=4294967296) (by decide) b;have xv:=I9 kQ;generalize vf:aU 4294967296 a=xs at *;generalize tb:aU 4294967296 b=av at *;obtain⟨m,hm⟩:∃m,av.length=m+2:=⟨av.length-2,by omega⟩;obtain⟨lA,rV,Jq,A2⟩:=aim hm Pk ace fK;have ax:=Pk _ (ew (show m+1<av.length by omega))
 repeat refine ab rfl ?_
 refine aH 41 (.i .i64 ((m+1:Nat):Int)) rfl cB ?_;refine gY av[m+1] (cA (by omega)) ?_
 repeat refine ab rfl ?_
 refine bm ahS av[m+1] ax ?_;generalize anE:av[m+1]=kJ at *;refine aH 44 (.i .i64 ((32-bA kJ:Nat):Int)) rfl rfl ?_;generalize he:32-bA kJ=e at *;have anF:e<=31:=by omega
 repeat refine ab rfl ?_
 refine bm yI (b,e) ⟨by show(aU _ b).length<=_;rw[tb];omega,by show e<_;omega⟩ ?_ (he:=by exact⟨.of (congrArg db tb.symm),.refl _,trivial⟩);refine aH 47 (db (aU 4294967296 (b*2^e))) rfl rfl ?_
 repeat refine ab rfl ?_
 refine aH 50 (.i .i64 ((xs.length+1:Nat):Int)) rfl cB ?_;refine n0 ft 0 ?_
 repeat refine ab rfl ?_
 refine bm yI (a,e) ⟨by show(aU _ a).length<=_;rw[vf];omega,by show e<_;omega⟩ ?_ (he:=by exact⟨.of (congrArg db vf.symm),.refl _,trivial⟩);have ant:a*2^e<2147483648*4294967296^xs.length:=by
  have J:=jz aca;rw[cM]at J;have U:(a+1)*2^e<=4294967296^xs.length*2147483648:=Nat.mul_le_mul (by omega) (EX (by omega));have ah:0<2^e:=Nat.two_pow_pos e;rw[Nat.add_mul]at U;omega
 have Z5:a*2^e<4294967296^(xs.length+1):=by
  rw[Nat.pow_succ];have:0<4294967296^xs.length:=Nat.pow_pos (by decide);omega
 have rI:(aU 4294967296 (a*2^e)).length<=xs.length+1:=iM (by decide) Z5
 repeat refine ab rfl ?_
 refine ajK (aU 4294967296 (a*2^e)) (K0 rfl (fun _=>rfl) (fun _=>rfl)) ?_
 repeat refine ab rfl ?_
 refine aH 61 (.i .i64 ((xs.length-av.length+1:Nat):Int)) rfl (by rw[gD (n:=(xs.length:Int)-av.length) (by omega) (by omega)];exact cB) ?_;refine n0 ft 0 ?_
 repeat refine ab rfl ?_
 have g2:=fU (b:=4294967296) (by decide) (b*2^e);have z2:=gp (b:=4294967296) (by decide) (b*2^e);have xa:(aU 4294967296 (b*2^e)).length=m+2:=by
  have J:=iM (b:=4294967296) (by decide) Jq;have U:=zB (b:=4294967296) (n:=b*2^e) (k:=m+1) (by decide) (by
   have:0<4294967296^(m+1):=Nat.pow_pos (by decide);omega)
  omega
 generalize Pg:aU 4294967296 (b*2^e)=vs at *;have ab1:(aU 4294967296 (a*2^e)++(List.replicate (xs.length+1) 0).drop (aU 4294967296 (a*2^e)).length).length=xs.length+1:=by simp;omega
 have nN:val 4294967296 (aU 4294967296 (a*2^e)++(List.replicate (xs.length+1) 0).drop (aU 4294967296 (a*2^e)).length)=a*2^e:=by
  rw[List.drop_replicate,k8,val_zero,fU (by decide)];omega
 have kX:cY 4294967296 (aU 4294967296 (a*2^e)++(List.replicate (xs.length+1) 0).drop (aU 4294967296 (a*2^e)).length):=fun x aa=>by
  rcases List.mem_append.1 aa with aa|aa
  ·exact gp (by decide) _ x aa
  ·exact qC (by decide) _ x (List.mem_of_mem_drop aa)
 generalize aU 4294967296 (a*2^e)++(List.replicate (xs.length+1) 0).drop (aU 4294967296 (a*2^e)).length=amw at *;refine e3 (L:=Nat×List Nat×List Nat) (fun(k,us,dj)=>k<=xs.length-av.length+1∧us.length=xs.length+1∧cY 4294967296 us∧dj.length=xs.length-av.length+1∧cY 4294967296 dj∧(∀p,p<k->dj[p]? =some 0)∧val 4294967296 us<b*2^e*4294967296^k∧a*2^e=val 4294967296 (dj.drop k)*4294967296^k*(b*2^e)+val 4294967296 us)
  (fun((k:Nat),(us:List Nat),(dj:List Nat))=>⟨[.a 160 false 1 Nat ft us,.a 160 false 1 Nat ft dj],2,[(4,.bH 1 1 0 (xs.length-av.length+1) (xs.length-av.length+1)),(6,.i .i64 ((m+2:Nat):Int)),(9,.i .i64 e),(10,db vs),(11,.bH 0 1 0 (xs.length+1) (xs.length+1)),(12,.i .i64 ((k:Int)-1))]⟩)
  (fun l=>l.1) [0,1] (xs.length-av.length+1,amw,List.replicate (xs.length-av.length+1) 0) ⟨by omega,ab1,kX,by simp,qC (by decide) _,fun p hp=>by rw[List.getElem?_replicate,if_pos hp],?_,by rw[nN,List.drop_of_length_le (by simp)];simp[val]⟩ (by show xs.length-av.length+1<cp+1;unfold cp;omega) (kc ⟨rfl,kZ,rfl,rfl,rfl,eS,trivial⟩ ⟨_,rfl,rfl,fun _=>rfl⟩ ⟨_,rfl,rfl,fun _=>rfl⟩) ?_
 ·rw[nN];have J:=g5 (4294967296^(xs.length-av.length+1)) A2;rw[Nat.mul_assoc,<-Nat.pow_add,show m+1+(xs.length-av.length+1)=xs.length by omega]at J;omega
 rintro⟨k,us,dj⟩ ⟨ae,rI,nM,xB,Iz,gM,hu,iv⟩;cases k with
 |zero=>
  rw[Nat.pow_zero,Nat.mul_one]at hu;rw[Nat.pow_zero,Nat.mul_one,List.drop_zero]at iv
  repeat refine bd 67 rfl ?_
  iterate 9 refine ab rfl ?_
  refine Ky 4 ?_;refine Ky 11 ?_
  repeat refine ab rfl ?_
  refine cZ ra dj ⟨Iz,by omega⟩ ?_
  repeat refine ab rfl ?_
  refine Yb (us.take (m+2)) ?_
  repeat refine ab rfl ?_
  refine cZ ra (us.take (m+2)) ⟨oV nM _,by simp;omega⟩ ?_
  repeat refine ab rfl ?_
  refine cZ akM (val 4294967296 (us.take (m+2)),e) ⟨?_,by show e<_;omega⟩ ?_
  ·show(aU _ _).length<=_;have:=iM (b:=4294967296) (by decide) (jz (oV nM (m+2)));rw[List.length_take]at this;omega
  repeat refine ab rfl ?_
  have HL:0<2^e:=Nat.two_pow_pos e;have nK:0<b*2^e:=Nat.mul_pos (by omega) HL;have vc:val 4294967296 (us.take (m+2))=val 4294967296 us:=by
   have aG:=Gl (b:=4294967296) (l:=us) (k:=m+2) (by omega);rcases Nat.eq_zero_or_pos (val 4294967296 (us.drop (m+2)))with h0|h0
   ·rw[h0]at aG;omega
   ·have:4294967296^(m+2)*1<=4294967296^(m+2)*val 4294967296 (us.drop (m+2)):=kA _ h0;omega
  have abz:val 4294967296 dj=a/b:=by
   have J:a*2^e/(b*2^e)=a/b:=Nat.mul_div_mul_right _ _ HL;rw[<-J,iv,Nat.add_comm,Nat.add_mul_div_right _ _ nK,Nat.div_eq_of_lt hu,Nat.zero_add]
  have pz:val 4294967296 us/2^e=a%b:=by
   have J:a*2^e%(b*2^e)=a%b*2^e:=Nat.mul_mod_mul_right _ _ _;rw[iv,Nat.add_comm,Nat.add_mul_mod_self_right,fY hu]at J;rw[J,Nat.mul_div_cancel _ HL]
  exact a1 (a6 rfl rfl (.b5 ⟨.of (congrArg df abz),.of (congrArg df (by rw[vc];exact pz)),trivial⟩))
 |succ j=>
  refine aH 12 (.i .i64 (j:Nat)) rfl ff ?_
  repeat refine ab rfl ?_
  refine aH 67 (.b true) rfl (by simp) ?_
  repeat refine ab rfl ?_
  refine eg 73 (.i .i64 ((j+(m+2):Nat):Int)) rfl rfl cB ?_;refine kI ?_;refine CP us[j+(m+2)] (zV (by omega)) ?_
  repeat refine bd 82 rfl ?_
  refine eg 82 (.i .i64 ((j+(m+1):Nat):Int)) rfl rfl (by rw[gD (n:=(j:Int)+(m+2:Nat)) (by omega) (by omega)];exact cB) ?_;refine kI ?_;refine CP us[j+(m+1)] (zV (by omega)) ?_
  repeat refine bd 86 rfl ?_
  have ab0:=nM _ (ew (show j+(m+2)<us.length by omega));have abZ:=nM _ (ew (show j+(m+1)<us.length by omega));have IE:=nM _ (ew (show j+m<us.length by omega));have an6:=z2 _ (ew (show m+1<vs.length by omega));have xE:=z2 _ (ew (show m<vs.length by omega));obtain⟨top,ve⟩:∃top,top=us[j+(m+2)]*4294967296+us[j+(m+1)]:=⟨_,rfl⟩;refine eg 86 (.i .u64 (top:Nat)) rfl rfl (ff (congrArg _ ((aiZ ab0 abZ).trans ve.symm))) ?_;obtain⟨fR,aoq,Gp⟩:=UE (n:=m+2) nM (by omega) Jq hu;have xb:eK us j (m+2+1)=(top*4294967296+us[j+m])*4294967296^m+eK us j m:=by
   unfold eK;rw[ve];rw[p0 (by omega),p0 (by omega),p0 (by omega),Nat.pow_succ,Nat.pow_succ];exact Ys _ _ _ _ _
  have sT:b*2^e=(vs[m+1]*4294967296+vs[m])*4294967296^m+val 4294967296 (vs.take m):=by
   rw[<-g2];have:val 4294967296 vs=val 4294967296 (vs.take (m+1+1)):=by rw[List.take_of_length_le (by omega)]
   rw[this,hr (by omega),hr (by omega),Nat.pow_succ];exact Yr _ _ _ _
  have rp:eK us j m<4294967296^m:=by
   have:=jz (oV (tr nM j) m);unfold eK;rw[List.length_take,Nat.min_eq_left (by simp;omega)]at this;exact this
  have z3:val 4294967296 (vs.take m)<4294967296^m:=by
   have:=jz (oV z2 m);rw[List.length_take,Nat.min_eq_left (by omega)]at this;exact this
  have AE:0<vs[m+1]:=by
   rcases Nat.eq_zero_or_pos vs[m+1]with h0|h0
   ·rw[h0,Nat.zero_mul,Nat.zero_add]at sT;have J:vs[m]*4294967296^m+4294967296^m<=4294967296^(m+1):=by
     have:(vs[m]+1)*4294967296^m<=4294967296*4294967296^m:=g5 _ xE;rw[Nat.add_mul,Nat.one_mul]at this;rw[Nat.pow_succ,Nat.mul_comm _ 4294967296];exact this
    have U:1*4294967296^(m+1)<=2147483648*4294967296^(m+1):=g5 _ (by decide);omega
   ·exact h0
  have qg:0<b*2^e:=Nat.mul_pos (by omega) (Nat.two_pow_pos e);have O6:eK us j (m+2+1)/(b*2^e)<4294967296:=(Nat.div_lt_iff_lt_mul qg).2 (by rw[Nat.mul_comm];exact Gp);have O7:eK us j (m+2+1)/(b*2^e)*(b*2^e)<=eK us j (m+2+1):=Nat.div_mul_le_self _ _;have h1:=Yv (dj:=dj) (n:=m+2) nM (by omega) (by omega) qg Jq hu iv;generalize gr:eK us j (m+2+1)=W at *;generalize hq:W/(b*2^e)=q at *;generalize anx:b*2^e=V at *;generalize Pd:us[j+(m+2)]=ij at *;generalize Pc:us[j+(m+1)]=o5 at *;generalize abU:us[j+m]=gP at *;generalize mD:vs[m+1]=v1 at *;generalize kW:vs[m]=v2 at *;have Dl:vs[m+1]? =some v1:=by rw[zV (by omega),mD]
  have ZY:vs[m]? =some v2:=by rw[zV (by omega),kW]
  have ZR:us[j+m]? =some gP:=by rw[zV (by omega),abU]
  have an3:top<18446744073709551616:=by omega
  have an5:2147483648<=v1:=ahv sT z3 xE (by decide) (by rw[Nat.pow_succ]at A2;exact A2);have an4:ij<=v1:=ahu sT z3 xE (by decide) xb ve Gp
  repeat refine ab rfl ?_
  refine eg 90 (.i .i64 ((m+1:Nat):Int)) rfl rfl cB ?_;refine mm v1 Dl ?_
  repeat refine bd 93 rfl ?_
  refine eg 93 (.i .u64 (v1:Nat)) rfl rfl ff ?_;refine X6 ?_
  repeat refine ab rfl ?_
  refine eg 98 (.i .i64 ((m+1:Nat):Int)) rfl rfl cB ?_;refine mm v1 Dl ?_
  repeat refine bd 101 rfl ?_
  refine eg 101 (.i .u64 (v1:Nat)) rfl rfl ff ?_;refine X9 ?_
  repeat refine bd 15 rfl ?_
  iterate 3 refine ab rfl ?_
  refine hk (fun(g:Nat)=>q<=g∧g<4294967296∧g*V<=W+V) (fun(g:Nat)=>⟨[.a 160 false 1 Nat ft us,.a 160 false 1 Nat ft dj],2,[(4,.bH 1 1 0 (xs.length-av.length+1) (xs.length-av.length+1)),(6,.i .i64 ((m+2:Nat):Int)),(9,.i .i64 e),(10,db vs),(11,.bH 0 1 0 (xs.length+1) (xs.length+1)),(12,.i .i64 j),(14,.i .u64 g)]⟩) ?_ ?_
  ·repeat refine ab rfl ?_
   refine e3 (L:=Nat×Nat) (fun(g,o)=>top=g*v1+o∧q<=g∧g<=4294967297∧o<4294967296)
    (fun((g:Nat),(o:Nat))=>⟨[.a 160 false 1 Nat ft us,.a 160 false 1 Nat ft dj],2,[(4,.bH 1 1 0 (xs.length-av.length+1) (xs.length-av.length+1)),(6,.i .i64 ((m+2:Nat):Int)),(9,.i .i64 e),(10,db vs),(11,.bH 0 1 0 (xs.length+1) (xs.length+1)),(12,.i .i64 j),(14,.i .u64 g),(15,.i .u64 o)]⟩)
    (fun l=>l.1) [0,1] (top/v1,top%v1) ⟨by rw[Nat.mul_comm];exact(Nat.div_add_mod top v1).symm,?_,?_,?_⟩ ?_ (kc ⟨rfl,rfl,rfl,rfl,rfl,rfl,rfl,rfl,trivial⟩ ⟨_,rfl,rfl,fun _=>rfl⟩ ⟨_,rfl,rfl,fun _=>rfl⟩) ?_
   ·exact(Nat.le_div_iff_mul_le AE).2 (aht sT xb rp IE O7)
   ·have:top/v1<4294967298:=(Nat.div_lt_iff_lt_mul AE).2 (by omega);omega
   ·have:=Nat.mod_lt top AE;omega
   ·have:top/v1<=top:=Nat.div_le_self _ _;have U:top/v1<4294967298:=(Nat.div_lt_iff_lt_mul AE).2 (by omega);show top/v1<cp+1;unfold cp;omega
   rintro⟨g,o⟩ ⟨aX,Iy,OH,abk⟩
   repeat refine bd 106 rfl ?_
   rcases Nat.lt_or_ge g 4294967296 with aZ|aZ
   ·refine eg 106 (.b false) rfl rfl (by show al.b (decide _)=_;congr 1;simp;omega) ?_
    repeat refine bd 110 rfl ?_
    refine eg 110 (.i .i64 (m:Nat)) rfl rfl cB ?_
    repeat refine ab rfl ?_
    refine mm v2 ZY ?_;obtain⟨bg,bK,ep⟩:=Jp (c:=0) (o:=0) (by decide) aZ xE (by decide)
    repeat refine bd 114 rfl ?_
    refine eg 114 (.i .u64 ((g*v2:Nat):Int)) rfl rfl (ff (congrArg _ (by rw[fY (a:=v2) (by omega),fY bg]))) ?_
    repeat refine bd 121 rfl ?_
    refine eg 121 (.i .i64 ((j+m:Nat):Int)) rfl rfl (by rw[gD (n:=(j:Int)+(m+2:Nat)) (by omega) (by omega)];exact cB) ?_
    repeat refine ab rfl ?_
    refine kI ?_
    repeat refine ab rfl ?_
    refine CP gP ZR ?_
    repeat refine bd 125 rfl ?_
    refine eg 125 (.i .u64 ((o*4294967296+gP:Nat):Int)) rfl rfl (ff (congrArg _ (JO abk IE))) ?_
    repeat refine ab rfl ?_
    refine cu (fun hc=> ?_) (fun hc=> ?_)
    ·have bO:=ahs sT xb rp O7 Iy aX (by omega)
     repeat refine ab rfl ?_
     have aaX:(g-1)*v1+v1=g*v1:=by
      rw[<-Nat.succ_mul,show(g-1).succ=g by omega]
     have qo:top=(g-1)*v1+(o+v1):=by omega
     refine aH 14 (.i .u64 ((g-1:Nat):Int)) rfl (ff (congrArg _ (K1 (by omega) (by omega)))) ?_;refine aH 133 (.i .i64 ((m+1:Nat):Int)) rfl cB ?_;refine gY v1 Dl ?_
     repeat refine bd 137 rfl ?_
     refine aH 137 (.i .u64 ((o+v1:Nat):Int)) rfl ff ?_
     repeat refine ab rfl ?_
     refine cu (fun hc=> ?_) (fun hc=> ?_)
     ·have hc:(((o+v1)/4294967296:Nat):Int)≠0:=hc
      repeat refine ab rfl ?_
      have uO:=PF sT z3 xE xb qo (by omega) (by omega);have hle:=(Nat.le_div_iff_mul_le qg).2 uO;rw[hq]at hle;exact b0 [0,1] (g-1) ⟨by omega,by omega,by omega⟩ (kc ⟨rfl,rfl,rfl,rfl,rfl,rfl,rfl,trivial⟩ ⟨_,rfl,rfl,fun _=>rfl⟩ ⟨_,rfl,rfl,fun _=>rfl⟩)
     ·have hc:¬(((o+v1)/4294967296:Nat):Int)≠0:=hc
      repeat refine ab rfl ?_
      exact b0 [0,1] (g-1,o+v1) ⟨by show g-1<g;omega,qo,by omega,by omega,by omega⟩ (kc ⟨rfl,rfl,rfl,rfl,rfl,rfl,rfl,rfl,trivial⟩ ⟨_,rfl,rfl,fun _=>rfl⟩ ⟨_,rfl,rfl,fun _=>rfl⟩)
    ·repeat refine ab rfl ?_
     exact b0 [0,1] g ⟨Iy,aZ,ahr sT z3 AE xb aX (by omega) (by omega)⟩ (kc ⟨rfl,rfl,rfl,rfl,rfl,rfl,rfl,trivial⟩ ⟨_,rfl,rfl,fun _=>rfl⟩ ⟨_,rfl,rfl,fun _=>rfl⟩)
   ·refine eg 106 (.b true) rfl rfl (by show al.b (decide _)=_;congr 1;simp;omega) ?_
    repeat refine ab rfl ?_
    have aaX:(g-1)*v1+v1=g*v1:=by
     rw[<-Nat.succ_mul,show(g-1).succ=g by omega]
    have qo:top=(g-1)*v1+(o+v1):=by omega
    refine aH 14 (.i .u64 ((g-1:Nat):Int)) rfl (ff (congrArg _ (K1 (by omega) (by omega)))) ?_;refine aH 133 (.i .i64 ((m+1:Nat):Int)) rfl cB ?_;refine gY v1 Dl ?_
    repeat refine bd 137 rfl ?_
    refine aH 137 (.i .u64 ((o+v1:Nat):Int)) rfl ff ?_
    repeat refine ab rfl ?_
    refine cu (fun hc=> ?_) (fun hc=> ?_)
    ·have hc:(((o+v1)/4294967296:Nat):Int)≠0:=hc
     repeat refine ab rfl ?_
     have uO:=PF sT z3 xE xb qo (by omega) (by omega);have hle:=(Nat.le_div_iff_mul_le qg).2 uO;rw[hq]at hle;exact b0 [0,1] (g-1) ⟨by omega,by omega,by omega⟩ (kc ⟨rfl,rfl,rfl,rfl,rfl,rfl,rfl,trivial⟩ ⟨_,rfl,rfl,fun _=>rfl⟩ ⟨_,rfl,rfl,fun _=>rfl⟩)
    ·have hc:¬(((o+v1)/4294967296:Nat):Int)≠0:=hc
     repeat refine ab rfl ?_
     exact b0 [0,1] (g-1,o+v1) ⟨by show g-1<g;omega,qo,by omega,by omega,by omega⟩ (kc ⟨rfl,rfl,rfl,rfl,rfl,rfl,rfl,rfl,trivial⟩ ⟨_,rfl,rfl,fun _=>rfl⟩ ⟨_,rfl,rfl,fun _=>rfl⟩)
  rintro(g:Nat) ⟨aaU,oB,aaV⟩;obtain⟨f1,f2⟩:=ahq (W:=W) (V:=V) (g:=g) qg (by rw[hq];exact aaU) aaV
  repeat refine ab rfl ?_
  refine cu (fun h0=> ?_) (fun h0=> ?_)
  ·have O5:q=0:=by omega
   have aaj:W<V:=by
    have:=Nat.div_add_mod W V;rw[hq,O5,Nat.mul_zero,Nat.zero_add]at this;have:=Nat.mod_lt W qg;omega
   repeat refine ab rfl ?_
   rw[fY aaj,<-gr,am4 (by omega) nM,O5]at h1;have pA:dj.set j 0=dj:=by
    apply List.ext_getElem?;intro p;rw[List.getElem?_set];split
    ·rename_i hp;subst hp;rw[if_pos (by omega),gM _ (by omega)]
    ·rfl
   rw[pA]at h1;exact b0 [0,1] (j,us,dj) ⟨by show j<j+1;omega,by omega,rI,nM,xB,Iz,fun p hp=>gM p (by omega),h1.1,h1.2⟩ (kc ⟨rfl,rfl,rfl,rfl,rfl,eS,trivial⟩ ⟨_,rfl,rfl,fun _=>rfl⟩ ⟨_,rfl,rfl,fun _=>rfl⟩)
  repeat refine ab rfl ?_
  refine Se ?_
  repeat refine ab rfl ?_
  refine Sc ame 0 (us,j,vs,g) ⟨by omega,nM,z2,oB,by omega⟩ ?_ (he:=by show[al.bH 0 1 j _ _,db vs,al.i .u64 (g:Nat)]=[al.bH 0 1 j _ _,db vs,al.i .u64 (g:Nat)];rw[rI]);have bR:vs.length=m+2:=xa;have anB:∀X,X<V->X%4294967296^(m+2+1)=X:=fun X HQ=>fY (by
   have:4294967296^(m+2)<=4294967296^(m+2+1):=Nat.pow_le_pow_right (by decide) (by omega);omega)
  have aaF:=Nat.div_add_mod W V;rw[hq]at aaF;have OY:=Nat.mod_lt W qg;rw[show eK us j (vs.length+1)=W by rw[bR];exact gr,g2,bR];refine aH 148 (.b (decide (W<g*V))) rfl (by show al.b (decide (eK us j (vs.length+1)<g*val 4294967296 vs))=_;rw[bR,gr,g2]) ?_;refine ab rfl ?_;refine ab rfl ?_;refine hk (fun(g:Nat)=>g=q) (fun(g:Nat)=>⟨[.a 160 false 1 Nat ft (il us j (m+2+1) (W%V)),.a 160 false 1 Nat ft dj],2,[(4,.bH 1 1 0 (xs.length-av.length+1) (xs.length-av.length+1)),(6,.i .i64 ((m+2:Nat):Int)),(9,.i .i64 e),(10,db vs),(11,.bH 0 1 0 (xs.length+1) (xs.length+1)),(12,.i .i64 j),(14,.i .u64 g)]⟩) ?_ ?_
  ·refine cu (fun hc=> ?_) (fun hc=> ?_)
   ·obtain⟨fj,gm⟩:=f1 hc;rw[if_pos hc]
    repeat refine bd 14 rfl ?_
    refine aH 14 (.i .u64 ((g-1:Nat):Int)) rfl (ff (congrArg _ (K1 (by omega) (by omega)))) ?_
    repeat refine ab rfl ?_
    refine Se ?_
    repeat refine ab rfl ?_
    refine Sc ZE 0 (il us j (m+2+1) (W+4294967296^(m+2+1)-g*V),j,vs) ⟨by rw[Gs (by omega)];omega,UD nM,z2,by rw[Gs (by omega)];omega⟩ ?_ (he:=by show[al.bH 0 1 j _ _,db vs]=[al.bH 0 1 j _ _,db vs];rw[Gs (by omega),rI])
    repeat refine ab rfl ?_
    refine b0 [0,1] (g-1) (fj.trans hq) (kc ⟨rfl,rfl,rfl,rfl,rfl,rfl,rfl,trivial⟩ ⟨_,rfl,?_,fun _=>rfl⟩ ⟨_,rfl,rfl,fun _=>rfl⟩);show bJ.a _ _ _ _ _ _=bJ.a _ _ _ _ _ _;congr 1;rw[bR,am6 (by omega),ana (by omega),g2];have anH:(g-1)*V+V=g*V:=by rw[<-Nat.succ_mul,show(g-1).succ=g by omega]
    have DF:(g-1)*V=V*q:=by rw[fj,hq,Nat.mul_comm]
    have jH:0<4294967296^(m+2+1):=Nat.pow_pos (by decide);have anz:V<4294967296^(m+2+1):=by
     have:4294967296^(m+2)<=4294967296^(m+2+1):=Nat.pow_le_pow_right (by decide) (by omega);omega
    have key:((W+4294967296^(m+2+1)-g*V)%4294967296^(m+2+1)+V)%4294967296^(m+2+1)=W%V:=by
     generalize 4294967296^(m+2+1)=PP at *;rw[fY (show W+PP-g*V<PP by omega),show W+PP-g*V+V=W%V+PP by omega,Nat.add_mod_right,fY (by omega)]
    rw[<-am3,key]
   ·have fj:=f2 hc;rw[if_neg hc]
    repeat refine ab rfl ?_
    refine b0 [0,1] g (by omega) (kc ⟨rfl,rfl,rfl,rfl,rfl,rfl,rfl,trivial⟩ ⟨_,rfl,?_,fun _=>rfl⟩ ⟨_,rfl,rfl,fun _=>rfl⟩);show bJ.a _ _ _ _ _ _=bJ.a _ _ _ _ _ _;congr 2;rw[Nat.add_zero];have:g*V=V*q:=by rw[fj,hq,Nat.mul_comm]
    omega
  intro kK aaT;rw[show kK=q from aaT]
  repeat refine ab rfl ?_
  refine lH ?_;refine j9 (q%4294967296) ?_
  repeat refine ab rfl ?_
  rw[fY O6];refine b0 [0,1] (j,il us j (m+2+1) (W%V),dj.set j q) ⟨by show j<j+1;omega,by omega,by rw[Gs (by omega)];exact rI,UD nM,by simp[xB],lC Iz _ O6,fun p hp=>by rw[List.getElem?_set_ne (by omega)];exact gM p (by omega),h1.1,h1.2⟩ (kc ⟨rfl,rfl,rfl,rfl,rfl,eS,trivial⟩ ⟨_,rfl,rfl,fun _=>rfl⟩ ⟨_,rfl,rfl,fun _=>rfl⟩)
theorem rQ{k a b:Nat}(h:eo k a)(hb:b<=a):eo k b:=Nat.le_trans (I9 hb) h
theorem tg{k a:Nat}(h:eo k a):a<4294967296^k:=by
 have J:=jz (gp (b:=4294967296) (by decide) a);rw[fU (by decide)]at J;exact gf J (Nat.pow_le_pow_right (by decide) h)
theorem AT{k a:Nat}(h:a<4294967296^k):eo k a:=iM (by decide) h
theorem G6{m n:Nat}(h:m<=n):bA m<=bA n:=by
 by_cases h0:m=0
 ·subst h0;exact Nat.zero_le _
 ·have J:=(nq h0).1;have U:=(nq (show n≠0 by omega)).2;have:=(Nat.pow_lt_pow_iff_right (by decide:1<2)).1 (Nat.lt_of_le_of_lt (Nat.le_trans J h) U);omega
theorem VN{m n:Nat}(h:m<=n/2)(hn:1<=n):bA m<bA n:=by
 have:=G6 h;rw[sC hn];omega
theorem zk{n k:Nat}(h:n<2^k):bA n<=k:=by
 by_cases h0:n=0
 ·subst h0;exact Nat.zero_le _
 ·have:=(Nat.pow_lt_pow_iff_right (by decide:1<2)).1 (Nat.lt_of_le_of_lt (nq h0).1 h);omega
theorem AS{k a:Nat}(h:eo k a):bA a<=32*k:=zk (by rw[Nat.pow_mul];exact tg h)
theorem VO{k a b:Nat}(a2:eo k a)(hb:eo k b):bA (a*b)<=64*k:=zk (by
 rw[show 64*k=32*k+32*k by omega,Nat.pow_add,Nat.pow_mul];exact Nat.mul_lt_mul'' (tg a2) (tg hb))
theorem Y2{x y:Nat}(aJ:0<y)(h:y<=x):y*(x%y)<=x*y/2:=by
 have J:x%y<y:=Nat.mod_lt x aJ;have U:2*(x%y)<=x:=by
  have:=Nat.div_add_mod x y;have ah:y*1<=y*(x/y):=kA y (Nat.div_pos h aJ);omega
 rw[Nat.le_div_iff_mul_le (by decide)];have:=kA y U;rw[Nat.mul_comm x y];have e:y*(x%y)*2=y*(2*(x%y)):=by ac_rfl
 omega
def HI:cn where
 L:=Nat×Nat
 args:=fun(a,b)=>[df a,df b]
 pre:=fun(a,b)=>eo 1073741823 a∧eo 1073741823 b
 res:=fun(a,b)=>df (Nat.gcd a b)
theorem N8:ca aN.ctx 24 HI.spec:=by
 refine cz [(72,Ho.spec)] f24 ?_;intro⟨a,b⟩ ⟨(a2:eo _ a),(hb:eo _ b)⟩ H a4
 repeat refine ab rfl ?_
 refine e3 (L:=Nat×Nat) (fun(x,y)=>eo 1073741823 x∧eo 1073741823 y∧Nat.gcd x y=Nat.gcd a b) (fun((x:Nat),(y:Nat))=>⟨[],0,[(0,df x),(1,df y)]⟩) (fun l=>2*bA (l.1*l.2)+if l.1<l.2 then 1 else 0) [] (a,b) ⟨a2,hb,rfl⟩ ?_ (dF ⟨rfl,rfl,trivial⟩) ?_
 ·show 2*bA (a*b)+(if a<b then 1 else 0)<cp+1;have:=VO a2 hb;unfold cp;split<;>omega
 rintro⟨x,y⟩ ⟨aa,aJ,aZ⟩
 repeat refine ab rfl ?_
 refine cu (fun h=> ?_) (fun h=> ?_)
 ·have IJ:y≠0:=fun h0=>by subst h0;rw[fV]at h;simp at h
  repeat refine ab rfl ?_
  refine bm Hp (x,y) ⟨aa,aJ,IJ⟩ ?_
  repeat refine ab rfl ?_
  refine b0 [] (y,x%y) ⟨?_,aJ,rQ aJ (Nat.le_of_lt (Nat.mod_lt x (by omega))),?_⟩ (dF ⟨rfl,rfl,trivial⟩)
  ·show 2*bA (y*(x%y))+(if y<x%y then 1 else 0)<2*bA (x*y)+(if x<y then 1 else 0);have hm:=Nat.mod_lt x (show 0<y by omega);rw[if_neg (by omega)];by_cases II:x<y
   ·rw[if_pos II,fY II,Nat.mul_comm y x];omega
   ·rw[if_neg II];have hp:0<x*y:=Nat.mul_pos (by omega) (by omega);have:=VN (Y2 (by omega) (by omega)) hp;omega
  ·rw[<-aZ,Nat.gcd_comm x y,Nat.gcd_rec y x,Nat.gcd_comm]
 ·have IJ:y=0:=(oq (b:=4294967296) (by decide)).1 (List.eq_nil_of_length_eq_zero (by omega));subst IJ
  repeat refine ab rfl ?_
  refine a1 (a6 rfl rfl (.of ?_));show df x=df (Nat.gcd a b);rw[<-aZ,Nat.gcd_zero_right]
def IV:cn where
 L:=Nat
 args:=fun n=>[df n]
 pre:=fun _=>True
 res:=fun n=>.b (decide (n=1))
theorem Yp:aU 4294967296 1=[1]:=by rw[mo (by decide) (by decide),show 1/4294967296=0 from rfl,fV]
theorem Ea:ca aN.ctx 23 IV.spec:=by
 refine cz [] f23 ?_;intro(n:Nat) _ H a4;show bl.ok _ ⟨_,_,⟨_,_,[(0,db (aU 4294967296 n))]⟩⟩;have aD:=fU (b:=4294967296) (by decide) n;generalize iQ:aU 4294967296 n=ds at *
 repeat refine bd 6 rfl ?_
 match ds,aD,iQ with
 |[],aD,iQ=>
  repeat refine ab rfl ?_
  have:n=0:=by simp[val]at aD;exact aD.symm
  subst this;exact a1 (a6 rfl rfl (.refl _))
 |[d],aD,iQ=>
  have:n=d:=by simp[val]at aD;exact aD.symm
  subst this
  repeat refine ab rfl ?_
  refine gY (j:=0) n rfl ?_
  repeat refine ab rfl ?_
  refine a1 (a6 rfl rfl (.of ?_));show al.b _=al.b _;congr 1;rw[decide_eq_decide];exact⟨fun h=>by omega,fun h=>by omega⟩
 |d::lh::ds,aD,iQ=>
  repeat refine ab rfl ?_
  refine a1 (a6 rfl rfl (.of ?_));show al.b false=al.b _;congr 1
  symm
  rw[decide_eq_false_iff_not];intro J;subst J;rw[Yp]at iQ;cases iQ
def re(d:Nat):al:=.jJ 1 Nat ft (if d=1 then[]else aU 4294967296 d)
def LI(x:Rat):List al:=[.b (decide (x.num<0)),df x.num.natAbs,re x.den]
def c1(x:Rat):al:=.agg (LI x)
theorem CS{d:Nat}(h:d≠1):re d= .jJ 1 Nat ft (aU 4294967296 d):=by unfold re;rw[if_neg h]
theorem PK{d:Nat}(h:d≠1)(h0:d≠0):c5 (df d) (re d):=by
 rw[CS h];exact c5.jJ (fun e=>h0 ((oq (by decide)).1 e))
theorem Ny{d:Nat}(h:d≠1):c5 (re d) (df d):=by
 rw[CS h];exact c5.anh
theorem A0(n:Int)(d:Nat)(h:d≠0):(mkRat n d).num=n/((n.natAbs.gcd d:Nat):Int)∧(mkRat n d).den=d/n.natAbs.gcd d:=by
 rw[<-Rat.normalize_eq_mkRat h,Rat.normalize_eq h];exact⟨rfl,rfl⟩
theorem QF{neg:Bool}{p q:Nat}(hp:p≠0)(hq:q≠0):(mkRat (if neg then -(p:Int)else p) q).num=(if neg then -((p/p.gcd q:Nat):Int)else((p/p.gcd q:Nat):Int))∧(mkRat (if neg then -(p:Int)else p) q).den=q/p.gcd q:=by
 have aZ:0<p.gcd q:=Nat.gcd_pos_of_pos_left _ (by omega);have a2:(if neg then -(p:Int)else(p:Int)).natAbs=p:=by cases neg<;>simp
 obtain⟨J,U⟩:=A0 (if neg then -(p:Int)else p) q hq;rw[a2]at J U;refine⟨?_,U⟩;rw[J];cases neg
 ·simp
 ·simp only[if_true];obtain⟨k,ae⟩:=Nat.gcd_dvd_left p q;generalize p.gcd q=g at *;subst ae;rw[Nat.mul_div_cancel_left _ aZ,Int.natCast_mul,<-Int.mul_neg,Int.mul_ediv_cancel_left _ (by omega)]
theorem I7{x:Rat}{neg:Bool}{p q:Nat}{c:al}(J:x.num=if neg then -(p:Int)else(p:Int))(U:x.den=q)(hp:p≠0)(hc:c5 c (re q)):c5 (.agg [.b neg,df p,c]) (c1 x):=by
 refine c5.agg ⟨.of ?_,.of ?_,?_,trivial⟩
 ·congr 1;rw[J];cases neg
  ·simp
  ·simp;omega
 ·congr 1;rw[J];cases neg<;>simp
 ·rw[U];exact hc
theorem le_zero:c5 (.agg [.b false,.nl,.nl]) (c1 0):=c5.agg ⟨.refl _,c5.nl.trans (.of (by show db []=db (aU _ 0);rw[fV])),c5.QH,trivial⟩
def AW:cn where
 L:=Bool×Nat×Nat
 args:=fun(n,p,q)=>[.b n,df p,df q]
 pre:=fun(_,p,q)=>eo 1073741823 p∧eo 1073741823 q∧q≠0
 res:=fun(n,p,q)=>c1 (mkRat (if n then -(p:Int)else p) q)
theorem qw{n:Nat}:(aU 4294967296 n).length=0↔n=0:=by rw[List.length_eq_zero_iff];exact oq (by decide)
theorem ti:ca aN.ctx 20 AW.spec:=by
 refine cz [(23,IV.spec),(24,HI.spec),(72,Ho.spec)] f20 ?_;intro⟨n,p,q⟩ ⟨(hp:eo _ p),(hq:eo _ q),(gM:q≠0)⟩ H a4
 repeat refine ab rfl ?_
 refine cu (fun h=> ?_) (fun h=> ?_)
 ·have qi:p=0:=qw.1 (by omega);subst qi
  repeat refine ab rfl ?_
  refine a1 (a6 rfl rfl (le_zero.trans (.of ?_)));show c1 0=c1 (mkRat _ q);congr 1;cases n<;>simp
 have qi:p≠0:=fun h0=>h (by rw[h0,fV];rfl);have aZ:0<p.gcd q:=Nat.gcd_pos_of_pos_left _ (by omega)
 repeat refine ab rfl ?_
 refine bm Ea q trivial ?_
 repeat refine ab rfl ?_
 refine hk (fun((dL:Nat),(fq:Nat))=>dL=p/p.gcd q∧fq=q/p.gcd q) (fun(dL,fq)=>⟨[.c 29 [.b false,.nl,.nl]],1,[(0,.b n),(1,df dL),(2,df fq),(6,.p 0 0)]⟩) ?_ ?_
 ·refine yx (fun J=> ?_) (fun J=> ?_)
  ·repeat refine ab rfl ?_
   refine bm N8 (p,q) ⟨hp,hq⟩ ?_
   repeat refine ab rfl ?_
   refine bm Ea (p.gcd q) trivial ?_
   repeat refine ab rfl ?_
   refine yx (fun U=> ?_) (fun U=> ?_)
   ·have PO:eo 1073741823 (p.gcd q):=rQ hp (Nat.gcd_le_left _ (by omega))
    repeat refine ab rfl ?_
    refine bm Hp (p,p.gcd q) ⟨hp,PO,by show p.gcd q≠0;omega⟩ ?_
    repeat refine ab rfl ?_
    refine bm Hp (q,p.gcd q) ⟨hq,PO,by show p.gcd q≠0;omega⟩ ?_
    repeat refine ab rfl ?_
    exact b0 [0] (p/p.gcd q,q/p.gcd q) ⟨rfl,rfl⟩ (cT ⟨rfl,rfl,rfl,rfl,trivial⟩ ⟨_,rfl,rfl⟩)
   ·repeat refine ab rfl ?_
    exact b0 [0] (p,q) ⟨by rw[U,Nat.div_one],by rw[U,Nat.div_one]⟩ (cT ⟨rfl,rfl,rfl,rfl,trivial⟩ ⟨_,rfl,rfl⟩)
  ·repeat refine ab rfl ?_
   exact b0 [0] (p,q) ⟨by rw[J,Nat.gcd_one_right,Nat.div_one],by rw[J,Nat.gcd_one_right,Nat.div_one]⟩ (cT ⟨rfl,rfl,rfl,rfl,trivial⟩ ⟨_,rfl,rfl⟩)
 rintro⟨dL,fq⟩ ⟨aG,e2⟩;obtain⟨lA,rV⟩:=QF (neg:=n) qi gM;rw[<-aG]at lA;rw[<-e2]at rV;have jb:dL≠0:=by
  have:=Nat.div_pos (Nat.gcd_le_left q (show 0<p by omega)) aZ;omega
 have Ix:fq≠0:=by
  have:=Nat.div_pos (Nat.gcd_le_right p (show 0<q by omega)) aZ;omega
 repeat refine ab rfl ?_
 refine bm Ea fq trivial ?_
 repeat refine ab rfl ?_
 refine cu (fun ah=> ?_) (fun ah=> ?_)
 ·repeat refine ab rfl ?_
  exact a1 (a6 rfl rfl (I7 lA rV jb (by rw[ah];exact c5.QH)))
 ·repeat refine ab rfl ?_
  exact a1 (a6 rfl rfl (I7 lA rV jb (PK ah Ix)))
def eF(k:Nat)(x:Rat):Prop:=eo k x.num.natAbs∧eo k x.den
def zo:cn where
 L:=Rat
 args:=fun x=>[c1 x]
 pre:=fun _=>True
 res:=fun x=>df x.den
theorem q3:ca aN.ctx 87 zo.spec:=by
 refine cz [(22,x8.spec)] f87 ?_;intro(x:Rat) _ H a4
 repeat refine bd 4 rfl ?_
 by_cases ax:x.den=1
 ·refine aH 4 (.jJ 1 Nat ft []) rfl (by show re x.den=_;rw[ax];rfl) ?_
  repeat refine ab rfl ?_
  refine bm r0 (1:Nat) (by show 1<_;decide) ?_
  repeat refine ab rfl ?_
  exact a1 (a6 rfl rfl (.of (by show df 1=df x.den;rw[ax])))
 ·refine aH 4 (.jJ 1 Nat ft (aU 4294967296 x.den)) rfl (CS ax) ?_;have cx:(aU 4294967296 x.den).isEmpty=false:=List.isEmpty_eq_false_iff.2 (fun e=>x.den_nz ((oq (by decide)).1 e))
  repeat refine ab rfl ?_
  refine ajL rfl (by show lf false _=false;rw[cx];rfl) ?_
  repeat refine ab rfl ?_
  exact a1 (a6 rfl rfl (Ny ax))
def BK:cn where
 L:=Rat
 args:=fun x=>[c1 x]
 pre:=fun _=>True
 res:=fun x=>.i .i64 x.num.sign
theorem yJ:ca aN.ctx 31 BK.spec:=by
 refine cz [] f31 ?_;intro(x:Rat) _ H a4
 repeat refine ab rfl ?_
 refine cu (fun h=> ?_) (fun h=> ?_)
 ·have h0:x.num.natAbs=0:=qw.1 (by omega)
  repeat refine ab rfl ?_
  exact a1 (a6 rfl rfl (.of (by show al.i .i64 0=al.i .i64 x.num.sign;rw[Int.natAbs_eq_zero.1 h0];rfl)))
 have h0:x.num≠0:=fun e=>h (by rw[e];show((aU _ 0).length:Int)=0;rw[fV];rfl)
 repeat refine ab rfl ?_
 refine cu (fun h=> ?_) (fun h=> ?_)
 ·repeat refine ab rfl ?_
  exact a1 (a6 rfl rfl (.of (by show al.i .i64 (-1)=al.i .i64 x.num.sign;rw[Int.sign_eq_neg_one_of_neg h])))
 ·repeat refine ab rfl ?_
  exact a1 (a6 rfl rfl (.of (by show al.i .i64 1=al.i .i64 x.num.sign;rw[Int.sign_eq_one_of_pos (by omega)])))
def Qo:cn where
 L:=Rat
 args:=fun x=>[c1 x]
 pre:=fun _=>True
 res:=fun x=>c1 (-x)
theorem ah8:ca aN.ctx 229 Qo.spec:=by
 refine cz [] f229 ?_;intro(x:Rat) _ H a4;have hle:∀{t:Bool},t=decide (-x.num<0)->c5 (.agg [.b t,df x.num.natAbs,re x.den]) (c1 (-x)):=fun h=>by
  refine c5.agg ⟨.of (by rw[h,Rat.neg_num]),.of (by rw[Rat.neg_num,Int.natAbs_neg]),.of (by rw[Rat.neg_den]),trivial⟩
 repeat refine bd 6 rfl ?_
 by_cases hn:x.num<0
 ·refine aH 6 (.b false) rfl (by show al.b (!decide _)=_;rw[decide_eq_true hn];rfl) ?_
  repeat refine ab rfl ?_
  exact a1 (a6 rfl rfl (hle (by symm;simp;omega)))
 ·refine aH 6 (.b true) rfl (by show al.b (!decide _)=_;rw[decide_eq_false hn];rfl) ?_
  repeat refine ab rfl ?_
  refine a1 (a6 rfl rfl (hle ?_));rw[decide_eq_decide];rcases(show 0<x.num∨x.num<=0 by omega)with h0|h0
  ·have:x.num.natAbs≠0:=by omega
   have:(aU 4294967296 x.num.natAbs).length≠0:=fun e=>this (qw.1 e);exact⟨fun _=>by omega,fun _=>by omega⟩
  ·have J:x.num=0:=by omega
   have U:(aU 4294967296 x.num.natAbs).length=0:=qw.2 (by omega);exact⟨fun h=>by omega,fun h=>by omega⟩
def hS(x:Rat):Rat:=if x.num<0 then -x else x
theorem pd(x:Rat):(hS x).num=(x.num.natAbs:Int)∧(hS x).den=x.den:=by
 unfold hS;split
 ·rw[Rat.neg_num,Rat.neg_den];exact⟨by omega,rfl⟩
 ·exact⟨by omega,rfl⟩
def LM:cn where
 L:=Rat
 args:=fun x=>[c1 x]
 pre:=fun _=>True
 res:=fun x=>c1 (hS x)
theorem UZ:ca aN.ctx 89 LM.spec:=by
 refine cz [] f89 ?_;intro(x:Rat) _ H a4
 repeat refine ab rfl ?_
 refine a1 (a6 rfl rfl (c5.agg ⟨.of ?_,.of ?_,.of ?_,trivial⟩))
 ·rw[(pd x).1];congr 1
 ·rw[(pd x).1];rfl
 ·rw[(pd x).2]
def jT(x y:Rat):Int:=if x<y then -1 else if x=y then 0 else 1
def KC:cn where
 L:=Rat×Rat
 args:=fun(x,y)=>[c1 x,c1 y]
 pre:=fun(x,y)=>eF 268435456 x∧eF 268435456 y
 res:=fun(x,y)=>.i .i64 (jT x y)
theorem mG{a b k l:Nat}(a2:eo k a)(hb:eo l b):eo (k+l) (a*b):=AT (by rw[Nat.pow_add];exact Nat.mul_lt_mul'' (tg a2) (tg hb))
def bW(n:Bool)(p:Nat):Int:=if n then -(p:Int)else p
theorem Jv(x:Rat):x.num=bW (decide (x.num<0)) x.num.natAbs:=by
 unfold bW;by_cases h:x.num<0
 ·rw[decide_eq_true h,if_pos rfl];omega
 ·rw[decide_eq_false h,if_neg (by decide)];omega
theorem Nf(x y:Rat):(x.num.sign<y.num.sign->jT x y= -1)∧(y.num.sign<x.num.sign->jT x y=1)∧(x.num.sign=y.num.sign->jT x y=x.num.sign*h8 (x.num.natAbs*y.den) (y.num.natAbs*x.den)):=by
 have aa:=x.den_nz;have aJ:=y.den_nz;have lt:x<y↔x.num*y.den<y.num*x.den:=Rat.lt_iff x y;have eq:x=y↔x.num*y.den=y.num*x.den:=by
  constructor
  ·rintro rfl;rfl
  ·intro h;have J:=(Rat.mkRat_eq_iff (n₁:=x.num) (n₂:=y.num) aa aJ).2 h;rw[Rat.mkRat_self,Rat.mkRat_self]at J;exact J
 have aok:(0:Int)<x.den:=by omega
 have aol:(0:Int)<y.den:=by omega
 have dX:∀n:Int,(n<0∧n.sign= -1)∨(n=0∧n.sign=0)∨(0<n∧n.sign=1):=fun n=>by
  rcases(show n<0∨n=0∨0<n by omega)with h|h|h
  ·exact .inl ⟨h,Int.sign_eq_neg_one_of_neg h⟩
  ·exact .inr (.inl ⟨h,by rw[h];rfl⟩)
  ·exact .inr (.inr ⟨h,Int.sign_eq_one_of_pos h⟩)
 have sM:x.num*(y.den:Int)=x.num.sign*((x.num.natAbs*y.den:Nat):Int):=by
  rw[Int.natCast_mul,<-Int.mul_assoc,Int.sign_mul_natAbs]
 have YL:y.num*(x.den:Int)=y.num.sign*((y.num.natAbs*x.den:Nat):Int):=by
  rw[Int.natCast_mul,<-Int.mul_assoc,Int.sign_mul_natAbs]
 have Rl:x.num≠0->0<x.num.natAbs*y.den:=fun h=>Nat.mul_pos (by omega) (by omega);have Rq:y.num≠0->0<y.num.natAbs*x.den:=fun h=>Nat.mul_pos (by omega) (by omega);rw[sM,YL]at lt eq;unfold jT h8;generalize x.num.natAbs*y.den=A at *;generalize y.num.natAbs*x.den=C at *;simp only[lt,eq];rcases dX x.num with⟨gZ,hG⟩|⟨gZ,hG⟩|⟨gZ,hG⟩<;>rcases dX y.num with⟨dz,eH⟩|⟨dz,eH⟩|⟨dz,eH⟩<;>rw[hG,eH]<;>refine⟨fun h=> ?_,fun h=> ?_,fun h=> ?_⟩<;>first
  |(exfalso;omega)
  |(have J:=Rl (by omega);have U:=Rq (by omega);split<;>first|omega|(split<;>first|omega|(split<;>omega)))
  |(have J:=Rl (by omega);split<;>first|omega|(split<;>omega))
  |(have U:=Rq (by omega);split<;>first|omega|(split<;>omega))
  |(split<;>first|omega|(split<;>first|omega|(split<;>omega)))
theorem dP{k l a:Nat}(h:eo k a)(hl:k<=l):eo l a:=Nat.le_trans h hl
theorem Sh:ca aN.ctx 32 KC.spec:=by
 refine cz [(31,BK.spec),(87,zo.spec),(74,Et.spec),(88,wL.spec)] f32 ?_;intro⟨x,y⟩ ⟨(aa:eF _ x),(aJ:eF _ y)⟩ H a4;obtain⟨fj,gm,ld⟩:=Nf x y
 repeat refine ab rfl ?_
 refine cZ yJ x trivial ?_
 repeat refine ab rfl ?_
 refine cZ yJ y trivial ?_
 repeat refine ab rfl ?_
 have dX:∀n:Int,-1<=n.sign∧n.sign<=1:=fun n=>by
  rcases(show n<0∨n=0∨0<n by omega)with h|h|h
  ·rw[Int.sign_eq_neg_one_of_neg h];decide
  ·rw[h];decide
  ·rw[Int.sign_eq_one_of_pos h];decide
 refine cu (fun h=> ?_) (fun h=> ?_)
 ·repeat refine ab rfl ?_
  refine cu (fun J=> ?_) (fun J=> ?_)
  ·repeat refine ab rfl ?_
   exact a1 (a6 rfl rfl (.of (by show al.i .i64 (-1)=al.i .i64 (jT x y);rw[fj J])))
  ·repeat refine ab rfl ?_
   exact a1 (a6 rfl rfl (.of (by show al.i .i64 1=al.i .i64 (jT x y);rw[gm (by omega)])))
 have he:x.num.sign=y.num.sign:=by omega
 repeat refine ab rfl ?_
 refine cZ q3 y trivial ?_
 repeat refine ab rfl ?_
 refine cZ xV (x.num.natAbs,y.den) ⟨dP aa.1 (by decide),dP aJ.2 (by decide)⟩ ?_
 repeat refine ab rfl ?_
 refine cZ q3 x trivial ?_
 repeat refine ab rfl ?_
 refine cZ xV (y.num.natAbs,x.den) ⟨dP aJ.1 (by decide),dP aa.2 (by decide)⟩ ?_
 repeat refine ab rfl ?_
 refine cZ CH (x.num.natAbs*y.den,y.num.natAbs*x.den) ⟨?_,?_⟩ ?_
 ·exact dP (mG aa.1 aJ.2) (by decide)
 ·exact dP (mG aJ.1 aa.2) (by decide)
 repeat refine ab rfl ?_
 refine a1 (a6 rfl rfl (.of ?_));show al.i .i64 (IntKind.i64.wrap (x.num.sign*h8 _ _))=al.i .i64 (jT x y);rw[<-ld he];have: -1<=jT x y∧jT x y<=1:=by
  unfold jT;split
  ·decide
  ·split<;>decide
 exact cB rfl (by omega) (by omega)
theorem wN{a b:Nat}(h:h8 a b<0):a<b:=by
 unfold h8 at h;split at h
 ·assumption
 ·split at h<;>omega
theorem wO{a b:Nat}(h:¬h8 a b<0):b<=a:=by
 rcases Nat.lt_or_ge a b with aL|aL
 ·exact absurd (show h8 a b<0 by rw[wM aL];decide) h
 ·exact aL
theorem LQ{a b k:Nat}(a2:eo k a)(hb:eo k b):eo (k+1) (a+b):=AT (by
 have J:=tg a2;have U:=tg hb;rw[Nat.pow_succ];omega)
theorem add_same{x y:Rat}{n:Bool}(aa:x.num=bW n x.num.natAbs)(aJ:y.num=bW n y.num.natAbs):mkRat (bW n (x.num.natAbs*y.den+y.num.natAbs*x.den)) (x.den*y.den)=x+y:=by
 rw[Rat.add_def'];congr 1;have e:∀a b:Nat,bW n (a+b)=bW n a+bW n b:=fun a b=>by unfold bW;cases n<;>simp<;>omega
 have e2:∀a b:Nat,bW n (a*b)=bW n a*b:=fun a b=>by unfold bW;cases n<;>simp[Int.neg_mul]
 rw[e,e2,e2,<-aa,<-aJ]
theorem LP{x y:Rat}{n m:Bool}(DS:n≠m)(aa:x.num=bW n x.num.natAbs)(aJ:y.num=bW m y.num.natAbs)(h:y.num.natAbs*x.den<=x.num.natAbs*y.den):mkRat (bW n (x.num.natAbs*y.den-y.num.natAbs*x.den)) (x.den*y.den)=x+y:=by
 rw[Rat.add_def'];congr 1;have e2:∀(k:Bool) (a b:Nat),bW k (a*b)=bW k a*b:=fun k a b=>by unfold bW;cases k<;>simp[Int.neg_mul]
 have e:∀a b:Nat,b<=a->bW n (a-b)=bW n a+bW m b:=fun a b hW=>by unfold bW;cases n<;>cases m<;>simp at DS⊢<;>omega
 rw[e _ _ h,e2,e2,<-aa,<-aJ]
def Sg:cn where
 L:=Rat×Rat
 args:=fun(x,y)=>[c1 x,c1 y]
 pre:=fun(x,y)=>eF 268435456 x∧eF 268435456 y
 res:=fun(x,y)=>c1 (x+y)
theorem ajX:ca aN.ctx 151 Sg.spec:=by
 refine cz [(87,zo.spec),(74,Et.spec),(75,GG.spec),(265,Tn.spec),(88,wL.spec),(20,AW.spec)] f151 ?_;intro⟨x,y⟩ ⟨(aa:eF _ x),(aJ:eF _ y)⟩ H a4;have ho:=Jv x;have mP:=Jv y;have gi:eo 536870912 (x.num.natAbs*y.den):=mG aa.1 aJ.2;have ie:eo 536870912 (y.num.natAbs*x.den):=mG aJ.1 aa.2;have vm:eo 536870912 (x.den*y.den):=mG aa.2 aJ.2;have ah:x.den*y.den≠0:=Nat.mul_ne_zero x.den_nz y.den_nz
 repeat refine ab rfl ?_
 refine cZ q3 y trivial ?_
 repeat refine ab rfl ?_
 refine cZ xV (x.num.natAbs,y.den) ⟨dP aa.1 (by decide),dP aJ.2 (by decide)⟩ ?_
 repeat refine ab rfl ?_
 refine cZ q3 x trivial ?_
 repeat refine ab rfl ?_
 refine cZ xV (y.num.natAbs,x.den) ⟨dP aJ.1 (by decide),dP aa.2 (by decide)⟩ ?_
 repeat refine ab rfl ?_
 refine cZ q3 x trivial ?_
 repeat refine ab rfl ?_
 refine cZ q3 y trivial ?_
 repeat refine ab rfl ?_
 refine cZ xV (x.den,y.den) ⟨dP aa.2 (by decide),dP aJ.2 (by decide)⟩ ?_
 repeat refine ab rfl ?_
 refine vU rfl (fun h=> ?_) (fun h=> ?_)
 ·have ak:decide (x.num<0)=decide (y.num<0):=eq_of_beq h
  repeat refine ab rfl ?_
  refine cZ LO (x.num.natAbs*y.den,y.num.natAbs*x.den) ⟨dP gi (by decide),dP ie (by decide)⟩ ?_
  repeat refine ab rfl ?_
  refine cZ ti (decide (x.num<0),x.num.natAbs*y.den+y.num.natAbs*x.den,x.den*y.den) ⟨dP (LQ gi ie) (by decide),dP vm (by decide),ah⟩ ?_
  repeat refine ab rfl ?_
  exact a1 (a6 rfl rfl (.of (congrArg c1 (add_same ho (ak▸mP)))))
 have ak:decide (x.num<0)≠decide (y.num<0):=ne_of_beq_false h
 repeat refine ab rfl ?_
 refine bm CH (x.num.natAbs*y.den,y.num.natAbs*x.den) ⟨dP gi (by decide),dP ie (by decide)⟩ ?_
 repeat refine ab rfl ?_
 refine cu (fun h=> ?_) (fun h=> ?_)
 ·have bO:x.num.natAbs*y.den<y.num.natAbs*x.den:=wN h
  repeat refine ab rfl ?_
  refine cZ Tp (y.num.natAbs*x.den,x.num.natAbs*y.den) ⟨dP ie (by decide),Nat.le_of_lt bO⟩ ?_
  repeat refine ab rfl ?_
  refine cZ ti (decide (y.num<0),y.num.natAbs*x.den-x.num.natAbs*y.den,x.den*y.den) ⟨dP (rQ ie (Nat.sub_le _ _)) (by decide),dP vm (by decide),ah⟩ ?_
  repeat refine ab rfl ?_
  refine a1 (a6 rfl rfl (.of (congrArg c1 ?_)));have:=LP ak.symm mP ho (Nat.le_of_lt bO);rw[Rat.add_comm,<-this,Nat.mul_comm y.den x.den];rfl
 ·have kQ:y.num.natAbs*x.den<=x.num.natAbs*y.den:=wO h
  repeat refine ab rfl ?_
  refine cZ Tp (x.num.natAbs*y.den,y.num.natAbs*x.den) ⟨dP gi (by decide),kQ⟩ ?_
  repeat refine ab rfl ?_
  refine cZ ti (decide (x.num<0),x.num.natAbs*y.den-y.num.natAbs*x.den,x.den*y.den) ⟨dP (rQ gi (Nat.sub_le _ _)) (by decide),dP vm (by decide),ah⟩ ?_
  repeat refine ab rfl ?_
  exact a1 (a6 rfl rfl (.of (congrArg c1 (LP ak ho mP kQ))))
def Sy:cn where
 L:=Rat×Rat
 args:=fun(x,y)=>[c1 x,c1 y]
 pre:=fun(x,y)=>eF 268435456 x∧eF 268435456 y
 res:=fun(x,y)=>c1 (x-y)
theorem Js{k:Nat}{x:Rat}(h:eF k x):eF k (-x):=by
 unfold eF;rw[Rat.neg_num,Rat.neg_den,Int.natAbs_neg];exact h
theorem akl:ca aN.ctx 195 Sy.spec:=by
 refine cz [(229,Qo.spec),(151,Sg.spec)] f195 ?_;intro⟨x,y⟩ ⟨(aa:eF _ x),(aJ:eF _ y)⟩ H a4
 repeat refine ab rfl ?_
 refine cZ ah8 y trivial ?_
 repeat refine ab rfl ?_
 refine cZ ajX (x,-y) ⟨aa,Js aJ⟩ ?_
 repeat refine ab rfl ?_
 exact a1 (a6 rfl rfl (.of (congrArg c1 (Rat.sub_eq_add_neg x y).symm)))
def IU:cn where
 L:=Int
 args:=fun n=>[.i .i64 n]
 pre:=fun n=> -9223372036854775808<=n∧n<9223372036854775808
 res:=fun n=>c1 (mkRat n 1)
theorem oP{n:Nat}(h:n<18446744073709551616):eo 2 n:=AT h
theorem Pu:ca aN.ctx 148 IU.spec:=by
 refine cz [(22,x8.spec),(20,AW.spec)] f148 ?_;intro(n:Int) ⟨(J:_<=n),(U:n<_)⟩ H a4;cases n with
 |ofNat k=>
  have U:(k:Int)<9223372036854775808:=U;clear J
  repeat refine ab rfl ?_
  refine aH 12 (.i .u64 (k:Nat)) rfl ff ?_;refine bm r0 k (by show k<_;omega) ?_;refine bm r0 (1:Nat) (by show 1<_;decide) ?_;refine bm ti (false,k,1) ⟨dP (oP (by omega)) (by decide),dP (oP (by decide)) (by decide),by show 1≠0;decide⟩ ?_
  repeat refine ab rfl ?_
  exact a1 (a6 rfl rfl (.refl _))
 |negSucc k=>
  repeat refine ab rfl ?_
  refine Sf rfl (by simp) ?_
  repeat refine bd 7 rfl ?_
  have YJ:IntKind.u64.wrap (-(IntKind.u64.wrap (Int.negSucc k)))=((k+1:Nat):Int):=by
   rw[UG,UG];rw[Int.negSucc_eq]at *;omega
  refine aH 7 (.i .u64 ((k+1:Nat):Int)) rfl (ff YJ) ?_;rw[Int.negSucc_eq]at J;refine bm r0 (k+1) (by show k+1<_;omega) ?_;refine bm r0 (1:Nat) (by show 1<_;decide) ?_;refine bm ti (true,k+1,1) ⟨dP (oP (by omega)) (by decide),dP (oP (by decide)) (by decide),by show 1≠0;decide⟩ ?_
  repeat refine ab rfl ?_
  exact a1 (a6 rfl rfl (.refl _))
def dv(x:Rat)(k:Int):Rat:=if k<0 then mkRat x.num (x.den*2^(-k).toNat)else mkRat (x.num*2^k.toNat) x.den
theorem Bk(k:Nat):eo (k/32+1) (2^k):=AT (by
 rw[KS k,Nat.pow_succ,Nat.mul_comm];exact Nat.mul_lt_mul_of_pos_left (by have:=EX (Nat.mod_lt k (show 0<32 by decide));omega) (Nat.pow_pos (by decide)))
def SI:cn where
 L:=Rat×Int
 args:=fun(x,k)=>[c1 x,.i .i64 k]
 pre:=fun(x,k)=>eF 268435456 x∧-17179869184<k∧k<17179869184
 res:=fun(x,k)=>c1 (dv x k)
theorem akE:ca aN.ctx 94 SI.spec:=by
 refine cz [(87,zo.spec),(182,F7.spec),(20,AW.spec)] f94 ?_;intro⟨x,k⟩ ⟨(aa:eF _ x),(J:_<k),(U:k<_)⟩ H a4;have ho:=Jv x
 repeat refine ab rfl ?_
 refine cu (fun h=> ?_) (fun h=> ?_)
 ·obtain⟨n,rfl⟩:∃n:Nat,k= -(n:Int):=⟨(-k).toNat,by omega⟩
  repeat refine ab rfl ?_
  refine cZ q3 x trivial ?_
  repeat refine bd 14 rfl ?_
  refine eg 14 (.i .i64 (n:Nat)) rfl rfl cB ?_
  repeat refine ab rfl ?_
  refine cZ yI (x.den,n) ⟨dP aa.2 (by decide),by show n<_;omega⟩ ?_
  repeat refine ab rfl ?_
  refine cZ ti (decide (x.num<0),x.num.natAbs,x.den*2^n) ⟨dP aa.1 (by decide),dP (mG aa.2 (dP (Bk n) (show _<=536870913 by omega))) (by decide),Nat.mul_ne_zero x.den_nz (by have:=Nat.two_pow_pos n;omega)⟩ ?_
  repeat refine ab rfl ?_
  refine a1 (a6 rfl rfl (.of (congrArg c1 ?_)));show mkRat (bW _ _) _=dv x (-(n:Int));unfold dv;rw[if_pos h,<-ho];congr 3;omega
 ·obtain⟨n,rfl⟩:∃n:Nat,k=(n:Int):=⟨k.toNat,by omega⟩
  repeat refine ab rfl ?_
  refine cZ yI (x.num.natAbs,n) ⟨dP aa.1 (by decide),by show n<_;omega⟩ ?_
  repeat refine ab rfl ?_
  refine cZ q3 x trivial ?_
  repeat refine ab rfl ?_
  refine cZ ti (decide (x.num<0),x.num.natAbs*2^n,x.den) ⟨dP (mG aa.1 (dP (Bk n) (show _<=536870913 by omega))) (by decide),dP aa.2 (by decide),x.den_nz⟩ ?_
  repeat refine ab rfl ?_
  refine a1 (a6 rfl rfl (.of (congrArg c1 ?_)));show mkRat (bW _ _) _=dv x (n:Int);unfold dv;have e2:∀(t:Bool) (a b:Nat),bW t (a*b)=bW t a*b:=fun t a b=>by unfold bW;cases t<;>simp[Int.neg_mul]
  rw[if_neg h,e2,<-ho];congr 1
def BJ:cn where
 L:=Rat×Int
 args:=fun(x,k)=>[c1 x,.i .i64 k]
 pre:=fun(x,k)=>eF 268435456 x
 res:=fun(x,k)=>if -20000<=k∧k<=20000 then .b5 [c1 (dv x k),.i .i64 0]else .b5 [c1 0,.i .i64 7]
theorem F6:ca aN.ctx 34 BJ.spec:=by
 refine cz [(94,SI.spec)] f34 ?_;intro⟨x,k⟩ (aa:eF _ x) H a4;have u5:∀{r:al},(-20000<=k∧k<=20000->c5 r (.b5 [c1 (dv x k),.i .i64 0]))->(¬(-20000<=k∧k<=20000)->c5 r (.b5 [c1 0,.i .i64 7]))->c5 r (BJ.res (x,k)):=fun J U=>by
  show c5 _ (if _ then _ else _);split
  ·exact J (by assumption)
  ·exact U (by assumption)
 repeat refine bd 8 rfl ?_
 by_cases J:k< -20000
 ·refine aH 8 (.b true) rfl (by show al.b (decide _)=_;rw[decide_eq_true J]) ?_
  repeat refine ab rfl ?_
  exact a1 (a6 rfl rfl (u5 (fun h=>by omega) (fun _=>.b5 ⟨le_zero,.refl _,trivial⟩)))
 ·refine aH 8 (.b false) rfl (by show al.b (decide _)=_;rw[decide_eq_false J]) ?_
  repeat refine ab rfl ?_
  refine cu (fun U=> ?_) (fun U=> ?_)
  ·repeat refine ab rfl ?_
   exact a1 (a6 rfl rfl (u5 (fun h=>by omega) (fun _=>.b5 ⟨le_zero,.refl _,trivial⟩)))
  ·repeat refine ab rfl ?_
   refine bm akE (x,k) ⟨aa,by show _<k;omega,by show k<_;omega⟩ ?_
   repeat refine ab rfl ?_
   exact a1 (a6 rfl rfl (u5 (fun _=>.refl _) (fun h=>by omega)))
def Ur:cn where
 L:=Int
 args:=fun k=>[.i .i64 k]
 pre:=fun k=>True
 res:=fun k=>if -20000<=k∧k<=20000 then .b5 [c1 (dv (mkRat 1 1) k),.i .i64 0]else .b5 [c1 0,.i .i64 7]
theorem amq:ca aN.ctx 196 Ur.spec:=by
 refine cz [(148,IU.spec),(34,BJ.spec)] f196 ?_;intro(k:Int) _ H a4
 repeat refine ab rfl ?_
 refine bm Pu (1:Int) ⟨by decide,by decide⟩ ?_
 repeat refine ab rfl ?_
 refine bm F6 (mkRat 1 1,k) ⟨dP (oP (by decide)) (by decide),dP (oP (by decide)) (by decide)⟩ ?_;by_cases h: -20000<=k∧k<=20000
 ·refine aH 6 (.b5 [c1 (dv (mkRat 1 1) k),.i .i64 0]) rfl (if_pos h) ?_
  repeat refine ab rfl ?_
  exact a1 (a6 rfl rfl (.of (if_pos h).symm))
 ·refine aH 6 (.b5 [c1 0,.i .i64 7]) rfl (if_neg h) ?_
  repeat refine ab rfl ?_
  exact a1 (a6 rfl rfl (.of (if_neg h).symm))
theorem VP{n V A t:Nat}(g2:A=V+4294967296^n*t)(hl:V<4294967296^n)(aX:t≠0):bA A=32*n+bA t:=by
 obtain⟨a,b⟩:=nq aX;have hp:bA t≠0:=fun e=>by rw[e]at b;omega
 have aG:4294967296^n=2^(32*n):=(Nat.pow_mul 2 32 n).symm;rw[aG]at g2 hl;have:= @VQ A (32*n+(bA t-1)) (by
  rw[Nat.pow_add];have:=kA (2^(32*n)) a;omega) (by
  rw[show 32*n+(bA t-1)+1=32*n+bA t by omega,Nat.pow_add];have:=kA (2^(32*n)) (show t+1<=2^bA t from b);rw[Nat.mul_add]at this;omega)
 omega
def MT:cn where
 L:=Nat
 args:=fun n=>[df n]
 pre:=fun n=>eo 1073741824 n
 res:=fun n=>.i .i64 (bA n:Nat)
theorem MU:ca aN.ctx 355 MT.spec:=by
 refine cz [(290,oR.spec)] f355 ?_;intro(n:Nat) (hn:eo _ n) H a4;have hn:(aU 4294967296 n).length<=1073741824:=hn
 repeat refine ab rfl ?_
 refine cu (fun h=> ?_) (fun h=> ?_)
 ·have h0:n=0:=qw.1 (by omega)
  repeat refine ab rfl ?_
  exact a1 (a6 rfl rfl (.of (by show al.i .i64 0=al.i .i64 (bA n:Nat);rw[h0];rfl)))
 have h0:(aU 4294967296 n).length≠0:=fun e=>h (by rw[e];rfl);have bM:=gp (b:=4294967296) (by decide) n;have aD:=fU (b:=4294967296) (by decide) n;have aX:=sK (b:=4294967296) (by decide) n;rcases List.eq_nil_or_concat (aU 4294967296 n)with Aq|⟨c6,t,hc⟩
 ·exact absurd (by rw[Aq];rfl) h0
 rw[List.concat_eq_append]at hc;rw[hc]at bM aD aX hn;have Pc:=(A5 (b:=4294967296) aX).2;have D0:=bM t (by simp);have hlen:(aU 4294967296 n).length=c6.length+1:=by rw[hc];simp
 rw[k8]at aD;have ru:=VP (A:=n) (n:=c6.length) (V:=val 4294967296 c6) (t:=t) (by rw[<-aD];simp[val]) (jz (fun d ax=>bM d (by simp[ax]))) Pc;have ag:c6.length<=1073741823:=by simp at hn;omega
 have Pd:(aU 4294967296 n)[c6.length]? =some t:=by rw[hc];simp
 repeat refine bd 9 rfl ?_
 rw[hlen];refine aH 9 (.i .i64 (c6.length:Nat)) rfl cB ?_
 repeat refine bd 10 rfl ?_
 refine aH 10 (.i .i64 ((32*c6.length:Nat):Int)) rfl cB ?_
 repeat refine bd 13 rfl ?_
 refine aH 13 (.i .i64 (c6.length:Nat)) rfl cB ?_;refine gY t Pd ?_
 repeat refine ab rfl ?_
 refine bm PN t D0 ?_
 repeat refine ab rfl ?_
 have:=G5 D0;exact a1 (a6 rfl rfl (.of cB))
def hL(p q:Nat):Int:=if p*2^((bA q:Int)-bA p).toNat<q*2^((bA p:Int)-bA q).toNat then(bA p:Int)-bA q-1 else(bA p:Int)-bA q
def Qr:cn where
 L:=Rat
 args:=fun x=>[c1 x]
 pre:=fun x=>eF 268435456 x
 res:=fun x=>.i .i64 (hL x.num.natAbs x.den)
theorem aif:ca aN.ctx 291 Qr.spec:=by
 refine cz [(87,zo.spec),(355,MT.spec),(182,F7.spec),(88,wL.spec)] f291 ?_;intro(x:Rat) (aa:eF _ x) H a4;have dz:=AS aa.1;have eH:=AS aa.2
 repeat refine ab rfl ?_
 refine bm q3 x trivial ?_
 repeat refine ab rfl ?_
 refine bm MU x.num.natAbs (dP aa.1 (by decide)) ?_
 repeat refine ab rfl ?_
 refine bm MU x.den (dP aa.2 (by decide)) ?_
 repeat refine bd 12 rfl ?_
 refine aH 12 (.i .i64 ((bA x.num.natAbs:Int)-bA x.den)) rfl cB ?_
 repeat refine bd 17 rfl ?_
 refine aH 17 (.i .i64 ((((bA x.den:Int)-bA x.num.natAbs).toNat:Nat):Int)) rfl (congrArg (al.i .i64) (by rw[gD (n:= -((bA x.num.natAbs:Int)-bA x.den)) (by omega) (by omega)];omega)) ?_;have gi:((bA x.den:Int)-bA x.num.natAbs).toNat<8589934593:=by omega
 have ie:((bA x.num.natAbs:Int)-bA x.den).toNat<8589934593:=by omega
 refine bm yI (x.num.natAbs,((bA x.den:Int)-bA x.num.natAbs).toNat) ⟨dP aa.1 (by decide),by show _<34359738368;omega⟩ ?_
 repeat refine bd 21 rfl ?_
 refine aH 21 (.i .i64 ((((bA x.num.natAbs:Int)-bA x.den).toNat:Nat):Int)) rfl (congrArg (al.i .i64) (by omega)) ?_;refine bm yI (x.den,((bA x.num.natAbs:Int)-bA x.den).toNat) ⟨dP aa.2 (by decide),by show _<34359738368;omega⟩ ?_;refine bm CH (x.num.natAbs*2^((bA x.den:Int)-bA x.num.natAbs).toNat,x.den*2^((bA x.num.natAbs:Int)-bA x.den).toNat) ⟨dP (mG aa.1 (dP (Bk _) (show _<=268435457 by omega))) (by decide),dP (mG aa.2 (dP (Bk _) (show _<=268435457 by omega))) (by decide)⟩ ?_
 repeat refine ab rfl ?_
 refine cu (fun h=> ?_) (fun h=> ?_)
 ·repeat refine ab rfl ?_
  exact a1 (a6 rfl rfl (.of (by
   show al.i _ _=al.i .i64 (hL _ _);unfold hL;rw[if_pos (wN h)];exact cB)))
 ·repeat refine ab rfl ?_
  exact a1 (a6 rfl rfl (.of (by
   show al.i _ _=al.i .i64 (hL _ _);unfold hL;rw[if_neg (Nat.not_lt.2 (wO h))])))
def So:cn where
 L:=Rat
 args:=fun x=>[c1 x]
 pre:=fun x=>eF 268435456 x
 res:=fun x=>if x.num=0 then .b5 [.i .i64 0,.i .i64 8]else .b5 [.i .i64 (hL x.num.natAbs x.den),.i .i64 0]
theorem aj9:ca aN.ctx 198 So.spec:=by
 refine cz [(31,BK.spec),(291,Qr.spec)] f198 ?_;intro(x:Rat) (aa:eF _ x) H a4
 repeat refine ab rfl ?_
 refine bm yJ x trivial ?_
 repeat refine ab rfl ?_
 refine cu (fun h=> ?_) (fun h=> ?_)
 ·have h:x.num=0:=Int.sign_eq_zero_iff_zero.1 h
  repeat refine ab rfl ?_
  exact a1 (a6 rfl rfl (.of (if_pos h).symm))
 ·have h:x.num≠0:=fun e=>h (by rw[e];rfl)
  repeat refine ab rfl ?_
  refine bm aif x aa ?_
  repeat refine ab rfl ?_
  exact a1 (a6 rfl rfl (.of (if_neg h).symm))
def e6(e p:Int):Prop:=2<=e∧e<=11∧2<=p∧p<=113∧5<=e+p
instance(e p:Int):Decidable (e6 e p):=by unfold e6;infer_instance
def mY(e p:Int):al:=.agg [.i .i64 e,.i .i64 p]
def C7:cn where
 L:=Int×Int
 args:=fun(e,p)=>[mY e p]
 pre:=fun(e,p)=>True
 res:=fun(e,p)=>.i .i64 (if e6 e p then 0 else 2)
theorem NV:ca aN.ctx 30 C7.spec:=by
 refine cz [] f30 ?_;intro⟨e,p⟩ _ H a4;have bad:¬e6 e p->c5 (.i .i64 2) (C7.res (e,p)):=fun h=>.of (by show _=al.i .i64 (if _ then _ else _);rw[if_neg h])
 repeat refine bd 5 rfl ?_
 by_cases J:e<2
 ·refine aH 5 (.b true) rfl (by show al.b (decide _)=_;rw[decide_eq_true J]) ?_
  repeat refine ab rfl ?_
  exact a1 (a6 rfl rfl (bad (by unfold e6;omega)))
 refine aH 5 (.b false) rfl (by show al.b (decide _)=_;rw[decide_eq_false J]) ?_
 repeat refine bd 9 rfl ?_
 by_cases U:11<e
 ·refine aH 9 (.b true) rfl (by show al.b (decide _)=_;rw[decide_eq_true U]) ?_
  repeat refine ab rfl ?_
  exact a1 (a6 rfl rfl (bad (by unfold e6;omega)))
 refine aH 9 (.b false) rfl (by show al.b (decide _)=_;rw[decide_eq_false U]) ?_
 repeat refine bd 14 rfl ?_
 by_cases ah:p<2
 ·refine aH 14 (.b true) rfl (by show al.b (decide _)=_;rw[decide_eq_true ah]) ?_
  repeat refine ab rfl ?_
  exact a1 (a6 rfl rfl (bad (by unfold e6;omega)))
 refine aH 14 (.b false) rfl (by show al.b (decide _)=_;rw[decide_eq_false ah]) ?_
 repeat refine bd 19 rfl ?_
 by_cases aC:113<p
 ·refine aH 19 (.b true) rfl (by show al.b (decide _)=_;rw[decide_eq_true aC]) ?_
  repeat refine ab rfl ?_
  exact a1 (a6 rfl rfl (bad (by unfold e6;omega)))
 refine aH 19 (.b false) rfl (by show al.b (decide _)=_;rw[decide_eq_false aC]) ?_
 repeat refine bd 26 rfl ?_
 refine aH 26 (.i .i64 (e+p)) rfl (cB rfl (by omega) (by omega)) ?_
 repeat refine bd 27 rfl ?_
 by_cases a5:e+p<5
 ·refine aH 27 (.b true) rfl (by show al.b (decide _)=_;rw[decide_eq_true a5]) ?_
  repeat refine ab rfl ?_
  exact a1 (a6 rfl rfl (bad (by unfold e6;omega)))
 refine aH 27 (.b false) rfl (by show al.b (decide _)=_;rw[decide_eq_false a5]) ?_
 repeat refine ab rfl ?_
 exact a1 (a6 rfl rfl (.of (by show _=al.i .i64 (if _ then _ else _);rw[if_pos (by unfold e6;omega)])))
def oT(e p m b:Int):al:=.agg [.i .i64 e,.i .i64 p,.i .i64 m,.i .i64 b]
def eA(e:Int):Int:=2^(e-1).toNat-1
def BZ:cn where
 L:=Int×Int
 args:=fun(e,p)=>[mY e p,.i .i64 0,.nl]
 pre:=fun(e,p)=>True
 res:=fun(e,p)=>if e6 e p then .b5 [oT e p 0 (eA e),.i .i64 0]else .b5 [oT 0 0 0 0,.i .i64 2]
theorem UF:ca aN.ctx 85 BZ.spec:=by
 refine cz [(30,C7.spec)] f85 ?_;intro⟨e,p⟩ _ H a4
 repeat refine ab rfl ?_
 refine bm NV (e,p) trivial ?_;by_cases h:e6 e p
 ·refine aH 20 (.i .i64 0) rfl (by show al.i .i64 (if _ then _ else _)=_;rw[if_pos h]) ?_;have c9:BZ.res (e,p)= .b5 [oT e p 0 (eA e),.i .i64 0]:=if_pos h;obtain⟨r,aF⟩:∃r,r=BZ.res (e,p):=⟨_,rfl⟩;obtain⟨J,U,_⟩:=h
  repeat refine ab rfl ?_
  rcases(show e=2∨e=3∨e=4∨e=5∨e=6∨e=7∨e=8∨e=9∨e=10∨e=11 by omega)with h|h|h|h|h|h|h|h|h|h<;>subst h
  all_goals first|refine eg 28 (.i .i64 1) rfl rfl rfl ?_|refine eg 28 (.i .i64 2) rfl rfl rfl ?_|refine eg 28 (.i .i64 3) rfl rfl rfl ?_|refine eg 28 (.i .i64 4) rfl rfl rfl ?_|refine eg 28 (.i .i64 5) rfl rfl rfl ?_|refine eg 28 (.i .i64 6) rfl rfl rfl ?_|refine eg 28 (.i .i64 7) rfl rfl rfl ?_|refine eg 28 (.i .i64 8) rfl rfl rfl ?_|refine eg 28 (.i .i64 9) rfl rfl rfl ?_|refine eg 28 (.i .i64 10) rfl rfl rfl ?_
  all_goals (repeat refine ab rfl ?_)
  all_goals (
   refine e3 (L:=Int×Int) (fun(E,b)=>r= .b5 [oT E p 0 b,.i .i64 0]) (fun(E,b)=>⟨[.c 173 [.i .i64 0,.i .i64 0,.i .i64 0,.i .i64 0],.c 173 [.i .i64 E,.i .i64 p,.i .i64 0,.i .i64 b]],2,[(34,.i .i64 0),(33,.i .i64 0),(8,.p 1 0),(6,.p 0 0),(7,.i .i64 0)]⟩) (fun _=>0) [1,2] (_,_) ?_ (by show 0<cp+1;omega) ⟨by decide,rfl,⟨⟨_,rfl,rfl⟩,⟨_,rfl,rfl⟩,trivial⟩,⟨rfl,rfl,rfl,rfl,rfl,trivial⟩,rfl⟩ ?_
   ·rw[aF];exact c9
   rintro⟨E,b⟩ iP
   repeat refine ab rfl ?_
   exact a1 (a6 rfl rfl (.of (iP.symm.trans aF))))
 ·refine aH 20 (.i .i64 2) rfl (by show al.i .i64 (if _ then _ else _)=_;rw[if_neg h]) ?_
  repeat refine ab rfl ?_
  exact a1 (a6 rfl rfl (.of (if_neg h).symm))
def HG:cn where
 L:=Int
 args:=fun k=>[.i .i64 k]
 pre:=fun k=> -20000<=k∧k<=20000
 res:=fun k=>c1 (dv (mkRat 1 1) k)
theorem HH:ca aN.ctx 90 HG.spec:=by
 refine cz [(196,Ur.spec)] f90 ?_;intro(k:Int) (h:_<=k∧k<=_) H a4
 repeat refine ab rfl ?_
 refine bm amq k trivial ?_;refine aH 7 (.b5 [c1 (dv (mkRat 1 1) k),.i .i64 0]) rfl (if_pos h) ?_
 repeat refine ab rfl ?_
 exact a1 (a6 rfl rfl (.refl _))
def N5:cn where
 L:=Rat×Int
 args:=fun(x,k)=>[c1 x,.i .i64 k]
 pre:=fun(x,k)=>eF 268435456 x∧-20000<=k∧k<=20000
 res:=fun(x,k)=>c1 (dv x k)
theorem Zw:ca aN.ctx 194 N5.spec:=by
 refine cz [(34,BJ.spec)] f194 ?_;intro⟨x,k⟩ ⟨aa,(h:_<=k∧k<=_)⟩ H a4
 repeat refine ab rfl ?_
 refine bm F6 (x,k) aa ?_;refine aH 10 (.b5 [c1 (dv x k),.i .i64 0]) rfl (if_pos h) ?_
 repeat refine ab rfl ?_
 exact a1 (a6 rfl rfl (.refl _))
def N0:cn where
 L:=Rat
 args:=fun x=>[c1 x]
 pre:=fun x=>eF 268435456 x∧x.num≠0
 res:=fun x=>.i .i64 (hL x.num.natAbs x.den)
theorem Zo:ca aN.ctx 93 N0.spec:=by
 refine cz [(198,So.spec)] f93 ?_;intro(x:Rat) ⟨aa,(h:_≠_)⟩ H a4
 repeat refine ab rfl ?_
 refine bm aj9 x aa ?_;refine aH 7 (.b5 [.i .i64 (hL x.num.natAbs x.den),.i .i64 0]) rfl (if_neg h) ?_
 repeat refine ab rfl ?_
 exact a1 (a6 rfl rfl (.refl _))
theorem og{e:Int}(J:2<=e)(U:e<=11):1<=eA e∧eA e<=1023:=by
 unfold eA;rcases(show e=2∨e=3∨e=4∨e=5∨e=6∨e=7∨e=8∨e=9∨e=10∨e=11 by omega)with h|h|h|h|h|h|h|h|h|h<;>subst h<;>decide
def PL:cn where
 L:=Int×Int
 args:=fun(e,p)=>[oT e p 0 (eA e)]
 pre:=fun(e,p)=>e6 e p
 res:=fun(e,p)=>.i .i64 (2-eA e-p)
theorem ahI:ca aN.ctx 91 PL.spec:=by
 refine cz [] f91 ?_;intro⟨e,p⟩ ⟨J,U,ah,aC,a5⟩ H a4;obtain⟨dz,eH⟩:=og J U
 repeat refine bd 5 rfl ?_
 refine aH 5 (.i .i64 (2-eA e)) rfl (cB rfl (by omega) (by omega)) ?_
 repeat refine ab rfl ?_
 exact a1 (a6 rfl rfl (.of (cB rfl (by omega) (by omega))))
def Qv:cn where
 L:=Int×Int
 args:=fun(e,p)=>[oT e p 0 (eA e)]
 pre:=fun(e,p)=>e6 e p
 res:=fun(e,p)=>.i .i64 (1-eA e)
theorem ain:ca aN.ctx 197 Qv.spec:=by
 refine cz [] f197 ?_;intro⟨e,p⟩ ⟨J,U,ah,aC,a5⟩ H a4;obtain⟨dz,eH⟩:=og J U
 repeat refine ab rfl ?_
 exact a1 (a6 rfl rfl (.of (cB rfl (by omega) (by omega))))
theorem xW{k:Nat}{n:Int}{d:Nat}(J:eo k n.natAbs)(U:eo k d)(ax:d≠0):eF k (mkRat n d):=by
 obtain⟨aG,e2⟩:=A0 n d ax;refine⟨rQ J ?_,rQ U ?_⟩
 ·rw[aG,Int.natAbs_ediv_of_dvd (Int.ofNat_dvd_left.2 (Nat.gcd_dvd_left _ _))];exact Nat.div_le_self _ _
 ·rw[e2];exact Nat.div_le_self _ _
theorem nb{k l:Nat}{x:Rat}(h:eF k x)(hl:k<=l):eF l x:=⟨dP h.1 hl,dP h.2 hl⟩
theorem qv{c:Int}:c5 (.b5 [.agg [.b false,.nl,.nl],.i .i64 c]) (.b5 [c1 0,.i .i64 c]):=.b5 ⟨le_zero,.refl _,trivial⟩
theorem vB{a:Nat}(c:Nat){x:Rat}{k:Int}(h:eF a x)(J: -(32*(c:Int))<k)(U:k<32*(c:Int)):eF (a+c) (dv x k):=by
 have hp:∀n:Nat,n<32*c->eo c (2^n):=fun n hn=>dP (Bk n) (by omega);unfold dv;split
 ·exact xW (dP h.1 (by omega)) (mG h.2 (hp _ (by omega))) (Nat.mul_ne_zero x.den_nz (by have:=Nat.two_pow_pos (-k).toNat;omega))
 ·refine xW ?_ (dP h.2 (by omega)) x.den_nz;rw[Int.natAbs_mul,Int.natAbs_pow];exact mG h.1 (hp _ (by omega))
theorem Ev(n:Int)(J: -9223372036854775808<=n)(U:n<9223372036854775808):eF 2 (mkRat n 1):=xW (oP (by omega)) (oP (by decide)) (by decide)
theorem ah4{a b:Nat}{x y:Rat}(J:eF a x)(U:eF b y):eF (a+b+1) (x+y):=by
 rw[Rat.add_def'];have iv:=mG J.1 U.2;have bC:=mG U.1 J.2;refine xW (rQ (LQ iv (dP bC (by omega))) ?_) (dP (mG J.2 U.2) (by omega)) (Nat.mul_ne_zero x.den_nz y.den_nz);have:=Int.natAbs_add_le (x.num*y.den) (y.num*x.den);rw[Int.natAbs_mul,Int.natAbs_mul]at this;simpa using this
theorem Qm{a b:Nat}{x y:Rat}(J:eF a x)(U:eF b y):eF (a+b+1) (x-y):=by
 rw[Rat.sub_eq_add_neg];exact ah4 J (Js U)
def kj(e p:Int):Rat:=dv (dv (mkRat 1 1) p-mkRat 1 1) (eA e-p+1)
theorem Jr{e p:Int}(h:e6 e p):eF 41 (kj e p):=by
 obtain⟨J,U,ah,aC,a5⟩:=h;obtain⟨dz,eH⟩:=og J U;have ag:=Ev 1 (by decide) (by decide);exact nb (vB 32 (Qm (vB 4 ag (by omega) (by omega)) ag) (by omega) (by omega)) (by decide)
def Jk:cn where
 L:=Int×Int
 args:=fun(e,p)=>[oT e p 0 (eA e)]
 pre:=fun(e,p)=>e6 e p
 res:=fun(e,p)=>c1 (kj e p)
theorem Qe:ca aN.ctx 86 Jk.spec:=by
 refine cz [(90,HG.spec),(148,IU.spec),(195,Sy.spec),(194,N5.spec)] f86 ?_;intro⟨e,p⟩ ⟨J,U,ah,aC,a5⟩ H a4;obtain⟨dz,eH⟩:=og J U;have ag:=Ev 1 (by decide) (by decide)
 repeat refine ab rfl ?_
 refine cZ HH p ⟨by omega,by omega⟩ ?_
 repeat refine ab rfl ?_
 refine cZ Pu (1:Int) ⟨by decide,by decide⟩ ?_
 repeat refine ab rfl ?_
 refine cZ akl (dv (mkRat 1 1) p,mkRat 1 1) ⟨nb (vB 4 ag (by omega) (by omega)) (by decide),nb ag (by decide)⟩ ?_
 repeat refine bd 14 rfl ?_
 refine eg 14 (.i .i64 (eA e-p)) rfl rfl (cB rfl (by omega) (by omega)) ?_
 repeat refine bd 15 rfl ?_
 refine eg 15 (.i .i64 (eA e-p+1)) rfl rfl (cB rfl (by omega) (by omega)) ?_
 repeat refine ab rfl ?_
 refine cZ Zw (dv (mkRat 1 1) p-mkRat 1 1,eA e-p+1) ⟨nb (Qm (vB 4 ag (by omega) (by omega)) ag) (by decide),by show _<=eA e-p+1;omega,by show eA e-p+1<=_;omega⟩ ?_
 repeat refine ab rfl ?_
 exact a1 (a6 rfl rfl (.refl _))
def Qj:cn where
 L:=Int×Int×Int
 args:=fun(e,p,k)=>[oT e p 0 (eA e),.i .i64 k]
 pre:=fun(e,p,k)=>e6 e p∧-1000000000000<=k∧k<=1000000000000
 res:=fun(e,p,k)=>.i .i64 (max k (1-eA e)-p+1)
theorem ahY:ca aN.ctx 92 Qj.spec:=by
 refine cz [(197,Qv.spec)] f92 ?_;intro⟨e,p,k⟩ ⟨⟨J,U,ah,aC,a5⟩,(ch:_<=k),(cV:k<=_)⟩ H a4;obtain⟨dz,eH⟩:=og J U
 repeat refine ab rfl ?_
 refine cZ ain (e,p) ⟨J,U,ah,aC,a5⟩ ?_
 repeat refine ab rfl ?_
 exact a1 (a6 rfl rfl (.of (by
  show al.i _ (IntKind.i64.wrap (IntKind.i64.wrap (max k (1-eA e)-p)+1))=al.i .i64 (max k (1-eA e)-p+1);rw[gD (n:=max k (1-eA e)-p) (by omega) (by omega)];exact cB rfl (by omega) (by omega))))
def NW:cn where
 L:=Int×Int
 args:=fun(e,p)=>[mY e p]
 pre:=fun(e,p)=>True
 res:=fun(e,p)=>if e6 e p then .b5 [c1 (kj e p),.i .i64 0]else .b5 [c1 0,.i .i64 2]
theorem Zg:ca aN.ctx 29 NW.spec:=by
 refine cz [(85,BZ.spec),(86,Jk.spec)] f29 ?_;intro⟨e,p⟩ _ H a4
 repeat refine ab rfl ?_
 refine bm UF (e,p) trivial ?_;by_cases h:e6 e p
 ·refine aH 8 (.b5 [oT e p 0 (eA e),.i .i64 0]) rfl (if_pos h) ?_
  repeat refine ab rfl ?_
  refine bm Qe (e,p) h ?_
  repeat refine ab rfl ?_
  exact a1 (a6 rfl rfl (.of (if_pos h).symm))
 ·refine aH 8 (.b5 [oT 0 0 0 0,.i .i64 2]) rfl (if_neg h) ?_
  repeat refine ab rfl ?_
  exact a1 (a6 rfl rfl (qv.trans (.of (if_neg h).symm)))
def ku(e p:Int)(x:Rat):Int:=if x.num=0 then 2-eA e-p else max (hL x.num.natAbs x.den) (1-eA e)-p+1
def zR:cn where
 L:=Int×Int×Rat
 args:=fun(e,p,x)=>[mY e p,c1 x]
 pre:=fun(e,p,x)=>eF 134217728 x
 res:=fun(e,p,x)=>if e6 e p then(if kj e p<hS x then .b5 [c1 0,.i .i64 7]else .b5 [c1 (dv (mkRat 1 1) (ku e p x)),.i .i64 0])else .b5 [c1 0,.i .i64 2]
theorem wK{x y:Rat}:0<jT x y↔y<x:=by
 unfold jT;constructor
 ·intro h;split at h
  ·omega
  split at h
  ·omega
  exact Rat.lt_of_le_of_ne (Rat.not_lt.1 (by assumption)) (fun e=>by simp_all)
 ·intro h;rw[if_neg (Rat.not_lt.2 (Rat.le_of_lt h)),if_neg (fun e=>by subst e;exact absurd h (Rat.not_lt.2 (Rat.le_refl)))];decide
theorem ah3{k:Nat}{x:Rat}(h:eF k x):eF k (hS x):=by
 unfold hS;split
 ·exact Js h
 ·exact h
theorem ahO{p q m:Nat}(h:p<=m*q)(hm:0<m)(hq:0<q):hL p q<=bA m:=by
 have J:bA p<=bA m+bA q:=zk (by
  rw[Nat.pow_add];exact Nat.lt_of_le_of_lt h (Nat.mul_lt_mul'' (nq (by omega)).2 (nq (by omega)).2))
 unfold hL;split<;>omega
theorem PQ(p q:Nat): -(bA q:Int)-1<=hL p q∧hL p q<=bA p:=by unfold hL;split<;>omega
theorem U0{x g:Rat}(h:hS x<=g)(aa:x.num≠0):x.num.natAbs<=g.num.natAbs*x.den∧0<g.num.natAbs:=by
 rw[Rat.le_iff,(pd x).1,(pd x).2]at h;have J:((x.num.natAbs*g.den:Nat):Int)<=((g.num.natAbs*x.den:Nat):Int):=by
  rw[Int.natCast_mul,Int.natCast_mul];exact Int.le_trans h (Int.mul_le_mul_of_nonneg_right (by omega) (by omega))
 have U:x.num.natAbs*1<=x.num.natAbs*g.den:=kA _ (Nat.pos_of_ne_zero g.den_nz);refine⟨by omega,Nat.pos_of_ne_zero fun e=> ?_⟩;rw[e,Nat.zero_mul]at J;omega
theorem Ga{e p:Int}{x:Rat}(h:e6 e p)(aZ:¬kj e p<hS x): -20000<=ku e p x∧ku e p x<=20000:=by
 have hn:=Jr h;obtain⟨J,U,ah,aC,a5⟩:=h;obtain⟨dz,eH⟩:=og J U;unfold ku;split
 ·omega
 ·obtain⟨gZ,hG⟩:=U0 (Rat.not_lt.1 aZ) (by assumption);have:=ahO gZ hG (Nat.pos_of_ne_zero x.den_nz);have:=AS hn.1;omega
theorem Zx:ca aN.ctx 33 zR.spec:=by
 refine cz [(85,BZ.spec),(89,LM.spec),(86,Jk.spec),(32,KC.spec),(31,BK.spec),(91,PL.spec),(90,HG.spec),(93,N0.spec),(92,Qj.spec)] f33 ?_;intro⟨e,p,x⟩ (aa:eF _ x) H a4
 repeat refine ab rfl ?_
 refine bm UF (e,p) trivial ?_;by_cases h:e6 e p
 ·refine aH 10 (.b5 [oT e p 0 (eA e),.i .i64 0]) rfl (if_pos h) ?_
  repeat refine ab rfl ?_
  refine cZ UZ x trivial ?_
  repeat refine ab rfl ?_
  refine cZ Qe (e,p) h ?_
  repeat refine ab rfl ?_
  refine cZ Sh (hS x,kj e p) ⟨nb (ah3 aa) (by decide),nb (Jr h) (by decide)⟩ ?_;have aG:∀{r dt},zR.res (e,p,x)=r->c5 dt r->c5 dt (zR.res (e,p,x)):=fun J U=>by rw[J];exact U
  repeat refine ab rfl ?_
  refine cu (fun aZ=> ?_) (fun aZ=> ?_)
  ·have aZ:=wK.1 aZ
   repeat refine ab rfl ?_
   exact a1 (a6 rfl rfl (aG ((if_pos h).trans (if_pos aZ)) qv))
  have aZ:¬kj e p<hS x:=fun h=>aZ (wK.2 h);have hb:=Ga h aZ;have c9:zR.res (e,p,x)= .b5 [c1 (dv (mkRat 1 1) (ku e p x)),.i .i64 0]:=(if_pos h).trans (if_neg aZ)
  repeat refine ab rfl ?_
  refine bm yJ x trivial ?_
  repeat refine ab rfl ?_
  refine cu (fun h0=> ?_) (fun h0=> ?_)
  ·have h0:x.num=0:=Int.sign_eq_zero_iff_zero.1 h0;have ak:ku e p x=2-eA e-p:=if_pos h0
   repeat refine ab rfl ?_
   refine bm ahI (e,p) h ?_;refine bm HH (2-eA e-p) (by rw[<-ak];exact hb) ?_
   repeat refine ab rfl ?_
   exact a1 (a6 rfl rfl (aG c9 (by rw[ak];exact .refl _)))
  ·have h0:x.num≠0:=fun e=>h0 (by rw[e];rfl);have ak:ku e p x=max (hL x.num.natAbs x.den) (1-eA e)-p+1:=if_neg h0;have dz:=PQ x.num.natAbs x.den;have eH:=AS aa.1;have np:=AS aa.2
   repeat refine ab rfl ?_
   refine cZ Zo x ⟨nb aa (by decide),h0⟩ ?_
   repeat refine ab rfl ?_
   refine cZ ahY (e,p,hL x.num.natAbs x.den) ⟨h,by show _<=hL _ _;omega,by show hL _ _<=_;omega⟩ ?_
   repeat refine ab rfl ?_
   refine cZ HH (max (hL x.num.natAbs x.den) (1-eA e)-p+1) (by have hb:=hb;rw[ak]at hb;exact hb) ?_
   repeat refine ab rfl ?_
   exact a1 (a6 rfl rfl (aG c9 (by rw[ak];exact .refl _)))
 ·refine aH 10 (.b5 [oT 0 0 0 0,.i .i64 2]) rfl (if_neg h) ?_
  repeat refine ab rfl ?_
  exact a1 (a6 rfl rfl (qv.trans (.of (if_neg h).symm)))
def yD(m e p:Int)(x:Rat):al:=
 if m<0∨4<m then .b5 [c1 0,.i .i64 2]
 else if¬e6 e p then .b5 [c1 0,.i .i64 2]
 else if x.num<0 then .b5 [c1 0,.i .i64 7]
 else if kj e p<x then .b5 [c1 0,.i .i64 173]
 else if x.num=0 then .b5 [c1 0,.i .i64 0]
 else if m=0∨m=1 then .b5 [c1 (dv (dv (mkRat 1 1) (ku e p x)) (-1)),.i .i64 0]
 else .b5 [c1 (dv (mkRat 1 1) (ku e p x)),.i .i64 0]
def KI:cn where
 L:=Int×Int×Int×Rat
 args:=fun(m,e,p,x)=>[.i .i64 m,mY e p,c1 x]
 pre:=fun(m,e,p,x)=>eF 134217728 x
 res:=fun(m,e,p,x)=>yD m e p x
theorem akd:ca aN.ctx 7 KI.spec:=by
 refine cz [(29,NW.spec),(30,C7.spec),(31,BK.spec),(32,KC.spec),(33,zR.spec),(34,BJ.spec)] f7 ?_;intro⟨m,e,p,x⟩ (aa:eF _ x) H a4;have aG:∀{r dt},yD m e p x=r->c5 dt r->c5 dt (KI.res (m,e,p,x)):=fun J U=>by show c5 _ (yD m e p x);rw[J];exact U
 repeat refine bd 13 rfl ?_
 by_cases J:m<0
 ·refine aH 13 (.b true) rfl (by show al.b (decide _)=_;rw[decide_eq_true J]) ?_
  repeat refine ab rfl ?_
  exact a1 (a6 rfl rfl (aG (if_pos (.inl J)) qv))
 refine aH 13 (.b false) rfl (by show al.b (decide _)=_;rw[decide_eq_false J]) ?_
 repeat refine bd 16 rfl ?_
 by_cases U:4<m
 ·refine aH 16 (.b true) rfl (by show al.b (decide _)=_;rw[decide_eq_true U]) ?_
  repeat refine ab rfl ?_
  exact a1 (a6 rfl rfl (aG (if_pos (.inr U)) qv))
 refine aH 16 (.b false) rfl (by show al.b (decide _)=_;rw[decide_eq_false U]) ?_;have kt:∀{r},(if¬e6 e p then .b5 [c1 0,.i .i64 2]
 else if x.num<0 then .b5 [c1 0,.i .i64 7]
 else if kj e p<x then .b5 [c1 0,.i .i64 173]
 else if x.num=0 then .b5 [c1 0,.i .i64 0]
 else if m=0∨m=1 then .b5 [c1 (dv (dv (mkRat 1 1) (ku e p x)) (-1)),.i .i64 0]
 else .b5 [c1 (dv (mkRat 1 1) (ku e p x)),.i .i64 0])=r->yD m e p x=r:=fun h=>(if_neg (fun h=>h.elim J U)).trans h
 repeat refine ab rfl ?_
 refine bm Zg (e,p) trivial ?_;by_cases h:e6 e p
 ·refine aH 21 (.b5 [c1 (kj e p),.i .i64 0]) rfl (if_pos h) ?_;have lG:=fun{r} aL=> @kt r ((if_neg (fun nH=>nH h)).trans aL)
  repeat refine ab rfl ?_
  refine bm yJ x trivial ?_
  repeat refine ab rfl ?_
  have tN:x.num.sign<0↔x.num<0:=Int.sign_neg_iff;refine cu (fun ah=> ?_) (fun ah=> ?_)
  ·have ah:=tN.1 ah
   repeat refine ab rfl ?_
   exact a1 (a6 rfl rfl (aG (lG (if_pos ah)) qv))
  have ah:¬x.num<0:=fun h=>ah (tN.2 h);have mM:=fun{r} aL=> @lG r ((if_neg ah).trans aL)
  repeat refine ab rfl ?_
  refine bm Sh (x,kj e p) ⟨nb aa (by decide),nb (Jr h) (by decide)⟩ ?_
  repeat refine ab rfl ?_
  refine cu (fun aC=> ?_) (fun aC=> ?_)
  ·have aC:=wK.1 aC
   repeat refine ab rfl ?_
   exact a1 (a6 rfl rfl (aG (mM (if_pos aC)) qv))
  have aC:¬kj e p<x:=fun h=>aC (wK.2 h);have qL:=fun{r} aL=> @mM r ((if_neg aC).trans aL)
  repeat refine ab rfl ?_
  refine bm yJ x trivial ?_
  repeat refine ab rfl ?_
  refine cu (fun a5=> ?_) (fun a5=> ?_)
  ·have a5:x.num=0:=Int.sign_eq_zero_iff_zero.1 a5
   repeat refine ab rfl ?_
   exact a1 (a6 rfl rfl (aG (qL (if_pos a5)) qv))
  have a5:x.num≠0:=fun e=>a5 (by rw[e];rfl);have o0:=fun{r} aL=> @qL r ((if_neg a5).trans aL);have a2:hS x=x:=if_neg ah;have hb:=Ga h (x:=x) (by rw[a2];exact aC)
  repeat refine ab rfl ?_
  refine bm Zx (e,p,x) aa ?_;refine aH 48 (.b5 [c1 (dv (mkRat 1 1) (ku e p x)),.i .i64 0]) rfl ((if_pos h).trans (if_neg (by rw[a2];exact aC))) ?_
  repeat refine bd 52 rfl ?_
  have hn:eF 628 (dv (mkRat 1 1) (ku e p x)):=vB 626 (Ev 1 (by decide) (by decide)) (by omega) (by omega);by_cases ch:m=0
  ·refine aH 52 (.b true) rfl (by show al.b (decide _)=_;rw[decide_eq_true ch]) ?_
   repeat refine ab rfl ?_
   refine bm F6 (dv (mkRat 1 1) (ku e p x),-1) (nb hn (by decide)) ?_;refine aH 59 (.b5 [c1 (dv (dv (mkRat 1 1) (ku e p x)) (-1)),.i .i64 0]) rfl rfl ?_
   repeat refine ab rfl ?_
   exact a1 (a6 rfl rfl (aG (o0 (if_pos (.inl ch))) (.refl _)))
  refine aH 52 (.b false) rfl (by show al.b (decide _)=_;rw[decide_eq_false ch]) ?_
  repeat refine bd 55 rfl ?_
  by_cases cV:m=1
  ·refine aH 55 (.b true) rfl (by show al.b (decide _)=_;rw[decide_eq_true cV]) ?_
   repeat refine ab rfl ?_
   refine bm F6 (dv (mkRat 1 1) (ku e p x),-1) (nb hn (by decide)) ?_;refine aH 59 (.b5 [c1 (dv (dv (mkRat 1 1) (ku e p x)) (-1)),.i .i64 0]) rfl rfl ?_
   repeat refine ab rfl ?_
   exact a1 (a6 rfl rfl (aG (o0 (if_pos (.inr cV))) (.refl _)))
  refine aH 55 (.b false) rfl (by show al.b (decide _)=_;rw[decide_eq_false cV]) ?_
  repeat refine ab rfl ?_
  exact a1 (a6 rfl rfl (aG (o0 (if_neg (fun h=>h.elim ch cV))) (.refl _)))
 ·refine aH 21 (.b5 [c1 0,.i .i64 2]) rfl (if_neg h) ?_
  repeat refine ab rfl ?_
  refine bm NV (e,p) trivial ?_;refine aH 28 (.i .i64 2) rfl (by show al.i .i64 (if _ then _ else _)=_;rw[if_neg h]) ?_
  repeat refine ab rfl ?_
  exact a1 (a6 rfl rfl (aG (kt (if_pos h)) qv))
def fE(d:Nat):List al:=[.i .i64 d]
def de(ds:List Nat):al:=.gE 1 Nat fE ds
def c3(n:Nat):al:=de (aU 1000000000 n)
def ed(k n:Nat):Prop:=(aU 1000000000 n).length<=k
def tE:cn where
 L:=List Nat
 args:=fun ds=>[de ds]
 pre:=fun ds=>ds.length<=1099511627776
 res:=fun ds=>de (eN ds)
theorem tF:ca aN.ctx 82 tE.spec:=by
 refine cz [] f82 ?_;intro(ds:List Nat) (hp:ds.length<=1099511627776) H a4
 repeat refine ab rfl ?_
 refine e3 (fun es:List Nat=>eN es=eN ds∧es.length<=ds.length) (fun es=>⟨[],0,[(0,de es)]⟩) List.length [] ds ⟨rfl,cd _⟩ (by show ds.length<cp+1;unfold cp;omega) (dF ⟨rfl,trivial⟩) ?_;rintro es ⟨J,U⟩;rcases List.eq_nil_or_concat es with rfl|⟨c6,d,rfl⟩
 ·repeat refine ab rfl ?_
  exact a1 (a6 rfl rfl (.of (by rw[show tE.res ds=de (eN ds)from rfl,<-J];rfl)))
 ·rw[List.concat_eq_append]at *;have hl:(c6++[d]).length=c6.length+1:=by simp
  repeat refine ab rfl ?_
  refine aH 6 (.b true) rfl (by simp) ?_
  repeat refine ab rfl ?_
  refine aH 10 (.i .i64 (c6.length:Nat)) rfl (by rw[hl,gD]<;>simp<;>omega) ?_;refine gH (IL rfl rfl (show(c6++[d])[c6.length]? =some d by simp)) ?_
  repeat refine ab rfl ?_
  refine vU rfl (fun ax=> ?_) (fun ax=> ?_)
  ·have ax:d=0:=by simpa using ax
   repeat refine ab rfl ?_
   refine aH 18 (.i .i64 (c6.length:Nat)) rfl (by rw[hl,gD]<;>simp<;>omega) ?_;refine gH (SR (p:=0) rfl rfl ⟨_,rfl⟩ (Nat.zero_le _) (by simp)) ?_
   repeat refine ab rfl ?_
   refine b0 [] c6 ⟨by simp,by rw[<-J,pY,if_pos ax],by omega⟩ (dF ⟨?_,trivial⟩);simp[fc,mN,de]
  ·have ax:d≠0:=by simpa using ax
   repeat refine ab rfl ?_
   exact a1 (a6 rfl rfl (.of (by rw[show tE.res ds=de (eN ds)from rfl,<-J,pY,if_neg ax])))
def r4:cn where
 L:=Nat×Nat
 args:=fun(a,b)=>[c3 a,c3 b]
 pre:=fun(a,b)=>ed 1073741824 a∧ed 1073741824 b
 res:=fun(a,b)=>.i .i64 (h8 a b)
theorem qG:ca aN.ctx 78 r4.spec:=by
 refine cz [] f78 ?_;intro⟨a,b⟩ ⟨(a2:(aU _ a).length<=_),(hb:(aU _ b).length<=_)⟩ H a4;have J:=gp (b:=1000000000) (by decide) a;have U:=gp (b:=1000000000) (by decide) b;have t1:=sK (b:=1000000000) (by decide) a;have t2:=sK (b:=1000000000) (by decide) b;have h6:=fU (b:=1000000000) (by decide) a;have nk:=fU (b:=1000000000) (by decide) b;show bl.ok _ ⟨_,_,⟨_,_,[(0,de (aU 1000000000 a)),(1,de (aU 1000000000 b))]⟩⟩;generalize aU 1000000000 a=xs at *;generalize aU 1000000000 b=av at *;have fin:∀{r:Int},h8 a b=r->c5 (.i .i64 r) (r4.res (a,b)):=fun h=>by rw[<-h];exact .refl _
 repeat refine ab rfl ?_
 refine cu (fun h=> ?_) (fun h=> ?_)
 ·have h:xs.length≠av.length:=by omega
  repeat refine ab rfl ?_
  refine cu (fun h=> ?_) (fun h=> ?_)
  ·have h:xs.length<av.length:=by omega
   repeat refine ab rfl ?_
   have:=Eh (b:=1000000000) (by decide) J t2 h;exact a1 (a6 rfl rfl (fin (wM (by omega))))
  ·have h:av.length<xs.length:=by have:av.length<=xs.length:=by omega
                                  omega
   repeat refine ab rfl ?_
   have:=Eh (b:=1000000000) (by decide) U t1 h;exact a1 (a6 rfl rfl (fin (CI (by omega))))
 have h:xs.length=av.length:=by omega
 repeat refine ab rfl ?_
 refine e3 (L:=Nat) (fun k=>k<=xs.length∧xs.drop k=av.drop k) (fun(k:Nat)=>⟨[],0,[(0,de xs),(1,de av),(5,.i .i64 ((k:Int)-1))]⟩) id [] xs.length ⟨cd _,by rw[List.drop_length,h,List.drop_length]⟩ (by show xs.length<cp+1;unfold cp;omega) (dF ⟨rfl,rfl,eS,trivial⟩) ?_;rintro(k:Nat) ⟨ae,ax⟩;cases k with
 |zero=>
  repeat refine ab rfl ?_
  exact a1 (a6 rfl rfl (fin (by simp at ax;rw[ax]at h6;rw[<-h6,<-nk];exact Ng _)))
 |succ m=>
  have aa:m<xs.length:=by omega
  have aJ:m<av.length:=by omega
  have e:((m+1:Nat):Int)-1=(m:Nat):=by omega
  refine aH 5 (.i .i64 (m:Nat)) rfl (ff e) ?_
  repeat refine ab rfl ?_
  refine aH 20 (.b true) rfl (by simp) ?_
  repeat refine ab rfl ?_
  refine mm xs[m] (cA aa) ?_
  repeat refine ab rfl ?_
  refine mm av[m] (cA aJ) ?_
  repeat refine ab rfl ?_
  have ho:=CZ aa;have mP:=CZ aJ;refine cu (fun h=> ?_) (fun h=> ?_)
  ·have bO:xs[m]<av[m]:=by omega
   repeat refine ab rfl ?_
   refine a1 (a6 rfl rfl (fin (wM ?_)));rw[<-h6,<-nk,ho,mP,ax];exact Gi (fun x aa=>J x (List.mem_of_mem_take aa)) (by simp;omega) bO
  repeat refine ab rfl ?_
  refine mm xs[m] (cA aa) ?_
  repeat refine ab rfl ?_
  refine mm av[m] (cA aJ) ?_
  repeat refine ab rfl ?_
  refine cu (fun aL=> ?_) (fun aL=> ?_)
  ·have bO:av[m]<xs[m]:=by omega
   repeat refine ab rfl ?_
   refine a1 (a6 rfl rfl (fin (CI ?_)));rw[<-h6,<-nk,ho,mP,ax];exact Gi (fun x aa=>U x (List.mem_of_mem_take aa)) (by simp;omega) bO
  ·have he:xs[m]=av[m]:=by omega
   repeat refine ab rfl ?_
   refine b0 [] m ⟨by simp,by omega,?_⟩ (dF ⟨rfl,rfl,eS,trivial⟩);rw[iG aa,iG aJ,he,ax]
def E4:cn where
 L:=Nat×Nat
 args:=fun(a,b)=>[c3 a,c3 b]
 pre:=fun(a,b)=>ed 1073741824 a∧ed 1073741824 b
 res:=fun(a,b)=>c3 (a+b)
theorem qc{n k:Nat}(h:(aU 1000000000 n).length<=k):n<1000000000^k:=by
 have J:=jz (gp (b:=1000000000) (by decide) n);rw[fU (by decide)]at J;exact gf J (Nat.pow_le_pow_right (by decide) h)
theorem GH{a b k:Nat}(a2:(aU 1000000000 a).length<=k)(hb:(aU 1000000000 b).length<=k):(aU 1000000000 (a+b)).length<=k+1:=iM (by decide) (by
 have:=qc a2;have:=qc hb;rw[Nat.pow_succ];omega)
theorem Wc{u v c w:Nat}(h:w=u+v+c):w≠0↔(u≠0∨v≠0∨0<c):=by omega
theorem Vd{D:List Nat}{i m d:Nat}(h:i<D.length)(hm:i<m)(ax:D[i]=d):(D.take i++List.replicate (m-i) 0).take i++([d]++(D.take i++List.replicate (m-i) 0).drop (i+[d].length))=D.take (i+1)++List.replicate (m-(i+1)) 0:=by
 have hl:(D.take i).length=i:=by rw[List.length_take];omega
 rw[amf h,ax,show m-i=(m-(i+1))+1 by omega,List.replicate_succ,List.append_assoc];congr 1
 ·rw[List.take_append_of_le_length (by omega),List.take_of_length_le (by omega)]
 ·congr 1;rw[List.drop_append,List.drop_of_length_le (by simp;omega),hl];simp
theorem J1:ca aN.ctx 191 E4.spec:=by
 refine cz [] f191 ?_;intro⟨a,b⟩ ⟨(a2:(aU _ a).length<=_),(hb:(aU _ b).length<=_)⟩ H a4;show bl.ok _ ⟨_,_,⟨_,_,[(0,de (aU 1000000000 a)),(1,de (aU 1000000000 b))]⟩⟩;obtain⟨m,hm⟩:∃m,m=max (aU 1000000000 a).length (aU 1000000000 b).length:=⟨_,rfl⟩;have ha:=GH (k:=m) (a:=a) (b:=b) (by omega) (by omega)
 repeat refine bd 13 rfl ?_
 refine aH 13 (.i .i64 ((m+1:Nat):Int)) rfl cB ?_;refine n0 (n:=0) (c:=m+1) fE 0 ?_ (hn:=Nat.zero_le _)
 repeat refine ab rfl ?_
 refine e3 (L:=Nat) (fun i=>i<=(aU 1000000000 (a+b)).length)
  (fun(i:Nat)=>⟨[.a 2 false 1 Nat fE ((aU 1000000000 (a+b)).take i++List.replicate (m+1-i) 0)],1,[(0,de (aU 1000000000 a)),(1,de (aU 1000000000 b)),(5,.bH 0 1 0 i (m+1)),(6,.i .i64 (lg 1000000000 a b i:Nat)),(7,.i .i64 i)]⟩)
  (fun i=>m+1-i) [0] 0 (Nat.zero_le _) (by show m+1-0<cp+1;unfold cp;omega) (cT ⟨rfl,rfl,rfl,by rw[XS];rfl,rfl,trivial⟩ ⟨_,rfl,rfl,fun _=>rfl⟩) ?_
 rintro(i:Nat) ag;have M6:=Nl (b:=1000000000) (x:=a) (y:=b) (i:=i) (by decide);have gn:=XQ (b:=1000000000) (x:=a) (y:=b) (i:=i) (by decide);have bf:= @uC 1000000000 a i (by decide);have Pp:= @uC 1000000000 b i (by decide);have acq:= @uC 1000000000 (a+b) i (by decide);have HX:(i<(aU 1000000000 (a+b)).length)↔(i<(aU 1000000000 a).length∨i<(aU 1000000000 b).length∨0<lg 1000000000 a b i):=by rw[bf,Pp,acq];exact Wc M6
 repeat refine ab rfl ?_
 refine hk (L:=Bool) (fun t=>t=decide (i<(aU 1000000000 (a+b)).length)) (fun t=>⟨[.a 2 false 1 Nat fE ((aU 1000000000 (a+b)).take i++List.replicate (m+1-i) 0)],1,[(0,de (aU 1000000000 a)),(1,de (aU 1000000000 b)),(5,.bH 0 1 0 i (m+1)),(6,.i .i64 (lg 1000000000 a b i:Nat)),(7,.i .i64 i),(28,.b t)]⟩) ?_ ?_
 ·by_cases J:i<(aU 1000000000 a).length
  ·refine aH 19 (.b true) rfl (by simp[J]) ?_
   repeat refine ab rfl ?_
   exact b0 [0] true (by simp[HX,J]) (cT ⟨rfl,rfl,rfl,rfl,rfl,rfl,trivial⟩ ⟨_,rfl,rfl,fun _=>rfl⟩)
  refine aH 19 (.b false) rfl (by simp[J]) ?_
  repeat refine bd 25 rfl ?_
  by_cases U:i<(aU 1000000000 b).length
  ·refine aH 25 (.b true) rfl (by simp[U]) ?_
   repeat refine ab rfl ?_
   exact b0 [0] true (by simp[HX,U]) (cT ⟨rfl,rfl,rfl,rfl,rfl,rfl,trivial⟩ ⟨_,rfl,rfl,fun _=>rfl⟩)
  refine aH 25 (.b false) rfl (by simp[U]) ?_
  repeat refine ab rfl ?_
  exact b0 [0] (decide ((0:Int)<(lg 1000000000 a b i:Nat))) (by simp only[HX];congr 1;simp;omega) (cT ⟨rfl,rfl,rfl,rfl,rfl,rfl,trivial⟩ ⟨_,rfl,rfl,fun _=>rfl⟩)
 intro t aX;by_cases bO:i<(aU 1000000000 (a+b)).length
 ·refine aH 28 (.b true) rfl (by rw[aX,decide_eq_true bO]) ?_;obtain⟨oj,nL⟩:∃d,d=a/1000000000^i%1000000000:=⟨_,rfl⟩;obtain⟨rb,Dx⟩:∃d,d=b/1000000000^i%1000000000:=⟨_,rfl⟩;have oO:oj<1000000000:=by rw[nL];exact Nat.mod_lt _ (by decide)
  have vn:rb<1000000000:=by rw[Dx];exact Nat.mod_lt _ (by decide)
  have cs:=XR (b:=1000000000) (x:=a) (y:=b) (i:=i) (by decide);have Hc:=XP (b:=1000000000) (x:=a) (y:=b) (i:=i) (by decide);rw[<-nL,<-Dx]at cs Hc;obtain⟨c,hc⟩:∃c,c=lg 1000000000 a b i:=⟨_,rfl⟩;rw[<-hc]at cs Hc gn;have Ym:=Yo (b:=1000000000) (n:=a+b) (i:=i) (by decide) bO;refine aH 6 (.i .i64 (c:Nat)) rfl (by rw[hc]) ?_
  repeat refine ab rfl ?_
  refine hk (L:=Unit) (fun _=>True) (fun _=>⟨[.a 2 false 1 Nat fE ((aU 1000000000 (a+b)).take i++List.replicate (m+1-i) 0)],1,[(0,de (aU 1000000000 a)),(1,de (aU 1000000000 b)),(5,.bH 0 1 0 i (m+1)),(6,.i .i64 ((c+oj:Nat):Int)),(7,.i .i64 i)]⟩) ?_ ?_
  ·refine cu (fun h=> ?_) (fun h=> ?_)
   ·have h:i<(aU 1000000000 a).length:=by omega
    repeat refine ab rfl ?_
    refine gY oj (by rw[nL];exact rf (by decide) h) ?_
    repeat refine ab rfl ?_
    exact b0 [0] () trivial (cT ⟨rfl,rfl,rfl,eS,rfl,trivial⟩ ⟨_,rfl,rfl,fun _=>rfl⟩)
   ·have h:¬i<(aU 1000000000 a).length:=by omega
    have h0:oj=0:=by
     have:a/1000000000^i=0:=Decidable.not_not.1 (fun aL=>h (bf.2 aL));rw[nL,this]
    repeat refine ab rfl ?_
    exact b0 [0] () trivial (cT ⟨rfl,rfl,rfl,kZ,rfl,trivial⟩ ⟨_,rfl,rfl,fun _=>rfl⟩)
  intro _ _
  repeat refine ab rfl ?_
  refine hk (L:=Unit) (fun _=>True) (fun _=>⟨[.a 2 false 1 Nat fE ((aU 1000000000 (a+b)).take i++List.replicate (m+1-i) 0)],1,[(0,de (aU 1000000000 a)),(1,de (aU 1000000000 b)),(5,.bH 0 1 0 i (m+1)),(6,.i .i64 ((c+oj+rb:Nat):Int)),(7,.i .i64 i)]⟩) ?_ ?_
  ·refine cu (fun h=> ?_) (fun h=> ?_)
   ·have h:i<(aU 1000000000 b).length:=by omega
    repeat refine ab rfl ?_
    refine gY rb (by rw[Dx];exact rf (by decide) h) ?_
    repeat refine ab rfl ?_
    exact b0 [0] () trivial (cT ⟨rfl,rfl,rfl,eS,rfl,trivial⟩ ⟨_,rfl,rfl,fun _=>rfl⟩)
   ·have h:¬i<(aU 1000000000 b).length:=by omega
    have h0:rb=0:=by
     have:b/1000000000^i=0:=Decidable.not_not.1 (fun aL=>h (Pp.2 aL));rw[Dx,this]
    repeat refine ab rfl ?_
    exact b0 [0] () trivial (cT ⟨rfl,rfl,rfl,kZ,rfl,trivial⟩ ⟨_,rfl,rfl,fun _=>rfl⟩)
  intro _ _
  repeat refine bd 53 rfl ?_
  refine aH 53 (.i .i64 (((c+oj+rb)%1000000000:Nat):Int)) rfl rfl ?_
  repeat refine ab rfl ?_
  refine Sa (R:=fE) [(c+oj+rb)%1000000000] (bk (R:=fE) [(c+oj+rb)%1000000000] rfl) ((aU 1000000000 (a+b)).take (i+1)++List.replicate (m+1-(i+1)) 0) ?_ (hl:= ?_) (hc:= ?_)
  ·repeat refine bd 57 rfl ?_
   refine aH 57 (.i .i64 (((c+oj+rb)/1000000000:Nat):Int)) rfl (by show al.i _ (IntKind.i64.wrap (((c+oj+rb)/1000000000:Nat):Int))=_;exact cB rfl (by omega) (by omega)) ?_
   repeat refine ab rfl ?_
   exact b0 [0] (i+1) ⟨by show m+1-(i+1)<m+1-i;omega,bO⟩ (cT ⟨rfl,rfl,rfl,by rw[cs];rfl,eS,trivial⟩ ⟨_,rfl,rfl,fun _=>rfl⟩)
  ·simp;omega
  ·exact Vd bO (by omega) (by rw[Ym,Hc])
 ·refine aH 28 (.b false) rfl (by rw[aX,decide_eq_false bO]) ?_
  repeat refine bd 58 rfl ?_
  have he:i=(aU 1000000000 (a+b)).length:=by omega
  refine Kx 58 (aU 1000000000 (a+b)) ?_ (hl:=by rw[List.drop_zero,List.take_append_of_le_length (by simp;omega),List.take_take,Nat.min_self,List.take_of_length_le (by omega)]) (hn:=he.symm)
  repeat refine ab rfl ?_
  exact a1 (a6 rfl rfl (.refl _))
def Fj:cn where
 L:=Nat×Nat
 args:=fun(a,b)=>[c3 a,c3 b]
 pre:=fun(a,b)=>ed 1073741824 a∧b<=a
 res:=fun(a,b)=>c3 (a-b)
theorem Ve{O:List Nat}{i m d:Nat}(h:O.length=i)(hm:i<m):(O++List.replicate (m-i) 0).take i++([d]++(O++List.replicate (m-i) 0).drop (i+[d].length))=(O++[d])++List.replicate (m-(i+1)) 0:=by
 subst h;rw[show m-O.length=(m-(O.length+1))+1 by omega,List.replicate_succ,List.append_assoc];congr 1
 ·rw[List.take_append_of_le_length (by omega),List.take_of_length_le (by omega)]
 ·congr 1;rw[List.drop_append,List.drop_of_length_le (by simp)];simp
theorem Bs:ca aN.ctx 190 Fj.spec:=by
 refine cz [(82,tE.spec)] f190 ?_;intro⟨a,b⟩ ⟨(a2:(aU _ a).length<=_),(hW:b<=a)⟩ H a4;have J:=gp (b:=1000000000) (by decide) a;have U:=gp (b:=1000000000) (by decide) b;have h6:=fU (b:=1000000000) (by decide) a;have nk:=fU (b:=1000000000) (by decide) b;have hlen:(aU 1000000000 b).length<=(aU 1000000000 a).length:=iM (by decide) (Nat.lt_of_le_of_lt hW (qc (cd _)));show bl.ok _ ⟨_,_,⟨_,_,[(0,de (aU 1000000000 a)),(1,de (aU 1000000000 b))]⟩⟩;generalize aU 1000000000 a=xs at *;generalize aU 1000000000 b=av at *
 repeat refine ab rfl ?_
 refine n0 (n:=0) (c:=xs.length) fE 0 ?_ (hn:=Nat.zero_le _)
 repeat refine ab rfl ?_
 refine e3 (L:=Nat×List Nat×Nat) (fun(i,outs,c)=>i<=xs.length∧outs.length=i∧cY 1000000000 outs∧c<=1∧val 1000000000 (xs.take i)+1000000000^i*c=val 1000000000 outs+val 1000000000 (av.take i))
  (fun((i:Nat),(outs:List Nat),(c:Nat))=>⟨[.a 2 false 1 Nat fE (outs++List.replicate (xs.length-i) 0)],1,[(0,de xs),(1,de av),(5,.bH 0 1 0 i xs.length),(6,.i .i64 c),(7,.i .i64 i)]⟩)
  (fun l=>xs.length-l.1) [0] (0,[],0) ⟨Nat.zero_le _,rfl,fun x aa=>by simp at aa,by decide,by simp[val]⟩ (by show xs.length-0<cp+1;unfold cp;omega) (cT ⟨rfl,rfl,rfl,rfl,rfl,trivial⟩ ⟨_,rfl,rfl,fun _=>rfl⟩) ?_
 rintro⟨i,outs,c⟩ ⟨ag,gB,bM,hc,aD⟩
 repeat refine ab rfl ?_
 refine cu (fun h=> ?_) (fun h=> ?_)
 ·have h:i<xs.length:=by omega
  have AJ:xs[i]? =some xs[i]:=cA h;have bO:=J _ (ew h)
  repeat refine ab rfl ?_
  refine gY xs[i] AJ ?_
  repeat refine ab rfl ?_
  refine hk (L:=Nat) (fun y=>y<1000000000∧val 1000000000 (av.take (i+1))=val 1000000000 (av.take i)+1000000000^i*y) (fun(y:Nat)=>⟨[.a 2 false 1 Nat fE (outs++List.replicate (xs.length-i) 0)],1,[(0,de xs),(1,de av),(5,.bH 0 1 0 i xs.length),(7,.i .i64 i),(8,.i .i64 ((xs[i]:Int)-c-y))]⟩) ?_ ?_
  ·refine cu (fun aL=> ?_) (fun aL=> ?_)
   ·have aL:i<av.length:=by simpa using aL
    have AK:av[i]? =some av[i]:=cA aL;have Am:=U _ (ew aL)
    repeat refine ab rfl ?_
    refine gY av[i] AK ?_
    repeat refine ab rfl ?_
    refine b0 [0] av[i] ⟨Am,hr aL⟩ (cT ⟨rfl,rfl,rfl,rfl,?_,trivial⟩ ⟨_,rfl,rfl,fun _=>rfl⟩);exact congrArg (fun n=>some (al.i .i64 n)) (by rw[gD (n:=(xs[i]:Int)-c) (by omega) (by omega)];exact sk rfl (by omega) (by omega))
   ·have aL:av.length<=i:=by simpa using aL
    repeat refine ab rfl ?_
    refine b0 [0] 0 ⟨by decide,by rw[ji (by omega),ji aL];simp⟩ (cT ⟨rfl,rfl,rfl,rfl,?_,trivial⟩ ⟨_,rfl,rfl,fun _=>rfl⟩);exact congrArg (fun n=>some (al.i .i64 n)) (sk (by omega) (by omega) (by omega))
  rintro y ⟨aJ,fK⟩
  repeat refine ab rfl ?_
  refine hk (L:=Nat×Nat) (fun(d,bE)=>d<1000000000∧bE<=1∧xs[i]+1000000000*bE=d+y+c) (fun((d:Nat),(bE:Nat))=>⟨[.a 2 false 1 Nat fE (outs++List.replicate (xs.length-i) 0)],1,[(0,de xs),(1,de av),(5,.bH 0 1 0 i xs.length),(6,.i .i64 bE),(7,.i .i64 i),(8,.i .i64 d)]⟩) ?_ ?_
  ·refine cu (fun aL=> ?_) (fun aL=> ?_)
   ·repeat refine ab rfl ?_
    refine b0 [0] (xs[i]+1000000000-c-y,1) ⟨by omega,by omega,by omega⟩ (cT ⟨rfl,rfl,rfl,rfl,rfl,?_,trivial⟩ ⟨_,rfl,rfl,fun _=>rfl⟩);exact congrArg (fun n=>some (al.i .i64 n)) (sk (by omega) (by omega) (by omega))
   ·repeat refine ab rfl ?_
    refine b0 [0] (xs[i]-c-y,0) ⟨by omega,by omega,by omega⟩ (cT ⟨rfl,rfl,rfl,rfl,rfl,?_,trivial⟩ ⟨_,rfl,rfl,fun _=>rfl⟩);exact congrArg (fun n=>some (al.i .i64 n)) (by omega)
  rintro⟨d,bE⟩ ⟨ax,lV,he⟩
  repeat refine ab rfl ?_
  refine Sa (R:=fE) [d] (bk (R:=fE) [d] rfl) ((outs++[d])++List.replicate (xs.length-(i+1)) 0) ?_ (hl:=Ve gB h) (hc:=by simp;omega)
  repeat refine ab rfl ?_
  refine b0 [0] (i+1,outs++[d],bE) ⟨by show xs.length-(i+1)<xs.length-i;omega,by omega,by simp[gB],?_,lV,?_⟩ (cT ⟨rfl,rfl,rfl,rfl,eS,trivial⟩ ⟨_,rfl,rfl,fun _=>rfl⟩)
  ·intro x aa;rcases List.mem_append.1 aa with h|h
   ·exact bM x h
   ·simp at h;omega
  ·rw[k8,gB,hr h,fK,Nat.pow_succ];have:=Tq aD he;simp[val];omega
 ·have he:i=xs.length:=by omega
  repeat refine bd 42 rfl ?_
  refine Kx 42 outs ?_ (hl:=by rw[List.drop_zero,List.take_append_of_le_length (by omega),List.take_of_length_le (by omega)]) (hn:=gB);refine bm tF outs (by show outs.length<=_;omega) ?_
  repeat refine ab rfl ?_
  refine a1 (a6 rfl rfl (.of ?_));show de (eN outs)=c3 (a-b);rw[wb (b:=1000000000) (by decide) bM];have aG:xs.take i=xs:=List.take_of_length_le (by omega);have e2:av.take i=av:=List.take_of_length_le (by omega);rw[aG,e2,h6,nk]at aD;have ab3:=jz bM;have:c=0:=by
   rcases Nat.eq_zero_or_pos c with h|h
   ·exact h
   ·exfalso;have:c=1:=by omega
    subst this;rw[gB]at ab3;omega
  subst this;show de _=de _;rw[show val 1000000000 outs=a-b by omega]
def yj:cn where
 L:=Nat×Nat
 args:=fun(a,b)=>[c3 a,c3 b]
 pre:=fun(a,b)=>ed 1073741824 a∧ed 1073741824 b
 res:=fun(a,b)=>c3 (a*b)
theorem ajq{c x y o:Nat}(hc:c<1000000000)(aa:x<1000000000)(aJ:y<1000000000)(ao:o<1000000000):x*y+o+c<1000000000000000000:=by
 have J:x*y<=999999999*999999999:=Nat.mul_le_mul (by omega) (by omega);omega
theorem qH:ca aN.ctx 95 yj.spec:=by
 refine cz [(82,tE.spec)] f95 ?_;intro⟨a,b⟩ ⟨(a2:(aU _ a).length<=_),(hb:(aU _ b).length<=_)⟩ H a4;have J:=gp (b:=1000000000) (by decide) a;have U:=gp (b:=1000000000) (by decide) b;have h6:=fU (b:=1000000000) (by decide) a;have nk:=fU (b:=1000000000) (by decide) b;show bl.ok _ ⟨_,_,⟨_,_,[(0,de (aU 1000000000 a)),(1,de (aU 1000000000 b))]⟩⟩;generalize aU 1000000000 a=xs at *;generalize aU 1000000000 b=av at *
 repeat refine bd 13 rfl ?_
 refine aH 13 (.i .i64 ((xs.length+av.length:Nat):Int)) rfl cB ?_;refine n0 fE 0 ?_
 repeat refine ab rfl ?_
 refine e3 (L:=Nat×List Nat) (fun(i,outs)=>i<=xs.length∧outs.length=xs.length+av.length∧cY 1000000000 outs∧val 1000000000 (outs.take (i+av.length))=val 1000000000 (xs.take i)*val 1000000000 av)
  (fun((i:Nat),(outs:List Nat))=>⟨[.a 2 false 1 Nat fE outs],1,[(0,de xs),(1,de av),(5,.bH 0 1 0 (xs.length+av.length) (xs.length+av.length)),(6,.i .i64 i)]⟩)
  (fun l=>xs.length-l.1) [0] (0,List.replicate (xs.length+av.length) 0) ⟨by omega,by simp,qC (by decide) _,by simp[val,val_zero]⟩ (by show xs.length-0<cp+1;unfold cp;omega) (cT ⟨rfl,rfl,rfl,rfl,trivial⟩ ⟨_,rfl,rfl,fun _=>rfl⟩) ?_
 rintro⟨i,outs⟩ ⟨ag,gB,bM,aD⟩
 repeat refine ab rfl ?_
 refine cu (fun h=> ?_) (fun h=> ?_)
 ·have h:i<xs.length:=by omega
  have kp:=J _ (ew h)
  repeat refine ab rfl ?_
  refine e3 (L:=Nat×List Nat×Nat) (fun(j,os,c)=>j<=av.length∧os.length=xs.length+av.length∧cY 1000000000 os∧c<1000000000∧(∀k,i+j<=k->os[k]? =outs[k]?)∧val 1000000000 (os.take (i+j))+1000000000^(i+j)*c=val 1000000000 (outs.take (i+j))+1000000000^i*(xs[i]*val 1000000000 (av.take j)))
   (fun((j:Nat),(os:List Nat),(c:Nat))=>⟨[.a 2 false 1 Nat fE os],1,[(0,de xs),(1,de av),(5,.bH 0 1 0 (xs.length+av.length) (xs.length+av.length)),(6,.i .i64 i),(7,.i .i64 c),(8,.i .i64 j)]⟩)
   (fun l=>av.length-l.1) [0] (0,outs,0) ⟨by omega,gB,bM,by omega,fun _ _=>rfl,by simp[val]⟩ (by show av.length-0<cp+1;unfold cp;omega) (cT ⟨rfl,rfl,rfl,rfl,rfl,rfl,trivial⟩ ⟨_,rfl,rfl,fun _=>rfl⟩) ?_
  rintro⟨j,os,c⟩ ⟨hj,At,rE,hc,lr,kX⟩
  repeat refine ab rfl ?_
  refine cu (fun pt=> ?_) (fun pt=> ?_)
  ·have pt:j<av.length:=by omega
   have D5:=U _ (ew pt);have jH:i+j<os.length:=by omega
   have Iq:os[i+j]=outs[i+j]:=by
    have:=lr (i+j) (cd _);rw[cA jH,cA (by omega)]at this;exact Option.some.inj this
   have Ir:=rE _ (ew jH);have g:=ajq hc kp D5 Ir
   repeat refine ab rfl ?_
   refine eg 31 (.i .i64 ((i+j:Nat):Int)) rfl rfl cB ?_
   repeat refine ab rfl ?_
   refine kI ?_;refine CP os[i+j] (cA jH) ?_
   repeat refine ab rfl ?_
   refine mm xs[i] (cA h) ?_
   repeat refine ab rfl ?_
   refine mm av[j] (cA pt) ?_
   repeat refine bd 44 rfl ?_
   have YH:IntKind.i64.wrap (IntKind.i64.wrap ((c:Int)+os[i+j])+IntKind.i64.wrap ((xs[i]:Int)*av[j]))=((c+(xs[i]*av[j]+os[i+j]):Nat):Int):=by
    rw[<-Int.natCast_mul];rw[gD (n:=(c:Int)+os[i+j]) (by omega) (by omega),gD (n:=((xs[i]*av[j]:Nat):Int)) (by omega) (by omega),gD (by omega) (by omega)];omega
   refine eg 44 (.i .i64 ((c+(xs[i]*av[j]+os[i+j]):Nat):Int)) rfl rfl (congrArg (al.i .i64) YH) ?_
   repeat refine bd 48 rfl ?_
   refine aH 48 (.i .i64 ((i+j:Nat):Int)) rfl cB ?_;obtain⟨T,jG⟩:∃T,T=c+(xs[i]*av[j]+os[i+j]):=⟨_,rfl⟩;refine aH 7 (.i .i64 (T:Nat)) rfl (by rw[jG]) ?_;have anw:T<1000000000000000000:=by omega
   repeat refine bd 50 rfl ?_
   refine aH 50 (.i .i64 ((T%1000000000:Nat):Int)) rfl rfl ?_;refine lH ?_;refine j9 (T%1000000000) ?_
   repeat refine bd 53 rfl ?_
   refine aH 53 (.i .i64 ((T/1000000000:Nat):Int)) rfl (by show al.i _ (IntKind.i64.wrap ((T/1000000000:Nat):Int))=_;exact cB rfl (by omega) (by omega)) ?_
   repeat refine ab rfl ?_
   refine b0 [0] (j+1,os.set (i+j) (T%1000000000),T/1000000000) ⟨by show av.length-(j+1)<av.length-j;omega,by omega,by simp[At],lC rE _ (Nat.mod_lt _ (by decide)),by omega,fun k ae=>by rw[List.getElem?_set_ne (by omega)];exact lr k (by omega),?_⟩
    (cT ⟨rfl,rfl,rfl,rfl,rfl,eS,trivial⟩ ⟨_,rfl,rfl,fun _=>rfl⟩)
   rw[<-Nat.add_assoc,hr (l:=os.set (i+j) _) (by simp;omega),hr (l:=outs) (by omega),hr pt,List.take_set_of_le (cd _),List.getElem_set_self,Nat.pow_succ,<-Iq,jG];exact Qk (by rw[Nat.pow_add]) kX
  ·have hj:j=av.length:=by omega
   subst hj
   repeat refine bd 58 rfl ?_
   refine aH 58 (.i .i64 ((i+av.length:Nat):Int)) rfl cB ?_
   repeat refine ab rfl ?_
   refine lH ?_;refine j9 c ?_
   repeat refine ab rfl ?_
   refine b0 [0] (i+1,os.set (i+av.length) c) ⟨by show xs.length-(i+1)<xs.length-i;omega,by omega,by simp[At],lC rE _ hc,?_⟩ (cT ⟨rfl,rfl,rfl,eS,trivial⟩ ⟨_,rfl,rfl,fun _=>rfl⟩);rw[show i+1+av.length=i+av.length+1 by omega,hr (l:=os.set _ _) (by simp;omega),List.take_set_of_le (cd _),List.getElem_set_self,kX,aD,hr h,ji (cd _),Nat.add_mul,Nat.mul_assoc]
 ·have ag:i=xs.length:=by omega
  subst ag
  repeat refine ab rfl ?_
  refine l7 61 ?_;refine bm tF outs (by show outs.length<=_;omega) ?_
  repeat refine ab rfl ?_
  refine a1 (a6 rfl rfl (.of ?_));show de (eN outs)=c3 (a*b);rw[ji (l:=xs) (cd _),ji (l:=outs) (by omega)]at aD;rw[wb (b:=1000000000) (by decide) bM,aD,h6,nk];rfl
