/- What the functions of the program and of the document compute, for every input (part 3); conditions as in the statements. -/
import Derived.Test.YtcfbdmddggcjgaaGreatDoorC2
import Derived.Test.YtcfbdmddggcjgaaGreatDoorS2
import Derived.Test.YtcfbdmddggcjgaaGreatDoorZ
set_option linter.all false
namespace Go.az.ck
open Go.az
set_option maxRecDepth 100000
set_option maxHeartbeats 4000000
theorem N7:ca aN.ctx 153 Dd.spec:=by
 refine uk [(266,Dd.spec)] f153 ?_;intro(n:Nat) (hn:n<1000000000) H a4 gT
 repeat refine ab rfl ?_
 refine bm Zy n hn ?_ (hh:=gT)
 repeat refine ab rfl ?_
 exact a1 (a6 rfl rfl (.refl _))
theorem Yq{r q:Nat}(aF:r<1000000000)(hq:q≠0):aU 10 (r+1000000000*q)=hE 9 r++aU 10 q:=by
 have ok:=aiC (PV 9 r) (gp (b:=10) (by decide) q);have aD:val 10 (hE 9 r++aU 10 q)=r+1000000000*q:=by
  rw[k8,PX,vr,fU (by decide)];have:r%10^9=r:=fY (by omega);rw[this]
 have aX:eN (hE 9 r++aU 10 q)=hE 9 r++aU 10 q:=by
  have h:=sK (b:=10) (by decide) q;rcases List.eq_nil_or_concat (aU 10 q)with h0|⟨c6,d,h0⟩
  ·exact absurd ((oq (by decide)).1 h0) hq
  ·rw[List.concat_eq_append]at h0;have ax:d≠0:=by rw[h0]at h;exact(A5 (b:=10) h).2
   rw[h0,<-List.append_assoc,pY,if_neg ax]
 rw[<-aD];exact wV (by decide) ok aX
theorem ahR{r:Nat}(aF:r<1000000000):(hE 9 r).reverse=List.replicate (9-(dec r).length) 0++dec r:=by
 have hl:(aU 10 r).length<=9:=iM (by decide) (by omega);by_cases h0:r=0
 ·subst h0;decide +kernel
 have e:hE 9 r=aU 10 r++List.replicate (9-(aU 10 r).length) 0:=by
  apply List.ext_getElem?;intro j;have g:∀j,j<9->(hE 9 r)[j]? =some (r/10^j%10):=fun j hj=>by simp[hE,hj]
  by_cases hj:j<9
  ·rw[g j hj];by_cases J:j<(aU 10 r).length
   ·rw[List.getElem?_append_left J,rf (by decide) J]
   ·have a8:r/10^j=0:=Decidable.not_not.1 (fun h=>J ((uC (by decide)).2 h));rw[List.getElem?_append_right (by omega),List.getElem?_replicate,if_pos (by omega),a8]
  ·rw[List.getElem?_eq_none (by rw[vr];omega),List.getElem?_eq_none (by simp;omega)]
 have e2:dec r=(aU 10 r).reverse:=by unfold dec;rw[if_neg h0]
 rw[e,List.reverse_append,List.reverse_replicate,e2,List.length_reverse]
theorem Nu{r q:Nat}(aF:r<1000000000)(hq:q≠0):dU (r+1000000000*q)=dU q++(List.replicate (9-(dU r).length) 48++dU r):=by
 have e:dec (r+1000000000*q)=dec q++(List.replicate (9-(dec r).length) 0++dec r):=by
  rw[<-ahR aF];have J:dec (r+1000000000*q)=(aU 10 (r+1000000000*q)).reverse:=by unfold dec;rw[if_neg (by omega)]
  have U:dec q=(aU 10 q).reverse:=by unfold dec;rw[if_neg hq]
  rw[J,U,Yq aF hq,List.reverse_append]
 unfold dU;rw[e,Ct,Ct,q2];congr 2;unfold gl;rw[List.map_replicate];rfl
def qT(s:List UInt8):List al:=[.s s]
def lx(ps:List (List UInt8)):List UInt8:=ps.reverse.flatten
theorem PD(ps:List (List UInt8))(s:List UInt8):lx (ps++[s])=s++lx ps:=by unfold lx;rw[List.reverse_append];rfl
theorem acM{ps:List (List UInt8)}{k:Nat}(h:k<ps.length):lx (ps.drop k)=lx (ps.drop (k+1))++ps[k]:=by
 unfold lx;rw[iG h,List.reverse_cons,List.flatten_append];simp
def air(m:Nat):List (List UInt8)->di
 |[]=>⟨[],0,[(0,df m),(3,.nl)]⟩
 |p::ps=>⟨[.a 9 true 1 (List UInt8) qT (p::ps)],1,[(0,df m),(3,.bH 0 1 0 (p::ps).length (p::ps).length)]⟩
def VW(ps:List (List UInt8))(k:Nat):List UInt8->di
 |[]=>⟨[.c 234 [.v (.pointer none),.nl]],1,[(3,.gE 1 (List UInt8) qT ps),(7,.p 0 0),(8,.i .i64 ((k:Int)-1))]⟩
 |c::cs=>⟨[.c 234 [.p 0 0,.bH 1 1 0 (c::cs).length (c::cs).length],.a 5 true 1 UInt8 jP (c::cs)],2,[(3,.gE 1 (List UInt8) qT ps),(7,.p 0 0),(8,.i .i64 ((k:Int)-1))]⟩
theorem acN:∀{ps:List (List UInt8)},(∀p∈ps,p.length<=9)->(lx ps).length<=9*ps.length:=fun{ps} h=>by
 unfold lx;rw[List.length_flatten]
 induction ps with
 |nil=>simp
 |cons p ps bb=>
  have J:=h p (by simp);have U:=bb (fun q hq=>h q (List.mem_cons_of_mem _ hq));rw[List.reverse_cons,List.map_append,List.sum_append];simp at U⊢;omega
theorem I5{n k:Nat}(h:eo k n):(aU 10 n).length<=10*k:=iM (by decide) (by
 refine gf (tg h) ?_;rw[Nat.pow_mul];exact Nat.pow_le_pow_left (by decide) k)
theorem NF{m:Nat}(h:m≠0):(aU 10 (m/1000000000)).length<(aU 10 m).length:=by
 rw[mo (b:=10) (n:=m) (by decide) h,List.length_cons];refine Nat.lt_succ_of_le (iM (by decide) (Nat.lt_of_le_of_lt ?_ (CV (by decide) (cd _))));omega
theorem Ns{r:Nat}(h:r<1000000000):(dU r).length<=9:=by
 unfold dU dec;rw[q2];split
 ·simp
 ·rw[List.length_reverse];exact iM (by decide) (by omega)
def QC:cn where
 L:=Nat
 args:=fun n=>[df n]
 pre:=fun n=>eo 1073741823 n
 res:=fun n=>.s (dU n)
 hp:=mf
 hm:=mf.up
theorem QD:ca aN.ctx 61 QC.spec:=by
 refine uk [(152,KX.spec),(153,Dd.spec),(154,Sk.spec)] f61 ?_;intro(n:Nat) (hn:eo _ n) H a4 gT
 repeat refine ab rfl ?_
 refine cu (fun h=> ?_) (fun h=> ?_)
 ·have h0:n=0:=qw.1 (by omega);subst h0
  repeat refine ab rfl ?_
  exact a1 (a6 rfl rfl (.refl _))
 have kn:n≠0:=fun e=>h (by rw[e,fV];rfl)
 repeat refine ab rfl ?_
 refine o1 (L:=List (List UInt8)) (fun ps=>lx ps=dU n∧ps≠[]∧ps.length<=10737418230∧∀p∈ps,p≠[]∧p.length<=9) (fun ps=>⟨[],0,[(3,.gE 1 (List UInt8) qT ps)]⟩) ?_ ?_
 ·refine e3 (L:=Nat×List (List UInt8)) (fun(m,ps)=>eo 1073741823 m∧ps.length+(aU 10 m).length<=10737418230∧dU n=(if m=0 then[]else dU m)++lx ps∧(m=0->ps≠[])∧∀p∈ps,p≠[]∧p.length<=9) (fun(m,ps)=>air m ps) (fun l=>(aU 10 l.1).length) [] (n,[]) ?_ ?_ (dF ⟨rfl,rfl,trivial⟩) ?_
  ·exact⟨hn,by show 0+(aU 10 n).length<=_;have:=I5 hn;omega,by rw[if_neg kn];simp[lx],fun h=>absurd h kn,fun p hp=>by simp at hp⟩
  ·show(aU 10 n).length<cp+1;have:=I5 hn;unfold cp;omega
  rintro⟨m,ps⟩ ⟨aW,a0,bx,cK,dn⟩;cases ps with
  |nil=>
   repeat refine ab rfl ?_
   refine cu (fun hm=> ?_) (fun hm=> ?_)
   ·have hm:m≠0:=fun e=>by rw[e,fV]at hm;simp at hm
    have aF:m%1000000000<1000000000:=Nat.mod_lt _ (by decide);have z6:=NF hm;have Ie:=Ns aF;have Ah:0<(dU (m%1000000000)).length:=List.length_pos_iff.2 (uw _)
    repeat refine ab rfl ?_
    refine bm KY (m,1000000000) ⟨dP aW (by decide),by show 0<1000000000;decide,by show 1000000000<4294967296;decide⟩ ?_
    repeat refine bd 21 rfl ?_
    refine aH 21 (.i .u64 ((m%1000000000:Nat):Int)) rfl (congrArg (fun n:Nat=>al.i .u64 (n:Int)) (fY (Nat.lt_trans aF (by decide)))) ?_;refine bm N7 (m%1000000000) aF ?_ (hh:=gT);have Ao:m%1000000000+1000000000*(m/1000000000)=m:=Nat.mod_add_div _ _;generalize m%1000000000=r at *;generalize hq:m/1000000000=q at *
    repeat refine bd 6 rfl ?_
    iterate 3 refine ab rfl ?_
    refine hk (L:=List UInt8) (fun dL=>dL≠[]∧dL.length<=9∧dU m=(if q=0 then[]else dU q)++dL) (fun dL=>⟨[],0,[(3,.nl),(4,df q),(6,.s dL)]⟩) ?_ ?_
    ·repeat refine ab rfl ?_
     refine cu (fun gM=> ?_) (fun gM=> ?_)
     ·have gM:q≠0:=fun e=>by rw[e,fV]at gM;simp at gM
      obtain⟨z,a8⟩:∃z:Nat,z=9-(dU r).length:=⟨_,rfl⟩
      repeat refine bd 28 rfl ?_
      refine aH 28 (.i .i64 (z:Nat)) rfl cB ?_;refine bm Sl z (by show z<9;omega) ?_
      repeat refine ab rfl ?_
      refine qM ?_ (hl:=by rw[List.length_replicate];omega)
      repeat refine ab rfl ?_
      refine b0 [] (List.replicate z 48++dU r) ⟨by simp[uw],by rw[List.length_append,List.length_replicate];omega,by rw[if_neg gM,<-Ao,a8];exact Nu aF gM⟩ (dF ⟨rfl,rfl,rfl,trivial⟩)
     ·have gM:q=0:=qw.1 (by omega)
      repeat refine ab rfl ?_
      exact b0 [] (dU r) ⟨uw _,Ie,by rw[if_pos gM,<-Ao,gM];rfl⟩ (dF ⟨rfl,rfl,rfl,trivial⟩)
    rintro dL ⟨bg,bK,ep⟩
    repeat refine ab rfl ?_
    refine Kv qT [dL] (bk (R:=qT) [dL] rfl) ?_
    repeat refine ab rfl ?_
    refine b0 [1] (q,[dL]) ⟨by show(aU 10 q).length<(aU 10 m).length;exact z6,rQ aW (by rw[<-hq];exact Nat.div_le_self _ _),by show 1+(aU 10 q).length<=_;simp at a0;omega,by rw[bx,if_neg hm,ep,List.append_assoc,show lx [dL]=dL++lx []from PD [] dL],fun _=>by simp,?_⟩ (yK ⟨rfl,rfl,trivial⟩ ⟨_,rfl,rfl,fun _=>rfl⟩);intro x aa;have:x=dL:=by simpa using aa
    subst this;exact⟨bg,bK⟩
   ·have hm:m=0:=qw.1 (by omega);subst hm;exact absurd rfl (cK rfl)
  |cons p ps=>
   repeat refine ab rfl ?_
   refine cu (fun hm=> ?_) (fun hm=> ?_)
   ·have hm:m≠0:=fun e=>by rw[e,fV]at hm;simp at hm
    have aF:m%1000000000<1000000000:=Nat.mod_lt _ (by decide);have z6:=NF hm;have Ie:=Ns aF;have Ah:0<(dU (m%1000000000)).length:=List.length_pos_iff.2 (uw _)
    repeat refine ab rfl ?_
    refine bm KY (m,1000000000) ⟨dP aW (by decide),by show 0<1000000000;decide,by show 1000000000<4294967296;decide⟩ ?_
    repeat refine bd 21 rfl ?_
    refine aH 21 (.i .u64 ((m%1000000000:Nat):Int)) rfl (congrArg (fun n:Nat=>al.i .u64 (n:Int)) (fY (Nat.lt_trans aF (by decide)))) ?_;refine bm N7 (m%1000000000) aF ?_ (hh:=gT);have Ao:m%1000000000+1000000000*(m/1000000000)=m:=Nat.mod_add_div _ _;generalize m%1000000000=r at *;generalize hq:m/1000000000=q at *
    repeat refine bd 6 rfl ?_
    iterate 3 refine ab rfl ?_
    refine hk (L:=List UInt8) (fun dL=>dL≠[]∧dL.length<=9∧dU m=(if q=0 then[]else dU q)++dL) (fun dL=>⟨[.a 9 true 1 (List UInt8) qT (p::ps)],1,[(3,.bH 0 1 0 (p::ps).length (p::ps).length),(4,df q),(6,.s dL)]⟩) ?_ ?_
    ·repeat refine ab rfl ?_
     refine cu (fun gM=> ?_) (fun gM=> ?_)
     ·have gM:q≠0:=fun e=>by rw[e,fV]at gM;simp at gM
      obtain⟨z,a8⟩:∃z:Nat,z=9-(dU r).length:=⟨_,rfl⟩
      repeat refine bd 28 rfl ?_
      refine aH 28 (.i .i64 (z:Nat)) rfl cB ?_;refine bm Sl z (by show z<9;omega) ?_
      repeat refine ab rfl ?_
      refine qM ?_ (hl:=by rw[List.length_replicate];omega)
      repeat refine ab rfl ?_
      refine b0 [0] (List.replicate z 48++dU r) ⟨by simp[uw],by rw[List.length_append,List.length_replicate];omega,by rw[if_neg gM,<-Ao,a8];exact Nu aF gM⟩ (cT ⟨rfl,rfl,rfl,trivial⟩ ⟨_,rfl,rfl,fun _=>rfl⟩)
     ·have gM:q=0:=qw.1 (by omega)
      repeat refine ab rfl ?_
      exact b0 [0] (dU r) ⟨uw _,Ie,by rw[if_pos gM,<-Ao,gM];rfl⟩ (cT ⟨rfl,rfl,rfl,trivial⟩ ⟨_,rfl,rfl,fun _=>rfl⟩)
    rintro dL ⟨bg,bK,ep⟩
    repeat refine ab rfl ?_
    have iA:ps.length<=10737418230:=by simp at a0;omega
    refine Ku (R:=qT) [dL] (bk (R:=qT) [dL] rfl) ?_
    repeat refine ab rfl ?_
    refine b0 [2] (q,p::(ps++[dL])) ⟨by show(aU 10 q).length<(aU 10 m).length;exact z6,rQ aW (by rw[<-hq];exact Nat.div_le_self _ _),by simp at a0 ⊢;omega,by rw[bx,if_neg hm,ep,List.append_assoc,show lx (p::(ps++[dL]))=dL++lx (p::ps)from PD (p::ps) dL],fun _=>by simp,?_⟩ (yK ⟨rfl,congrArg (fun k=>some (al.bH 2 1 0 k k)) (by simp),trivial⟩ ⟨_,rfl,rfl,fun _=>rfl⟩);intro x aa;rcases List.mem_append.1 (show x∈(p::ps)++[dL]from aa)with h|h
    ·exact dn x h
    ·have:x=dL:=by simpa using h
     subst this;exact⟨bg,bK⟩
   ·have hm:m=0:=qw.1 (by omega);subst hm;refine Ky 3 ?_
    repeat refine ab rfl ?_
    exact b0 [] (p::ps) ⟨by rw[bx,if_pos rfl];rfl,by simp,by simp at a0 ⊢;omega,dn⟩ (dF ⟨rfl,trivial⟩)
 rintro ps ⟨aW,a0,bx,cK⟩;have dn:0<ps.length:=List.length_pos_iff.2 a0;have PC:∀k,(lx (ps.drop k)).length<=9*ps.length:=fun k=>Nat.le_trans (acN fun p hp=>(cK p (List.mem_of_mem_drop hp)).2) (kA _ (by simp))
 repeat refine ab rfl ?_
 refine e3 (L:=Nat×List UInt8) (fun(k,bn)=>k<=ps.length∧lx (ps.drop k)=bn) (fun(k,bn)=>VW ps k bn) (fun l=>l.1) [0] (ps.length,[]) ⟨cd _,by rw[List.drop_length];rfl⟩ (by show ps.length<cp+1;unfold cp;omega) (cT ⟨rfl,rfl,eS,trivial⟩ ⟨_,rfl,rfl⟩) ?_;rintro⟨k,bn⟩ ⟨ae,hb⟩;cases k with
 |zero=>
  rw[List.drop_zero,aW]at hb;cases bn with
  |nil=>exact absurd hb (uw n)
  |cons c cs=>
   have j1:=PC 0;rw[List.drop_zero,aW,hb]at j1
   repeat refine ab rfl ?_
   refine vV f156 (by kernel_rfl) ?_;intro H1 i1 s1 _ _
   repeat refine ab rfl ?_
   refine Ya ?_ (hc:=by simp)
   repeat refine ab rfl ?_
   refine Yc ?_ (h0:=by simp) (hb:=by omega)
   repeat refine ab rfl ?_
   refine a1 ⟨.inr rfl,_,rfl,?_⟩
   repeat refine ab rfl ?_
   exact a1 (a6 rfl rfl (.of (by show al.s (c::cs)=al.s (dU n);rw[hb])))
 |succ m=>
  have hm:m<ps.length:=by omega
  obtain⟨bg,bK⟩:=cK _ (ew hm);have hj:=acM hm;rw[hb]at hj;have j1:=PC (m+1);rw[hb]at j1;have kS:ps[m]? =some ps[m]:=cA hm;generalize ps[m]=s at *;cases bn with
  |nil=>
   obtain⟨c,cs,rfl⟩:∃c cs,s=c::cs:=by cases s with
    |nil=>exact absurd rfl bg
    |cons c cs=>exact⟨c,cs,rfl⟩
   refine aH 8 (.i .i64 (m:Nat)) rfl ff ?_
   repeat refine ab rfl ?_
   refine aH 41 (.b true) rfl (by simp) ?_
   repeat refine ab rfl ?_
   refine gY (c::cs) kS ?_
   repeat refine ab rfl ?_
   refine vV f155 (by kernel_rfl) ?_;intro H1 i1 s1 _ _
   repeat refine ab rfl ?_
   refine vV f270 (by kernel_rfl) ?_;intro Gv i2 s2 _ _
   repeat refine ab rfl ?_
   refine gH (Y0 rfl rfl) ?_
   repeat refine ab rfl ?_
   refine gH (Wg rfl rfl (by decide)) ?_
   repeat refine ab rfl ?_
   refine gH (XX rfl rfl rfl) ?_
   repeat refine ab rfl ?_
   refine a1 ⟨.inl rfl,_,rfl,?_⟩
   repeat refine ab rfl ?_
   refine ajG ?_
   repeat refine ab rfl ?_
   refine a1 ⟨.inr rfl,_,rfl,?_⟩
   repeat refine ab rfl ?_
   exact b0 [0,1] (m,c::cs) ⟨by simp,by omega,hj⟩ (kc ⟨rfl,rfl,eS,trivial⟩ ⟨_,rfl,rfl⟩ ⟨_,rfl,rfl,fun _=>rfl⟩)
  |cons p7 bn=>
   have ru:bn.length<=96636764070:=by simp at j1;omega
   have an0:s.length<=9:=bK;refine aH 8 (.i .i64 (m:Nat)) rfl ff ?_
   repeat refine ab rfl ?_
   refine aH 41 (.b true) rfl (by simp) ?_
   repeat refine ab rfl ?_
   refine gY s kS ?_
   repeat refine ab rfl ?_
   refine vV f155 (by kernel_rfl) ?_;intro H1 i1 s1 _ _
   repeat refine ab rfl ?_
   refine vV f270 (by kernel_rfl) ?_;intro Gv i2 s2 _ _
   repeat refine ab rfl ?_
   refine gH (Y1 rfl rfl) ?_
   repeat refine ab rfl ?_
   refine a1 ⟨.inl rfl,_,rfl,?_⟩
   repeat refine ab rfl ?_
   refine ajF ?_ (h0:=bg)
   repeat refine ab rfl ?_
   refine a1 ⟨.inr rfl,_,rfl,?_⟩
   repeat refine ab rfl ?_
   exact b0 [0,2] (m,p7::(bn++s)) ⟨by simp,by omega,hj⟩ (al9 ⟨rfl,rfl,eS,trivial⟩ ⟨_,rfl,congrArg (fun k=>bJ.c 234 [.p 0 0,.bH 2 1 0 k k]) (by simp;omega)⟩ ⟨_,rfl,rfl,fun _=>rfl⟩)
theorem Nt{n k:Nat}(h:eo k n):(dU n).length<=10*k+1:=by
 have:=I5 h;unfold dU dec;rw[q2];split
 ·simp
 ·rw[List.length_reverse];omega
def Sz:cn where
 L:=Rat
 args:=fun x=>[c1 x]
 pre:=fun x=>eF 268435456 x
 res:=fun x=>.s (iV x)
 hp:=mf
 hm:=mf.up
theorem akm:ca aN.ctx 14 Sz.spec:=by
 refine uk [(61,QC.spec)] f14 ?_;intro(x:Rat) (aa:eF _ x) H a4 gT;have gi:=Nt aa.1;have ie:=Nt aa.2
 repeat refine ab rfl ?_
 refine bm QD x.num.natAbs (dP aa.1 (by decide)) ?_ (hh:=gT)
 repeat refine bd 3 rfl ?_
 iterate 3 refine ab rfl ?_
 obtain⟨u,hu⟩:∃u,u=(if x.num<0 then[45]else[])++dU x.num.natAbs:=⟨_,rfl⟩;have rI:u.length<=10*268435456+2:=by
  rw[hu,List.length_append];have:(if x.num<0 then([45]:List UInt8)else[]).length<=1:=by split<;>simp
  omega
 refine hk (L:=Unit) (fun _=>True) (fun _=>⟨[.c 29 (LI x)],1,[(1,.p 0 0),(3,.s u)]⟩) ?_ ?_
 ·repeat refine ab rfl ?_
  refine cu (fun h=> ?_) (fun h=> ?_)
  ·repeat refine ab rfl ?_
   refine qM ?_ (hl:=by show 1+(dU _).length<=_;omega)
   repeat refine ab rfl ?_
   exact b0 [0] () trivial (cT ⟨rfl,by rw[hu,if_pos h];rfl,trivial⟩ ⟨_,rfl,rfl⟩)
  ·repeat refine ab rfl ?_
   exact b0 [0] () trivial (cT ⟨rfl,by rw[hu,if_neg h];rfl,trivial⟩ ⟨_,rfl,rfl⟩)
 intro _ _
 repeat refine bd 12 rfl ?_
 by_cases ax:x.den=1
 ·refine aH 12 (.jJ 1 Nat ft []) rfl (by show re x.den=_;rw[ax];rfl) ?_
  repeat refine ab rfl ?_
  refine a1 (a6 rfl rfl (.of ?_));show al.s u=al.s (iV x);unfold iV;rw[<-hu,if_pos ax,List.append_nil]
 ·refine aH 12 (.jJ 1 Nat ft (aU 4294967296 x.den)) rfl (CS ax) ?_;have cx:(aU 4294967296 x.den).isEmpty=false:=List.isEmpty_eq_false_iff.2 (fun e=>x.den_nz ((oq (by decide)).1 e))
  repeat refine ab rfl ?_
  refine Sf rfl (by show lf true _=true;rw[cx];rfl) ?_
  repeat refine bd 16 rfl ?_
  refine Kz 16 (df x.den) rfl (Ny ax) ?_;refine bm QD x.den (dP aa.2 (by decide)) ?_ (hh:=gT);refine qM ?_ (hl:=by show 1+(dU _).length<=_;omega);refine qM ?_ (hl:=by rw[List.length_append];show u.length+(1+(dU _).length)<=_;omega)
  repeat refine ab rfl ?_
  refine a1 (a6 rfl rfl (.of ?_));show al.s (u++([47]++dU x.den))=al.s (iV x);unfold iV;rw[<-hu,if_neg ax];rfl
def F2:cn where
 L:=Rat×Rat
 args:=fun(x,y)=>[c1 x,dh y]
 pre:=fun(x,y)=>eF 268435456 x∧eG 67108864 y
 res:=fun(x,y)=>.b (iV x==iV y)
 hp:=mf
 hm:=mf.up
theorem akt:ca aN.ctx 42 F2.spec:=by
 refine uk [(14,Sz.spec),(28,JZ.spec)] f42 ?_;intro⟨x,y⟩ ⟨(aa:eF _ x),(aJ:eG _ y)⟩ H a4 gT
 repeat refine ab rfl ?_
 refine cZ akm x aa ?_ (hh:=gT)
 repeat refine ab rfl ?_
 refine cZ RC y aJ ?_
 repeat refine ab rfl ?_
 exact a1 (a6 rfl rfl (.refl _))
theorem aku:ca aN.ctx 9 F2.spec:=by
 refine uk [(42,F2.spec)] f9 ?_;intro⟨x,y⟩ ⟨(aa:eF _ x),(aJ:eG _ y)⟩ H a4 gT
 repeat refine ab rfl ?_
 refine bm akt (x,y) ⟨aa,aJ⟩ ?_ (hh:=gT)
 repeat refine ab rfl ?_
 exact a1 (a6 rfl rfl (.refl _))
def Sx:cn where
 L:=List UInt8
 args:=fun s=>[.s s]
 pre:=fun s=>iq s∧s.length<=1000
 res:=fun s=>df (b8 s)
def vW(v:Nat)(rest:List UInt8):List bJ:=[.c 27 [df v],.c 9 [.s rest]]
theorem vo{v k K:Nat}(h:v<10^k)(ae:k<=K):eo K v:=AT (gf h (Nat.le_trans (Nat.pow_le_pow_left (by decide) k) (Nat.pow_le_pow_right (by decide) ae)))
def r7:FuncId->List Value->aw->Value->aw->Prop:=cH [(22,x8.spec),(74,Et.spec),(75,GG.spec)]
theorem KK:ca aN.ctx 21 Sx.spec:=by
 refine XU aN.cG cN r7 (xf:=f21) (by kernel_rfl) (fun l vs st ⟨_,_,_,d⟩=>by rw[hH d];exact jk rfl) ?_;rintro⟨s,H⟩ vs st ⟨⟨dV,ak⟩,_,aA,ax⟩;have dV:iq s:=dV;have ak:s.length<=1000:=ak;have aA:Fit H [] st [] 0:=aA;have ax:ei H [.s s] [] vs:=ax;have af:=dk.zero ax;obtain⟨eX,cR,H1,Pq,aG,Lw,LA,f1,kt⟩:=seg (call:=dx a7 (en aN.ctx r7) (cp+1)) (a9:=cp+1) (fn:=21) (ops:=[C.m 2 C.cD]) (s:=⟨[],0,nB 0 [.s s]⟩) (t:=⟨[],0,[(2,.nl),(0,.s s)]⟩) rfl (by
  intro H1 i1 s1 _ _
  repeat refine ab rfl ?_
  exact a1 ⟨rfl,rfl⟩) aA af
 obtain⟨mu,cS,Gv,an7,e2,Lx,jm,f2,lG⟩:=seg (call:=dx a7 (en aN.ctx r7) (cp+1)) (a9:=cp+1) (fn:=21) (ops:=[C.ba 3 [C.N] 27]) (s:=⟨[],0,[(2,.nl),(0,.s s)]⟩) (t:=⟨[.c 27 [df 0]],1,[(3,.p 0 0),(2,.nl),(0,.s s)]⟩) rfl (by
  intro H1 i1 s1 _ _
  iterate 1 refine ab rfl ?_
  refine ajJ 0 (cs:=[.nl]) [df 0] ⟨c5.nl.trans (.of (by show db []=db (aU _ 0);rw[fV])),trivial⟩ ?_
  repeat refine ab rfl ?_
  exact a1 ⟨rfl,rfl⟩) LA f1
 obtain⟨HF,gx,p2,qq,cw,Ly,LB,f3,mM⟩:=seg (call:=dx a7 (en aN.ctx r7) (cp+1)) (a9:=cp+1) (fn:=21) (ops:=[C.m 6 0,C.c 7 73 [6]]) (s:=⟨[.c 27 [df 0]],1,[(3,.p 0 0),(2,.nl),(0,.s s)]⟩) (t:=⟨vW 0 s,2,[(7,.fn (.func 186) [] [.p 1 0]),(6,.s s),(3,.p 0 0),(2,.nl),(0,.s s)]⟩) rfl (by
  intro H1 i1 s1 _ _
  repeat refine ab rfl ?_
  refine vV f73 (by kernel_rfl) ?_;intro Gv i2 s2 _ _
  repeat refine ab rfl ?_
  refine a1 ⟨.inr rfl,_,rfl,?_⟩
  repeat refine ab rfl ?_
  exact a1 ⟨rfl,rfl⟩) jm f2
 have oK:HF.b3=none:=mM.trans (lG.trans kt);obtain⟨ow,tO,UL,aoi,gz,t4,d4,pF,UJ,LC,ai3,cK,A2,VY⟩:=amT (X:=aN.ctx) (a7:=a7) (eh:=r7) (a9:=cp+1) (n:=4611686018427387902) (fn:=21) oK LB f3 (f:=7) (ps:=[8,9]) (dy:=C.q (C.R [C.m 4 8]) (C.R [C.m 5 9])) (body:=C.K 1 (.dJ [C.D (C.m 11 5) [5],C.D (C.cr 12 .u64 11) [11],C.E (C.c 13 22 [12]),C.aI (C.l 10 3) 1 [3],C.E (C.c 14 74 [10,13]),C.aI (C.m 15 4) 2 [4],C.aI (C.cr 16 .u64 15) 2 [15],C.E (C.c 17 22 [16]),C.E (C.c 18 75 [14,17]),C.E (C.st 1 3 18)] [1,2,3,0,4,5,6,7,8,9] [10,15,16] [0,1,3,0,15,0,32,127,255,511])) (g:=186) (xf:=f186) (caps:=[.p 1 0]) (fun o=>o=vW (b8 s) []) (by kernel_rfl) rfl rfl (jk rfl) (by
  intro s1 l hlen j0 pw gA z0 aX;have hlen:qq.length=2:=hlen
  repeat refine ab rfl ?_
  refine e3 (L:=List UInt8×Nat) (fun(rest,v)=>iq rest∧rest.length<=s.length∧v<10^(s.length-rest.length)∧b8 s=b8 rest+10^rest.length*v) (fun(rest,v)=>⟨vW v rest,2,[(0,.v (.func (.yield l) #[] #[])),(1,.p 1 0)]⟩) (fun l=>l.1.length) [0,1] (s,0) ⟨dV,cd _,by simp,by simp⟩ (by show List.length s<4611686018427387904;omega) (kc ⟨rfl,rfl,trivial⟩ ⟨_,rfl,rfl⟩ ⟨_,rfl,rfl⟩ (hp:=by show pinned qq.length _ _=_;rw[hlen];rfl)) ?_;rintro⟨rest,v⟩ ⟨aW,a0,bx,cK⟩
  repeat refine ab rfl ?_
  refine cu (fun aF=> ?_) (fun aF=> ?_)
  ·have aF:0<rest.length:=by omega
   repeat refine ab rfl ?_
   refine o1 (L:=List UInt8×List UInt8) (fun(w,dt)=>rest=w++dt∧w.length<=9∧w≠[]) (fun(w,dt)=>⟨vW v dt,2,[(0,.v (.func (.yield l) #[] #[])),(1,.p 1 0),(3,.i .u32 (b8 w:Nat)),(4,.i .u32 ((10^w.length:Nat):Int))]⟩) ?_ ?_
   ·refine e3 (L:=List UInt8×List UInt8) (fun(w,dt)=>rest=w++dt∧w.length<=9) (fun(w,dt)=>⟨vW v dt,2,[(0,.v (.func (.yield l) #[] #[])),(1,.p 1 0),(3,.i .u32 (b8 w:Nat)),(4,.i .u32 ((10^w.length:Nat):Int)),(5,.i .i64 (w.length:Nat))]⟩) (fun l=>9-l.1.length) [0,1] ([],rest) ⟨rfl,by decide⟩ (by show 9-0<4611686018427387904;decide) (kc ⟨rfl,rfl,rfl,rfl,rfl,trivial⟩ ⟨_,rfl,rfl⟩ ⟨_,rfl,rfl⟩ (hp:=by show pinned qq.length _ _=_;rw[hlen];rfl)) ?_;rintro⟨w,dt⟩ ⟨bg,bK⟩;have hw:iq w:=fun c hc=>aW c (by rw[bg];exact List.mem_append_left _ hc);have AG:=r8 hw
    repeat refine bd 11 rfl ?_
    by_cases g1:w.length<9
    ·refine aH 11 (.b true) rfl (congrArg al.b (decide_eq_true (by omega))) ?_;cases dt with
     |nil=>
      repeat refine ab rfl ?_
      exact b0 [0,1] (w,[]) ⟨bg,bK,fun e=>by rw[e]at bg;rw[bg]at aF;simp at aF⟩ (kc ⟨rfl,rfl,rfl,rfl,trivial⟩ ⟨_,rfl,rfl⟩ ⟨_,rfl,rfl⟩ (hp:=by show pinned qq.length _ _=_;rw[hlen];rfl))
     |cons c dt=>
      have hc:=aW c (by rw[bg];simp);have u2:10^w.length<=100000000:=Nat.le_trans (Nat.pow_le_pow_right (by decide) (show w.length<=8 by omega)) (by decide);have s7:=KF w c;have iA:10^(w++[c]).length=10*10^w.length:=by rw[List.length_append,List.length_singleton,Nat.pow_succ,Nat.mul_comm]
      repeat refine bd 15 rfl ?_
      refine aH 15 (.b true) rfl (by simp) ?_
      repeat refine ab rfl ?_
      refine lI c (j:=0) rfl ?_;have YF:(c.toNat+(256*48-48))%256=c.toNat-48:=by omega
      have YG:(10*b8 w%4294967296+(c.toNat-48)%4294967296)%4294967296=b8 (w++[c]):=by rw[s7];generalize b8 w=x at *;generalize 10^w.length=P at *;omega
      have zG:10*10^w.length%4294967296=10^(w++[c]).length:=by rw[iA];generalize 10^w.length=P at *;omega
      repeat refine bd 22 rfl ?_
      refine aH 22 (.i .u8 ((c.toNat-48:Nat):Int)) rfl (congrArg (fun n:Nat=>al.i .u8 (n:Int)) YF) ?_
      repeat refine bd 24 rfl ?_
      refine aH 24 (.i .u32 (b8 (w++[c]):Nat)) rfl (congrArg (fun n:Nat=>al.i .u32 (n:Int)) YG) ?_
      repeat refine bd 26 rfl ?_
      refine aH 26 (.i .u32 ((10^(w++[c]).length:Nat):Int)) rfl (congrArg (fun n:Nat=>al.i .u32 (n:Int)) zG) ?_
      repeat refine ab rfl ?_
      refine pS (p:=1) dt ?_ (hp:=by simp) (hq:=by simp)
      repeat refine ab rfl ?_
      exact b0 [0,1] (w++[c],dt) ⟨by simp;omega,by rw[bg];simp,by simp;omega⟩ (kc ⟨rfl,rfl,rfl,rfl,congrArg (fun n=>some (al.i .i64 n)) (sk (by simp) (by omega) (by omega)),trivial⟩ ⟨_,rfl,rfl⟩ ⟨_,rfl,rfl⟩ (hp:=by show pinned qq.length _ _=_;rw[hlen];rfl))
    ·refine aH 11 (.b false) rfl (congrArg al.b (decide_eq_false (by omega))) ?_
     repeat refine ab rfl ?_
     exact b0 [0,1] (w,dt) ⟨bg,bK,fun e=>by rw[e]at g1;simp at g1⟩ (kc ⟨rfl,rfl,rfl,rfl,trivial⟩ ⟨_,rfl,rfl⟩ ⟨_,rfl,rfl⟩ (hp:=by show pinned qq.length _ _=_;rw[hlen];rfl))
   rintro⟨w,dt⟩ ⟨bg,bK,ep⟩
   repeat refine ab rfl ?_
   have hw:iq w:=fun c hc=>aW c (by rw[bg];exact List.mem_append_left _ hc);have AG:=r8 hw;have u2:10^w.length<=1000000000:=Nat.le_trans (Nat.pow_le_pow_right (by decide) bK) (by decide);have OT:rest.length=w.length+dt.length:=by rw[bg,List.length_append]
   have pz:b8 rest=b8 dt+10^dt.length*b8 w:=by rw[bg,KD]
   have D3:v*10^w.length+b8 w<10^(s.length-dt.length):=by
    rw[show s.length-dt.length=(s.length-rest.length)+w.length by omega,Nat.pow_add];refine gf (Nat.add_lt_add_left AG _) ?_;rw[<-Nat.succ_mul];exact g5 _ bx
   have rH:b8 s=b8 dt+10^dt.length*(v*10^w.length+b8 w):=by
    rw[cK,pz,OT,Nat.pow_add,Nat.mul_add];rw[Nat.mul_comm (10^w.length) (10^dt.length),Nat.mul_assoc,Nat.mul_comm (10^w.length) v];omega
   have Jd:eo 1000 v:=vo bx (by omega);have PY:eo 1000 (10^w.length):=vo (k:=w.length+1) (Nat.pow_lt_pow_right (by decide) (Nat.lt_succ_self _)) (by omega);have lw:eo 1000 (b8 w):=vo AG (by omega);have ZZ:10^w.length%18446744073709551616=10^w.length:=fY (Nat.lt_of_le_of_lt u2 (by decide));have Z0:b8 w%18446744073709551616=b8 w:=fY (gf AG (Nat.le_trans u2 (by decide)));refine ajW j0 pw gA z0 aX (e2:=[(5,.i .u32 ((10^w.length:Nat):Int)),(4,.i .u32 (b8 w:Nat)),(9,.i .u32 ((10^w.length:Nat):Int)),(8,.i .u32 (b8 w:Nat)),(7,.fn (.func 186) [] [.p 1 0]),(6,.s s),(3,.p 0 0),(2,.nl),(0,.s s)]) ?_ ?_
   ·intro UM i5 akq
    repeat refine ab rfl ?_
    exact a1 ⟨rfl,rfl⟩
   ·intro UM i5 akq OL _;have OL:i5.length=2:=OL
    repeat refine bd 12 rfl ?_
    refine eg 12 (.i .u64 ((10^w.length:Nat):Int)) rfl rfl (congrArg (fun n:Nat=>al.i .u64 (n:Int)) ZZ) ?_;refine cZ r0 (10^w.length:Nat) (Nat.lt_of_le_of_lt u2 (by decide)) ?_
    repeat refine ab rfl ?_
    refine cZ xV (v,10^w.length) ⟨dP Jd (by decide),dP PY (by decide)⟩ ?_
    repeat refine bd 16 rfl ?_
    refine eg 16 (.i .u64 (b8 w:Nat)) rfl rfl (congrArg (fun n:Nat=>al.i .u64 (n:Int)) Z0) ?_;refine cZ r0 (b8 w) (gf AG (Nat.le_trans u2 (by decide))) ?_;refine cZ LO (v*10^w.length,b8 w) ⟨dP (mG Jd PY) (by decide),dP lw (by decide)⟩ ?_
    repeat refine ab rfl ?_
    refine a1 ⟨rfl,vW (v*10^w.length+b8 w) dt,[0,1],rfl,kc trivial ⟨_,rfl,rfl⟩ ⟨_,rfl,rfl⟩,?_⟩
    repeat refine ab rfl ?_
    exact b0 [0,1] (dt,v*10^w.length+b8 w) ⟨by rw[OT];have:=List.length_pos_iff.2 ep;show dt.length<_;omega,fun c hc=>aW c (by rw[bg];exact List.mem_append_right _ hc),by omega,D3,rH⟩ (kc ⟨rfl,rfl,trivial⟩ ⟨_,rfl,rfl⟩ ⟨_,rfl,rfl⟩ (hp:=by show pinned qq.length _ _=_;rw[hlen];rfl))
  ·have aF:rest=[]:=List.length_eq_zero_iff.1 (by omega);subst aF;have aD:b8 s=v:=by rw[cK];simp[b8,lT,val]
   repeat refine ab rfl ?_
   exact a1 ⟨.inl rfl,⟨_,rfl⟩,vW (b8 s) [],[0,1],rfl,kc trivial ⟨_,rfl,by rw[aD];rfl⟩ ⟨_,rfl,rfl⟩,rfl⟩)
 subst ai3;obtain⟨b,hv,nK⟩:=f3.get 3 (.p 0 0) rfl;have abV:ow.tmp 3= .pointer (some ⟨b,0,none⟩):=by
  have e:ow.tmp 3=HF.tmp 3:=by unfold aQ.tmp;rw[t4]
  rw[e];exact nK
 obtain⟨⟨ws,a5,v,us,rfl,d5,d6⟩,_⟩:=LC.own 0 (.c 27 [df (b8 s)]) b rfl hv;have d6:us=[]:=d6;subst d6;have xt:cb (dx a7 (en aN.ctx r7) (cp+1)) (.l1 (.tmp 3)) ow tO= .ok v ow tO:=xL (by show ow.tmp 3=_;exact abV) a5 rfl;have bC:=((Lw.trans Lx).trans Ly).trans UJ;have oG:st.aj<=gx.aj:=((Lw.trans Lx).trans Ly).aj;have u6:gx.aj∉qq:=fun hm=>by have:=LB.lt _ hm;omega
 refine Gq aG (Gq e2 (Gq (akx cw (VR gz)) ?_));refine Gq (eX:=(ow.put (some 19) v).put (some 2) v) (cR:=tO) ?_ ?_
 ·show hJ (dx a7 (en aN.ctx r7) (cp+1)) (⟨some 19,.l1 (.tmp 3),none⟩::[⟨some 2,.na (.tmp 19),none⟩]) ow tO=_;rw[Sym.C4,xt,Sym.JF,Sym.C4];show hJ (dx a7 (en aN.ctx r7) (cp+1)) [] ((ow.put (some 19) v).put (some 2) ((ow.put (some 19) v).tmp 19)) tO=_;rw[qO,if_pos rfl];rfl
 ·refine⟨.ret,(ow.put (some 19) v).put (some 2) v,tO,rfl,.inr rfl,v,⟨tO.h.set gx.aj (.h9 none),tO.aj⟩,?_,UL,?_,?_,?_⟩
  ·have ry:((ow.put (some 19) v).put (some 2) v).c8=[{target:=.collected gx.aj,args:= #[]}]:=by
    rw[(tB _ _ _).1,(tB _ _ _).1,d4,f3.pl.c8]
   have aaQ:((ow.put (some 19) v).put (some 2) v).cL=false:=by
    rw[(tB _ _ _).2.2.1,(tB _ _ _).2.2.1,pF,f3.pl.cL]
   have:=Zh (call:=dx a7 (en aN.ctx r7) (cp+1)) (t:=2) ry aaQ cK;rw[qO,if_pos rfl]at this;exact this
  ·exact(LC.other A2 u6 VY (.h9 none)).less
  ·exact(bC.other oG (.h9 none)).less
  ·exact CT _ rfl d5 _
def n9(n:Bool)(P q:List UInt8)(iK:Bool):Prop:=g6 P∧¬(n=true∧P=[48])∧(iK=true->g6 q∧q≠[48]∧q≠[49])
instance(n:Bool)(P q:List UInt8)(iK:Bool):Decidable (n9 n P q iK):=by unfold n9;infer_instance
theorem Rw{s:List UInt8}(ak:s.length<=400):∃P q iK,nw (dX s).2= .b5 [.s P,.s q,.b iK]∧(dX s).2.length<=400∧P.length<=400∧q.length<=400∧(¬n9 (dX s).1 P q iK->l5 s=none)∧
 (n9 (dX s).1 P q iK->iK=false->l5 s=some (mkRat (hN (dX s).1 (b8 P)) 1))∧(n9 (dX s).1 P q iK->iK=true->l5 s=if Nat.gcd (b8 P) (b8 q)=1 then some (mkRat (hN (dX s).1 (b8 P)) (b8 q))else none):=by
 have qm:=SH s;unfold l5 nw;obtain⟨⟨n,t⟩,aZ⟩:∃g,g=dX s:=⟨_,rfl⟩;rw[<-aZ]at qm⊢;simp only at qm⊢;have vd:t.length<=400:=by have:=congrArg List.length qm;rw[List.length_append]at this;omega
 obtain⟨fj,gm,ld⟩:=Nn t;obtain⟨⟨P,Q⟩,hq⟩:∃g,g=cutAt t:=⟨_,rfl⟩;rw[<-hq]at fj gm ld⊢;simp only at fj gm ld⊢;cases Q with
 |none=>
  have HO:=ld rfl;subst HO;refine⟨t,[],false,rfl,vd,vd,by show 0<=400;decide,fun h=>if_neg (fun aL=>h ⟨aL.1,aL.2,fun e=>by cases e⟩),fun h _=>if_pos ⟨h.1,h.2.1⟩,fun _ h=>by cases h⟩
 |some q=>
  have aX:=gm q rfl;have I2:P.length+q.length<=400:=by have:=congrArg List.length aX;rw[List.length_append,List.length_cons]at this;omega
  refine⟨P,q,true,rfl,vd,by omega,by omega,fun h=> ?_,(fun _ h=>by cases h),fun h _=> ?_⟩
  ·by_cases J:g6 P∧¬(n=true∧P=[48])
   ·rw[if_pos J];exact if_neg (fun aL=>h ⟨J.1,J.2,fun _=>⟨aL.1,aL.2.1,aL.2.2.1⟩⟩)
   ·rw[if_neg J]
  ·obtain⟨J,U,ah⟩:=h;obtain⟨ah,aC,a5⟩:=ah rfl;rw[if_pos ⟨J,U⟩];by_cases DC:Nat.gcd (b8 P) (b8 q)=1
   ·rw[if_pos DC];exact if_pos ⟨ah,aC,a5,DC⟩
   ·rw[if_neg DC];exact if_neg (fun aL=>DC aL.2.2.2)
def Bl(s:List UInt8):al:=match l5 s with
 |some x=>.b5 [c1 x,.i .i64 0]
 |none=>.b5 [c1 0,.i .i64 6]
def FY:cn where
 L:=List UInt8
 args:=fun s=>[.s s]
 pre:=fun s=>s.length<=400
 res:=fun s=>Bl s
theorem akj:ca aN.ctx 5 FY.spec:=by
 refine cz [(17,CK.spec),(18,zz.spec),(19,Sr.spec),(21,Sx.spec),(22,x8.spec),(20,AW.spec),(24,HI.spec),(23,IV.spec)] f5 ?_;intro(s:List UInt8) (ak:s.length<=400) H a4;have hp:∀{r},l5 s=r->c5 (match r with|some x=>.b5 [c1 x,.i .i64 0]|none=>.b5 [c1 0,.i .i64 6]) (FY.res s):=fun h=>.of (by subst h;rfl);have fail:l5 s=none->c5 (.b5 [.agg [.b false,.nl,.nl],.i .i64 6]) (FY.res s):=fun h=>qv.trans (hp h);obtain⟨P,q,iK,hC,aX,iP,hq,Ds,hint,DW⟩:=Rw ak;obtain⟨n,hn⟩:∃n,n=(dX s).1:=⟨_,rfl⟩;rw[<-hn]at Ds hint DW
 repeat refine ab rfl ?_
 refine bm We s (by show s.length<=_;omega) ?_;refine aH 13 (.b5 [.s (dX s).2,.b n]) rfl (by rw[hn];rfl) ?_
 repeat refine ab rfl ?_
 refine bm XZ (dX s).2 (by show(dX s).2.length<=_;omega) ?_;refine aH 18 _ rfl hC ?_
 repeat refine ab rfl ?_
 refine hk (L:=Bool) (fun b=>b= !decide (n9 n P q iK)) (fun b=>⟨[.c 29 [.b false,.nl,.nl]],1,[(2,.p 0 0),(3,.i .i64 0),(5,.b n),(6,.s P),(7,.s q),(8,.b iK),(22,.b b)]⟩) ?_ ?_
 ·have bad:¬n9 n P q iK->true= !decide (n9 n P q iK):=fun h=>by rw[decide_eq_false h];rfl
  have cG:n9 n P q iK->false= !decide (n9 n P q iK):=fun h=>by rw[decide_eq_true h];rfl
  refine bm KJ P (by show P.length<=_;omega) ?_
  repeat refine bd 26 rfl ?_
  by_cases J:g6 P
  ·refine aH 26 (.b false) rfl (by show al.b (!decide _)=_;rw[decide_eq_true J];rfl) ?_
   repeat refine bd 33 rfl ?_
   by_cases U:n=true∧P=[48]
   ·obtain⟨rfl,rfl⟩:=U
    repeat refine ab rfl ?_
    exact b0 [0] true (bad fun h=>h.2.1 ⟨rfl,rfl⟩) (cT ⟨rfl,rfl,rfl,rfl,rfl,rfl,rfl,trivial⟩ ⟨_,rfl,rfl⟩)
   ·cases n with
    |false=>
     cases iK with
     |false=>
      repeat refine ab rfl ?_
      exact b0 [0] false (cG ⟨J,U,fun e=>by cases e⟩) (cT ⟨rfl,rfl,rfl,rfl,rfl,rfl,rfl,trivial⟩ ⟨_,rfl,rfl⟩)
     |true=>
      repeat refine ab rfl ?_
      refine bm KJ q (by show q.length<=_;omega) ?_
      repeat refine bd 39 rfl ?_
      by_cases ah:g6 q
      ·refine aH 39 (.b false) rfl (by show al.b (!decide _)=_;rw[decide_eq_true ah];rfl) ?_
       repeat refine bd 43 rfl ?_
       by_cases aC:q=[48]
       ·refine aH 43 (.b true) rfl (by rw[aC];rfl) ?_
        repeat refine ab rfl ?_
        exact b0 [0] true (bad fun h=>(h.2.2 rfl).2.1 aC) (cT ⟨rfl,rfl,rfl,rfl,rfl,rfl,rfl,trivial⟩ ⟨_,rfl,rfl⟩)
       refine aH 43 (.b false) rfl (by rw[beq_eq_false_iff_ne.2 aC]) ?_
       repeat refine bd 45 rfl ?_
       by_cases a5:q=[49]
       ·refine aH 45 (.b true) rfl (by rw[a5];rfl) ?_
        repeat refine ab rfl ?_
        exact b0 [0] true (bad fun h=>(h.2.2 rfl).2.2 a5) (cT ⟨rfl,rfl,rfl,rfl,rfl,rfl,rfl,trivial⟩ ⟨_,rfl,rfl⟩)
       refine aH 45 (.b false) rfl (by rw[beq_eq_false_iff_ne.2 a5]) ?_
       repeat refine ab rfl ?_
       exact b0 [0] false (cG ⟨J,U,fun _=>⟨ah,aC,a5⟩⟩) (cT ⟨rfl,rfl,rfl,rfl,rfl,rfl,rfl,trivial⟩ ⟨_,rfl,rfl⟩)
      ·refine aH 39 (.b true) rfl (by show al.b (!decide _)=_;rw[decide_eq_false ah];rfl) ?_
       repeat refine ab rfl ?_
       exact b0 [0] true (bad fun h=>ah (h.2.2 rfl).1) (cT ⟨rfl,rfl,rfl,rfl,rfl,rfl,rfl,trivial⟩ ⟨_,rfl,rfl⟩)
    |true=>
     have qi:P≠[48]:=fun e=>U ⟨rfl,e⟩
     repeat refine bd 30 rfl ?_
     refine aH 30 (.b false) rfl (by rw[beq_eq_false_iff_ne.2 qi]) ?_;cases iK with
     |false=>
      repeat refine ab rfl ?_
      exact b0 [0] false (cG ⟨J,U,fun e=>by cases e⟩) (cT ⟨rfl,rfl,rfl,rfl,rfl,rfl,rfl,trivial⟩ ⟨_,rfl,rfl⟩)
     |true=>
      repeat refine ab rfl ?_
      refine bm KJ q (by show q.length<=_;omega) ?_
      repeat refine bd 39 rfl ?_
      by_cases ah:g6 q
      ·refine aH 39 (.b false) rfl (by show al.b (!decide _)=_;rw[decide_eq_true ah];rfl) ?_
       repeat refine bd 43 rfl ?_
       by_cases aC:q=[48]
       ·refine aH 43 (.b true) rfl (by rw[aC];rfl) ?_
        repeat refine ab rfl ?_
        exact b0 [0] true (bad fun h=>(h.2.2 rfl).2.1 aC) (cT ⟨rfl,rfl,rfl,rfl,rfl,rfl,rfl,trivial⟩ ⟨_,rfl,rfl⟩)
       refine aH 43 (.b false) rfl (by rw[beq_eq_false_iff_ne.2 aC]) ?_
       repeat refine bd 45 rfl ?_
       by_cases a5:q=[49]
       ·refine aH 45 (.b true) rfl (by rw[a5];rfl) ?_
        repeat refine ab rfl ?_
        exact b0 [0] true (bad fun h=>(h.2.2 rfl).2.2 a5) (cT ⟨rfl,rfl,rfl,rfl,rfl,rfl,rfl,trivial⟩ ⟨_,rfl,rfl⟩)
       refine aH 45 (.b false) rfl (by rw[beq_eq_false_iff_ne.2 a5]) ?_
       repeat refine ab rfl ?_
       exact b0 [0] false (cG ⟨J,U,fun _=>⟨ah,aC,a5⟩⟩) (cT ⟨rfl,rfl,rfl,rfl,rfl,rfl,rfl,trivial⟩ ⟨_,rfl,rfl⟩)
      ·refine aH 39 (.b true) rfl (by show al.b (!decide _)=_;rw[decide_eq_false ah];rfl) ?_
       repeat refine ab rfl ?_
       exact b0 [0] true (bad fun h=>ah (h.2.2 rfl).1) (cT ⟨rfl,rfl,rfl,rfl,rfl,rfl,rfl,trivial⟩ ⟨_,rfl,rfl⟩)
  ·refine aH 26 (.b true) rfl (by show al.b (!decide _)=_;rw[decide_eq_false J];rfl) ?_
   repeat refine ab rfl ?_
   exact b0 [0] true (bad fun h=>J h.1) (cT ⟨rfl,rfl,rfl,rfl,rfl,rfl,rfl,trivial⟩ ⟨_,rfl,rfl⟩)
 intro b hb;by_cases dE:n9 n P q iK
 ·have hb:b=false:=by rw[hb,decide_eq_true dE];rfl
  subst hb;obtain⟨aW,a0,bx⟩:=dE;have yU:=vo (K:=1000) (r8 aW.2.1) (by omega)
  repeat refine bd 56 rfl ?_
  refine aH 56 (.b false) rfl (congrArg al.b (decide_eq_false (by omega))) ?_
  repeat refine ab rfl ?_
  cases iK with
  |false=>
   repeat refine ab rfl ?_
   refine bm KK P ⟨aW.2.1,by show P.length<=_;omega⟩ ?_;refine bm r0 (1:Nat) (by show 1<_;decide) ?_;refine bm ti (n,b8 P,1) ⟨dP yU (by decide),dP (oP (by decide)) (by decide),by decide⟩ ?_
   repeat refine ab rfl ?_
   exact a1 (a6 rfl rfl (hp (hint ⟨aW,a0,bx⟩ rfl)))
  |true=>
   obtain⟨ah,aC,a5⟩:=bx rfl;have UO:=vo (K:=1000) (r8 ah.2.1) (by omega);have h5:b8 q≠0:=fun h=>aC (wI ah h);have dW:b8 q≠1:=fun h=>a5 (MZ ah h);have aF:=DW ⟨aW,a0,bx⟩ rfl
   repeat refine ab rfl ?_
   refine bm KK P ⟨aW.2.1,by show P.length<=_;omega⟩ ?_
   repeat refine ab rfl ?_
   refine bm KK q ⟨ah.2.1,by show q.length<=_;omega⟩ ?_
   repeat refine ab rfl ?_
   refine bm N8 (b8 P,b8 q) ⟨dP yU (by decide),dP UO (by decide)⟩ ?_;refine bm Ea (Nat.gcd (b8 P) (b8 q)) trivial ?_
   repeat refine ab rfl ?_
   refine yx (fun aZ=> ?_) (fun aZ=> ?_)
   ·repeat refine ab rfl ?_
    exact a1 (a6 rfl rfl (fail (by rw[aF,if_neg aZ])))
   ·repeat refine ab rfl ?_
    rw[if_pos aZ]at aF;obtain⟨aG,e2⟩:=Jn (hN n (b8 P)) (b8 q) h5;rw[sd,aZ]at aG e2;have hle:c5 (.agg [.b n,df (b8 P),df (b8 q)]) (c1 (mkRat (hN n (b8 P)) (b8 q))):=I7 (q:=b8 q) (by rw[aG];exact Int.ediv_one _) (by rw[e2,Nat.div_one]) (fun h=>dW (by rw[h,Nat.gcd_zero_left]at aZ;exact aZ)) (PK dW h5);exact a1 (a6 rfl rfl ((show c5 (.b5 [.agg [.b n,df (b8 P),df (b8 q)],.i .i64 0]) (.b5 [c1 (mkRat (hN n (b8 P)) (b8 q)),.i .i64 0])from .b5 ⟨hle,.refl _,trivial⟩).trans (hp aF)))
 ·have hb:b=true:=by rw[hb,decide_eq_false dE];rfl
  subst hb
  repeat refine ab rfl ?_
  exact a1 (a6 rfl rfl (fail (Ds dE)))
theorem aka(m e p:Int)(x:Rat):∃(y:Rat) (c:Int),yD m e p x= .b5 [c1 y,.i .i64 c]∧yE m e p x= .b5 [dh y,.i .i64 c]∧eF 268435456 y∧eG 67108864 y:=by
 have mH:eF 268435456 0:=⟨dP (oP (by decide)) (by decide),dP (oP (by decide)) (by decide)⟩;have h5:eG 67108864 0:=⟨dg (Bp (by decide)) (by decide),dg (Bp (by decide)) (by decide)⟩;unfold yD yE;by_cases J:m<0∨4<m
 ·exact⟨0,2,by rw[if_pos J],by rw[if_pos J],mH,h5⟩
 rw[if_neg J,if_neg J];by_cases U:e6 e p
 ·rw[if_neg (fun h:¬e6 e p=>h U),if_neg (fun h:¬e6 e p=>h U)];by_cases ah:x.num<0
  ·exact⟨0,7,by rw[if_pos ah],by rw[if_pos ah],mH,h5⟩
  rw[if_neg ah,if_neg ah];by_cases aC:kj e p<x
  ·exact⟨0,173,by rw[if_pos aC],by rw[if_pos aC],mH,h5⟩
  rw[if_neg aC,if_neg aC];by_cases a5:x.num=0
  ·exact⟨0,0,by rw[if_pos a5],by rw[if_pos a5],mH,h5⟩
  rw[if_neg a5,if_neg a5];have a2:hS x=x:=if_neg ah;have hb:=Ga U (x:=x) (by rw[a2];exact aC);rw[Te a5]at hb⊢;generalize pW e p x=k at *;have bQ:eF 628 (dv (mkRat 1 1) k):=vB 626 (Ev 1 (by decide) (by decide)) (by omega) (by omega);have RK:eG 20001 (dv (mkRat 1 1) k):=A6 (c:=20000) (by omega) (by omega);by_cases ch:m=0∨m=1
  ·exact⟨dv (dv (mkRat 1 1) k) (-1),0,by rw[if_pos ch],by rw[if_pos ch],nb (vB 1 bQ (by decide) (by decide)) (by decide),k0 (EB 1 RK (by decide) (by decide)) (by decide)⟩
  ·exact⟨dv (mkRat 1 1) k,0,by rw[if_neg ch],by rw[if_neg ch],nb bQ (by decide),k0 RK (by decide)⟩
 ·exact⟨0,2,by rw[if_pos U],by rw[if_pos U],mH,h5⟩
theorem ai8{s:List UInt8}(ak:s.length<=400){x:Rat}(h:l5 s=some x):eF 1000 x∧eG 45 x:=by
 obtain⟨P,q,iK,_,_,iP,hq,Ds,hint,DW⟩:=Rw ak;by_cases dE:n9 (dX s).1 P q iK
 ·obtain⟨aW,a0,bx⟩:=dE;have yU:=vo (K:=1000) (r8 aW.2.1) (by omega);have LH:=E6 (k:=45) aW.2.1 (by omega);cases iK with
  |false=>
   have e:=hint ⟨aW,a0,bx⟩ rfl;rw[h]at e;cases e;exact⟨xW (by rw[sd];exact yU) (dP (oP (by decide)) (by decide)) (by decide),x0 (by rw[sd];exact LH) (dg (Bp (by decide)) (by decide)) (by decide)⟩
  |true=>
   obtain⟨ah,aC,a5⟩:=bx rfl;have h5:b8 q≠0:=fun h=>aC (wI ah h);have e:=DW ⟨aW,a0,bx⟩ rfl;rw[h]at e;split at e
   ·cases e;exact⟨xW (by rw[sd];exact yU) (vo (K:=1000) (r8 ah.2.1) (by omega)) h5,x0 (by rw[sd];exact LH) (E6 (k:=45) ah.2.1 (by omega)) h5⟩
   ·cases e
 ·rw[Ds dE]at h;cases h
def KT(G:bY->Prop)(dE:∀{H cc:bY},dZ H cc->G H->G cc):cn where
 L:=Unit
 args:=fun _=>[]
 pre:=fun _=>True
 res:=fun _=>.b true
 hp:=G
 hm:=dE
def I4(G:bY->Prop)(dE:∀{H cc:bY},dZ H cc->G H->G cc):cn where
 L:=Int×Int×Int×List UInt8
 args:=fun(m,e,p,s)=>[.i .i64 m,mY e p,.s s]
 pre:=fun _=>True
 res:=fun _=>.b true
 hp:=G
 hm:=dE
theorem ahC{G:bY->Prop}{dE:∀{H cc:bY},dZ H cc->G H->G cc}(iP:∀{H},G H->mf H)(cP:ca aN.ctx 4 (KT G dE).spec):ca aN.ctx 3 (I4 G dE).spec:=by
 refine Hi aN.cG cN (cH [(4,(KT G dE).spec),(5,FY.spec),(6,Fb.spec),(7,KI.spec),(8,Ka.spec),(9,F2.spec)]) (xf:=f3) (by kernel_rfl) (fun l=>jk rfl) ?_;intro⟨m,e,p,s⟩ _ H a4 gT
 repeat refine ab rfl ?_
 refine cu (fun h=> ?_) (fun h=> ?_)
 ·repeat refine ab rfl ?_
  refine bm cP () trivial ?_ (hh:=gT)
  repeat refine ab rfl ?_
  exact a1 (a6 rfl rfl (.refl _))
 have ak:s.length<=400:=by omega
 repeat refine ab rfl ?_
 refine bm akj s ak ?_;cases aa:l5 s with
 |none=>
  refine aH 19 (.b5 [c1 0,.i .i64 6]) rfl (by show Bl s=_;unfold Bl;rw[aa]) ?_
  repeat refine ab rfl ?_
  refine bm RV s ak ?_;refine aH 24 (.b5 [dh 0,.i .i64 6]) rfl (by show Bm s=_;unfold Bm;rw[aa]) ?_
  repeat refine ab rfl ?_
  refine bm cP () trivial ?_ (hh:=gT)
  repeat refine ab rfl ?_
  exact a1 (a6 rfl rfl (.refl _))
 |some x=>
  obtain⟨aj,ajB⟩:=ai8 ak aa;obtain⟨y,c,aG,e2,ait,ajC⟩:=aka m e p x;refine aH 19 (.b5 [c1 x,.i .i64 0]) rfl (by show Bl s=_;unfold Bl;rw[aa]) ?_
  repeat refine ab rfl ?_
  refine bm RV s ak ?_;refine aH 24 (.b5 [dh x,.i .i64 0]) rfl (by show Bm s=_;unfold Bm;rw[aa]) ?_
  repeat refine ab rfl ?_
  refine bm akd (m,e,p,x) (nb aj (by decide)) ?_;refine aH 37 (.b5 [c1 y,.i .i64 c]) rfl aG ?_
  repeat refine ab rfl ?_
  refine bm ajw (m,e,p,x) (k0 ajB (by decide)) ?_;refine aH 44 (.b5 [dh y,.i .i64 c]) rfl e2 ?_
  repeat refine ab rfl ?_
  refine bm aku (y,y) ⟨ait,ajC⟩ ?_ (hh:=iP gT);refine aH 49 (.b true) rfl (by show al.b (iV y==iV y)=_;simp) ?_
  repeat refine bd 53 rfl ?_
  refine aH 53 (.b true) rfl (by simp) ?_
  repeat refine ab rfl ?_
  refine bm cP () trivial ?_ (hh:=gT)
  repeat refine ab rfl ?_
  exact a1 (a6 rfl rfl (.refl _))
end Go.az.ck
namespace Go.az.ck
open Go.az Go.az.gR
set_option maxRecDepth 100000
theorem P6{h:au bL}{s:c7}:∀(os:List (Nat×bL)),(∀o∈os,s.b7.get o.1=some o.1∧h.get o.1=some o.2∧rR o.2 o.2 s=some s)->vt h os s=some s
 |[],_=>rfl
 |o::os,hh=>by
  obtain⟨J,U,ah⟩:=hh o (by simp);show bo (s.b7.get o.1) (fun j=>bo (h.get j) (fun p=>bo (rR o.2 p s) (vt h os) none) none) none=_;rw[J,Sym.eU,U,Sym.eU,ah,Sym.eU];exact P6 os fun p hp=>hh p (List.mem_cons_of_mem _ hp)
theorem Dk{Q:Nat×bL->Prop}(h0:Q h5)(U:Q dM)(ah:Q eT)(aC:Q ih)(a5:Q oY):∀p∈j7.gs,Q p:=fun p hp=>by
 have hp:p∈[h5,dM,eT,ih,oY]:=hp;simp only[List.mem_cons,List.not_mem_nil,or_false]at hp;rcases hp with rfl|rfl|rfl|rfl|rfl<;>assumption
def jO(H:bY):Prop:=∀p∈j7.gs,H p.1=some p.2
theorem jO.up{H cc:bY}(h:dZ H cc)(aZ:jO H):jO cc:=fun p hp=>h _ _ (aZ p hp)
theorem Oh:∀p∈j7.gs,dT.b7.get p.1=some p.1∧rR p.2 p.2 dT=some dT:=
 Dk ⟨by kernel_rfl,by kernel_rfl⟩ ⟨by kernel_rfl,by kernel_rfl⟩ ⟨by kernel_rfl,by kernel_rfl⟩ ⟨by kernel_rfl,by kernel_rfl⟩ ⟨by kernel_rfl,by kernel_rfl⟩
theorem U9{s:c7}{gs:List (Nat×bL)}{a3:Nat}{st:aw}{t:Bool}(hc:s.bw<=a3)(h:vt st.h gs s=some s):(⟨[],gs,[],.bool t,[],a3⟩:bz).app s [] st=some (.ret (.bool t) ⟨st.h,st.aj+(a3-s.bw)⟩ false):=by
 unfold bz.app;show bo (vt st.h gs s) _ none=_;rw[h,Sym.eU];show cond (Nat.beq s.bw (Nat.add s.bw 0)) (cond (Nat.ble s.bw a3) (fB (Nat.add st.aj (Nat.sub a3 s.bw)) fun n=>some (dC.ret (.bool t) ⟨st.h,n⟩ false)) none) none=_;rw[show Nat.beq s.bw (Nat.add s.bw 0)=true from Nat.beq_refl _,show Nat.ble s.bw a3=true from Nat.ble_eq_true_of_le hc];show fB (Nat.add st.aj (Nat.sub a3 s.bw)) (fun n=>some (dC.ret (.bool t) ⟨st.h,n⟩ false))=_;unfold fB;rw[Nat.beq_refl];rfl
theorem aih:dT.bw<=8180:=by rw[et.2.1];exact jk (by kernel_rfl)
theorem akJ{st:aw}(h:∀p∈j7.gs,st.h.get p.1=some p.2):j7.app dT [] st=some (.ret (.bool true) ⟨st.h,st.aj+(8180-dT.bw)⟩ false):=
 U9 (gs:=j7.gs) aih (P6 j7.gs fun o ao=>⟨(Oh o ao).1,h o ao,(Oh o ao).2⟩)
theorem akK:ca aN.ctx 4 (KT jO jO.up).spec:=by
 rintro vs st ⟨⟨l,H⟩,_,gT,aA,ax⟩;have ax:vs=[]:=ax;subst ax;refine⟨.bool true,⟨st.h,st.aj+(8180-dT.bw)⟩,?_,?_⟩
 ·rintro⟨l',cc⟩ ⟨_,anv,eC,_⟩;have hw:∀b,st.aj+(8180-dT.bw)<=b->st.h.get b=none:=fun b hb=>eC.wf b (by omega);exact⟨cc,⟨hw,eC.le,rfl,rfl,List.nodup_nil,fun b hb=>by simp at hb,fun k o b ae=>by simp at ae⟩,⟨dZ.refl _,fun _ _ _=>rfl,fun _ _ _=>rfl,Nat.le_add_right _ _,dO.refl _,fun b hb=>.inl hb⟩,rfl⟩
 ·intro ι as' w a2 hw;exact L3 Mw et.1 et.2.1 et.2.2 (akJ fun p hp=>aA.le _ _ (gT p hp)) ι as' w a2 hw
theorem NB{H:bY}{k:IntKind}:∀l:List Int,ei H (l.map fun n=>.i k n) [] (l.map fun n=>Value.int k n)
 |[]=>rfl
 |n::l=>⟨_,_,rfl,rfl,NB l⟩
theorem ajd:oY=(5,.cells ((List.range 20).map fun k=>Value.int .u64 ((10^k:Nat):Int)) 400 (0,20) false):=by kernel_rfl
theorem ZP{H:bY}(h:jO H):mf H:=by
 have a5:=h oY (by show oY∈[h5,dM,eT,ih,oY];simp);rw[ajd]at a5;refine⟨_,_,_,_,a5,fun cc=> ?_⟩;have:=NB (H:=cc) (k:=.u64) ((List.range 20).map fun k=>((10^k:Nat):Int));rw[List.map_map,List.map_map]at this;exact this
theorem PJ:ca aN.ctx 3 (I4 jO jO.up).spec:=ahC ZP akK
