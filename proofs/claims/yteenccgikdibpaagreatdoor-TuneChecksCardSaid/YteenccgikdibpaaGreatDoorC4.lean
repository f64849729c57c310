/- What the functions of the program and of the document compute, for every input (part 4); conditions as in the statements. -/
import Derived.Test.YteenccgikdibpaaGreatDoorC3
import Derived.Test.YteenccgikdibpaaGreatDoorS2
import Derived.Test.YteenccgikdibpaaGreatDoorZ
set_option linter.all false
namespace Go.an.bh
open Go.an
set_option maxRecDepth 100000
set_option maxHeartbeats 4000000
def E1(t:gj):Rat:=(gT t.hZ).getD 0
def sm(p:bH)(t:gj):List af:=eB p++(mn t++(.bS 1 Bool fP (jO p).1::A9 (E1 t)))
def PL:bE where
 L:=bH×gj
 args:=fun(p,t)=>[ed p,p8 t]
 pre:=fun(p,t)=>iY p∧t.gs.length<=100000∧t.cs.length<=100000∧t.hZ.length<=2000
 res:=fun(p,t)=>if jU p t=0 then .bB [.ip (sm p t),.i .i64 0]else .bB [.v (.pointer none),.i .i64 (jU p t)]
 hp:=gX
 hm:=gX.up
theorem acr:bg aC.ctx 75 PL.spec:=by
 refine ou [(6,I5.spec),(140,Ww.spec),(22,yd.spec)] TZ.1 ?_;intro⟨p,t⟩ ⟨hp,rE,qz,pF⟩ H aJ dX;have hp:iY p:=hp;have pF:t.hZ.length<=2000:=pF
 repeat refine I ?_
 refine aX Z2 (p,t) ⟨hp,rE,qz,pF⟩ ?_ (hh:=dX);refine az 10 (.i .i64 (jU p t)) rfl rfl ?_
 repeat refine al 12 ?_
 by_cases h0:jU p t=0
 case neg=>
  refine v1 12 h0 ?_
  repeat refine I ?_
  exact aw rfl (.of (by show _=ite _ _ _;rw[if_neg h0]))
 refine v0 12 (fb h0) ?_;have ok:=I6 h0
 repeat refine I ?_
 refine aX anS p ⟨hp,wi⟩ ?_ (hh:=dX);refine az 21 (.bB [.bS 1 Bool fP (jO p).1,.bS 1 Bool fP (jO p).2,.i .i64 0]) rfl (if_pos ok.bK) ?_
 repeat refine I ?_
 refine aX D7 t.hZ pF ?_;have J:∃c,lb t.hZ= .bB [dG (E1 t),.i .i64 c]:=by
  unfold lb E1;cases gT t.hZ with
  |none=>exact⟨6,rfl⟩
  |some x=>exact⟨0,rfl⟩
 obtain⟨c,hc⟩:=J;refine az 31 (.bB [dG (E1 t),.i .i64 c]) rfl hc ?_
 repeat refine al 36 ?_
 refine NA 36 ?_
 repeat refine I ?_
 exact aw rfl (.of (by show _=ite _ _ _;rw[if_pos h0];rfl))
def Eo:bE where
 L:=bH×gj×List Int
 args:=fun(p,t,fs)=>[ed p,p8 t,.bS 1 Int cw fs]
 pre:=fun(p,t,fs)=>(iY p∧t.gs.length<=100000∧t.cs.length<=100000∧t.hZ.length<=2000)∧fs.length<=100000
 res:=fun(p,t,fs)=>if g5 p t fs=0 then .bB [.ip (sm p t),.i .i64 0]else .bB [.v (.pointer none),.i .i64 (g5 p t fs)]
 hp:=gX
 hm:=gX.up
theorem aa1:bg aC.ctx 28 Eo.spec:=by
 refine ou [(75,PL.spec),(20,zk.spec)] SZ.1 ?_;intro⟨p,t,fs⟩ ⟨hp,ab⟩ H aJ dX;have ab:fs.length<=100000:=ab;have aU:∀{c:Int},c≠0->g5 p t fs=c->b3 (.bB [.v (.pointer none),.i .i64 c]) (Eo.res (p,t,fs)):=fun hc h=>.of (by show _=ite _ _ _;rw[h,if_neg hc])
 repeat refine I ?_
 refine aX acr (p,t) hp ?_ (hh:=dX);by_cases h0:jU p t=0
 case neg=>
  refine az 15 (.bB [.v (.pointer none),.i .i64 (jU p t)]) rfl (if_neg h0) ?_
  repeat refine al 19 ?_
  refine v1 19 h0 ?_
  repeat refine I ?_
  exact aw rfl (aU h0 (if_pos h0))
 refine az 15 (.bB [.ip (sm p t),.i .i64 0]) rfl (if_pos h0) ?_;have ok:=I6 h0
 repeat refine I ?_
 refine aX Uh t ⟨hp.2.1,ok.gs⟩ ?_;refine az 24 (.i .i64 (many t.gs)) rfl rfl ?_
 repeat refine al 25 ?_
 by_cases h1:(fs.length:Int)=many t.gs
 case neg=>
  refine v1 25 h1 ?_
  repeat refine I ?_
  exact aw rfl (aU (by decide) ((if_neg (fb h0)).trans (if_pos h1)))
 refine v0 25 (fb h1) ?_
 repeat refine I ?_
 refine cG (L:=Nat) (fun k=>k<=fs.length∧(fs.take k).all (fun f=>decide (eb f p.fs.length))=true) (fun(k:Nat)=>⟨[.c 27 (eB p)],1,[(3,.p 0 0),(8,.ip (sm p t)),(26,.bS 1 Int cw fs),(27,.i .i64 (fs.length:Int)),(28,.i .i64 (k:Int))]⟩) (fun k=>fs.length-k) [0] 0 ⟨Nat.zero_le _,rfl⟩ (by show _-0<ba+1;unfold ba;omega) dP ?_;rintro(k:Nat) ⟨U,ax⟩
 repeat refine al 29 ?_
 by_cases aP:k<fs.length
 ·refine v1 29 (show(k:Int)<fs.length by omega) ?_
  repeat refine I ?_
  refine cV fs[k] (a9 aP) ?_;have no:¬eb fs[k] p.fs.length->fs.all (fun f=>decide (eb f p.fs.length))=false:=fun h=>by
   rw[<-Bool.not_eq_true,List.all_eq_true];exact fun aB=>h (of_decide_eq_true (aB _ (dr aP)))
  have aA:¬eb fs[k] p.fs.length->b3 (.bB [.v (.pointer none),.i .i64 7]) (Eo.res (p,t,fs)):=fun h=>aU (by decide) ((if_neg (fb h0)).trans ((if_neg (fb h1)).trans (if_pos (no h))))
  repeat refine al 33 ?_
  by_cases h3:fs[k]<0
  ·refine v1 33 h3 ?_
   repeat refine I ?_
   exact aw rfl (aA (fun h=>by have:=h.1;omega))
  refine v0 33 h3 ?_
  repeat refine al 39 ?_
  by_cases ay:(p.fs.length:Int)<=fs[k]
  ·refine v1 39 ay ?_
   repeat refine I ?_
   exact aw rfl (aA (fun h=>by have:=h.2;omega))
  refine v0 39 ay ?_
  repeat refine al 41 ?_
  refine dW 41 ((k+1:Nat):Int) ?_
  repeat refine I ?_
  exact bc [0] (k+1) ⟨by omega,aP,by rw[List.take_succ_eq_append_getElem aP,List.all_append,ax];simp only[List.all_cons,List.all_nil];rw[decide_eq_true (show eb fs[k] p.fs.length from⟨by omega,by omega⟩)];rfl⟩ dP
 refine v0 29 (show¬(k:Int)<fs.length by omega) ?_;rw[List.take_of_length_le (by omega)]at ax;have gN:g5 p t fs=0:=(if_neg (fb h0)).trans ((if_neg (fb h1)).trans (if_neg (by rw[ax];decide)))
 repeat refine I ?_
 exact aw rfl (.of (by show _=ite _ _ _;rw[if_pos gN]))
theorem O0{p:bH}{gs fs:List Int}{k:Nat}(h:gs.length=p.aD.length)(U:k<gs.length)(hn:k<p.aD.length):(gk p gs fs).take (k+1)=(gk p gs fs).take k++[if 0<=gs[k]then fs.getD gs[k].toNat 0 else(p.aD[k]).f]:=by
 have hl:k<(gk p gs fs).length:=by rw[re h];exact hn
 rw[List.take_succ_eq_append_getElem hl];congr 2;exact List.getElem_zipWith ..
def abN(W:List af)(gs fs:List Int):Nat×List Int->cS
 |(k,[])=>⟨[],0,[(0,.ip W),(1,.bS 1 Int cw fs),(4,.nl),(12,.bS 1 Int cw gs),(13,.i .i64 (gs.length:Int)),(14,.i .i64 (k:Int))]⟩
 |(k,d::ds)=>⟨[.a 3 true 1 Int cw (d::ds)],1,[(0,.ip W),(1,.bS 1 Int cw fs),(4,.a6 0 1 0 (ds.length+1) (ds.length+1)),(12,.bS 1 Int cw gs),(13,.i .i64 (gs.length:Int)),(14,.i .i64 (k:Int))]⟩
def JB:bE where
 L:=bH×gj×List Int
 args:=fun(p,t,fs)=>[.ip (sm p t),.bS 1 Int cw fs]
 pre:=fun(p,t,fs)=>tT p t fs
 res:=fun(p,t,fs)=>.bS 1 Int cw (gk p t.gs fs)
theorem O4:bg aC.ctx 34 JB.spec:=by
 refine bR [] Td.1 ?_;intro⟨p,t,fs⟩ (ok:tT p t fs) H aJ;have hlen:=ok.qK;obtain⟨hL,_⟩:=sA ok.bK
 repeat refine I ?_
 refine cG (L:=Nat×List Int) (fun(k,l)=>k<=t.gs.length∧l=(gk p t.gs fs).take k) (abN (sm p t) t.gs fs) (fun l=>t.gs.length-l.1) [] (0,[]) ⟨Nat.zero_le _,rfl⟩ (by show _-0<ba+1;unfold ba;omega) ei ?_;rintro⟨k,l⟩ ⟨U,ax⟩;have pG:l.length=k:=by rw[ax,List.length_take,re hlen];omega
 by_cases aP:k<t.gs.length
 ·have hn:k<p.aD.length:=by omega
  have dN:=O0 (fs:=fs) hlen aP hn;have akU:=ok.gs _ (dr aP);have UK:=Ha t.gs 0 _ (dr aP);have UT:(fs.length:Int)=lF t.gs 0:=ok.cd;cases l with
  |nil=>
   repeat refine al 15 ?_
   refine v1 15 (show(k:Int)<t.gs.length by omega) ?_
   repeat refine I ?_
   refine cV t.gs[k] (a9 aP) ?_
   repeat refine I ?_
   refine cV p.aD[k] (a9 hn) ?_
   repeat refine al 29 ?_
   by_cases h1:0<=t.gs[k]
   ·refine v1 29 h1 ?_;obtain⟨j,hj⟩:∃j:Nat,t.gs[k]=(j:Int):=⟨t.gs[k].toNat,by omega⟩;have e6:j<fs.length:=by omega
    rw[if_pos h1,hj,Int.toNat_natCast,List.getD_eq_getElem?_getD,a9 e6,Option.getD_some,<-ax]at dN
    repeat refine al 31 ?_
    refine oa 31 (j:Int) ?_;refine cV fs[j] (a9 e6) ?_
    repeat refine I ?_
    refine x6 cw [fs[j]] (gG (R:=cw) [fs[j]] rfl) ?_
    repeat refine al 38 ?_
    refine dW 38 ((k+1:Nat):Int) ?_
    repeat refine I ?_
    exact bc [1] (k+1,[fs[j]]) ⟨by show _-(k+1)<_-k;omega,aP,dN.symm⟩ dP
   ·refine v0 29 h1 ?_;rw[if_neg h1,<-ax]at dN
    repeat refine I ?_
    refine x6 cw [(p.aD[k]).f] (gG (R:=cw) [(p.aD[k]).f] rfl) ?_
    repeat refine al 38 ?_
    refine dW 38 ((k+1:Nat):Int) ?_
    repeat refine I ?_
    exact bc [1] (k+1,[(p.aD[k]).f]) ⟨by show _-(k+1)<_-k;omega,aP,dN.symm⟩ dP
  |cons d ds=>
   have iu:ds.length+1=k:=pG
   repeat refine al 15 ?_
   refine v1 15 (show(k:Int)<t.gs.length by omega) ?_
   repeat refine I ?_
   refine cV t.gs[k] (a9 aP) ?_
   repeat refine I ?_
   refine cV p.aD[k] (a9 hn) ?_
   repeat refine al 29 ?_
   by_cases h1:0<=t.gs[k]
   ·refine v1 29 h1 ?_;obtain⟨j,hj⟩:∃j:Nat,t.gs[k]=(j:Int):=⟨t.gs[k].toNat,by omega⟩;have e6:j<fs.length:=by omega
    rw[if_pos h1,hj,Int.toNat_natCast,List.getD_eq_getElem?_getD,a9 e6,Option.getD_some,<-ax]at dN
    repeat refine al 31 ?_
    refine oa 31 (j:Int) ?_;refine cV fs[j] (a9 e6) ?_
    repeat refine I ?_
    refine x5 (R:=cw) [fs[j]] (gG (R:=cw) [fs[j]] rfl) ?_
    repeat refine al 38 ?_
    refine dW 38 ((k+1:Nat):Int) ?_
    repeat refine I ?_
    exact bc [2] (k+1,d::(ds++[fs[j]])) ⟨by show _-(k+1)<_-k;omega,aP,dN.symm⟩ (AS ⟨rfl,rfl,congrArg (fun k=>some (af.a6 2 1 0 k k)) (by simp),rfl,rfl,rfl,trivial⟩ ⟨_,rfl,rfl,fun _=>rfl⟩)
   ·refine v0 29 h1 ?_;rw[if_neg h1,<-ax]at dN
    repeat refine I ?_
    refine x5 (R:=cw) [(p.aD[k]).f] (gG (R:=cw) [(p.aD[k]).f] rfl) ?_
    repeat refine al 38 ?_
    refine dW 38 ((k+1:Nat):Int) ?_
    repeat refine I ?_
    exact bc [2] (k+1,d::(ds++[(p.aD[k]).f])) ⟨by show _-(k+1)<_-k;omega,aP,dN.symm⟩ (AS ⟨rfl,rfl,congrArg (fun k=>some (af.a6 2 1 0 k k)) (by simp),rfl,rfl,rfl,trivial⟩ ⟨_,rfl,rfl,fun _=>rfl⟩)
 ·rw[List.take_of_length_le (by rw[re hlen];omega)]at ax;cases l with
  |nil=>
   repeat refine al 15 ?_
   refine v0 15 (show¬(k:Int)<t.gs.length by omega) ?_
   repeat refine I ?_
   exact aw rfl (b3.nl.trans (.of (by show af.bS 1 Int cw []=af.bS 1 Int cw (gk p t.gs fs);rw[<-ax])))
  |cons d ds=>
   repeat refine al 15 ?_
   refine v0 15 (show¬(k:Int)<t.gs.length by omega) ?_
   repeat refine al 39 ?_
   refine hD 39 ?_
   repeat refine I ?_
   exact aw rfl (.of (by show af.bS 1 Int cw (d::ds)=af.bS 1 Int cw (gk p t.gs fs);rw[<-ax]))
theorem Qm{p:bH}(h:bK p=(0,0,0)){i:Nat}{n:db}(hn:p.aD[i]? =some n):lI p i n=0:=by
 unfold bK at h;split at h
 case isFalse aO=>exact absurd (congrArg (fun x:Int×Int×Int=>x.2.2) h) aO
 unfold kV at h;have z:∀{x y:Int×Int×Int},x=y->x.1=y.1:=fun h=>by rw[h]
 cases aA:eD (ll p) p.fs 0 with
 |some x=>rw[aA]at h;have:=z h;simp at this
 |none=>
 rw[aA]at h;cases e2:eD (ln p) p.ins 0 with
 |some x=>rw[e2]at h;have:=z h;simp at this
 |none=>
 rw[e2]at h;cases b0:eD (lo p) p.aD 0 with
 |some x=>rw[b0]at h;have:=z h;simp at this
 |none=>
 have:=ze b0 i n hn;rw[Nat.zero_add]at this;exact this
theorem an8{p:bH}{i:Nat}{n:db}(h:lI p i n=0):eb n.f p.fs.length:=by
 unfold lI at h;split at h
 ·cases h
 split at h
 ·cases h
 rename_i q;exact Classical.byContradiction q
theorem O1{p:bH}{t:gj}{fs:List Int}(ok:tT p t fs){k:Nat}(U:k<(gk p t.gs fs).length):eb (gk p t.gs fs)[k] p.fs.length:=by
 have hl:=re (fs:=fs) ok.qK;have rE:=ok.qK;have aO:k<t.gs.length:=by omega
 have hn:k<p.aD.length:=by omega
 have e:(gk p t.gs fs)[k]=if 0<=t.gs[k]then fs.getD t.gs[k].toNat 0 else(p.aD[k]).f:=List.getElem_zipWith ..;rw[e];split
 ·rename_i h;have UK:t.gs[k]<lF t.gs 0:=Ha t.gs 0 _ (dr aO);have UT:(fs.length:Int)=lF t.gs 0:=ok.cd;have hj:t.gs[k].toNat<fs.length:=by omega
  rw[List.getD_eq_getElem?_getD,a9 hj];exact ok.fs _ (dr hj)
 ·exact an8 (Qm ok.bK (a9 hn))
def Kl:bE where
 L:=bH×gj×List Int
 args:=fun(p,t,fs)=>[.ip (sm p t),.bS 1 Int cw fs]
 pre:=fun(p,t,fs)=>tT p t fs
 res:=fun(p,t,fs)=>.i .i64 (lp p t.cs (jO p).1 (gk p t.gs fs) 0)
theorem anP(p:bH):(jO p).1.length=p.aD.length:=by
 obtain⟨f1,_⟩:=vh p 65 (List.replicate p.aD.length false,List.replicate p.ca.length false) p.out.toNat;exact f1.trans (by simp)
theorem Qz{p:bH}{cs:List Int}{mO:List Bool}{f:Int}{l:List Int}{i:Nat}:lp p cs mO (f::l) i=(if mO.getD i false=true∧3<((p.aD[i]?).map db.op).getD 0 then cs.getD f.toNat 0 else 0)+lp p cs mO l (i+1):=rfl
theorem ac6:bg aC.ctx 29 Kl.spec:=by
 refine bR [(34,JB.spec)] S3.1 ?_;intro⟨p,t,fs⟩ (ok:tT p t fs) H aJ;obtain⟨hL,_⟩:=sA ok.bK;have hl:=re (fs:=fs) ok.qK;have mH:=anP p;have kn:=fun k U=>O1 ok (k:=k) U
 repeat refine I ?_
 refine aX O4 (p,t,fs) ok ?_;refine az 9 (.bS 1 Int cw (gk p t.gs fs)) rfl rfl ?_;have cI:Kl.res (p,t,fs)= .i .i64 (lp p t.cs (jO p).1 (gk p t.gs fs) 0):=rfl;generalize gk p t.gs fs=l at *
 repeat refine I ?_
 refine cG (L:=Nat×Int) (fun(k,a)=>k<=l.length∧0<=a∧a<=1000000*(k:Int)∧a+lp p t.cs (jO p).1 (l.drop k) k=lp p t.cs (jO p).1 l 0) (fun(k,a)=>⟨[],0,[(0,.ip (sm p t)),(4,.i .i64 a),(9,.bS 1 Int cw l),(10,.i .i64 (l.length:Int)),(11,.i .i64 (k:Int))]⟩) (fun q=>l.length-q.1) [] (0,0) ⟨Nat.zero_le _,by decide,by decide,by rw[Int.zero_add];rfl⟩ (by show _-0<ba+1;unfold ba;omega) ei ?_;rintro⟨k,a⟩ ⟨U,kk,fY,ax⟩
 repeat refine al 12 ?_
 by_cases aP:k<l.length
 ·refine v1 12 (show(k:Int)<l.length by omega) ?_;have hn:k<p.aD.length:=by omega
  have aa:k<(jO p).1.length:=by omega
  rw[hf aP,Qz,List.getD_eq_getElem?_getD,a9 aa,a9 hn]at ax;simp only[Option.getD_some,Option.map_some]at ax;obtain⟨i1,i2⟩:=kn k aP
  repeat refine I ?_
  refine cV l[k] (a9 aP) ?_
  repeat refine I ?_
  refine cV (jO p).1[k] (a9 aa) ?_
  repeat refine al 22 ?_
  by_cases jt:(jO p).1[k]=true
  ·refine kN 22 jt ?_
   repeat refine I ?_
   refine cV p.aD[k] (a9 hn) ?_
   repeat refine al 33 ?_
   by_cases h3:3<(p.aD[k]).op
   ·refine v1 33 h3 ?_;rw[if_pos ⟨jt,h3⟩]at ax;obtain⟨j,hj⟩:∃j:Nat,l[k]=(j:Int):=⟨l[k].toNat,by omega⟩;have e6:j<t.cs.length:=by rw[ok.lc];omega
    rw[hj,Int.toNat_natCast,List.getD_eq_getElem?_getD,a9 e6,Option.getD_some]at ax;obtain⟨kT,dh⟩:=ok.cs _ (dr e6)
    repeat refine al 41 ?_
    refine oa 41 (j:Int) ?_;refine cV t.cs[j] (a9 e6) ?_
    repeat refine al 44 ?_
    refine dW 44 (a+t.cs[j]) ?_
    repeat refine al 45 ?_
    refine dW 45 ((k+1:Nat):Int) ?_
    repeat refine I ?_
    exact bc [] (k+1,a+t.cs[j]) ⟨by show _-(k+1)<_-k;omega,aP,by omega,by omega,by omega⟩ ei
   ·refine v0 33 h3 ?_;rw[if_neg (fun h=>h3 h.2)]at ax
    repeat refine al 45 ?_
    refine dW 45 ((k+1:Nat):Int) ?_
    repeat refine I ?_
    exact bc [] (k+1,a) ⟨by show _-(k+1)<_-k;omega,aP,kk,by omega,by omega⟩ ei
  ·refine kN 22 (eq_false_of_ne_true jt) ?_;rw[if_neg (fun h=>jt h.1)]at ax
   repeat refine al 45 ?_
   refine dW 45 ((k+1:Nat):Int) ?_
   repeat refine I ?_
   exact bc [] (k+1,a) ⟨by show _-(k+1)<_-k;omega,aP,kk,by omega,by omega⟩ ei
 ·refine v0 12 (show¬(k:Int)<l.length by omega) ?_;rw[List.drop_eq_nil_of_le (by omega)]at ax;have ax:a+0=lp p t.cs (jO p).1 l 0:=ax
  repeat refine I ?_
  exact aw rfl (.of (by rw[cI,<-ax,Int.add_zero]))
def XC:bE where
 L:=bH×gj×List Int
 args:=fun(p,t,fs)=>[ed p,p8 t,.bS 1 Int cw fs]
 pre:=fun(p,t,fs)=>(iY p∧t.gs.length<=100000∧t.cs.length<=100000∧t.hZ.length<=2000)∧fs.length<=100000
 res:=fun(p,t,fs)=>if g5 p t fs=0 then .bB [.i .i64 (lp p t.cs (jO p).1 (gk p t.gs fs) 0),.i .i64 0]else .bB [.i .i64 0,.i .i64 (g5 p t fs)]
 hp:=gX
 hm:=gX.up
theorem aoP:bg aC.ctx 8 XC.spec:=by
 refine ou [(28,Eo.spec),(29,Kl.spec)] nR.1 ?_;intro⟨p,t,fs⟩ hp H aJ dX
 repeat refine I ?_
 refine aX aa1 (p,t,fs) hp ?_ (hh:=dX);by_cases h0:g5 p t fs=0
 case neg=>
  refine az 14 (.bB [.v (.pointer none),.i .i64 (g5 p t fs)]) rfl (if_neg h0) ?_
  repeat refine al 18 ?_
  refine v1 18 h0 ?_
  repeat refine I ?_
  exact aw rfl (.of (by show _=ite _ _ _;rw[if_neg h0]))
 refine az 14 (.bB [.ip (sm p t),.i .i64 0]) rfl (if_pos h0) ?_
 repeat refine I ?_
 refine aX ac6 (p,t,fs) (EW h0) ?_
 repeat refine I ?_
 exact aw rfl (.of (by show _=ite _ _ _;rw[if_pos h0];rfl))
def XI:bE where
 L:=bH×gj×List Int
 args:=fun(p,t,fs)=>[ed p,p8 t,.bS 1 Int cw fs]
 pre:=fun(p,t,fs)=>(iY p∧t.gs.length<=100000∧t.cs.length<=100000∧t.hZ.length<=2000)∧fs.length<=100000
 res:=fun(p,t,fs)=>if g5 p t fs=0 then qc p (gk p t.gs fs)else .bB [ed nM,.i .i64 (g5 p t fs)]
 hp:=gX
 hm:=gX.up
theorem aoS:bg aC.ctx 10 XI.spec:=by
 refine ou [(28,Eo.spec),(34,JB.spec),(33,G5.spec)] uL.1 ?_;intro⟨p,t,fs⟩ hp H aJ dX
 repeat refine I ?_
 refine aX aa1 (p,t,fs) hp ?_ (hh:=dX);by_cases h0:g5 p t fs=0
 case neg=>
  refine az 14 (.bB [.v (.pointer none),.i .i64 (g5 p t fs)]) rfl (if_neg h0) ?_
  repeat refine al 18 ?_
  refine v1 18 h0 ?_
  repeat refine I ?_
  exact aw rfl (b3.trans (b:=.bB [ed nM,.i .i64 (g5 p t fs)]) (.bB ⟨Dd,.refl _,trivial⟩) (.of (by show _=ite _ _ _;rw[if_neg h0])))
 refine az 14 (.bB [.ip (sm p t),.i .i64 0]) rfl (if_pos h0) ?_;have ok:=EW h0;have hl:=re (fs:=fs) ok.qK;obtain⟨hL,_⟩:=sA ok.bK
 repeat refine I ?_
 refine ck O4 (p,t,fs) ok ?_
 repeat refine I ?_
 refine ck anr (p,gk p t.gs fs) ⟨hp.1.1,by show(gk p t.gs fs).length<=1000000;omega⟩ ?_ (hh:=dX);refine az 25 (qc p (gk p t.gs fs)) rfl rfl ?_
 repeat refine I ?_
 exact aw rfl (.of (by show _=ite _ _ _;rw[if_pos h0];rfl))
def X2:bE where
 L:=List UInt8
 args:=fun s=>[.s s]
 pre:=fun s=>s.length<=2000
 res:=fun s=>.i .i64 (qo s)
theorem apd:bg aC.ctx 223 X2.spec:=by
 refine bR [(26,Aq.spec)] SG.1 ?_;intro(s:List UInt8) ah H aJ
 repeat refine I ?_
 refine aX HT s ah ?_;cases h:gT s with
 |some x=>
  refine az 7 (.bB [dm x,.i .i64 0]) rfl (by show mb s=_;unfold mb;rw[h]) ?_
  repeat refine I ?_
  exact aw rfl (.of (by show _=af.i .i64 (qo s);unfold qo;rw[h];rfl))
 |none=>
  refine az 7 (.bB [dm 0,.i .i64 6]) rfl (by show mb s=_;unfold mb;rw[h]) ?_
  repeat refine I ?_
  exact aw rfl (.of (by show _=af.i .i64 (qo s);unfold qo;rw[h];rfl))
def tz(x y:Rat):Rat:=mkRat (x.num*(y.den:Int)) (x.den*y.num.natAbs)
def Yr:bE where
 L:=Rat×Rat
 args:=fun(x,y)=>[dm x,dm y]
 pre:=fun(x,y)=>en 60000 x∧en 60000 y∧0<y.num
 res:=fun(x,y)=>.bB [dm (tz x y),.i .i64 0]
theorem apx:bg aC.ctx 354 Yr.spec:=by
 refine bR [(229,xW.spec),(231,xT.spec),(72,vz.spec)] Ti.1 ?_;intro⟨x,y⟩ ⟨(J:en _ x),(aG:en _ y),(hp:0<y.num)⟩ H aJ;have hb:=AN x.num;have ml:y.num.sign=1:=Int.sign_eq_one_of_pos hp;have abl:y.num≠0:=by omega
 repeat refine al 8 ?_
 refine v0 8 (show¬y.num.sign=0 by omega) ?_
 repeat refine al 18 ?_
 refine eh 18 (cX y.den) rfl rfl (by rw[if_neg abl];rfl) ?_;refine ck p2 (x.num.natAbs,y.den) ⟨c1 J.1 (by decide),c1 aG.2 (by decide)⟩ ?_
 repeat refine I ?_
 refine ck qS x trivial ?_
 repeat refine I ?_
 refine ck p2 (x.den,y.num.natAbs) ⟨c1 J.2 (by decide),c1 aG.1 (by decide)⟩ ?_
 repeat refine al 14 ?_
 refine az 14 (.i .i64 x.num.sign) rfl (by rw[ml,Int.mul_one];exact cO rfl (by omega) (by omega)) ?_
 repeat refine I ?_
 refine ck tw (x.num.sign,x.num.natAbs*y.den,x.den*y.num.natAbs) ⟨hb.1,hb.2,c1 (mf J.1 aG.2) (by decide),c1 (mf J.2 aG.1) (by decide),Nat.mul_ne_zero x.den_nz (by omega)⟩ ?_;have e:mkRat (x.num.sign*((x.num.natAbs*y.den:Nat):Int)) (x.den*y.num.natAbs)=tz x y:=by
  unfold tz;rw[Int.natCast_mul,<-Int.mul_assoc,Int.sign_mul_natAbs]
 refine az 25 (dm (tz x y)) rfl (congrArg dm e) ?_
 repeat refine I ?_
 exact aw rfl (.refl _)
def Yp:bE where
 L:=Rat×Rat
 args:=fun(x,y)=>[dm x,dm y]
 pre:=fun(x,y)=>en 60000 x∧en 60000 y∧0<y.num
 res:=fun(x,y)=>dm (tz x y)
theorem apv:bg aC.ctx 298 Yp.spec:=by
 refine bR [(354,Yr.spec)] S7.1 ?_;intro⟨x,y⟩ hp H aJ
 repeat refine I ?_
 refine aX apx (x,y) hp ?_;refine az 10 (.bB [dm (tz x y),.i .i64 0]) rfl rfl ?_
 repeat refine I ?_
 exact aw rfl (.refl _)
def XZ:bE where
 L:=Int×Int×Rat
 args:=fun(e,p,x)=>[pq e p,dm x]
 pre:=fun(e,p,x)=>fD e p∧en 60000 x
 res:=fun(e,p,x)=>.b (decide (m9 e p<ih x))
theorem ao6:bg aC.ctx 297 XZ.spec:=by
 refine bR [(352,HK.spec),(353,X5.spec),(220,DN.spec)] S6.1 ?_;intro⟨e,p,x⟩ ⟨ar,(J:en _ x)⟩ H aJ
 repeat refine I ?_
 refine ck Nf x trivial ?_
 repeat refine I ?_
 refine ck apf (e,p) ar ?_
 repeat refine I ?_
 refine ck HX (ih x,m9 e p) ⟨k8 (Mv J) (by decide),k8 (aod ar) (by decide)⟩ ?_
 repeat refine I ?_
 exact aw rfl (.of (ct (decide_eq_decide.2 wk)))
def Ya:bE where
 L:=Rat
 args:=fun x=>[dm x]
 pre:=fun x=>dS 268435456 x.den
 res:=fun x=>.b (decide (x.den=1))
theorem api:bg aC.ctx 139 Ya.spec:=by
 refine bR [(231,xT.spec),(134,vA.spec),(133,r6.spec)] KR.1 ?_;intro(x:Rat) J H aJ
 repeat refine I ?_
 refine aX qS x trivial ?_
 repeat refine I ?_
 refine aX tx () trivial ?_
 repeat refine I ?_
 refine aX qT (x.den,1) ⟨c1 J (by decide),DK⟩ ?_
 repeat refine I ?_
 refine aw rfl (.of (ct (decide_eq_decide.2 ?_)));show h4 x.den 1=0↔x.den=1;unfold h4;have:=x.den_nz;by_cases h:x.den=1
 ·rw[if_neg (by omega),if_pos h];exact⟨fun _=>h,fun _=>rfl⟩
 ·rw[if_neg (by omega),if_neg h];exact⟨(fun h=>by cases h),fun aB=>absurd aB h⟩
theorem asx{e p:Int}{x:Rat}(h:fD e p)(J:en 300 x): -20000<=mR e p x∧mR e p x<=20000:=by
 obtain⟨h1,h2,h3,ay,aY⟩:=h;obtain⟨cZ,dz⟩:=o9 h1 h2;have lP:=G2 x.num.natAbs x.den;have rf:=p1 J.1;have Bw:=p1 J.2;unfold mR;split<;>omega
def HR:bE where
 L:=Int×Int×Rat
 args:=fun(e,p,x)=>[pq e p,dm x]
 pre:=fun(e,p,x)=>en 300 x
 res:=fun(e,p,x)=>.b (hasB e p x)
theorem X7:bg aC.ctx 219 HR.spec:=by
 refine bR [(127,HO.spec),(297,XZ.spec),(299,Yy.spec),(298,Yp.spec),(139,Ya.spec)] SB.1 ?_;intro⟨e,p,x⟩ (J:en 300 x) H aJ;have no:¬EB e p x->b3 (.b false) (HR.res (e,p,x)):=fun h=>.of (ct (by unfold hasB;exact(decide_eq_false (fun aB=>h ((has_eq e p x).2 aB))).symm));have yes:EB e p x->b3 (.b true) (HR.res (e,p,x)):=fun h=>.of (ct (by unfold hasB;exact(decide_eq_true ((has_eq e p x).1 h)).symm))
 repeat refine I ?_
 refine ck X0 (e,p) trivial ?_;by_cases h1:fD e p
 case neg=>
  refine az 6 (.i .i64 2) rfl (congrArg (af.i .i64) (if_neg h1)) ?_
  repeat refine I ?_
  exact aw rfl (no (fun h=>h1 h.1))
 refine az 6 (.i .i64 0) rfl (congrArg (af.i .i64) (if_pos h1)) ?_
 repeat refine I ?_
 refine ck ao6 (e,p,x) ⟨h1,k8 J (by decide)⟩ ?_;by_cases h2:m9 e p<ih x
 ·refine dx 11 h2 ?_
  repeat refine I ?_
  exact aw rfl (no (fun h=>h.2.1 h2))
 refine dL 11 h2 ?_;obtain⟨bj,bM⟩:=asx h1 J;have Mz:=Mx (c:=20000) (k:=mR e p x) (by omega) (by omega);have atO:0<(dV (mkRat 1 1) (mR e p x)).num:=by
  rw[(yg _).1];exact Int.pow_pos (by decide)
 repeat refine I ?_
 refine ck apF (e,p,x) ⟨h1,k8 J (by decide)⟩ ?_
 repeat refine I ?_
 refine ck apv (x,dV (mkRat 1 1) (mR e p x)) ⟨k8 J (by decide),k8 Mz (by decide),atO⟩ ?_;have iz:en 60000 (tz x (dV (mkRat 1 1) (mR e p x))):=by
  refine xL ?_ (c1 (mf J.2 Mz.1) (by decide)) (Nat.mul_ne_zero x.den_nz (by omega));rw[Int.natAbs_mul,Int.natAbs_natCast];exact c1 (mf J.1 Mz.2) (by decide)
 repeat refine I ?_
 refine ck api (tz x (dV (mkRat 1 1) (mR e p x))) (c1 iz.2 (by decide)) ?_;by_cases h3:(tz x (dV (mkRat 1 1) (mR e p x))).den=1
 ·refine dx 20 h3 ?_
  repeat refine I ?_
  exact aw rfl (yes ⟨h1,h2,h3⟩)
 ·refine dL 20 h3 ?_
  repeat refine I ?_
  exact aw rfl (no (fun h=>h3 h.2.2))
theorem vy:bg aC.ctx 80 qd.spec:=by
 refine bR [] T4.1 ?_;intro⟨n,m⟩ _ H aJ
 repeat refine al 6 ?_
 by_cases h:0<=n
 ·refine v1 6 h ?_
  repeat refine I ?_
  exact aw rfl (.of (ct (decide_eq_decide.2 ⟨fun aB=>⟨h,aB⟩,fun aB=>aB.2⟩)))
 ·refine v0 6 h ?_
  repeat refine I ?_
  exact aw rfl (.of (ct (decide_eq_false (fun aB=>h aB.1)).symm))
theorem HU:bg aC.ctx 131 vG.spec:=by
 refine bR [] RU.1 ?_;intro⟨p,i⟩ _ H aJ;have aA:∀{c:Int},fB p i=c->b3 (.i .i64 c) (vG.res (p,i)):=fun h=>.of (by rw[<-h];rfl)
 repeat refine al 8 ?_
 by_cases h:i<p.head
 ·refine v1 8 h ?_
  repeat refine I ?_
  exact aw rfl (aA (if_pos h))
 refine v0 8 h ?_
 repeat refine al 12 ?_
 by_cases h2:i<p.tail
 ·refine v1 12 h2 ?_
  repeat refine I ?_
  exact aw rfl (aA ((if_neg h).trans (if_pos h2)))
 refine v0 12 h2 ?_
 repeat refine I ?_
 exact aw rfl (aA ((if_neg h).trans (if_neg h2)))
theorem apC:bg aC.ctx 224 vH.spec:=by
 refine bR [(131,vG.spec)] SH.1 ?_;intro⟨p,i,k⟩ _ H aJ;have no:¬(0<=k∧k<i∧(fB p k=0∨fB p k=fB p i))->b3 (.b false) (vH.res (p,i,k)):=fun h=>.of (ct (decide_eq_false h).symm);have yes:(0<=k∧k<i∧(fB p k=0∨fB p k=fB p i))->b3 (.b true) (vH.res (p,i,k)):=fun h=>.of (ct (decide_eq_true h).symm)
 repeat refine al 8 ?_
 by_cases h:0<=k
 case neg=>
  refine iF 8 h ?_
  repeat refine I ?_
  exact aw rfl (no (by omega))
 refine fM 8 h ?_
 repeat refine al 12 ?_
 by_cases h2:k<i
 case neg=>
  refine iF 12 h2 ?_
  repeat refine I ?_
  exact aw rfl (no (by omega))
 refine fM 12 h2 ?_
 repeat refine I ?_
 refine ck HU (p,k) trivial ?_;refine az 17 (.i .i64 (fB p k)) rfl rfl ?_
 repeat refine al 18 ?_
 by_cases h3:fB p k=0
 ·refine v1 18 h3 ?_
  repeat refine I ?_
  exact aw rfl (yes ⟨h,h2,.inl h3⟩)
 refine v0 18 h3 ?_
 repeat refine I ?_
 refine ck HU (p,k) trivial ?_;refine az 22 (.i .i64 (fB p k)) rfl rfl ?_
 repeat refine I ?_
 refine ck HU (p,i) trivial ?_;refine az 25 (.i .i64 (fB p i)) rfl rfl ?_
 repeat refine al 26 ?_
 by_cases ay:fB p k=fB p i
 ·refine v1 26 ay ?_
  repeat refine I ?_
  exact aw rfl (yes ⟨h,h2,.inr ay⟩)
 refine v0 26 ay ?_
 repeat refine I ?_
 exact aw rfl (no (fun h=>h.2.2.elim h3 ay))
def ql(op:Int):Int:=if 1<=op∧op<=15 then(nn op.toNat:Int)else -1
def yJ:bE where
 L:=Int
 args:=fun n=>[.i .i64 n]
 pre:=fun _=>True
 res:=fun n=>.i .i64 (ql n)
theorem amT:∀o,o<16->1<=o->nn o=if o<=3 then 0 else if o<=7 then 1 else if o<=13 then 2 else if o=14 then 3 else 4:=by decide +kernel
theorem asZ:∀o,o<16->1<=o->tM o=if o=1∨o=2 then 1 else nn o:=by decide +kernel
theorem yK:bg aC.ctx 221 yJ.spec:=by
 refine bR [] SE.1 ?_;intro(n:Int) _ H aJ;have aA:∀{c:Int},ql n=c->b3 (.i .i64 c) (yJ.res n):=fun h=>.of (by rw[<-h];rfl)
 repeat refine al 5 ?_
 by_cases h1:n<1
 ·refine v1 5 h1 ?_
  repeat refine I ?_
  exact aw rfl (aA (if_neg (by omega)))
 refine v0 5 h1 ?_
 repeat refine al 8 ?_
 by_cases h2:15<n
 ·refine v1 8 h2 ?_
  repeat refine I ?_
  exact aw rfl (aA (if_neg (by omega)))
 refine v0 8 h2 ?_;obtain⟨o,ak⟩:∃o:Nat,n=(o:Int):=⟨n.toNat,by omega⟩;have U:=amT o (by omega) (by omega);have e2:∀{c:Nat},nn o=c->b3 (.i .i64 (c:Int)) (yJ.res n):=fun h=>aA (by unfold ql;rw[if_pos (by omega),ak,Int.toNat_natCast,h])
 repeat refine al 12 ?_
 by_cases h3:n<=3
 ·refine v1 12 h3 ?_
  repeat refine I ?_
  exact aw rfl (e2 (c:=0) (U.trans (if_pos (by omega))))
 refine v0 12 h3 ?_;rw[if_neg (by omega)]at U
 repeat refine al 15 ?_
 by_cases ay:n<=7
 ·refine v1 15 ay ?_
  repeat refine I ?_
  exact aw rfl (e2 (c:=1) (U.trans (if_pos (by omega))))
 refine v0 15 ay ?_;rw[if_neg (by omega)]at U
 repeat refine al 18 ?_
 by_cases aY:n<=13
 ·refine v1 18 aY ?_
  repeat refine I ?_
  exact aw rfl (e2 (c:=2) (U.trans (if_pos (by omega))))
 refine v0 18 aY ?_;rw[if_neg (by omega)]at U
 repeat refine al 21 ?_
 by_cases b7:n=14
 ·refine v1 21 b7 ?_
  repeat refine I ?_
  exact aw rfl (e2 (c:=3) (U.trans (if_pos (by omega))))
 refine v0 21 b7 ?_
 repeat refine I ?_
 exact aw rfl (e2 (c:=4) (U.trans (if_neg (by omega))))
def KL(n:db):List af:=[.i .i64 n.a,.i .i64 n.b,.i .i64 n.c,.i .i64 n.d]
def KJ:bE where
 L:=db
 args:=fun n=>[.agg (gf n)]
 pre:=fun _=>True
 res:=fun n=>.agg (KL n)
theorem Rb:bg aC.ctx 233 KJ.spec:=by
 refine bR [] SR.1 ?_;intro(n:db) _ H aJ
 repeat refine I ?_
 exact aw rfl (.refl _)
def apj(n:db):Nat×List Int->cS
 |(k,[])=>⟨[.c 87 (gf n),.a 303 false 1 Int cw (eW n)],2,[(1,.p 0 0),(3,.p 1 0),(4,.nl),(5,.i .i64 (k:Int))]⟩
 |(k,d::ds)=>⟨[.c 87 (gf n),.a 303 false 1 Int cw (eW n),.a 3 true 1 Int cw (d::ds)],3,[(1,.p 0 0),(3,.p 1 0),(4,.a6 2 1 0 (ds.length+1) (ds.length+1)),(5,.i .i64 (k:Int))]⟩
def Np:bE where
 L:=db
 args:=fun n=>[.agg (gf n)]
 pre:=fun n=>1<=n.op∧n.op<=15
 res:=fun n=>.bS 1 Int cw (cD n)
theorem N2{own:List a3}{n p:Nat}{e cK:bT}{m:Nat}{o q r:a3}(h:lk [0,1,m] cK e)(ak:∃bd,own[0]? =some bd∧ft [0,1,m] o bd)(hq:∃bd,own[1]? =some bd∧ft [0,1,m] q bd)(aQ:∃bd,own[m]? =some bd∧ft [0,1,m] r bd)(hm:1<m:=by decide)(hp:pinned p [0,1,m] 0=true:=by rfl):Sub p [0,1,m] ⟨own,n,e⟩ ⟨[o,q,r],3,cK⟩:=⟨by simp;omega,rfl,⟨ak,hq,aQ,trivial⟩,h,hp⟩
theorem Yb:bg aC.ctx 141 Np.spec:=by
 refine bR [(233,KJ.spec),(221,yJ.spec)] R3.1 ?_;intro(n:db) ⟨(h1:1<=n.op),(h2:n.op<=15)⟩ H aJ;obtain⟨o,ak⟩:∃o:Nat,n.op=(o:Int):=⟨n.op.toNat,by omega⟩;have k4:n.op.toNat=o:=by omega
 obtain⟨hu,_⟩:=IS o (by omega);have a5:cD n=(eW n).take (nn o):=by unfold cD;rw[k4];exact if_pos ⟨h1,h2⟩
 have eF:ql n.op=(nn o:Int):=by unfold ql;rw[if_pos ⟨h1,h2⟩,k4]
 generalize nn o=u at *
 repeat refine I ?_
 refine aX Rb n trivial ?_;refine az 7 (.agg (KL n)) rfl rfl ?_
 repeat refine al 5 ?_
 refine mh 1 cw (eW n) ?_
 repeat refine I ?_
 refine cG (L:=Nat×List Int) (fun(k,l)=>k<=u∧l=(eW n).take k) (apj n) (fun l=>u-l.1) [0,1] (0,[]) ⟨Nat.zero_le _,rfl⟩ (by show u-0<ba+1;unfold ba;omega) ej ?_;rintro⟨k,l⟩ ⟨U,ax⟩;have wS:(eW n).length=4:=rfl;have pG:l.length=k:=by rw[ax,List.length_take];omega
 by_cases aP:k<u
 ·have Li:k<(eW n).length:=by omega
  have dN:(eW n).take (k+1)=l++[(eW n)[k]]:=by rw[List.take_succ_eq_append_getElem Li,ax]
  cases l with
  |nil=>
   repeat refine I ?_
   refine aX yK n.op trivial ?_;refine az 11 (.i .i64 (u:Int)) rfl (congrArg (af.i .i64) eF) ?_
   repeat refine al 12 ?_
   refine v1 12 (show(k:Int)<u by omega) ?_
   repeat refine I ?_
   refine IF (j:=k) ?_;refine p4 (eW n)[k] (a9 Li) ?_
   repeat refine I ?_
   refine x6 cw [(eW n)[k]] (gG (R:=cw) [(eW n)[k]] rfl) ?_
   repeat refine al 14 ?_
   refine dW 14 ((k+1:Nat):Int) ?_
   repeat refine I ?_
   exact bc [0,1,3] (k+1,[(eW n)[k]]) ⟨by show u-(k+1)<u-k;omega,aP,dN.symm⟩ ld
  |cons d ds=>
   have iu:ds.length+1=k:=pG
   repeat refine I ?_
   refine aX yK n.op trivial ?_;refine az 11 (.i .i64 (u:Int)) rfl (congrArg (af.i .i64) eF) ?_
   repeat refine al 12 ?_
   refine v1 12 (show(k:Int)<u by omega) ?_
   repeat refine I ?_
   refine IF (j:=k) ?_;refine p4 (eW n)[k] (a9 Li) ?_
   repeat refine I ?_
   refine x5 (R:=cw) [(eW n)[k]] (gG (R:=cw) [(eW n)[k]] rfl) ?_
   repeat refine al 14 ?_
   refine dW 14 ((k+1:Nat):Int) ?_
   repeat refine I ?_
   exact bc [0,1,4] (k+1,d::(ds++[(eW n)[k]])) ⟨by show u-(k+1)<u-k;omega,aP,dN.symm⟩ (N2 ⟨rfl,rfl,congrArg (fun k=>some (af.a6 4 1 0 k k)) (by simp),rfl,trivial⟩ ⟨_,rfl,rfl⟩ ⟨_,rfl,rfl,fun _=>rfl⟩ ⟨_,rfl,rfl,fun _=>rfl⟩)
 ·obtain rfl:k=u:=by omega
  rw[<-a5]at ax;cases l with
  |nil=>
   repeat refine I ?_
   refine aX yK n.op trivial ?_;refine az 11 (.i .i64 (k:Int)) rfl (congrArg (af.i .i64) eF) ?_
   repeat refine al 12 ?_
   refine v0 12 (show¬(k:Int)<k by omega) ?_
   repeat refine I ?_
   exact aw rfl (b3.nl.trans (.of (by show af.bS 1 Int cw []=af.bS 1 Int cw (cD n);rw[<-ax])))
  |cons d ds=>
   repeat refine I ?_
   refine aX yK n.op trivial ?_;refine az 11 (.i .i64 (k:Int)) rfl (congrArg (af.i .i64) eF) ?_
   repeat refine al 12 ?_
   refine v0 12 (show¬(k:Int)<k by omega) ?_
   repeat refine al 21 ?_
   refine hD 21 ?_
   repeat refine I ?_
   exact aw rfl (.of (by show af.bS 1 Int cw (d::ds)=af.bS 1 Int cw (cD n);rw[<-ax]))
def ZW:bE where
 L:=db
 args:=fun n=>[.agg (gf n)]
 pre:=fun n=>1<=n.op∧n.op<=15
 res:=fun n=>.b (!qG n)
theorem asB:bg aC.ctx 222 ZW.spec:=by
 refine bR [(233,KJ.spec),(221,yJ.spec)] SF.1 ?_;intro(n:db) ⟨(h1:1<=n.op),(h2:n.op<=15)⟩ H aJ;obtain⟨o,ak⟩:∃o:Nat,n.op=(o:Int):=⟨n.op.toNat,by omega⟩;have k4:n.op.toNat=o:=by omega
 obtain⟨_,hu⟩:=IS o (by omega);have aN:=asZ o (by omega) (by omega);have eF:ql n.op=(nn o:Int):=by unfold ql;rw[if_pos ⟨h1,h2⟩,k4]
 have a5:qG n=(((eW n).drop (tM o)).all (fun x=>x==0)&&(n.v.isEmpty||decide (n.op=3))):=by unfold qG;rw[k4]
 generalize tM o=u at *
 repeat refine I ?_
 refine aX yK n.op trivial ?_;refine az 8 (.i .i64 (nn o:Int)) rfl (congrArg (af.i .i64) eF) ?_
 repeat refine al 3 ?_
 iterate 3 refine I ?_
 refine iS (L:=Unit) (fun _=>True) (fun _=>⟨[.c 87 (gf n)],1,[(1,.p 0 0),(3,.i .i64 (u:Int))]⟩) ?_ ?_
 ·repeat refine al 11 ?_
  by_cases dh:n.op=1
  ·refine v1 11 dh ?_;rw[if_pos (.inl (by omega))]at aN;subst aN
   repeat refine I ?_
   exact bc [0] () trivial dP
  refine v0 11 dh ?_
  repeat refine al 15 ?_
  by_cases dC:n.op=2
  ·refine v1 15 dC ?_;rw[if_pos (.inr (by omega))]at aN;subst aN
   repeat refine I ?_
   exact bc [0] () trivial dP
  refine v0 15 dC ?_;rw[if_neg (by omega)]at aN;subst aN
  repeat refine I ?_
  exact bc [0] () trivial dP
 intro _ _
 repeat refine I ?_
 refine aX Rb n trivial ?_;refine az 18 (.agg (KL n)) rfl rfl ?_
 repeat refine al 19 ?_
 refine mh 1 cw (eW n) ?_
 repeat refine I ?_
 refine cG (L:=Nat) (fun k=>u<=k∧k<=4∧(((eW n).drop u).take (k-u)).all (fun x=>x==0)=true) (fun(k:Nat)=>⟨[.c 87 (gf n),.a 303 false 1 Int cw (eW n)],2,[(1,.p 0 0),(4,.p 1 0),(5,.i .i64 (k:Int))]⟩) (fun k=>4-k) [0,1] u ⟨Nat.le_refl _,hu,by rw[Nat.sub_self];rfl⟩ (by show 4-u<ba+1;unfold ba;omega) ej ?_;rintro(k:Nat) ⟨auq,U,ax⟩;have wS:(eW n).length=4:=rfl;have hlen:((eW n).drop u).length=4-u:=by rw[List.length_drop];rfl
 repeat refine al 21 ?_
 by_cases hl:k<4
 ·refine v1 21 (show(k:Int)<4 by omega) ?_;have Ll:k-u<((eW n).drop u).length:=by omega
  have j9:(eW n)[k]? =some ((eW n).drop u)[k-u]:=by
   rw[<-a9 Ll,List.getElem?_drop,show u+(k-u)=k by omega]
  repeat refine I ?_
  refine IF (j:=k) ?_;refine p4 ((eW n).drop u)[k-u] j9 ?_
  repeat refine al 27 ?_
  by_cases J:((eW n).drop u)[k-u]=0
  ·refine v0 27 (fb J) ?_
   repeat refine al 23 ?_
   refine dW 23 ((k+1:Nat):Int) ?_
   repeat refine I ?_
   exact bc [0,1] (k+1) ⟨by omega,by omega,hl,by rw[show k+1-u=(k-u)+1 by omega];exact Vm Ll ax J⟩ ej
  ·refine v1 27 J ?_
   repeat refine I ?_
   refine aw rfl (.of (ct ?_));have:((eW n).drop u).all (fun x=>x==0)=false:=by
    rw[List.all_eq_false];exact⟨((eW n).drop u)[k-u],dr Ll,by simpa using J⟩
   rw[a5,this];rfl
 ·refine v0 21 (show¬(k:Int)<4 by omega) ?_;have oK:((eW n).drop u).all (fun x=>x==0)=true:=by
   rw[List.take_of_length_le (by omega)]at ax;exact ax
  repeat refine al 30 ?_
  by_cases h3:n.op=3
  ·refine v0 30 (fb h3) ?_
   repeat refine I ?_
   exact aw rfl (.of (ct (by rw[a5,oK,decide_eq_true h3];simp)))
  ·refine v1 30 h3 ?_
   repeat refine al 34 ?_
   cases aH:n.v with
   |nil=>
    refine az 34 (.b false) rfl rfl ?_
    repeat refine I ?_
    exact aw rfl (.of (ct (by rw[a5,oK,aH];rfl)))
   |cons c v=>
    refine az 34 (.b true) rfl rfl ?_
    repeat refine I ?_
    exact aw rfl (.of (ct (by rw[a5,oK,aH,decide_eq_false h3];rfl)))
theorem atA:bg aC.ctx 126 zj.spec:=by
 refine bR [] RO.1 ?_;intro(p:bH) _ H aJ;have aU:∀{c:Int},pt p=c->b3 (.i .i64 c) (zj.res p):=fun h=>.of (by rw[<-h];rfl)
 repeat refine al 10 ?_
 by_cases h1:6<(p.fs.length:Int)
 ·refine v1 10 h1 ?_
  repeat refine I ?_
  exact aw rfl (aU (if_pos (.inl h1)))
 refine v0 10 h1 ?_
 repeat refine al 15 ?_
 by_cases h2:6<(p.ins.length:Int)
 ·refine v1 15 h2 ?_
  repeat refine I ?_
  exact aw rfl (aU (if_pos (.inr (.inl h2))))
 refine v0 15 h2 ?_
 repeat refine al 19 ?_
 by_cases h3:64<(p.aD.length:Int)
 ·refine v1 19 h3 ?_
  repeat refine I ?_
  exact aw rfl (aU (if_pos (.inr (.inr (.inl h3)))))
 refine v0 19 h3 ?_
 repeat refine al 25 ?_
 by_cases ay:4<(p.ca.length:Int)
 ·refine v1 25 ay ?_
  repeat refine I ?_
  exact aw rfl (aU (if_pos (.inr (.inr (.inr ay)))))
 refine v0 25 ay ?_;have nq:¬(6<(p.fs.length:Int)∨6<(p.ins.length:Int)∨64<(p.aD.length:Int)∨4<(p.ca.length:Int)):=fun h=>h.elim h1 fun h=>h.elim h2 fun h=>h.elim h3 ay;have aA:=fun{c} h=> @aU c ((if_neg nq).trans h)
 repeat refine al 30 ?_
 by_cases aL:(p.fs.length:Int)=0
 ·refine v1 30 aL ?_
  repeat refine I ?_
  exact aw rfl (aA (if_pos (.inl aL)))
 refine v0 30 aL ?_
 repeat refine al 33 ?_
 by_cases aR:(p.aD.length:Int)=0
 ·refine v1 33 aR ?_
  repeat refine I ?_
  exact aw rfl (aA (if_pos (.inr (.inl aR))))
 refine v0 33 aR ?_
 repeat refine al 38 ?_
 by_cases a7:p.mode<0
 ·refine v1 38 a7 ?_
  repeat refine I ?_
  exact aw rfl (aA (if_pos (.inr (.inr (.inl a7)))))
 refine v0 38 a7 ?_
 repeat refine al 43 ?_
 by_cases cl:4<p.mode
 ·refine v1 43 cl ?_
  repeat refine I ?_
  exact aw rfl (aA (if_pos (.inr (.inr (.inr cl)))))
 refine v0 43 cl ?_;have fb:¬((p.fs.length:Int)=0∨(p.aD.length:Int)=0∨p.mode<0∨4<p.mode):=fun h=>h.elim aL fun h=>h.elim aR fun h=>h.elim a7 cl;have e2:=fun{c} h=> @aA c ((if_neg fb).trans h)
 repeat refine al 47 ?_
 by_cases bj:p.head<0
 ·refine v1 47 bj ?_
  repeat refine I ?_
  exact aw rfl (e2 (if_pos (.inl bj)))
 refine v0 47 bj ?_
 repeat refine al 53 ?_
 by_cases bM:p.tail<p.head
 ·refine v1 53 bM ?_
  repeat refine I ?_
  exact aw rfl (e2 (if_pos (.inr (.inl bM))))
 refine v0 53 bM ?_
 repeat refine al 59 ?_
 by_cases dK:(p.aD.length:Int)<p.tail
 ·refine v1 59 dK ?_
  repeat refine I ?_
  exact aw rfl (e2 (if_pos (.inr (.inr dK))))
 refine v0 59 dK ?_;have xF:¬(p.head<0∨p.tail<p.head∨(p.aD.length:Int)<p.tail):=fun h=>h.elim bj fun h=>h.elim bM dK;have b0:=fun{c} h=> @e2 c ((if_neg xF).trans h)
 repeat refine al 65 ?_
 by_cases fK:(p.ca.length:Int)=0
 ·refine v1 65 fK ?_
  repeat refine al 70 ?_
  by_cases iQ:p.head<(p.aD.length:Int)
  ·refine v1 70 iQ ?_
   repeat refine I ?_
   exact aw rfl (b0 (if_pos ⟨fK,by omega⟩))
  ·refine v0 70 iQ ?_
   repeat refine I ?_
   exact aw rfl (b0 (if_neg (fun h=>h.2 (by omega))))
 ·refine v0 65 fK ?_
  repeat refine I ?_
  exact aw rfl (b0 (if_neg (fun h=>fK h.1)))
theorem XX{v k:Nat}(h:v<10^k)(U:k<=2000):dS 300 v:=by
 refine lr (by decide) (Nat.lt_of_lt_of_le h (Nat.le_trans (Nat.pow_le_pow_right (by decide) U) ?_));decide +kernel
theorem XL{s:List UInt8}(ah:s.length<=2000){x:Rat}(h:gT s=some x):en 300 x:=by
 obtain⟨P,q,ij,_,_,iq,hq,zn,hint,zH⟩:=M9 ah;by_cases dv:oc (dQ s).1 P q ij
 ·obtain⟨aL,aR,a7⟩:=dv;have tY:=XX (qW aL.2.1) (by omega);cases ij with
  |false=>
   have e:=hint ⟨aL,aR,a7⟩ rfl;rw[h]at e;cases e;exact xL (by rw[tI];exact tY) (by show(a1 _ 1).length<=_;rw[uC];exact kx rfl) (by decide)
  |true=>
   obtain⟨h3,ay,aY⟩:=a7 rfl;have me:b1 q≠0:=fun h=>ay (wg h3 h);have e:=zH ⟨aL,aR,a7⟩ rfl;rw[h]at e;split at e
   ·cases e;exact xL (by rw[tI];exact tY) (XX (qW h3.2.1) (by omega)) me
   ·cases e
 ·rw[zn dv]at h;cases h
def DL:bE where
 L:=bH×iH
 args:=fun(p,x)=>[ed p,.agg (lZ x)]
 pre:=fun(p,x)=>x.bb.length<=2000∧x.ae.length<=2000
 res:=fun(p,x)=>.i .i64 (xp p x)
theorem apg:bg aC.ctx 128 DL.spec:=by
 refine bR [(80,qd.spec),(26,Aq.spec),(219,HR.spec),(220,DN.spec)] RQ.1 ?_;intro⟨p,x⟩ ⟨gr,gP⟩ H aJ;have aU:∀{c:Int},xp p x=c->b3 (.i .i64 c) (DL.res (p,x)):=fun h=>.of (by rw[<-h];rfl)
 repeat refine I ?_
 refine aX vy (x.f,(p.fs.length:Int)) trivial ?_;by_cases h3:eb x.f p.fs.length
 case neg=>
  refine dL 14 h3 ?_
  repeat refine I ?_
  exact aw rfl (aU (if_neg h3))
 refine dx 14 h3 ?_;obtain⟨f,ab⟩:∃f:Nat,x.f=(f:Int):=⟨x.f.toNat,by have:=h3.1;omega⟩;have sT:x.f.toNat=f:=by omega
 have wS:f<p.fs.length:=by have:=h3.2;omega
 obtain⟨⟨jJ,jK⟩,hq⟩:∃w,p.fs[f]? =some w:=⟨_,a9 wS⟩;have aA:∀{c:Int},qI jJ jK x=c->b3 (.i .i64 c) (DL.res (p,x)):=fun h=>aU (by unfold xp;rw[if_pos h3,sT,hq];exact h)
 repeat refine I ?_
 refine aX HT x.bb gr ?_;cases eF:gT x.bb with
 |none=>
  refine az 19 (.bB [dm 0,.i .i64 6]) rfl (by show mb x.bb=_;unfold mb;rw[eF]) ?_
  repeat refine I ?_
  exact aw rfl (aA (by unfold qI;rw[eF]))
 |some X=>
 refine az 19 (.bB [dm X,.i .i64 0]) rfl (by show mb x.bb=_;unfold mb;rw[eF]) ?_
 repeat refine I ?_
 refine aX HT x.ae gP ?_;cases a5:gT x.ae with
 |none=>
  refine az 28 (.bB [dm 0,.i .i64 6]) rfl (by show mb x.ae=_;unfold mb;rw[a5]) ?_
  repeat refine I ?_
  exact aw rfl (aA (by unfold qI;rw[eF,a5]))
 |some Y=>
 refine az 28 (.bB [dm Y,.i .i64 0]) rfl (by show mb x.ae=_;unfold mb;rw[a5]) ?_;have Dm:=XL gr eF;have Dn:=XL gP a5;have gN:qI jJ jK x=if kh jJ jK X∧kh jJ jK Y∧¬Y<X then 0 else 7:=by unfold qI;rw[eF,a5]
 have no:¬(kh jJ jK X∧kh jJ jK Y∧¬Y<X)->b3 (.i .i64 7) (DL.res (p,x)):=fun h=>aA (gN.trans (if_neg h))
 repeat refine al 37 ?_
 refine az 37 (.i .i64 (f:Int)) rfl (by rw[ab]) ?_;refine cV (jJ,jK) hq ?_
 repeat refine I ?_
 refine aX X7 (jJ,jK,X) Dm ?_;by_cases cn:kh jJ jK X
 case neg=>
  refine dL 42 cn ?_
  repeat refine I ?_
  exact aw rfl (no (fun h=>cn h.1))
 refine dx 42 cn ?_
 repeat refine I ?_
 refine aX X7 (jJ,jK,Y) Dn ?_;by_cases cz:kh jJ jK Y
 case neg=>
  refine dL 47 cz ?_
  repeat refine I ?_
  exact aw rfl (no (fun h=>cz h.2.1))
 refine dx 47 cz ?_
 repeat refine I ?_
 refine aX HX (X,Y) ⟨k8 Dm (by decide),k8 Dn (by decide)⟩ ?_
 repeat refine al 54 ?_
 by_cases dp:Y<X
 ·refine v1 54 (wk.2 dp) ?_
  repeat refine I ?_
  exact aw rfl (no (fun h=>h.2.2 dp))
 ·refine v0 54 (fun h=>dp (wk.1 h)) ?_
  repeat refine I ?_
  exact aw rfl (aA (gN.trans (if_pos ⟨cn,cz,dp⟩)))
def Nq:bE where
 L:=bH×Nat×db
 args:=fun(p,i,n)=>[ed p,.i .i64 (i:Int)]
 pre:=fun(p,i,n)=>p.aD[i]? =some n∧n.v.length<=2000
 res:=fun(p,i,n)=>.i .i64 (lI p i n)
theorem apt:bg aC.ctx 129 Nq.spec:=by
 refine bR [(221,yJ.spec),(222,ZW.spec),(80,qd.spec),(223,X2.spec),(141,Np.spec),(224,vH.spec)] RR.1 ?_;intro⟨p,i,n⟩ ⟨hj,aH⟩ H aJ;have aU:∀{c:Int},lI p i n=c->b3 (.i .i64 c) (Nq.res (p,i,n)):=fun h=>.of (by rw[<-h];rfl)
 repeat refine I ?_
 refine cV n hj ?_
 repeat refine I ?_
 refine aX yK n.op trivial ?_
 repeat refine al 16 ?_
 by_cases h1:1<=n.op∧n.op<=15
 case neg=>
  refine v1 16 (show ql n.op<0 by unfold ql;rw[if_neg h1];decide) ?_
  repeat refine I ?_
  exact aw rfl (aU (if_pos (.inl h1)))
 refine v0 16 (show¬ql n.op<0 by unfold ql;rw[if_pos h1];omega) ?_
 repeat refine I ?_
 refine aX asB n h1 ?_;cases h2:qG n with
 |false=>
  refine az 19 (.b true) rfl (ct (by rw[h2];rfl)) ?_
  repeat refine I ?_
  exact aw rfl (aU (if_pos (.inr h2)))
 |true=>
 refine az 19 (.b false) rfl (ct (by rw[h2];rfl)) ?_;have aL:¬(¬(1<=n.op∧n.op<=15)∨qG n=false):=fun h=>h.elim (fun h=>h h1) (fun h=>Bool.noConfusion (h2.symm.trans h))
 repeat refine I ?_
 refine aX vy (n.f,(p.fs.length:Int)) trivial ?_;by_cases h3:eb n.f p.fs.length
 case neg=>
  refine dL 26 h3 ?_
  repeat refine I ?_
  exact aw rfl (aU ((if_neg aL).trans (if_pos h3)))
 refine dx 26 h3 ?_;have aR:¬¬eb n.f p.fs.length:=fun h=>h h3;have e2:=fun{c} h=> @aU c ((if_neg aL).trans ((if_neg aR).trans h));have f2:=fun{c} h=>((if_neg aL).trans ((if_neg aR).trans h):lI p i n=c)
 repeat refine al 29 ?_
 iterate 3 refine I ?_
 refine oV (L:=Unit) (fun _=>lI p i n=if(cD n).all (fun k=>r9 p i k)then 0 else 7) (fun _=>⟨[.c 27 (eB p),.c 87 (gf n)],2,[(1,.i .i64 (i:Int)),(2,.p 0 0),(4,.i .i64 0),(5,.p 1 0)]⟩) ?_ ?_
 ·clear aU
  repeat refine al 31 ?_
  by_cases ae:n.op=1
  ·refine v1 31 ae ?_
   repeat refine I ?_
   refine aX vy (n.a,(p.ins.length:Int)) trivial ?_;by_cases ay:eb n.a p.ins.length
   case neg=>
    refine dL 37 ay ?_
    repeat refine I ?_
    exact aw rfl (e2 (if_pos ⟨ae,ay⟩))
   refine dx 37 ay ?_;have a7:¬(n.op=1∧¬eb n.a p.ins.length):=fun h=>h.2 ay;obtain⟨a,ha⟩:∃a:Nat,n.a=(a:Int):=⟨n.a.toNat,by have:=ay.1;omega⟩;have py:n.a.toNat=a:=by omega
   have jc:a<p.ins.length:=by have:=ay.2;omega
   repeat refine al 42 ?_
   refine eh 42 (.i .i64 (a:Int)) rfl rfl (by rw[ha]) ?_
   repeat refine I ?_
   refine gm p.ins[a] (a9 jc) ?_
   repeat refine al 48 ?_
   by_cases aY:(p.ins[a]).f=n.f
   case neg=>
    refine fM 48 aY ?_
    repeat refine I ?_
    exact aw rfl (e2 ((if_neg a7).trans (if_pos ⟨ae,by rw[py,a9 jc];simpa using aY⟩)))
   refine iF 48 (fb aY) ?_
   repeat refine I ?_
   refine bc [0,1] () (f2 ((if_neg a7).trans ((if_neg ?_).trans ((if_neg (by omega)).trans (if_neg (by omega)))))) ej;rintro⟨_,h⟩;exact h (by rw[py,a9 jc];simp[aY])
  ·refine v0 31 ae ?_;have f3:=fun{c} h=> @f2 c ((if_neg (fun h=>ae h.1)).trans ((if_neg (fun h=>ae h.1)).trans h));have b0:=fun{c} h=> @e2 c ((if_neg (fun h=>ae h.1)).trans ((if_neg (fun h=>ae h.1)).trans h))
   repeat refine al 50 ?_
   by_cases ah:n.op=2
   ·refine v1 50 ah ?_
    repeat refine al 54 ?_
    by_cases ay:(i:Int)<p.head
    ·refine v1 54 ay ?_
     repeat refine I ?_
     exact aw rfl (b0 (if_pos ⟨ah,.inl ay⟩))
    refine v0 54 ay ?_
    repeat refine I ?_
    refine aX vy (n.a,(p.ca.length:Int)) trivial ?_;by_cases aY:eb n.a p.ca.length
    case neg=>
     refine dL 61 aY ?_
     repeat refine I ?_
     exact aw rfl (b0 (if_pos ⟨ah,.inr aY⟩))
    refine dx 61 aY ?_
    repeat refine I ?_
    exact bc [0,1] () (f3 ((if_neg (fun h=>h.2.elim ay (fun h=>h aY))).trans (if_neg (by omega)))) ej
   ·refine v0 50 ah ?_;have f4:=fun{c} h=> @f3 c ((if_neg (fun h=>ah h.1)).trans h);have eS:=fun{c} h=> @b0 c ((if_neg (fun h=>ah h.1)).trans h)
    repeat refine al 65 ?_
    by_cases hc:n.op=3
    ·refine v1 65 hc ?_
     repeat refine I ?_
     refine aX apd n.v aH ?_
     repeat refine I ?_
     exact aw rfl (eS (if_pos hc))
    ·refine v0 65 hc ?_
     repeat refine I ?_
     exact bc [0,1] () (f4 (if_neg hc)) ej
 intro _ hS;have U:=GO n
 repeat refine I ?_
 refine aX Yb n h1 ?_
 repeat refine I ?_
 refine cG (L:=Nat) (fun k=>k<=(cD n).length∧((cD n).take k).all (fun k=>r9 p i k)=true) (fun(k:Nat)=>⟨[.c 27 (eB p),.c 87 (gf n)],2,[(1,.i .i64 (i:Int)),(2,.p 0 0),(4,.i .i64 0),(6,.bS 1 Int cw (cD n)),(7,.i .i64 (k:Int))]⟩) (fun k=>(cD n).length-k) [0,1] 0 ⟨Nat.zero_le _,rfl⟩ (by show _-0<ba+1;unfold ba;omega) ej ?_;rintro(k:Nat) ⟨js,ax⟩
 repeat refine al 74 ?_
 by_cases hl:k<(cD n).length
 ·refine v1 74 (show(k:Int)<((cD n).length:Int) by omega) ?_
  repeat refine I ?_
  refine gm (cD n)[k] (a9 hl) ?_
  repeat refine I ?_
  refine ck apC (p,(i:Int),(cD n)[k]) trivial ?_;cases ah:r9 p i (cD n)[k]with
  |false=>
   refine az 83 (.b false) rfl (ct ah) ?_
   repeat refine I ?_
   refine aw rfl (aU (hS.trans (if_neg ?_)));intro h;rw[List.all_eq_true]at h;have:=h _ (dr hl);rw[ah]at this;cases this
  |true=>
   refine az 83 (.b true) rfl (ct ah) ?_
   repeat refine al 76 ?_
   refine dW 76 ((k+1:Nat):Int) ?_
   repeat refine I ?_
   exact bc [0,1] (k+1) ⟨by omega,hl,by rw[List.take_succ_eq_append_getElem hl,List.all_append,ax];simp[ah]⟩ ej
 ·refine v0 74 (show¬(k:Int)<((cD n).length:Int) by omega) ?_
  repeat refine I ?_
  exact aw rfl (aU (hS.trans (if_pos (by rw[List.take_of_length_le (by omega)]at ax;exact ax))))
theorem abS{α:Type}{l:List α}{q:α->Bool}{k:Nat}(U:k<l.length)(h:(l.take k).any q=false)(h2:q l[k]=false):(l.take (k+1)).any q=false:=by
 rw[List.take_succ_eq_append_getElem U,List.any_append,h];simp[h2]
theorem apE:bg aC.ctx 130 tK.spec:=by
 refine bR [(80,qd.spec)] RT.1 ?_;intro⟨p,i,s⟩ ⟨hj,hh,aN,hl⟩ H aJ;have aU:∀{c:Int},sc p i s=c->b3 (.i .i64 c) (tK.res (p,i,s)):=fun h=>.of (by rw[<-h];rfl)
 repeat refine I ?_
 refine cV s hj ?_
 repeat refine I ?_
 refine aX vy (s.i,p.head) trivial ?_;by_cases h1:0<=s.i∧s.i<p.head
 case neg=>
  refine dL 18 h1 ?_
  repeat refine I ?_
  exact aw rfl (aU (if_pos (.inl h1)))
 refine dx 18 h1 ?_
 repeat refine I ?_
 refine aX vy (s.n,p.tail) trivial ?_;by_cases h2:0<=s.n∧s.n<p.tail
 case neg=>
  refine dL 25 h2 ?_
  repeat refine I ?_
  exact aw rfl (aU (if_pos (.inr h2)))
 refine dx 25 h2 ?_;obtain⟨a,ha⟩:∃a:Nat,s.i=(a:Int):=⟨s.i.toNat,by omega⟩;obtain⟨b,aa⟩:∃b:Nat,s.n=(b:Int):=⟨s.n.toNat,by omega⟩;have py:s.i.toNat=a:=by omega
 have fQ:s.n.toNat=b:=by omega
 have jc:a<p.aD.length:=by omega
 have nW:b<p.aD.length:=by omega
 have aA:∀{c:Int},(if(p.aD[b]).f≠(p.aD[a]).f∨p.aD.any (jw i (p.aD[a]).f)=true then 143 else 0)=c->b3 (.i .i64 c) (tK.res (p,i,s)):=fun h=>aU (by
  unfold sc;rw[if_neg (fun h=>h.elim (fun h=>h h1) (fun h=>h h2)),py,fQ,a9 jc,a9 nW];exact h)
 repeat refine al 31 ?_
 refine az 31 (.i .i64 (a:Int)) rfl (by rw[ha]) ?_;refine cV p.aD[a] (a9 jc) ?_
 repeat refine al 38 ?_
 refine az 38 (.i .i64 (b:Int)) rfl (by rw[aa]) ?_;refine cV p.aD[b] (a9 nW) ?_
 repeat refine al 43 ?_
 by_cases h3:(p.aD[b]).f≠(p.aD[a]).f
 ·refine v1 43 h3 ?_
  repeat refine I ?_
  exact aw rfl (aA (if_pos (.inl h3)))
 refine v0 43 h3 ?_
 repeat refine I ?_
 refine cG (L:=Nat) (fun k=>k<=p.aD.length∧(p.aD.take k).any (jw i (p.aD[a]).f)=false) (fun(k:Nat)=>⟨[.c 27 (eB p)],1,[(1,.i .i64 (i:Int)),(2,.p 0 0),(6,.i .i64 (p.aD[a]).f),(7,.i .i64 (k:Int))]⟩) (fun k=>p.aD.length-k) [0] 0 ⟨Nat.zero_le _,rfl⟩ (by show _-0<ba+1;unfold ba;omega) dP ?_;rintro(k:Nat) ⟨js,ax⟩
 repeat refine al 48 ?_
 by_cases U:k<p.aD.length
 ·refine v1 48 (show(k:Int)<(p.aD.length:Int) by omega) ?_
  repeat refine I ?_
  refine cV p.aD[k] (a9 U) ?_;have UP:jw i (p.aD[a]).f p.aD[k]=true->b3 (.i .i64 143) (tK.res (p,i,s)):=fun h=>aA (if_pos (.inr (List.any_eq_true.2 ⟨_,dr U,h⟩)));have tn:jw i (p.aD[a]).f p.aD[k]=false->k+1<=p.aD.length∧(p.aD.take (k+1)).any (jw i (p.aD[a]).f)=false:=fun h=>⟨U,abS U ax h⟩
  repeat refine al 58 ?_
  by_cases cn:(p.aD[k]).op=2
  case neg=>
   refine v0 58 cn ?_
   repeat refine al 50 ?_
   refine dW 50 ((k+1:Nat):Int) ?_
   repeat refine I ?_
   exact bc [0] (k+1) ⟨by omega,tn (by unfold jw;rw[decide_eq_false cn];rfl)⟩ dP
  refine v1 58 cn ?_
  repeat refine al 63 ?_
  by_cases cz:(p.aD[k]).a=(i:Int)
  case neg=>
   refine v0 63 cz ?_
   repeat refine al 50 ?_
   refine dW 50 ((k+1:Nat):Int) ?_
   repeat refine I ?_
   exact bc [0] (k+1) ⟨by omega,tn (by unfold jw;rw[decide_eq_true cn,decide_eq_false cz];rfl)⟩ dP
  refine v1 63 cz ?_
  repeat refine al 69 ?_
  by_cases dp:(p.aD[k]).f≠(p.aD[a]).f
  ·refine v1 69 dp ?_
   repeat refine I ?_
   exact aw rfl (UP (by unfold jw;rw[decide_eq_true cn,decide_eq_true cz,decide_eq_true dp];rfl))
  ·refine v0 69 dp ?_
   repeat refine al 50 ?_
   refine dW 50 ((k+1:Nat):Int) ?_
   repeat refine I ?_
   exact bc [0] (k+1) ⟨by omega,tn (by unfold jw;rw[decide_eq_true cn,decide_eq_true cz,decide_eq_false dp];rfl)⟩ dP
 ·refine v0 48 (show¬(k:Int)<(p.aD.length:Int) by omega) ?_;rw[List.take_of_length_le (by omega)]at ax
  repeat refine I ?_
  exact aw rfl (aA (if_neg (fun h=>h.elim h3 (fun h=>Bool.noConfusion (ax.symm.trans h)))))
def HP:bE where
 L:=bH
 args:=fun p=>[ed p]
 pre:=iY
 res:=fun p=>yT (bK p)
theorem ao7:bg aC.ctx 70 HP.spec:=by
 refine bR [(126,zj.spec),(127,HO.spec),(128,DL.spec),(129,Nq.spec),(130,tK.spec),(80,qd.spec),(131,vG.spec)] TU.1 ?_;intro(p:bH) ⟨b6,hS⟩ H aJ;have aU:∀{c:Int×Int×Int},bK p=c->b3 (yT c) (HP.res p):=fun h=>.of (by rw[<-h];rfl)
 repeat refine I ?_
 refine aX atA p trivial ?_;refine az 15 (.i .i64 (pt p)) rfl rfl ?_
 repeat refine al 17 ?_
 by_cases aO:pt p=0
 case neg=>
  refine v1 17 aO ?_
  repeat refine I ?_
  exact aw rfl (aU (if_neg aO))
 refine v0 17 (fb aO) ?_;have aA:∀{c:Int×Int×Int},kV p=c->b3 (yT c) (HP.res p):=fun h=>aU ((if_pos aO).trans h);obtain⟨fp,fJ,l1,xr,zQ,zR,L4⟩:=zi aO
 repeat refine I ?_
 refine cG (L:=Nat) (fun j=>j<=p.fs.length∧eD (ll p) (p.fs.drop j) j=eD (ll p) p.fs 0) (fun(j:Nat)=>⟨[.c 27 (eB p)],1,[(1,.p 0 0),(6,.i .i64 (j:Int))]⟩) (fun j=>p.fs.length-j) [0] 0 ⟨Nat.zero_le _,rfl⟩ (by show _-0<ba+1;unfold ba;omega) dP ?_;rintro(j:Nat) ⟨e6,ax⟩
 repeat refine al 23 ?_
 by_cases hj:j<p.fs.length
 ·refine v1 23 (show(j:Int)<(p.fs.length:Int) by omega) ?_
  repeat refine I ?_
  rw[uH hj]at ax;refine cV p.fs[j] (a9 hj) ?_
  repeat refine I ?_
  refine aX X0 p.fs[j] trivial ?_;refine az 31 (.i .i64 (ll p j p.fs[j])) rfl rfl ?_
  repeat refine al 33 ?_
  by_cases he:ll p j p.fs[j]=0
  ·rw[if_pos he]at ax;refine v0 33 (fb he) ?_
   repeat refine al 25 ?_
   refine dW 25 ((j+1:Nat):Int) ?_
   repeat refine I ?_
   exact bc [0] (j+1) ⟨by omega,hj,ax⟩ dP
  ·rw[if_neg he]at ax;refine v1 33 he ?_
   repeat refine I ?_
   refine aw rfl (aA (c:=(1,(j:Int),ll p j p.fs[j])) ?_);unfold kV;simp only[<-ax]
 refine v0 23 (show¬(j:Int)<(p.fs.length:Int) by omega) ?_;have h1:eD (ll p) p.fs 0=none:=by rw[<-ax,List.drop_eq_nil_of_le (by omega)];rfl
 clear ax hj e6
 repeat refine I ?_
 refine cG (L:=Nat) (fun j=>j<=p.ins.length∧eD (ln p) (p.ins.drop j) j=eD (ln p) p.ins 0) (fun(j:Nat)=>⟨[.c 27 (eB p)],1,[(1,.p 0 0),(8,.i .i64 (j:Int))]⟩) (fun j=>p.ins.length-j) [0] 0 ⟨Nat.zero_le _,rfl⟩ (by show _-0<ba+1;unfold ba;omega) dP ?_;rintro(j:Nat) ⟨e6,ax⟩
 repeat refine al 40 ?_
 by_cases hj:j<p.ins.length
 ·refine v1 40 (show(j:Int)<(p.ins.length:Int) by omega) ?_
  repeat refine I ?_
  rw[uH hj]at ax;refine gm p.ins[j] (a9 hj) ?_
  repeat refine I ?_
  refine ck apg (p,p.ins[j]) (b6 _ (dr hj)) ?_;refine az 49 (.i .i64 (ln p j p.ins[j])) rfl rfl ?_
  repeat refine al 51 ?_
  by_cases he:ln p j p.ins[j]=0
  ·rw[if_pos he]at ax;refine v0 51 (fb he) ?_
   repeat refine al 42 ?_
   refine dW 42 ((j+1:Nat):Int) ?_
   repeat refine I ?_
   exact bc [0] (j+1) ⟨by omega,hj,ax⟩ dP
  ·rw[if_neg he]at ax;refine v1 51 he ?_
   repeat refine I ?_
   refine aw rfl (aA (c:=(2,(j:Int),ln p j p.ins[j])) ?_);unfold kV;simp only[h1,<-ax]
 refine v0 40 (show¬(j:Int)<(p.ins.length:Int) by omega) ?_;have h2:eD (ln p) p.ins 0=none:=by rw[<-ax,List.drop_eq_nil_of_le (by omega)];rfl
 clear ax hj e6
 repeat refine I ?_
 refine cG (L:=Nat) (fun j=>j<=p.aD.length∧eD (lo p) (p.aD.drop j) j=eD (lo p) p.aD 0) (fun(j:Nat)=>⟨[.c 27 (eB p)],1,[(1,.p 0 0),(10,.i .i64 (j:Int))]⟩) (fun j=>p.aD.length-j) [0] 0 ⟨Nat.zero_le _,rfl⟩ (by show _-0<ba+1;unfold ba;omega) dP ?_;rintro(j:Nat) ⟨e6,ax⟩
 repeat refine al 58 ?_
 by_cases hj:j<p.aD.length
 ·refine v1 58 (show(j:Int)<(p.aD.length:Int) by omega) ?_
  repeat refine I ?_
  rw[uH hj]at ax;refine aX apt (p,j,p.aD[j]) ⟨a9 hj,hS _ (dr hj)⟩ ?_;refine az 63 (.i .i64 (lo p j p.aD[j])) rfl rfl ?_
  repeat refine al 65 ?_
  by_cases he:lo p j p.aD[j]=0
  ·rw[if_pos he]at ax;refine v0 65 (fb he) ?_
   repeat refine al 60 ?_
   refine dW 60 ((j+1:Nat):Int) ?_
   repeat refine I ?_
   exact bc [0] (j+1) ⟨by omega,hj,ax⟩ dP
  ·rw[if_neg he]at ax;refine v1 65 he ?_
   repeat refine I ?_
   refine aw rfl (aA (c:=(3,(j:Int),lo p j p.aD[j])) ?_);unfold kV;simp only[h1,h2,<-ax]
 refine v0 58 (show¬(j:Int)<(p.aD.length:Int) by omega) ?_;have h3:eD (lo p) p.aD 0=none:=by rw[<-ax,List.drop_eq_nil_of_le (by omega)];rfl
 clear ax hj e6
 repeat refine I ?_
 refine cG (L:=Nat) (fun j=>j<=p.ca.length∧eD (lQ p) (p.ca.drop j) j=eD (lQ p) p.ca 0) (fun(j:Nat)=>⟨[.c 27 (eB p)],1,[(1,.p 0 0),(12,.i .i64 (j:Int))]⟩) (fun j=>p.ca.length-j) [0] 0 ⟨Nat.zero_le _,rfl⟩ (by show _-0<ba+1;unfold ba;omega) dP ?_;rintro(j:Nat) ⟨e6,ax⟩
 repeat refine al 72 ?_
 by_cases hj:j<p.ca.length
 ·refine v1 72 (show(j:Int)<(p.ca.length:Int) by omega) ?_
  repeat refine I ?_
  rw[uH hj]at ax;refine aX apE (p,j,p.ca[j]) ⟨a9 hj,by omega,zQ,by omega⟩ ?_;refine az 77 (.i .i64 (lQ p j p.ca[j])) rfl rfl ?_
  repeat refine al 79 ?_
  by_cases he:lQ p j p.ca[j]=0
  ·rw[if_pos he]at ax;refine v0 79 (fb he) ?_
   repeat refine al 74 ?_
   refine dW 74 ((j+1:Nat):Int) ?_
   repeat refine I ?_
   exact bc [0] (j+1) ⟨by omega,hj,ax⟩ dP
  ·rw[if_neg he]at ax;refine v1 79 he ?_
   repeat refine I ?_
   refine aw rfl (aA (c:=(4,(j:Int),lQ p j p.ca[j])) ?_);unfold kV;simp only[h1,h2,h3,<-ax]
 refine v0 72 (show¬(j:Int)<(p.ca.length:Int) by omega) ?_;have ay:eD (lQ p) p.ca 0=none:=by rw[<-ax,List.drop_eq_nil_of_le (by omega)];rfl
 clear ax hj e6;have cI:kV p=if¬eb p.out p.aD.length∨fB p p.out=1 then(5,0,7)else(0,0,0):=by unfold kV;simp only[h1,h2,h3,ay]
 repeat refine I ?_
 refine aX vy (p.out,(p.aD.length:Int)) trivial ?_;by_cases cn:eb p.out p.aD.length
 case neg=>
  refine dL 87 cn ?_
  repeat refine I ?_
  exact aw rfl (aA (c:=(5,0,7)) (cI.trans (if_pos (.inl cn))))
 refine dx 87 cn ?_
 repeat refine I ?_
 refine aX HU (p,p.out) trivial ?_;refine az 93 (.i .i64 (fB p p.out)) rfl rfl ?_
 repeat refine al 94 ?_
 by_cases cz:fB p p.out=1
 ·refine v1 94 cz ?_
  repeat refine I ?_
  exact aw rfl (aA (c:=(5,0,7)) (cI.trans (if_pos (.inr cz))))
 ·refine v0 94 cz ?_
  repeat refine I ?_
  exact aw rfl (aA (c:=(0,0,0)) (cI.trans (if_neg (fun h=>h.elim (fun h=>h cn) cz))))
def Ce:bE where
 L:=bH
 args:=fun p=>[ed p]
 pre:=iY
 res:=fun p=>.i .i64 (bK p).2.2
theorem Cf:bg aC.ctx 24 Ce.spec:=by
 refine bR [(70,HP.spec)] SS.1 ?_;intro(p:bH) hp H aJ
 repeat refine I ?_
 refine aX ao7 p hp ?_;refine az 8 (.bB [.i .i64 (bK p).1,.i .i64 (bK p).2.1,.i .i64 (bK p).2.2]) rfl rfl ?_
 repeat refine I ?_
 exact aw rfl (.of rfl)
theorem an9{p:bH}{i:Nat}{n:db}(h:lI p i n=0):1<=n.op∧n.op<=15:=by
 unfold lI at h;split at h
 ·cases h
 rename_i g;exact Classical.byContradiction fun hn=>g (.inl hn)
theorem ass{p:bH}{N S:List Bool}{i:Nat}(h:N[i]? =some false):jz p (N,S) i=(N,S):=by
 unfold jz;rw[if_neg (by show¬N.getD i false=true;rw[List.getD_eq_getElem?_getD,h];decide)]
theorem ast{p:bH}{N S:List Bool}{i:Nat}{n:db}(h:N[i]? =some true)(hn:p.aD[i]? =some n)(h2:¬n.op=2):jz p (N,S) i=(e9 N (cD n),S):=by
 unfold jz;rw[if_pos (by show N.getD i false=true;rw[List.getD_eq_getElem?_getD,h];rfl),hn];simp only[h2,if_false]
theorem asu{p:bH}{N S:List Bool}{i:Nat}{n:db}{t:jn}(h:N[i]? =some true)(hn:p.aD[i]? =some n)(h2:n.op=2)(aN:p.ca[n.a.toNat]? =some t):jz p (N,S) i=(((e9 N (cD n)).set t.i.toNat true).set t.n.toNat true,S.set n.a.toNat true):=by
 unfold jz;rw[if_pos (by show N.getD i false=true;rw[List.getD_eq_getElem?_getD,h];rfl),hn];simp only[h2,if_true,aN]
theorem aqB{N:List Bool}{l:List Int}{k:Nat}(U:k<l.length):e9 N (l.take (k+1))=(e9 N (l.take k)).set l[k].toNat true:=by
 unfold e9;rw[List.take_succ_eq_append_getElem U,List.foldl_append];rfl
def Yl:bE where
 L:=bH
 args:=fun p=>[ed p]
 pre:=fun p=>bK p=(0,0,0)
 res:=fun p=>.bB [.bS 1 Bool fP (lH p).1,.bS 1 Bool fP (lH p).2]
theorem apr:bg aC.ctx 76 Yl.spec:=by
 refine bR [(141,Np.spec)] T0.1 ?_;intro(p:bH) (hc:bK p=(0,0,0)) H aJ;obtain⟨hL,pE⟩:=sA hc;obtain⟨aH,ak⟩:=wi hc;have gu:p.out.toNat<p.aD.length:=by have:=ak.1;have:=ak.2;omega
 repeat refine I ?_
 refine Fl fP false ?_
 repeat refine I ?_
 refine Fl fP false ?_
 repeat refine al 21 ?_
 refine oa 21 (p.out.toNat:Int) (h:=by have:=ak.1;omega) ?_;refine hE ?_;refine jk true ?_
 repeat refine I ?_
 refine cG (L:=Nat×List Bool×List Bool) (fun(r,N,S)=>r<=p.ca.length+2∧N.length=p.aD.length∧S.length=p.ca.length∧qX p (p.ca.length+2-r) (N,S)=lH p) (fun(r,N,S)=>⟨[.c 27 (eB p),.a 4 false 1 Bool fP N,.a 4 false 1 Bool fP S],3,[(1,.p 0 0),(4,.a6 1 1 0 p.aD.length p.aD.length),(5,.a6 2 1 0 p.ca.length p.ca.length),(6,.i .i64 (r:Int))]⟩) (fun l=>p.ca.length+2-l.1) [0,1,2] (0,(List.replicate p.aD.length false).set p.out.toNat true,List.replicate p.ca.length false) ⟨Nat.zero_le _,by simp,by simp,rfl⟩ (by show _-0<ba+1;unfold ba;omega) ld ?_;rintro⟨r,N,S⟩ ⟨aQ,hS,ch,ax⟩
 repeat refine al 27 ?_
 refine dW 27 ((p.ca.length+2:Nat):Int) ?_
 iterate 1 refine I ?_
 by_cases aP:r<p.ca.length+2
 case neg=>
  refine v0 28 (show¬(r:Int)<((p.ca.length+2:Nat):Int) by omega) ?_;obtain rfl:r=p.ca.length+2:=by omega
  have ax:(N,S)=lH p:=by rw[<-ax,Nat.sub_self];rfl
  repeat refine al 89 ?_
  refine hD 88 ?_;refine hD 89 ?_
  repeat refine I ?_
  exact aw rfl (.of (by show af.bB [.bS 1 Bool fP N,.bS 1 Bool fP S]=af.bB [.bS 1 Bool fP (lH p).1,.bS 1 Bool fP (lH p).2];rw[<-ax]))
 refine v1 28 (show(r:Int)<((p.ca.length+2:Nat):Int) by omega) ?_;obtain⟨q,hq⟩:∃q,p.ca.length+2-r=q+1:=⟨p.ca.length+1-r,by omega⟩;rw[hq]at ax;have ax:qX p q (p7 p p.aD.length (N,S))=lH p:=ax;obtain⟨j1,Up⟩:∃R,R=p7 p p.aD.length (N,S):=⟨_,rfl⟩;rw[<-Up]at ax
 repeat refine al 34 ?_
 refine dW 34 ((p.aD.length:Int)-1) ?_
 repeat refine I ?_
 refine cG (L:=Nat×List Bool×List Bool) (fun(i,N,S)=>i<=p.aD.length∧N.length=p.aD.length∧S.length=p.ca.length∧p7 p i (N,S)=j1) (fun(i,N,S)=>⟨[.c 27 (eB p),.a 4 false 1 Bool fP N,.a 4 false 1 Bool fP S],3,[(1,.p 0 0),(4,.a6 1 1 0 p.aD.length p.aD.length),(5,.a6 2 1 0 p.ca.length p.ca.length),(6,.i .i64 (r:Int)),(7,.i .i64 ((i:Int)-1))]⟩) (fun l=>l.1) [0,1,2] (p.aD.length,N,S) ⟨Nat.le_refl _,hS,ch,Up.symm⟩ (by show p.aD.length<ba+1;unfold ba;omega) ld ?_;rintro⟨i,N,S⟩ ⟨ae,hS,ch,aG⟩
 repeat refine al 36 ?_
 cases i with
 |zero=>
  refine v0 36 (show¬(0:Int)<=((0:Nat):Int)-1 by decide) ?_;have aG:(N,S)=j1:=aG;subst aG
  repeat refine al 30 ?_
  refine dW 30 ((r+1:Nat):Int) ?_
  repeat refine I ?_
  exact bc [0,1,2] (r+1,N,S) ⟨by show _-(r+1)<_-r;omega,aP,hS,ch,by rw[show p.ca.length+2-(r+1)=q by omega];exact ax⟩ ld
 |succ j=>
 refine v1 36 (show(0:Int)<=((j+1:Nat):Int)-1 by omega) ?_;refine oa 7 (j:Int) ?_;have hj:j<N.length:=by omega
 have Lh:j<p.aD.length:=by omega
 have aG:p7 p j (jz p (N,S) j)=j1:=aG;obtain⟨n,hn⟩:∃n,p.aD[j]? =some n:=⟨_,a9 Lh⟩;obtain⟨kp,iN⟩:=aH.1 j n hn;have cN:=an9 (Qm hc hn)
 repeat refine I ?_
 refine hE (j:=j) ?_;refine p4 N[j] (a9 hj) ?_;cases aa:N[j]with
 |false=>
  rw[ass (by rw[a9 hj,aa])]at aG
  repeat refine al 38 ?_
  refine dW 38 ((j:Int)-1) ?_
  repeat refine I ?_
  exact bc [0,1,2] (j,N,S) ⟨Nat.lt_succ_self j,by omega,hS,ch,aG⟩ ld
 |true=>
 have cT:N[j]? =some true:=by rw[a9 hj,aa]
 repeat refine I ?_
 refine cV n hn ?_
 repeat refine I ?_
 refine aX Yb n cN ?_
 repeat refine I ?_
 have wY:=GO n;have hlen:∀l,(e9 N l).length=p.aD.length:=fun l=>(Ec l N).trans hS;refine cG (L:=Nat) (fun k=>k<=(cD n).length) (fun(k:Nat)=>⟨[.c 27 (eB p),.a 4 false 1 Bool fP (e9 N ((cD n).take k)),.a 4 false 1 Bool fP S,.c 87 (gf n)],4,[(1,.p 0 0),(4,.a6 1 1 0 p.aD.length p.aD.length),(5,.a6 2 1 0 p.ca.length p.ca.length),(6,.i .i64 (r:Int)),(7,.i .i64 (j:Int)),(8,.p 3 0),(9,.bS 1 Int cw (cD n)),(10,.i .i64 (k:Int))]⟩) (fun k=>(cD n).length-k) [0,1,2,3] 0 (Nat.zero_le _) (by show _-0<ba+1;unfold ba;omega) nC ?_;rintro(k:Nat) U
 repeat refine al 54 ?_
 by_cases Gk:k<(cD n).length
 ·refine v1 54 (show(k:Int)<((cD n).length:Int) by omega) ?_;obtain⟨fM,A1⟩:=kp _ (dr Gk);have sX:=hlen ((cD n).take k)
  repeat refine I ?_
  refine cV (cD n)[k] (a9 Gk) ?_
  repeat refine al 61 ?_
  refine oa 61 ((cD n)[k].toNat:Int) ?_;refine hE (j:=(cD n)[k].toNat) ?_;refine jk true ?_
  repeat refine al 56 ?_
  refine dW 56 ((k+1:Nat):Int) ?_
  repeat refine I ?_
  exact bc [0,1,2,3] (k+1) ⟨by omega,Gk⟩ (I1 ⟨rfl,rfl,rfl,rfl,rfl,rfl,rfl,rfl,trivial⟩ ⟨_,rfl,rfl⟩ ⟨_,rfl,(by show a3.a _ _ _ _ _ _=a3.a _ _ _ _ _ _;rw[aqB Gk]),fun _=>rfl⟩ ⟨_,rfl,rfl,fun _=>rfl⟩ ⟨_,rfl,rfl⟩)
 refine v0 54 (show¬(k:Int)<((cD n).length:Int) by omega) ?_;have sX:=hlen (cD n);rw[List.take_of_length_le (by omega)]
 repeat refine al 65 ?_
 by_cases h2:n.op=2
 ·refine v1 65 h2 ?_;have ha:=iN h2;obtain⟨t,aN⟩:∃t,p.ca[n.a.toNat]? =some t:=⟨_,a9 (by have:=ha.1;have:=ha.2;omega)⟩;have jc:n.a.toNat<p.ca.length:=by have:=ha.1;have:=ha.2;omega
  obtain⟨⟨t1,t2⟩,t3,t4⟩:=aH.2 t (List.mem_of_getElem? aN);rw[asu cT hn h2 aN]at aG
  repeat refine al 68 ?_
  refine oa 68 (n.a.toNat:Int) (h:=by have:=ha.1;omega) ?_;refine hE (j:=n.a.toNat) ?_;refine jk true ?_
  repeat refine al 74 ?_
  refine oa 74 (n.a.toNat:Int) (h:=by have:=ha.1;omega) ?_;refine cV t aN ?_
  repeat refine al 77 ?_
  refine oa 77 (t.i.toNat:Int) ?_;refine hE (j:=t.i.toNat) ?_;refine jk true ?_
  repeat refine al 83 ?_
  refine oa 83 (n.a.toNat:Int) (h:=by have:=ha.1;omega) ?_;refine cV t aN ?_
  repeat refine al 86 ?_
  refine oa 86 (t.n.toNat:Int) ?_;refine hE (j:=t.n.toNat) ?_;refine jk true ?_
  repeat refine al 38 ?_
  refine dW 38 ((j:Int)-1) ?_
  repeat refine I ?_
  exact bc [0,1,2] (j,((e9 N (cD n)).set t.i.toNat true).set t.n.toNat true,S.set n.a.toNat true) ⟨Nat.lt_succ_self j,by omega,by simp[sX],by simp[ch],aG⟩ ld
 ·refine v0 65 h2 ?_;rw[ast cT hn h2]at aG
  repeat refine al 38 ?_
  refine dW 38 ((j:Int)-1) ?_
  repeat refine I ?_
  exact bc [0,1,2] (j,e9 N (cD n),S) ⟨Nat.lt_succ_self j,by omega,sX,ch,aG⟩ ld
def Yk:bE where
 L:=bH
 args:=fun p=>[ed p]
 pre:=fun p=>iY p∧bK p=(0,0,0)
 res:=fun p=>.bB [.bS 1 Bool fP (lH p).1,.bS 1 Bool fP (lH p).2,.i .i64 0]
theorem apq:bg aC.ctx 31 Yk.spec:=by
 refine bR [(24,Ce.spec),(76,Yl.spec)] Ta.1 ?_;intro(p:bH) ⟨hp,hc⟩ H aJ
 repeat refine I ?_
 refine aX Cf p hp ?_;refine az 9 (.i .i64 0) rfl (congrArg (fun x:Int×Int×Int=>af.i .i64 x.2.2) hc) ?_
 repeat refine I ?_
 refine aX apr p hc ?_
 repeat refine I ?_
 exact aw rfl (.refl _)
def aco(p:bH):bH:=⟨p.fs,p.mode,p.ins,[],0,0,[],0⟩
def PJ:bE where
 L:=bH
 args:=fun p=>[ed p]
 pre:=fun p=>p.fs.length<=1000000∧p.ins.length<=1000000
 res:=fun p=>ed (aco p)
theorem acp:bg aC.ctx 146 PJ.spec:=by
 refine bR [] R8.1 ?_;intro(p:bH) ⟨h1,h2⟩ H aJ
 repeat refine I ?_
 refine Ko m6 p.fs (lL rfl (fun _=>rfl) (fun _=>rfl)) ?_
 repeat refine I ?_
 refine Ko lZ p.ins (lL rfl (fun _=>rfl) (fun _=>rfl)) ?_
 repeat refine I ?_
 exact aw rfl (.agg ⟨.refl _,.refl _,.refl _,.nl,.refl _,.refl _,.nl,.refl _,trivial⟩)
def X1:q9 where
 L:=bH
 args:=fun p=>[ed p]
 pre:=fun p=>p.aD≠[]∧p.fs.length<=1000000∧p.ins.length<=1000000∧p.aD.length<=1000000∧p.ca.length<=1000000
 new:=fun p=>[.a 87 true 7 db gf p.aD]
 res:=fun p=>.agg (uu p 0)
theorem ao8:bg aC.ctx 81 X1.spec:=by
 refine Kb [(146,PJ.spec)] T5.1 ?_;intro(p:bH) ⟨hne,fp,fJ,l1,xr⟩ H aJ _
 repeat refine I ?_
 refine aX acp p ⟨fp,fJ⟩ ?_
 repeat refine I ?_
 refine aeX gf p.aD (lL rfl (fun _=>rfl) (fun _=>rfl)) ?_ (hne:=hne)
 repeat refine I ?_
 refine Ko nF p.ca (lL rfl (fun _=>rfl) (fun _=>rfl)) ?_
 repeat refine I ?_
 exact mi ⟨.inr rfl,[4],_,rfl,rfl,⟨by simp,rfl,⟨⟨_,rfl,rfl,fun _=>rfl⟩,trivial⟩,trivial,rfl⟩⟩
theorem agC(p:bH)(l:List db):uI 2 7 p.aD.length (.bS 7 db gf l) (uu p 2)=eB {p with aD:=l}:=by
 unfold uu;simp only[wF,uI];rw[show Nat.beq p.aD.length p.aD.length=true from Nat.beq_refl _];rfl
def Nu:bE where
 L:=bH×List Int
 args:=fun(p,fs)=>[ed p,.bS 1 Int cw fs]
 pre:=fun(p,fs)=>iY p∧fs.length<=1000000
 res:=fun(p,fs)=>qc p fs
theorem JC{p:bH}{fs:List Int}{k:Nat}(aP:k<fs.length)(h2:¬eb fs[k] p.fs.length):fs.all (fun f=>decide (eb f p.fs.length))=false:=by
 rw[<-Bool.not_eq_true,List.all_eq_true];exact fun h=>h2 (of_decide_eq_true (h _ (dr aP)))
theorem apH:bg aC.ctx 35 Nu.spec:=by
 refine bR [(81,X1.spec),(24,Ce.spec),(80,qd.spec)] Tf.1 ?_;intro⟨p,fs⟩ ⟨(hp:iY p),(ab:fs.length<=1000000)⟩ H aJ;have aU:∀{c:Int},c≠0->o0 p fs=c->b3 (.bB [.agg [.nl,.i .i64 0,.nl,.nl,.i .i64 0,.i .i64 0,.nl,.i .i64 0],.i .i64 c]) (Nu.res (p,fs)):=fun hc h=>.bB ⟨.trans Dd (.of (by rw[h,if_neg hc])),.of (by rw[h]),trivial⟩
 repeat refine I ?_
 refine aX Cf p hp ?_;refine az 11 (.i .i64 (bK p).2.2) rfl rfl ?_
 repeat refine al 6 ?_
 iterate 3 refine I ?_
 refine iS (L:=Int) (fun c=>(c=0->bK p=(0,0,0)∧fs.length=p.aD.length)∧(c≠0->o0 p fs=c)) (fun c=>⟨[.c 27 (eB p),.c 27 [.nl,.i .i64 0,.nl,.nl,.i .i64 0,.i .i64 0,.nl,.i .i64 0]],2,[(1,.bS 1 Int cw fs),(2,.p 0 0),(4,.p 1 0),(6,.i .i64 c)]⟩) ?_ ?_
 ·repeat refine al 13 ?_
  by_cases h0:(bK p).2.2=0
  case neg=>
   refine v0 13 h0 ?_
   repeat refine I ?_
   exact bc [0,1] (bK p).2.2 ⟨fun h=>absurd h h0,fun _=>if_pos h0⟩ ej
  refine v1 13 h0 ?_
  repeat refine al 20 ?_
  by_cases h1:fs.length=p.aD.length
  case neg=>
   refine v1 20 (show(fs.length:Int)≠(p.aD.length:Int) by omega) ?_
   repeat refine I ?_
   exact bc [0,1] 2 ⟨(fun h=>by cases h),fun _=>(if_neg (fun h=>h h0)).trans (if_pos h1)⟩ ej
  refine v0 20 (show¬(fs.length:Int)≠(p.aD.length:Int) by omega) ?_
  repeat refine I ?_
  exact bc [0,1] 0 ⟨fun _=>⟨E4 h0,h1⟩,fun h=>absurd rfl h⟩ (nG ⟨rfl,rfl,rfl,congrArg (fun x=>some (af.i .i64 x)) h0,trivial⟩ ⟨_,rfl,rfl⟩ ⟨_,rfl,rfl⟩)
 intro(c:Int) ⟨me,cn⟩
 repeat refine al 7 ?_
 iterate 3 refine I ?_
 refine oV (L:=Int) (fun bJ=>(bJ=0->c=0∧fs.all (fun f=>decide (eb f p.fs.length))=true)∧(bJ≠0->o0 p fs=bJ)) (fun c=>⟨[.c 27 (eB p),.c 27 [.nl,.i .i64 0,.nl,.nl,.i .i64 0,.i .i64 0,.nl,.i .i64 0]],2,[(1,.bS 1 Int cw fs),(2,.p 0 0),(4,.p 1 0),(6,.i .i64 c)]⟩) ?_ ?_
 ·repeat refine I ?_
  refine cG (L:=Nat×Int) (fun(k,bJ)=>(bJ=0->c=0∧(fs.take k).all (fun f=>decide (eb f p.fs.length))=true)∧(bJ≠0->o0 p fs=bJ)) (fun(k,bJ)=>⟨[.c 27 (eB p),.c 27 [.nl,.i .i64 0,.nl,.nl,.i .i64 0,.i .i64 0,.nl,.i .i64 0]],2,[(1,.bS 1 Int cw fs),(2,.p 0 0),(4,.p 1 0),(6,.i .i64 bJ),(7,.i .i64 (k:Int))]⟩) (fun l=>fs.length-l.1) [0,1] (0,c) ⟨fun h=>⟨h,rfl⟩,cn⟩ (by show _-0<ba+1;unfold ba;omega) ej ?_;rintro⟨k,bJ⟩ ⟨qV,ic⟩
  repeat refine al 25 ?_
  by_cases aP:k<fs.length
  case neg=>
   refine v0 25 (show¬(k:Int)<(fs.length:Int) by omega) ?_;rw[List.take_of_length_le (by omega)]at qV
   repeat refine I ?_
   exact bc [0,1] bJ ⟨qV,ic⟩ ej
  refine v1 25 (show(k:Int)<(fs.length:Int) by omega) ?_
  repeat refine al 28 ?_
  by_cases hc:bJ=0
  case neg=>
   refine v0 28 hc ?_
   repeat refine I ?_
   exact bc [0,1] bJ ⟨fun h=>absurd h hc,ic⟩ ej
  refine v1 28 hc ?_;obtain⟨kT,ax⟩:=qV hc;obtain⟨Cs,hlen⟩:=me kT;have h0:(bK p).2.2=0:=by rw[Cs]
  repeat refine I ?_
  refine gm fs[k] (a9 aP) ?_
  repeat refine I ?_
  refine ck vy (fs[k],(p.fs.length:Int)) trivial ?_;by_cases h2:eb fs[k] p.fs.length
  case neg=>
   refine dL 39 h2 ?_
   repeat refine al 31 ?_
   refine dW 31 ((k+1:Nat):Int) ?_
   repeat refine I ?_
   exact bc [0,1] (k+1,7) ⟨by show _-(k+1)<_-k;omega,(fun h=>by cases h),fun _=>(if_neg (fun h=>h h0)).trans ((if_neg (fun h=>h hlen)).trans (if_pos (JC aP h2)))⟩ ej
  refine dx 39 h2 ?_
  repeat refine al 31 ?_
  refine dW 31 ((k+1:Nat):Int) ?_
  repeat refine I ?_
  exact bc [0,1] (k+1,bJ) ⟨by show _-(k+1)<_-k;omega,fun _=>⟨kT,by rw[List.take_succ_eq_append_getElem aP,List.all_append,ax];simp[h2]⟩,ic⟩ ej
 intro(bJ:Int) ⟨qV,ic⟩
 repeat refine al 42 ?_
 by_cases hc:bJ=0
 case neg=>
  refine v1 42 hc ?_
  repeat refine I ?_
  exact aw rfl (aU hc (ic hc))
 refine v0 42 (fb hc) ?_;obtain⟨kT,ez⟩:=qV hc;obtain⟨Cs,h1⟩:=me kT;have h0:(bK p).2.2=0:=by rw[Cs]
 have ko:=(wi Cs).2;have hne:p.aD≠[]:=fun e=>by have h1:=ko.1;have h2:=ko.2;rw[e]at h2;simp at h2;omega
 obtain⟨cZ,dz,lP,rf⟩:=Ql Cs;clear qV ic me cn hc kT
 repeat refine I ?_
 refine YK ao8 p ⟨hne,by omega,by omega,by omega,by omega⟩ ?_
 repeat refine I ?_
 refine cG (L:=Nat) (fun k=>k<=fs.length) (fun(k:Nat)=>⟨[.c 27 (eB p),.c 27 [.nl,.i .i64 0,.nl,.nl,.i .i64 0,.i .i64 0,.nl,.i .i64 0],.a 87 true 7 db gf (tt n7 p.aD fs k),.c 27 (uu p 2)],4,[(1,.bS 1 Int cw fs),(2,.p 0 0),(4,.p 1 0),(8,.p 3 0),(9,.i .i64 (k:Int))]⟩) (fun k=>fs.length-k) [0,1,2,3] 0 (Nat.zero_le _) (by show _-0<ba+1;unfold ba;omega) nC ?_;rintro(k:Nat) U
 repeat refine al 50 ?_
 by_cases aP:k<fs.length
 ·refine v1 50 (show(k:Int)<(fs.length:Int) by omega) ?_;have pD:k<p.aD.length:=by omega
  repeat refine I ?_
  refine gm fs[k] (a9 aP) ?_
  repeat refine I ?_
  refine y2 (j:=k) ?_ (hj:=pD)
  repeat refine I ?_
  refine ae7 (n7 p.aD[k] fs[k]) (Xy n7 h1 pD) ?_
  repeat refine al 52 ?_
  refine dW 52 ((k+1:Nat):Int) ?_
  repeat refine I ?_
  exact bc [0,1,2,3] (k+1) ⟨by omega,aP⟩ (I1 ⟨rfl,rfl,rfl,rfl,rfl,trivial⟩ ⟨_,rfl,rfl⟩ ⟨_,rfl,rfl⟩ ⟨_,rfl,(by show a3.a _ _ _ _ _ _=a3.a _ _ _ _ _ _;rw[Xz n7 h1 pD aP]),fun _=>rfl⟩ ⟨_,rfl,rfl⟩)
 refine v0 50 (show¬(k:Int)<(fs.length:Int) by omega) ?_;obtain rfl:k=fs.length:=by omega
 rw[h1,Xx n7 h1];have LN:(List.zipWith n7 p.aD fs).length=p.aD.length:=Jj n7 h1;refine apS 3 2 (cs':=eB (n6 p fs)) ?_ (ha:=by rw[LN];exact agC p _);have gN:o0 p fs=(bK (n6 p fs)).2.2:=by
  unfold o0;rw[if_neg (fun h=>h h0),if_neg (fun h=>h h1),if_neg (by rw[ez];decide)]
 repeat refine I ?_
 refine aX Cf (n6 p fs) (Zr hp fs) ?_;refine az 63 (.i .i64 (bK (n6 p fs)).2.2) rfl rfl ?_
 repeat refine al 65 ?_
 by_cases gD:(bK (n6 p fs)).2.2=0
 case neg=>
  refine v1 65 gD ?_
  repeat refine I ?_
  exact aw rfl (aU gD gN)
 refine v0 65 (fb gD) ?_
 repeat refine I ?_
 exact aw rfl (.of (by show af.bB [ed (n6 p fs),.i .i64 0]=qc p fs;unfold qc;rw[gN,if_pos gD,gD]))
theorem Yh:bg aC.ctx 25 zk.spec:=by
 refine bR [] SU.1 ?_;intro(t:gj) ⟨(hl:t.gs.length<=100000),aO⟩ H aJ
 repeat refine I ?_
 refine cG (L:=Nat×Int) (fun(k,n)=>k<=t.gs.length∧0<=n∧n<=4∧lF (t.gs.drop k) n=many t.gs) (fun(k,n)=>⟨[.c 33 (mn t)],1,[(1,.p 0 0),(3,.i .i64 n),(4,.i .i64 (k:Int))]⟩) (fun q=>t.gs.length-q.1) [0] (0,0) ⟨Nat.zero_le _,by decide,by decide,rfl⟩ (by show _-0<ba+1;unfold ba;omega) dP ?_;rintro⟨k,n⟩ ⟨U,z5,xG,ax⟩
 repeat refine al 9 ?_
 by_cases aP:k<t.gs.length
 ·refine v1 9 (show(k:Int)<(t.gs.length:Int) by omega) ?_;rw[hf aP]at ax;have aa:=aO _ (dr aP)
  repeat refine I ?_
  refine cV t.gs[k] (a9 aP) ?_
  repeat refine al 18 ?_
  by_cases h:n<=t.gs[k]
  ·refine v1 18 h ?_;have ax:lF (t.gs.drop (k+1)) (if n<=t.gs[k]then t.gs[k]+1 else n)=many t.gs:=ax;rw[if_pos h]at ax
   repeat refine I ?_
   refine cV t.gs[k] (a9 aP) ?_
   repeat refine al 24 ?_
   refine dW 24 (t.gs[k]+1) ?_
   repeat refine al 11 ?_
   refine dW 11 ((k+1:Nat):Int) ?_
   repeat refine I ?_
   exact bc [0] (k+1,t.gs[k]+1) ⟨by show _-(k+1)<_-k;omega,aP,by omega,by omega,ax⟩ dP
  ·refine v0 18 h ?_;have ax:lF (t.gs.drop (k+1)) (if n<=t.gs[k]then t.gs[k]+1 else n)=many t.gs:=ax;rw[if_neg h]at ax
   repeat refine al 11 ?_
   refine dW 11 ((k+1:Nat):Int) ?_
   repeat refine I ?_
   exact bc [0] (k+1,n) ⟨by show _-(k+1)<_-k;omega,aP,z5,xG,ax⟩ dP
 ·refine v0 9 (show¬(k:Int)<(t.gs.length:Int) by omega) ?_;rw[List.drop_eq_nil_of_le (by omega)]at ax;have ax:n=many t.gs:=ax
  repeat refine I ?_
  exact aw rfl (.of (by show af.i .i64 n=af.i .i64 (many t.gs);rw[ax]))
def H0:bE where
 L:=bH×gj
 args:=fun(p,t)=>[ed p,p8 t]
 pre:=fun(p,t)=>iY p∧t.gs.length<=100000∧t.cs.length<=100000∧t.hZ.length<=2000
 res:=fun(p,t)=>.i .i64 (jU p t)
theorem YB:bg aC.ctx 7 H0.spec:=by
 refine bR [(24,Ce.spec),(25,zk.spec),(26,Aq.spec),(27,Yx.spec)] g8.1 ?_;intro⟨p,t⟩ ⟨hp,rE,qz,pF⟩ H aJ;have hp:iY p:=hp;have rE:t.gs.length<=100000:=rE;have qz:t.cs.length<=100000:=qz;have pF:t.hZ.length<=2000:=pF;have aU:∀{c:Int},jU p t=c->b3 (.i .i64 c) (H0.res (p,t)):=fun h=>.of (by rw[<-h];rfl);unfold jU at aU
 repeat refine I ?_
 refine aX Cf p hp ?_;refine az 13 (.i .i64 (bK p).2.2) rfl rfl ?_
 repeat refine al 15 ?_
 by_cases h0:(bK p).2.2=0
 case neg=>
  refine v1 15 h0 ?_
  repeat refine I ?_
  exact aw rfl (aU (if_pos h0))
 refine v0 15 (fb h0) ?_;rw[if_neg (fun h=>h h0)]at aU
 repeat refine al 23 ?_
 by_cases h1:t.gs.length=p.aD.length
 case neg=>
  refine v1 23 (show¬((t.gs.length:Int)=(p.aD.length:Int)) by omega) ?_
  repeat refine I ?_
  exact aw rfl (aU (if_pos (.inl h1)))
 refine v0 23 (show¬¬((t.gs.length:Int)=(p.aD.length:Int)) by omega) ?_
 repeat refine al 31 ?_
 by_cases h2:t.cs.length=p.fs.length
 case neg=>
  refine v1 31 (show¬((t.cs.length:Int)=(p.fs.length:Int)) by omega) ?_
  repeat refine I ?_
  exact aw rfl (aU (if_pos (.inr h2)))
 refine v0 31 (show¬¬((t.cs.length:Int)=(p.fs.length:Int)) by omega) ?_;rw[if_neg (fun h=>h.elim (fun h=>h h1) (fun h=>h h2))]at aU
 repeat refine I ?_
 refine cG (L:=Nat) (fun k=>k<=t.gs.length∧(t.gs.take k).all uM=true) (fun(k:Nat)=>⟨[.c 27 (eB p),.c 33 (mn t)],2,[(2,.p 0 0),(3,.p 1 0),(6,.i .i64 (k:Int))]⟩) (fun k=>t.gs.length-k) [0,1] 0 ⟨Nat.zero_le _,rfl⟩ (by show _-0<ba+1;unfold ba;omega) ej ?_;rintro(k:Nat) ⟨U,ax⟩
 repeat refine al 37 ?_
 by_cases aP:k<t.gs.length
 ·refine v1 37 (show(k:Int)<(t.gs.length:Int) by omega) ?_
  repeat refine I ?_
  refine cV t.gs[k] (a9 aP) ?_;have no:¬(-1<=t.gs[k]∧t.gs[k]<4)->t.gs.all uM=false:=fun h=>by
   rw[<-Bool.not_eq_true,List.all_eq_true];exact fun aB=>h (of_decide_eq_true (aB _ (dr aP)))
  repeat refine al 45 ?_
  by_cases h3:t.gs[k]< -1
  ·refine v1 45 h3 ?_
   repeat refine I ?_
   exact aw rfl (aU (if_pos (no (by omega))))
  refine v0 45 h3 ?_
  repeat refine I ?_
  refine cV t.gs[k] (a9 aP) ?_
  repeat refine al 52 ?_
  by_cases ay:4<=t.gs[k]
  ·refine v1 52 ay ?_
   repeat refine I ?_
   exact aw rfl (aU (if_pos (no (by omega))))
  refine v0 52 ay ?_
  repeat refine al 39 ?_
  refine dW 39 ((k+1:Nat):Int) ?_
  repeat refine I ?_
  exact bc [0,1] (k+1) ⟨by omega,aP,by rw[List.take_succ_eq_append_getElem aP,List.all_append,ax];simp only[List.all_cons,List.all_nil,uM];rw[decide_eq_true (by omega)];rfl⟩ ej
 refine v0 37 (show¬(k:Int)<(t.gs.length:Int) by omega) ?_;rw[List.take_of_length_le (by omega)]at ax;have wT:∀g∈t.gs,-1<=g∧g<4:=fun g aO=>of_decide_eq_true (List.all_eq_true.1 ax g aO);rw[if_neg (by rw[ax];decide)]at aU;obtain⟨xx,fK⟩:=Mj t.gs 0 (by decide) (show(0:Int)<=4 by decide) (fun g h=>(wT g h).2);obtain⟨m,hm⟩:∃m:Nat,many t.gs=(m:Int):=⟨(many t.gs).toNat,by show many t.gs=_;unfold many at *;omega⟩;have fK:many t.gs<=4:=fK;rw[show(many t.gs).toNat=m by omega]at aU
 repeat refine I ?_
 refine cG (L:=Nat) (fun k=>k<=m∧(List.range k).all (pz t.gs)=true) (fun(k:Nat)=>⟨[.c 27 (eB p),.c 33 (mn t)],2,[(2,.p 0 0),(3,.p 1 0),(7,.i .i64 (k:Int))]⟩) (fun k=>m-k) [0,1] 0 ⟨Nat.zero_le _,rfl⟩ (by show _-0<ba+1;unfold ba;omega) ej ?_;rintro(k:Nat) ⟨U,C3⟩
 repeat refine I ?_
 refine aX Yh t ⟨rE,wT⟩ ?_;refine az 56 (.i .i64 (m:Int)) rfl (by show af.i .i64 (many t.gs)=_;rw[hm]) ?_
 repeat refine al 57 ?_
 by_cases aP:k<m
 ·refine v1 57 (show(k:Int)<(m:Int) by omega) ?_
  repeat refine I ?_
  refine cG (L:=Nat) (fun i=>i<=t.gs.length) (fun(i:Nat)=>⟨[.c 27 (eB p),.c 33 (mn t)],2,[(2,.p 0 0),(3,.p 1 0),(7,.i .i64 (k:Int)),(8,.b (pz (t.gs.take i) k)),(9,.i .i64 (i:Int))]⟩) (fun i=>t.gs.length-i) [0,1] 0 (Nat.zero_le _) (by show _-0<ba+1;unfold ba;omega) ej ?_;rintro(i:Nat) ae
  repeat refine al 64 ?_
  by_cases sW:i<t.gs.length
  ·refine v1 64 (show(i:Int)<(t.gs.length:Int) by omega) ?_;have dN:pz (t.gs.take (i+1)) k=(pz (t.gs.take i) k||decide ((k:Int)=t.gs[i])):=by
    unfold pz;rw[List.take_succ_eq_append_getElem sW,List.any_append];simp
   repeat refine al 67 ?_
   cases aa:pz (t.gs.take i) k with
   |true=>
    rw[aa,Bool.true_or]at dN
    repeat refine al 66 ?_
    refine dW 66 ((i+1:Nat):Int) ?_
    repeat refine I ?_
    exact bc [0,1] (i+1) ⟨by omega,sW⟩ (nG ⟨rfl,rfl,rfl,congrArg (fun b=>some (af.b b)) dN.symm,rfl,trivial⟩ ⟨_,rfl,rfl⟩ ⟨_,rfl,rfl⟩)
   |false=>
    rw[aa,Bool.false_or]at dN
    repeat refine I ?_
    refine cV t.gs[i] (a9 sW) ?_
    repeat refine al 75 ?_
    have mK:decide (t.gs[i]=(k:Int))=pz (t.gs.take (i+1)) k:=by rw[dN];exact decide_eq_decide.2 ⟨Eq.symm,Eq.symm⟩
    refine kN 75 mK ?_
    repeat refine al 66 ?_
    refine dW 66 ((i+1:Nat):Int) ?_
    repeat refine I ?_
    exact bc [0,1] (i+1) ⟨by omega,sW⟩ ej
  refine v0 64 (show¬(i:Int)<(t.gs.length:Int) by omega) ?_;rw[List.take_of_length_le (by omega)]
  repeat refine al 77 ?_
  cases aY:pz t.gs k with
  |false=>
   repeat refine I ?_
   refine aw rfl (aU (if_pos ?_));rw[<-Bool.not_eq_true,List.all_eq_true];intro h;have:=h k (List.mem_range.2 aP);rw[aY]at this;cases this
  |true=>
   repeat refine al 59 ?_
   refine dW 59 ((k+1:Nat):Int) ?_
   repeat refine I ?_
   exact bc [0,1] (k+1) ⟨by omega,aP,by rw[List.range_succ,List.all_append,C3];simp[aY]⟩ ej
 refine v0 57 (show¬(k:Int)<(m:Int) by omega) ?_;obtain rfl:k=m:=by omega
 rw[if_neg (by rw[C3];decide)]at aU
 repeat refine I ?_
 refine cG (L:=Nat) (fun k=>k<=t.cs.length∧(t.cs.take k).all uw=true) (fun(k:Nat)=>⟨[.c 27 (eB p),.c 33 (mn t)],2,[(2,.p 0 0),(3,.p 1 0),(10,.i .i64 (k:Int))]⟩) (fun k=>t.cs.length-k) [0,1] 0 ⟨Nat.zero_le _,rfl⟩ (by show _-0<ba+1;unfold ba;omega) ej ?_;rintro(k:Nat) ⟨U,xk⟩
 repeat refine al 83 ?_
 by_cases aP:k<t.cs.length
 ·refine v1 83 (show(k:Int)<(t.cs.length:Int) by omega) ?_
  repeat refine I ?_
  refine cV t.cs[k] (a9 aP) ?_;have no:¬(0<=t.cs[k]∧t.cs[k]<=1000000)->t.cs.all uw=false:=fun h=>by
   rw[<-Bool.not_eq_true,List.all_eq_true];exact fun aB=>h (of_decide_eq_true (aB _ (dr aP)))
  repeat refine al 91 ?_
  by_cases h3:t.cs[k]<0
  ·refine v1 91 h3 ?_
   repeat refine I ?_
   exact aw rfl (aU (if_pos (no (by omega))))
  refine v0 91 h3 ?_
  repeat refine I ?_
  refine cV t.cs[k] (a9 aP) ?_
  repeat refine al 98 ?_
  by_cases ay:1000000<t.cs[k]
  ·refine v1 98 ay ?_
   repeat refine I ?_
   exact aw rfl (aU (if_pos (no (by omega))))
  refine v0 98 ay ?_
  repeat refine al 85 ?_
  refine dW 85 ((k+1:Nat):Int) ?_
  repeat refine I ?_
  exact bc [0,1] (k+1) ⟨by omega,aP,by rw[List.take_succ_eq_append_getElem aP,List.all_append,xk];simp only[List.all_cons,List.all_nil,uw];rw[decide_eq_true (by omega)];rfl⟩ ej
 refine v0 83 (show¬(k:Int)<(t.cs.length:Int) by omega) ?_;rw[List.take_of_length_le (by omega)]at xk;rw[if_neg (by rw[xk];decide)]at aU
 repeat refine I ?_
 refine aX HT t.hZ pF ?_;cases J:gT t.hZ with
 |none=>
  rw[J]at aU;refine az 103 (.bB [dm 0,.i .i64 6]) rfl (by show mb t.hZ=_;unfold mb;rw[J]) ?_
  repeat refine I ?_
  exact aw rfl (aU rfl)
 |some x=>
  rw[J]at aU;refine az 103 (.bB [dm x,.i .i64 0]) rfl (by show mb t.hZ=_;unfold mb;rw[J]) ?_
  repeat refine I ?_
  refine aX apD x trivial ?_
  repeat refine al 111 ?_
  by_cases b7:x.num<0
  ·refine v1 111 (show x.num.sign<0 from Int.sign_neg_iff.2 b7) ?_
   repeat refine I ?_
   exact aw rfl (aU (if_pos b7))
  ·refine v0 111 (fun h=>b7 (Int.sign_neg_iff.1 h)) ?_
   repeat refine I ?_
   exact aw rfl (aU (if_neg b7))
abbrev v5:Type:=bH×gj×List Int
def EE:v5->Prop:=fun(p,t,fs)=>(iY p∧t.gs.length<=100000∧t.cs.length<=100000∧t.hZ.length<=2000)∧fs.length<=100000
def HM:bE where
 L:=v5
 args:=fun(p,t,fs)=>[ed p,p8 t,.bS 1 Int cw fs]
 pre:=EE
 res:=fun(p,t,fs)=>.i .i64 (g5 p t fs)
theorem XU:bg aC.ctx 30 HM.spec:=by
 refine bR [(7,H0.spec),(25,zk.spec)] S9.1 ?_;intro⟨p,t,fs⟩ ⟨hp,ab⟩ H aJ;have ab:fs.length<=100000:=ab;have aU:∀{c:Int},g5 p t fs=c->b3 (.i .i64 c) (HM.res (p,t,fs)):=fun h=>.of (by rw[<-h];rfl);unfold g5 at aU
 repeat refine I ?_
 refine aX YB (p,t) hp ?_;refine az 11 (.i .i64 (jU p t)) rfl rfl ?_
 repeat refine al 13 ?_
 by_cases h0:jU p t=0
 case neg=>
  refine v1 13 h0 ?_
  repeat refine I ?_
  exact aw rfl (aU (if_pos h0))
 refine v0 13 (fb h0) ?_;rw[if_neg (fun h=>h h0)]at aU;have ok:=I6 h0
 repeat refine I ?_
 refine aX Yh t ⟨hp.2.1,ok.gs⟩ ?_;refine az 18 (.i .i64 (many t.gs)) rfl rfl ?_
 repeat refine al 19 ?_
 by_cases h1:(fs.length:Int)=many t.gs
 case neg=>
  refine v1 19 h1 ?_
  repeat refine I ?_
  exact aw rfl (aU (if_pos h1))
 refine v0 19 (fb h1) ?_;rw[if_neg (fun h=>h h1)]at aU
 repeat refine I ?_
 refine cG (L:=Nat) (fun k=>k<=fs.length∧(fs.take k).all (fun f=>decide (eb f p.fs.length))=true) (fun(k:Nat)=>⟨[.c 27 (eB p),.c 33 (mn t)],2,[(2,.bS 1 Int cw fs),(3,.p 0 0),(4,.p 1 0),(8,.i .i64 (k:Int))]⟩) (fun k=>fs.length-k) [0,1] 0 ⟨Nat.zero_le _,rfl⟩ (by show _-0<ba+1;unfold ba;omega) ej ?_;rintro(k:Nat) ⟨U,ax⟩
 repeat refine al 23 ?_
 by_cases aP:k<fs.length
 ·refine v1 23 (show(k:Int)<(fs.length:Int) by omega) ?_
  repeat refine I ?_
  refine gm fs[k] (a9 aP) ?_
  repeat refine al 30 ?_
  by_cases h2:fs[k]<0
  ·refine fM 30 h2 ?_
   repeat refine I ?_
   exact aw rfl (aU (if_pos (JC aP (fun h=>by have:=h.1;omega))))
  refine iF 30 h2 ?_
  repeat refine I ?_
  refine gm fs[k] (a9 aP) ?_
  repeat refine al 39 ?_
  by_cases h3:(p.fs.length:Int)<=fs[k]
  ·refine fM 39 h3 ?_
   repeat refine I ?_
   exact aw rfl (aU (if_pos (JC aP (fun h=>by have:=h.2;omega))))
  refine iF 39 h3 ?_;have h2:eb fs[k] p.fs.length:=⟨by omega,by omega⟩
  repeat refine al 25 ?_
  refine dW 25 ((k+1:Nat):Int) ?_
  repeat refine I ?_
  exact bc [0,1] (k+1) ⟨by omega,aP,by rw[List.take_succ_eq_append_getElem aP,List.all_append,ax];simp[h2]⟩ ej
 ·refine v0 23 (show¬(k:Int)<(fs.length:Int) by omega) ?_;rw[List.take_of_length_le (by omega)]at ax
  repeat refine I ?_
  exact aw rfl (aU (if_neg (by rw[ax];decide)))
def ajT(p:bH)(t:gj)(fs:List Int):Nat×List Int->cS
 |(k,[])=>⟨[.c 27 (eB p),.c 33 (mn t)],2,[(2,.bS 1 Int cw fs),(3,.p 0 0),(4,.p 1 0),(7,.nl),(8,.i .i64 (k:Int))]⟩
 |(k,d::ds)=>⟨[.c 27 (eB p),.c 33 (mn t),.a 3 true 1 Int cw (d::ds)],3,[(2,.bS 1 Int cw fs),(3,.p 0 0),(4,.p 1 0),(7,.a6 2 1 0 (ds.length+1) (ds.length+1)),(8,.i .i64 (k:Int))]⟩
def Ni:bE where
 L:=v5
 args:=fun(p,t,fs)=>[ed p,p8 t,.bS 1 Int cw fs]
 pre:=fun(p,t,fs)=>tT p t fs
 res:=fun(p,t,fs)=>.bS 1 Int cw (gk p t.gs fs)
theorem XT:bg aC.ctx 32 Ni.spec:=by
 refine bR [] Tb.1 ?_;intro⟨p,t,fs⟩ (ok:tT p t fs) H aJ;have hlen:=ok.qK;obtain⟨hL,_⟩:=sA ok.bK
 repeat refine I ?_
 refine cG (L:=Nat×List Int) (fun(k,l)=>k<=p.aD.length∧l=(gk p t.gs fs).take k) (ajT p t fs) (fun l=>p.aD.length-l.1) [0,1] (0,[]) ⟨Nat.zero_le _,rfl⟩ (by show _-0<ba+1;unfold ba;omega) ej ?_;rintro⟨k,l⟩ ⟨U,ax⟩;have pG:l.length=k:=by rw[ax,List.length_take,re hlen];omega
 by_cases hn:k<p.aD.length
 ·have aP:k<t.gs.length:=by omega
  have dN:=O0 (fs:=fs) hlen aP hn;have akU:=ok.gs _ (dr aP);have UK:=Ha t.gs 0 _ (dr aP);have UT:(fs.length:Int)=lF t.gs 0:=ok.cd;cases l with
  |nil=>
   repeat refine al 13 ?_
   refine v1 13 (show(k:Int)<(p.aD.length:Int) by omega) ?_
   repeat refine I ?_
   refine cV t.gs[k] (a9 aP) ?_
   repeat refine al 21 ?_
   by_cases h1:t.gs[k]<0
   ·refine v1 21 h1 ?_;rw[if_neg (by omega),<-ax]at dN
    repeat refine I ?_
    refine cV p.aD[k] (a9 hn) ?_
    repeat refine I ?_
    refine x6 cw [(p.aD[k]).f] (gG (R:=cw) [(p.aD[k]).f] rfl) ?_
    repeat refine al 15 ?_
    refine dW 15 ((k+1:Nat):Int) ?_
    repeat refine I ?_
    exact bc [0,1,3] (k+1,[(p.aD[k]).f]) ⟨by show _-(k+1)<_-k;omega,hn,dN.symm⟩ ld
   ·refine v0 21 h1 ?_;obtain⟨j,hj⟩:∃j:Nat,t.gs[k]=(j:Int):=⟨t.gs[k].toNat,by omega⟩;have e6:j<fs.length:=by omega
    rw[if_pos (by omega),hj,Int.toNat_natCast,List.getD_eq_getElem?_getD,a9 e6,Option.getD_some,<-ax]at dN
    repeat refine I ?_
    refine cV t.gs[k] (a9 aP) ?_
    repeat refine al 37 ?_
    refine oa 37 (j:Int) ?_;refine cV fs[j] (a9 e6) ?_
    repeat refine I ?_
    refine x6 cw [fs[j]] (gG (R:=cw) [fs[j]] rfl) ?_
    repeat refine al 15 ?_
    refine dW 15 ((k+1:Nat):Int) ?_
    repeat refine I ?_
    exact bc [0,1,3] (k+1,[fs[j]]) ⟨by show _-(k+1)<_-k;omega,hn,dN.symm⟩ ld
  |cons d ds=>
   have iu:ds.length+1=k:=pG
   repeat refine al 13 ?_
   refine v1 13 (show(k:Int)<(p.aD.length:Int) by omega) ?_
   repeat refine I ?_
   refine cV t.gs[k] (a9 aP) ?_
   repeat refine al 21 ?_
   by_cases h1:t.gs[k]<0
   ·refine v1 21 h1 ?_;rw[if_neg (by omega),<-ax]at dN
    repeat refine I ?_
    refine cV p.aD[k] (a9 hn) ?_
    repeat refine I ?_
    refine x5 (R:=cw) [(p.aD[k]).f] (gG (R:=cw) [(p.aD[k]).f] rfl) ?_
    repeat refine al 15 ?_
    refine dW 15 ((k+1:Nat):Int) ?_
    repeat refine I ?_
    exact bc [0,1,4] (k+1,d::(ds++[(p.aD[k]).f])) ⟨by show _-(k+1)<_-k;omega,hn,dN.symm⟩ (N2 ⟨rfl,rfl,rfl,congrArg (fun k=>some (af.a6 4 1 0 k k)) (by simp),rfl,trivial⟩ ⟨_,rfl,rfl⟩ ⟨_,rfl,rfl⟩ ⟨_,rfl,rfl,fun _=>rfl⟩)
   ·refine v0 21 h1 ?_;obtain⟨j,hj⟩:∃j:Nat,t.gs[k]=(j:Int):=⟨t.gs[k].toNat,by omega⟩;have e6:j<fs.length:=by omega
    rw[if_pos (by omega),hj,Int.toNat_natCast,List.getD_eq_getElem?_getD,a9 e6,Option.getD_some,<-ax]at dN
    repeat refine I ?_
    refine cV t.gs[k] (a9 aP) ?_
    repeat refine al 37 ?_
    refine oa 37 (j:Int) ?_;refine cV fs[j] (a9 e6) ?_
    repeat refine I ?_
    refine x5 (R:=cw) [fs[j]] (gG (R:=cw) [fs[j]] rfl) ?_
    repeat refine al 15 ?_
    refine dW 15 ((k+1:Nat):Int) ?_
    repeat refine I ?_
    exact bc [0,1,4] (k+1,d::(ds++[fs[j]])) ⟨by show _-(k+1)<_-k;omega,hn,dN.symm⟩ (N2 ⟨rfl,rfl,rfl,congrArg (fun k=>some (af.a6 4 1 0 k k)) (by simp),rfl,trivial⟩ ⟨_,rfl,rfl⟩ ⟨_,rfl,rfl⟩ ⟨_,rfl,rfl,fun _=>rfl⟩)
 ·rw[List.take_of_length_le (by rw[re hlen];omega)]at ax;cases l with
  |nil=>
   repeat refine al 13 ?_
   refine v0 13 (show¬(k:Int)<(p.aD.length:Int) by omega) ?_
   repeat refine I ?_
   exact aw rfl (b3.nl.trans (.of (by show af.bS 1 Int cw []=af.bS 1 Int cw (gk p t.gs fs);rw[<-ax])))
  |cons d ds=>
   repeat refine al 13 ?_
   refine v0 13 (show¬(k:Int)<(p.aD.length:Int) by omega) ?_
   repeat refine al 42 ?_
   refine hD 42 ?_
   repeat refine I ?_
   exact aw rfl (.of (by show af.bS 1 Int cw (d::ds)=af.bS 1 Int cw (gk p t.gs fs);rw[<-ax]))
theorem anN{p:bH}(hc:bK p=(0,0,0)):(lH p).1.length=p.aD.length:=by
 have av:=Qk hc;obtain⟨aH,_⟩:=wi hc;unfold lH;have t0:Inv p (((List.replicate p.aD.length false).set p.out.toNat true,List.replicate p.ca.length false):fe):=fun a t h=>by
  unfold nN at h;rw[List.getElem?_replicate]at h;split at h<;>cases h
 have:∀(r:Nat) (s:fe),s.1.length=p.aD.length->s.2.length=p.ca.length->Inv p s->(qX p r s).1.length=p.aD.length:=fun r=>by
  induction r with
  |zero=>exact fun s h1 h2 h3=>h1
  |succ r a0=>
   intro s h1 h2 h3;have gG:=NO aH av p.aD.length s (Nat.le_refl _) h1 h2 h3;exact a0 _ gG.fp gG.fJ gG.inv
 exact this _ _ (by simp) (by simp) t0
def Nk:bE where
 L:=v5
 args:=fun(p,t,fs)=>[ed p,p8 t,.bS 1 Int cw fs]
 pre:=EE
 res:=fun(p,t,fs)=>if g5 p t fs=0 then .bB [.i .i64 (lp p t.cs (jO p).1 (gk p t.gs fs) 0),.i .i64 0]else .bB [.i .i64 0,.i .i64 (g5 p t fs)]
theorem ao9:bg aC.ctx 9 Nk.spec:=by
 refine bR [(30,HM.spec),(31,Yk.spec),(32,Ni.spec)] rv.1 ?_;intro⟨p,t,fs⟩ hp H aJ
 repeat refine I ?_
 refine aX XU (p,t,fs) hp ?_;refine az 18 (.i .i64 (g5 p t fs)) rfl rfl ?_
 repeat refine al 20 ?_
 by_cases h0:g5 p t fs=0
 case neg=>
  refine v1 20 h0 ?_
  repeat refine I ?_
  exact aw rfl (.of (by show _=ite _ _ _;rw[if_neg h0]))
 refine v0 20 (fb h0) ?_;have ok:=EW h0;obtain⟨hL,_⟩:=sA ok.bK;have hl:=re (fs:=fs) ok.qK;have mH:=anN ok.bK;have kn:=fun k U=>O1 ok (k:=k) U;have cI:Nk.res (p,t,fs)= .bB [.i .i64 (lp p t.cs (lH p).1 (gk p t.gs fs) 0),.i .i64 0]:=by
  show ite _ _ _=_;rw[if_pos h0,QA t.cs (fun j=>anR (wi ok.bK).1 (Qk ok.bK) (wi ok.bK).2 hL j)]
 repeat refine I ?_
 refine aX apq p ⟨hp.1.1,ok.bK⟩ ?_;refine az 24 (.bB [.bS 1 Bool fP (lH p).1,.bS 1 Bool fP (lH p).2,.i .i64 0]) rfl rfl ?_
 repeat refine I ?_
 refine aX XT (p,t,fs) ok ?_;refine az 31 (.bS 1 Int cw (gk p t.gs fs)) rfl rfl ?_;generalize gk p t.gs fs=l at *;generalize(lH p).1=N at *;generalize(lH p).2=S at *
 repeat refine I ?_
 refine cG (L:=Nat×Int) (fun(k,a)=>k<=l.length∧0<=a∧a<=1000000*(k:Int)∧a+lp p t.cs N (l.drop k) k=lp p t.cs N l 0) (fun(k,a)=>⟨[.c 27 (eB p),.c 33 (mn t)],2,[(3,.p 0 0),(4,.p 1 0),(9,.bS 1 Bool fP N),(12,.bS 1 Int cw l),(13,.i .i64 a),(14,.i .i64 (k:Int))]⟩) (fun q=>l.length-q.1) [0,1] (0,0) ⟨Nat.zero_le _,by decide,by decide,by rw[Int.zero_add];rfl⟩ (by show _-0<ba+1;unfold ba;omega) ej ?_;rintro⟨k,a⟩ ⟨U,kk,fY,ax⟩
 repeat refine al 35 ?_
 by_cases aP:k<l.length
 ·refine v1 35 (show(k:Int)<(l.length:Int) by omega) ?_;have hn:k<p.aD.length:=by omega
  have aa:k<N.length:=by omega
  rw[hf aP,Qz,List.getD_eq_getElem?_getD,a9 aa,a9 hn]at ax;simp only[Option.getD_some,Option.map_some]at ax;obtain⟨i1,i2⟩:=kn k aP
  repeat refine I ?_
  refine cV N[k] (a9 aa) ?_
  repeat refine al 42 ?_
  by_cases jt:N[k]=true
  ·refine kN 42 jt ?_
   repeat refine I ?_
   refine cV p.aD[k] (a9 hn) ?_
   repeat refine al 49 ?_
   by_cases h3:4<=(p.aD[k]).op
   ·refine v1 49 h3 ?_;rw[if_pos ⟨jt,by omega⟩]at ax;obtain⟨j,hj⟩:∃j:Nat,l[k]=(j:Int):=⟨l[k].toNat,by omega⟩;have e6:j<t.cs.length:=by rw[ok.lc];omega
    rw[hj,Int.toNat_natCast,List.getD_eq_getElem?_getD,a9 e6,Option.getD_some]at ax;obtain⟨kT,dh⟩:=ok.cs _ (dr e6)
    repeat refine I ?_
    refine gm l[k] (a9 aP) ?_
    repeat refine al 57 ?_
    refine atB 57 (j:Int) ?_
    repeat refine I ?_
    refine gm t.cs[j] (a9 e6) ?_
    repeat refine al 60 ?_
    refine ww 60 (a+t.cs[j]) ?_
    repeat refine al 37 ?_
    refine dW 37 ((k+1:Nat):Int) ?_
    repeat refine I ?_
    exact bc [0,1] (k+1,a+t.cs[j]) ⟨by show _-(k+1)<_-k;omega,aP,by omega,by omega,by omega⟩ ej
   ·refine v0 49 h3 ?_;rw[if_neg (fun h=>h3 (by have:=h.2;omega))]at ax
    repeat refine al 37 ?_
    refine dW 37 ((k+1:Nat):Int) ?_
    repeat refine I ?_
    exact bc [0,1] (k+1,a) ⟨by show _-(k+1)<_-k;omega,aP,kk,by omega,by omega⟩ ej
  ·refine kN 42 (eq_false_of_ne_true jt) ?_;rw[if_neg (fun h=>jt h.1)]at ax
   repeat refine al 37 ?_
   refine dW 37 ((k+1:Nat):Int) ?_
   repeat refine I ?_
   exact bc [0,1] (k+1,a) ⟨by show _-(k+1)<_-k;omega,aP,kk,by omega,by omega⟩ ej
 ·refine v0 35 (show¬(k:Int)<(l.length:Int) by omega) ?_;rw[List.drop_eq_nil_of_le (by omega)]at ax;have ax:a+0=lp p t.cs N l 0:=ax
  repeat refine I ?_
  exact aw rfl (.of (by rw[cI,<-ax,Int.add_zero]))
def Yq:bE where
 L:=v5
 args:=fun(p,t,fs)=>[ed p,p8 t,.bS 1 Int cw fs]
 pre:=EE
 res:=fun(p,t,fs)=>if g5 p t fs=0 then qc p (gk p t.gs fs)else .bB [ed nM,.i .i64 (g5 p t fs)]
theorem apw:bg aC.ctx 11 Yq.spec:=by
 refine bR [(30,HM.spec),(32,Ni.spec),(35,Nu.spec)] FQ.1 ?_;intro⟨p,t,fs⟩ hp H aJ
 repeat refine I ?_
 refine aX XU (p,t,fs) hp ?_;refine az 12 (.i .i64 (g5 p t fs)) rfl rfl ?_
 repeat refine al 14 ?_
 by_cases h0:g5 p t fs=0
 case neg=>
  refine v1 14 h0 ?_
  repeat refine I ?_
  exact aw rfl (b3.trans (b:=.bB [ed nM,.i .i64 (g5 p t fs)]) (.bB ⟨Dd,.refl _,trivial⟩) (.of (by show _=ite _ _ _;rw[if_neg h0])))
 refine v0 14 (fb h0) ?_;have ok:=EW h0;have hl:=re (fs:=fs) ok.qK;obtain⟨hL,_⟩:=sA ok.bK
 repeat refine I ?_
 refine ck XT (p,t,fs) ok ?_
 repeat refine I ?_
 refine ck apH (p,gk p t.gs fs) ⟨hp.1.1,by show(gk p t.gs fs).length<=1000000;omega⟩ ?_;refine az 22 (qc p (gk p t.gs fs)) rfl rfl ?_
 repeat refine I ?_
 exact aw rfl (.of (by show _=ite _ _ _;rw[if_pos h0];rfl))
def nH(l:List iH):Nat:=(l.map fun x=>x.bb.length+x.ae.length).sum
def lM(l:List db):Nat:=(l.map fun n=>n.v.length).sum
def sx(p:bH):Prop:=100<(p.fs.length:Int)∨100<(p.ins.length:Int)∨100<(p.aD.length:Int)∨100<(p.ca.length:Int)∨2000<((nH p.ins+lM p.aD:Nat):Int)
instance(p:bH):Decidable (sx p):=by unfold sx;infer_instance
def qg(p:bH):Prop:=(∀x∈p.ins,x.bb.length<=140737488355328∧x.ae.length<=140737488355328)∧∀n∈p.aD,n.v.length<=140737488355328
def FV:bE where
 L:=bH
 args:=fun p=>[ed p]
 pre:=qg
 res:=fun p=>.b (decide (sx p))
theorem ajE:bg aC.ctx 147 FV.spec:=by
 refine bR [] R9.1 ?_;intro(p:bH) ⟨b6,hS⟩ H aJ;have yes:sx p->b3 (.b true) (FV.res p):=fun h=>.of (ct (decide_eq_true h).symm);have no:¬sx p->b3 (.b false) (FV.res p):=fun h=>.of (ct (decide_eq_false h).symm)
 repeat refine al 9 ?_
 by_cases h1:100<(p.fs.length:Int)
 ·refine v1 9 h1 ?_
  repeat refine I ?_
  exact aw rfl (yes (.inl h1))
 refine v0 9 h1 ?_
 repeat refine al 14 ?_
 by_cases h2:100<(p.ins.length:Int)
 ·refine v1 14 h2 ?_
  repeat refine I ?_
  exact aw rfl (yes (.inr (.inl h2)))
 refine v0 14 h2 ?_
 repeat refine al 20 ?_
 by_cases h3:100<(p.aD.length:Int)
 ·refine v1 20 h3 ?_
  repeat refine I ?_
  exact aw rfl (yes (.inr (.inr (.inl h3))))
 refine v0 20 h3 ?_
 repeat refine al 26 ?_
 by_cases ay:100<(p.ca.length:Int)
 ·refine v1 26 ay ?_
  repeat refine I ?_
  exact aw rfl (yes (.inr (.inr (.inr (.inl ay)))))
 refine v0 26 ay ?_
 repeat refine I ?_
 refine cG (L:=Nat×Nat) (fun(k,a)=>k<=p.ins.length∧a<=300000000000000*k∧a+nH (p.ins.drop k)=nH p.ins) (fun(k,a)=>⟨[.c 27 (eB p)],1,[(1,.p 0 0),(3,.i .i64 (a:Int)),(4,.i .i64 (k:Int))]⟩) (fun q=>p.ins.length-q.1) [0] (0,0) ⟨Nat.zero_le _,Nat.zero_le _,Nat.zero_add _⟩ (by show _-0<ba+1;unfold ba;omega) dP ?_;rintro⟨k,a⟩ ⟨U,aa,ax⟩
 repeat refine al 32 ?_
 by_cases aP:k<p.ins.length
 ·refine v1 32 (show(k:Int)<(p.ins.length:Int) by omega) ?_;obtain⟨cZ,dz⟩:=b6 _ (dr aP);rw[hf aP]at ax;have ax:a+((p.ins[k].bb.length+p.ins[k].ae.length)+nH (p.ins.drop (k+1)))=nH p.ins:=ax
  repeat refine I ?_
  refine gm p.ins[k] (a9 aP) ?_
  repeat refine al 43 ?_
  refine ww 43 ((a+p.ins[k].bb.length:Nat):Int) ?_
  repeat refine I ?_
  refine gm p.ins[k] (a9 aP) ?_
  repeat refine al 51 ?_
  refine ww 51 ((a+p.ins[k].bb.length+p.ins[k].ae.length:Nat):Int) ?_
  repeat refine al 34 ?_
  refine dW 34 ((k+1:Nat):Int) ?_
  repeat refine I ?_
  exact bc [0] (k+1,a+p.ins[k].bb.length+p.ins[k].ae.length) ⟨by show _-(k+1)<_-k;omega,aP,by omega,by omega⟩ dP
 refine v0 32 (show¬(k:Int)<(p.ins.length:Int) by omega) ?_;rw[List.drop_eq_nil_of_le (by omega)]at ax;have ax:a=nH p.ins:=ax;have gO:nH p.ins<=30000000000000000:=by omega
 rw[ax]
 repeat refine I ?_
 refine cG (L:=Nat×Nat) (fun(k,a)=>k<=p.aD.length∧a<=30000000000000000+300000000000000*k∧a+lM (p.aD.drop k)=nH p.ins+lM p.aD) (fun(k,a)=>⟨[.c 27 (eB p)],1,[(1,.p 0 0),(3,.i .i64 (a:Int)),(5,.i .i64 (k:Int))]⟩) (fun q=>p.aD.length-q.1) [0] (0,nH p.ins) ⟨Nat.zero_le _,by omega,rfl⟩ (by show _-0<ba+1;unfold ba;omega) dP ?_;rintro⟨k,a⟩ ⟨U,aa,ax⟩
 repeat refine al 56 ?_
 by_cases aP:k<p.aD.length
 ·refine v1 56 (show(k:Int)<(p.aD.length:Int) by omega) ?_;have cZ:=hS _ (dr aP);rw[hf aP]at ax;have ax:a+(p.aD[k].v.length+lM (p.aD.drop (k+1)))=nH p.ins+lM p.aD:=ax
  repeat refine I ?_
  refine cV p.aD[k] (a9 aP) ?_
  repeat refine al 67 ?_
  refine dW 67 ((a+p.aD[k].v.length:Nat):Int) ?_
  repeat refine al 58 ?_
  refine dW 58 ((k+1:Nat):Int) ?_
  repeat refine I ?_
  exact bc [0] (k+1,a+p.aD[k].v.length) ⟨by show _-(k+1)<_-k;omega,aP,by omega,by omega⟩ dP
 refine v0 56 (show¬(k:Int)<(p.aD.length:Int) by omega) ?_;rw[List.drop_eq_nil_of_le (by omega)]at ax;have ax:a=nH p.ins+lM p.aD:=ax;rw[ax]
 repeat refine al 69 ?_
 by_cases aY:2000<((nH p.ins+lM p.aD:Nat):Int)
 ·refine v1 69 aY ?_
  repeat refine I ?_
  exact aw rfl (yes (.inr (.inr (.inr (.inr aY)))))
 ·refine v0 69 aY ?_
  repeat refine I ?_
  exact aw rfl (no (fun h=>h.elim h1 fun h=>h.elim h2 fun h=>h.elim h3 fun h=>h.elim ay aY))
theorem aa3:∀{l:List iH} {x:iH},x∈l->x.bb.length+x.ae.length<=nH l
 |y::l,x,h=>by
  show _<=(y.bb.length+y.ae.length)+nH l;rcases List.mem_cons.1 h with rfl|h
  ·omega
  ·have:=aa3 h;omega
theorem aa4:∀{l:List db} {x:db},x∈l->x.v.length<=lM l
 |y::l,x,h=>by
  show _<=y.v.length+lM l;rcases List.mem_cons.1 h with rfl|h
  ·omega
  ·have:=aa4 h;omega
theorem Zq{p:bH}(h:¬sx p):iY p:=by
 have aY:¬2000<((nH p.ins+lM p.aD:Nat):Int):=fun aB=>h (.inr (.inr (.inr (.inr aB))));exact⟨fun x J=>by have:=aa3 J;omega,fun n hn=>by have:=aa4 hn;omega⟩
def ur(p:bH):Int:=if(bK p).2.2=0 then 7 else(bK p).2.2
def QC:bE where
 L:=bH
 args:=fun p=>[ed p,.i .i64 (-1)]
 pre:=iY
 res:=fun p=>.bB [.i .i64 0,.i .i64 (ur p)]
theorem ac7:bg aC.ctx 148 QC.spec:=by
 refine bR [(24,Ce.spec)] Sa.1 ?_;intro(p:bH) hp H aJ
 repeat refine I ?_
 refine aX Cf p hp ?_;refine az 8 (.i .i64 (bK p).2.2) rfl rfl ?_
 repeat refine al 10 ?_
 by_cases h0:(bK p).2.2=0
 ·refine v1 10 h0 ?_
  repeat refine al 13 ?_
  refine v1 13 (show(-1:Int)<0 by decide) ?_
  repeat refine al 20 ?_
  refine v1 20 (show(7:Int)≠0 by decide) ?_
  repeat refine I ?_
  exact aw rfl (.of (by show _=af.bB [.i .i64 0,.i .i64 (ur p)];unfold ur;rw[if_pos h0]))
 ·refine v0 10 h0 ?_
  repeat refine al 20 ?_
  refine v1 20 h0 ?_
  repeat refine I ?_
  exact aw rfl (.of (by show _=af.bB [.i .i64 0,.i .i64 (ur p)];unfold ur;rw[if_neg h0]))
def rh(p:bH):Prop:=sx p∨400<(lM p.aD:Int)
instance(p:bH):Decidable (rh p):=by unfold rh;infer_instance
def FW:bE where
 L:=bH
 args:=fun p=>[.agg (eB p++[.nl,.i .i64 (-1)])]
 pre:=qg
 res:=fun p=>.b (decide (rh p))
theorem ajF:bg aC.ctx 82 FW.spec:=by
 refine bR [(147,FV.spec),(148,QC.spec)] T6.1 ?_;intro(p:bH) hp H aJ;have yes:rh p->b3 (.b true) (FW.res p):=fun h=>.of (ct (decide_eq_true h).symm);have no:¬rh p->b3 (.b false) (FW.res p):=fun h=>.of (ct (decide_eq_false h).symm)
 repeat refine I ?_
 refine aX ajE p hp ?_;by_cases h1:sx p
 ·refine dx 10 h1 ?_
  repeat refine I ?_
  exact aw rfl (yes (.inl h1))
 refine dL 10 h1 ?_;have zJ:=Zq h1;have hl:¬100<(p.aD.length:Int):=fun h=>h1 (.inr (.inr (.inl h)))
 repeat refine al 15 ?_
 refine v0 15 (show¬(20:Int)<0 by decide) ?_
 repeat refine I ?_
 refine cG (L:=Nat×Nat) (fun(k,a)=>k<=p.aD.length∧a<=2000*k∧a+lM (p.aD.drop k)=lM p.aD) (fun(k,a)=>⟨[.c 153 (eB p++[af.nl,af.i .i64 (-1)])],1,[(1,.p 0 0),(3,.i .i64 (a:Int)),(4,.i .i64 (k:Int))]⟩) (fun q=>p.aD.length-q.1) [0] (0,0) ⟨Nat.zero_le _,Nat.zero_le _,Nat.zero_add _⟩ (by show _-0<ba+1;unfold ba;omega) dP ?_;rintro⟨k,a⟩ ⟨U,aa,ax⟩
 repeat refine al 22 ?_
 by_cases aP:k<p.aD.length
 ·refine v1 22 (show(k:Int)<(p.aD.length:Int) by omega) ?_;have cZ:=zJ.2 _ (dr aP);rw[hf aP]at ax;have ax:a+(p.aD[k].v.length+lM (p.aD.drop (k+1)))=lM p.aD:=ax
  repeat refine I ?_
  refine cV p.aD[k] (a9 aP) ?_
  repeat refine al 34 ?_
  refine dW 34 ((a+p.aD[k].v.length:Nat):Int) ?_
  repeat refine al 24 ?_
  refine dW 24 ((k+1:Nat):Int) ?_
  repeat refine I ?_
  exact bc [0] (k+1,a+p.aD[k].v.length) ⟨by show _-(k+1)<_-k;omega,aP,by omega,by omega⟩ dP
 refine v0 22 (show¬(k:Int)<(p.aD.length:Int) by omega) ?_;rw[List.drop_eq_nil_of_le (by omega)]at ax;have ax:a=lM p.aD:=ax;rw[ax]
 repeat refine I ?_
 refine cG (L:=Unit) (fun _=>True) (fun _=>⟨[.c 153 (eB p++[af.nl,af.i .i64 (-1)])],1,[(1,.p 0 0),(3,.i .i64 (lM p.aD:Int)),(5,.i .i64 0)]⟩) (fun _=>0) [0] () trivial (by show 0<ba+1;unfold ba;omega) dP ?_;intro _ _
 repeat refine al 39 ?_
 refine v0 39 (show¬(0:Int)<0 by decide) ?_
 repeat refine al 50 ?_
 by_cases b7:400<(lM p.aD:Int)
 ·refine v1 50 b7 ?_
  repeat refine I ?_
  exact aw rfl (yes (.inr b7))
 refine v0 50 b7 ?_;have hc:¬ur p=0:=by
  unfold ur;split
  ·decide
  ·assumption
 repeat refine I ?_
 refine aX ac7 p zJ ?_;refine az 56 (.bB [.i .i64 0,.i .i64 (ur p)]) rfl rfl ?_
 repeat refine al 60 ?_
 refine v0 60 hc ?_
 repeat refine I ?_
 exact aw rfl (no (fun h=>h.elim h1 b7))
def VL:bE where
 L:=bH
 args:=fun p=>[ed p]
 pre:=qg
 res:=fun p=>.b (decide (rh p))
theorem am9:bg aC.ctx 40 VL.spec:=by
 refine bR [(82,FW.spec)] Ty.1 ?_;intro(p:bH) hp H aJ
 repeat refine I ?_
 refine aX ajF p hp ?_
 repeat refine I ?_
 exact aw rfl (.refl _)
def tl(l:List Int)(n:Int):Int:=l.foldl (fun n g=>max n (IntKind.i64.wrap (g+1))) n
def yN(t:gj):Prop:=(2<t.splits∧t.splits<=40)∨(8<t.yv∧t.yv<=20)∨(200<t.bits∧t.bits<=400)
instance(t:gj):Decidable (yN t):=by unfold yN;infer_instance
def Bx(p:bH)(t:gj):Prop:=14<(p.aD.length:Int)∨3<(p.fs.length:Int)∨(2<tl t.gs 0∧tl t.gs 0<100∧2<(p.fs.length:Int))
instance(p:bH)(t:gj):Decidable (Bx p t):=by unfold Bx;infer_instance
def uj(p:bH)(t:gj):Prop:=rh p∨100<(t.gs.length:Int)∨100<(t.cs.length:Int)∨300<(t.hZ.length:Int)∨yN t∨Bx p t
instance(p:bH)(t:gj):Decidable (uj p t):=by unfold uj;infer_instance
def wI:bE where
 L:=bH×gj
 args:=fun(p,t)=>[ed p,p8 t]
 pre:=fun(p,t)=>qg p
 res:=fun(p,t)=>.b (decide (uj p t))
theorem ajD:bg aC.ctx 13 wI.spec:=by
 refine bR [(40,VL.spec)] RS.1 ?_;intro⟨p,t⟩ (hp:qg p) H aJ;have yes:uj p t->b3 (.b true) (wI.res (p,t)):=fun h=>.of (ct (decide_eq_true h).symm);have no:¬uj p t->b3 (.b false) (wI.res (p,t)):=fun h=>.of (ct (decide_eq_false h).symm)
 repeat refine I ?_
 refine aX am9 p hp ?_;by_cases h1:rh p
 ·refine dx 8 h1 ?_
  repeat refine I ?_
  exact aw rfl (yes (.inl h1))
 refine dL 8 h1 ?_
 repeat refine al 13 ?_
 by_cases h2:100<(t.gs.length:Int)
 ·refine v1 13 h2 ?_
  repeat refine I ?_
  exact aw rfl (yes (.inr (.inl h2)))
 refine v0 13 h2 ?_
 repeat refine al 19 ?_
 by_cases h3:100<(t.cs.length:Int)
 ·refine v1 19 h3 ?_
  repeat refine I ?_
  exact aw rfl (yes (.inr (.inr (.inl h3))))
 refine v0 19 h3 ?_
 repeat refine al 25 ?_
 by_cases ay:300<(t.hZ.length:Int)
 ·refine v1 25 ay ?_
  repeat refine I ?_
  exact aw rfl (yes (.inr (.inr (.inr (.inl ay)))))
 refine v0 25 ay ?_
 iterate 7 refine I ?_
 refine iS (L:=Unit) (fun _=>¬yN t) (fun _=>⟨[.c 27 (eB p),.c 33 (mn t)],2,[(2,.p 0 0),(3,.p 1 0)]⟩) ?_ ?_
 ·have r:yN t->b3 (.b true) (wI.res (p,t)):=fun h=>yes (.inr (.inr (.inr (.inr (.inl h)))))
  repeat refine al 30 ?_
  by_cases fY:2<t.splits
  ·refine v1 30 fY ?_
   repeat refine al 35 ?_
   by_cases hi:t.splits<=40
   ·refine v1 35 hi ?_
    repeat refine I ?_
    exact aw rfl (r (.inl ⟨fY,hi⟩))
   refine v0 35 hi ?_
   repeat refine al 41 ?_
   by_cases cZ:8<t.yv
   ·refine v1 41 cZ ?_
    repeat refine al 46 ?_
    by_cases dz:t.yv<=20
    ·refine v1 46 dz ?_
     repeat refine I ?_
     exact aw rfl (r (.inr (.inl ⟨cZ,dz⟩)))
    refine v0 46 dz ?_
    repeat refine al 53 ?_
    by_cases dh:200<t.bits
    ·refine v1 53 dh ?_
     repeat refine al 58 ?_
     by_cases dC:t.bits<=400
     ·refine v1 58 dC ?_
      repeat refine I ?_
      exact aw rfl (r (.inr (.inr ⟨dh,dC⟩)))
     refine v0 58 dC ?_
     repeat refine I ?_
     exact bc [0,1] () (fun h=>h.elim (fun h=>hi h.2) fun h=>h.elim (fun h=>dz h.2) (fun h=>dC h.2)) ej
    refine v0 53 dh ?_
    repeat refine I ?_
    exact bc [0,1] () (fun h=>h.elim (fun h=>hi h.2) fun h=>h.elim (fun h=>dz h.2) (fun h=>dh h.1)) ej
   refine v0 41 cZ ?_
   repeat refine al 53 ?_
   by_cases dh:200<t.bits
   ·refine v1 53 dh ?_
    repeat refine al 58 ?_
    by_cases dC:t.bits<=400
    ·refine v1 58 dC ?_
     repeat refine I ?_
     exact aw rfl (r (.inr (.inr ⟨dh,dC⟩)))
    refine v0 58 dC ?_
    repeat refine I ?_
    exact bc [0,1] () (fun h=>h.elim (fun h=>hi h.2) fun h=>h.elim (fun h=>cZ h.1) (fun h=>dC h.2)) ej
   refine v0 53 dh ?_
   repeat refine I ?_
   exact bc [0,1] () (fun h=>h.elim (fun h=>hi h.2) fun h=>h.elim (fun h=>cZ h.1) (fun h=>dh h.1)) ej
  refine v0 30 fY ?_
  repeat refine al 41 ?_
  by_cases cZ:8<t.yv
  ·refine v1 41 cZ ?_
   repeat refine al 46 ?_
   by_cases dz:t.yv<=20
   ·refine v1 46 dz ?_
    repeat refine I ?_
    exact aw rfl (r (.inr (.inl ⟨cZ,dz⟩)))
   refine v0 46 dz ?_
   repeat refine al 53 ?_
   by_cases dh:200<t.bits
   ·refine v1 53 dh ?_
    repeat refine al 58 ?_
    by_cases dC:t.bits<=400
    ·refine v1 58 dC ?_
     repeat refine I ?_
     exact aw rfl (r (.inr (.inr ⟨dh,dC⟩)))
    refine v0 58 dC ?_
    repeat refine I ?_
    exact bc [0,1] () (fun h=>h.elim (fun h=>fY h.1) fun h=>h.elim (fun h=>dz h.2) (fun h=>dC h.2)) ej
   refine v0 53 dh ?_
   repeat refine I ?_
   exact bc [0,1] () (fun h=>h.elim (fun h=>fY h.1) fun h=>h.elim (fun h=>dz h.2) (fun h=>dh h.1)) ej
  refine v0 41 cZ ?_
  repeat refine al 53 ?_
  by_cases dh:200<t.bits
  ·refine v1 53 dh ?_
   repeat refine al 58 ?_
   by_cases dC:t.bits<=400
   ·refine v1 58 dC ?_
    repeat refine I ?_
    exact aw rfl (r (.inr (.inr ⟨dh,dC⟩)))
   refine v0 58 dC ?_
   repeat refine I ?_
   exact bc [0,1] () (fun h=>h.elim (fun h=>fY h.1) fun h=>h.elim (fun h=>cZ h.1) (fun h=>dC h.2)) ej
  refine v0 53 dh ?_
  repeat refine I ?_
  exact bc [0,1] () (fun h=>h.elim (fun h=>fY h.1) fun h=>h.elim (fun h=>cZ h.1) (fun h=>dh h.1)) ej
 intro _ aY;have aO:¬(rh p∨100<(t.gs.length:Int)∨100<(t.cs.length:Int)∨300<(t.hZ.length:Int)∨yN t):=fun h=>h.elim h1 fun h=>h.elim h2 fun h=>h.elim h3 fun h=>h.elim ay aY;have Ow:Bx p t->b3 (.b true) (wI.res (p,t)):=fun h=>yes (.inr (.inr (.inr (.inr (.inr h)))));have Mt:¬Bx p t->b3 (.b false) (wI.res (p,t)):=fun h=>no (fun aB=>aB.elim h1 fun aB=>aB.elim h2 fun aB=>aB.elim h3 fun aB=>aB.elim ay fun aB=>aB.elim aY h)
 repeat refine I ?_
 refine cG (L:=Nat×Int) (fun(k,n)=>k<=t.gs.length∧tl (t.gs.drop k) n=tl t.gs 0) (fun(k,n)=>⟨[.c 27 (eB p),.c 33 (mn t)],2,[(2,.p 0 0),(3,.p 1 0),(5,.i .i64 n),(6,.i .i64 (k:Int))]⟩) (fun q=>t.gs.length-q.1) [0,1] (0,0) ⟨Nat.zero_le _,rfl⟩ (by show _-0<ba+1;unfold ba;omega) ej ?_;rintro⟨k,n⟩ ⟨U,ax⟩
 repeat refine al 65 ?_
 by_cases aP:k<t.gs.length
 ·refine v1 65 (show(k:Int)<(t.gs.length:Int) by omega) ?_;rw[hf aP]at ax;have ax:tl (t.gs.drop (k+1)) (max n (IntKind.i64.wrap (t.gs[k]+1)))=tl t.gs 0:=ax
  repeat refine I ?_
  refine cV t.gs[k] (a9 aP) ?_
  repeat refine al 67 ?_
  refine dW 67 ((k+1:Nat):Int) ?_
  repeat refine I ?_
  exact bc [0,1] (k+1,max n (IntKind.i64.wrap (t.gs[k]+1))) ⟨by show _-(k+1)<_-k;omega,aP,ax⟩ ej
 refine v0 65 (show¬(k:Int)<(t.gs.length:Int) by omega) ?_;rw[List.drop_eq_nil_of_le (by omega)]at ax;have ax:n=tl t.gs 0:=ax;rw[ax]
 repeat refine al 79 ?_
 by_cases dh:14<(p.aD.length:Int)
 ·refine v1 79 dh ?_
  repeat refine I ?_
  exact aw rfl (Ow (.inl dh))
 refine v0 79 dh ?_
 repeat refine al 84 ?_
 by_cases dC:3<(p.fs.length:Int)
 ·refine v1 84 dC ?_
  repeat refine I ?_
  exact aw rfl (Ow (.inr (.inl dC)))
 refine v0 84 dC ?_
 repeat refine al 88 ?_
 by_cases jH:2<tl t.gs 0
 case neg=>
  refine v0 88 jH ?_
  repeat refine I ?_
  exact aw rfl (Mt (fun h=>h.elim dh fun h=>h.elim dC fun h=>jH h.1))
 refine v1 88 jH ?_
 repeat refine al 91 ?_
 by_cases yR:tl t.gs 0<100
 case neg=>
  refine v0 91 yR ?_
  repeat refine I ?_
  exact aw rfl (Mt (fun h=>h.elim dh fun h=>h.elim dC fun h=>yR h.2.1))
 refine v1 91 yR ?_
 repeat refine al 97 ?_
 by_cases E2:2<(p.fs.length:Int)
 ·refine v1 97 E2 ?_
  repeat refine I ?_
  exact aw rfl (Ow (.inr (.inr ⟨jH,yR,E2⟩)))
 ·refine v0 97 E2 ?_
  repeat refine I ?_
  exact aw rfl (Mt (fun h=>h.elim dh fun h=>h.elim dC fun h=>E2 h.2.2))
def Bv(p:bH)(t:gj)(fs:List Int):List af:=eB p++(mn t++[.bS 1 Int cw fs])
def yM(p:bH)(t:gj)(fs:List Int):Prop:=uj p t∨100<(fs.length:Int)
instance(p:bH)(t:gj)(fs:List Int):Decidable (yM p t fs):=by unfold yM;infer_instance
def FX:bE where
 L:=v5
 args:=fun(p,t,fs)=>[.agg (Bv p t fs)]
 pre:=fun(p,t,fs)=>qg p
 res:=fun(p,t,fs)=>.b (decide (yM p t fs))
theorem ajG:bg aC.ctx 4 FX.spec:=by
 refine bR [(13,wI.spec)] cl.1 ?_;intro⟨p,t,fs⟩ (hp:qg p) H aJ;have yes:yM p t fs->b3 (.b true) (FX.res (p,t,fs)):=fun h=>.of (ct (decide_eq_true h).symm);have no:¬yM p t fs->b3 (.b false) (FX.res (p,t,fs)):=fun h=>.of (ct (decide_eq_false h).symm)
 repeat refine I ?_
 refine aX ajD (p,t) hp ?_;by_cases h1:uj p t
 ·refine dx 7 h1 ?_
  repeat refine I ?_
  exact aw rfl (yes (.inl h1))
 refine dL 7 h1 ?_
 repeat refine al 12 ?_
 by_cases h2:100<(fs.length:Int)
 ·refine v1 12 h2 ?_
  repeat refine I ?_
  exact aw rfl (yes (.inr h2))
 ·refine v0 12 h2 ?_
  repeat refine I ?_
  exact aw rfl (no (fun h=>h.elim h1 h2))
def NT(G:bF->Prop)(dv:∀{H bs:bF},dt H bs->G H->G bs):bE where
 L:=Unit
 args:=fun _=>[]
 pre:=fun _=>True
 res:=fun _=>.b true
 hp:=G
 hm:=dv
def L6(G:bF->Prop)(dv:∀{H bs:bF},dt H bs->G H->G bs):bE where
 L:=v5
 args:=fun(p,t,fs)=>[.agg (Bv p t fs)]
 pre:=fun(p,t,fs)=>qg p
 res:=fun _=>.b true
 hp:=G
 hm:=dv
def tF(p:bH)(t:gj)(fs:List Int):bH×Int:=if g5 p t fs=0 then(if o0 p (gk p t.gs fs)=0 then n6 p (gk p t.gs fs)else nM,o0 p (gk p t.gs fs))else(nM,g5 p t fs)
theorem aqb(p:bH)(t:gj)(fs:List Int):(if g5 p t fs=0 then qc p (gk p t.gs fs)else .bB [ed nM,.i .i64 (g5 p t fs)])=af.bB [ed (tF p t fs).1,.i .i64 (tF p t fs).2]:=by
 unfold tF qc;split<;>rfl
theorem ana{G:bF->Prop}{dv:∀{H bs:bF},dt H bs->G H->G bs}(iq:∀{H},G H->gX H)(ch:bg aC.ctx 5 (NT G dv).spec):bg aC.ctx 3 (L6 G dv).spec:=by
 refine Km aC.cv cA (cc [(4,FX.spec),(5,(NT G dv).spec),(6,I5.spec),(7,H0.spec),(8,XC.spec),(9,Nk.spec),(10,XI.spec),(11,Yq.spec),(12,VY.spec)]) (xf:=a7.1) (by kernel_rfl) (fun l=>kx rfl) ?_;intro⟨p,t,fs⟩ (hp:qg p) H aJ dX
 repeat refine I ?_
 refine aX ajG (p,t,fs) hp ?_;by_cases aa:yM p t fs
 ·refine dx 10 aa ?_
  repeat refine I ?_
  refine aX ch () trivial ?_ (hh:=dX)
  repeat refine I ?_
  exact aw rfl (.refl _)
 refine dL 10 aa ?_;have fQ:¬uj p t:=fun h=>aa (.inl h);have mE:¬100<(fs.length:Int):=fun h=>aa (.inr h);have Cq:¬rh p:=fun h=>fQ (.inl h);have Cr:¬sx p:=fun h=>Cq (.inl h);have aue:¬100<(t.gs.length:Int):=fun h=>fQ (.inr (.inl h));have auf:¬100<(t.cs.length:Int):=fun h=>fQ (.inr (.inr (.inl h)));have aug:¬300<(t.hZ.length:Int):=fun h=>fQ (.inr (.inr (.inr (.inl h))));have gO:EE (p,t,fs):=⟨⟨Zq Cr,by omega,by omega,by omega⟩,by omega⟩;have fp:¬100<(p.fs.length:Int):=fun h=>Cr (.inl h);have fJ:¬100<(p.ins.length:Int):=fun h=>Cr (.inr (.inl h));have l1:¬100<(p.aD.length:Int):=fun h=>Cr (.inr (.inr (.inl h)));have xr:¬100<(p.ca.length:Int):=fun h=>Cr (.inr (.inr (.inr (.inl h))));clear aa
 repeat refine I ?_
 refine ck Z2 (p,t) gO.1 ?_ (hh:=iq dX);refine az 16 (.i .i64 (jU p t)) rfl rfl ?_
 repeat refine I ?_
 refine ck YB (p,t) gO.1 ?_;refine az 21 (.i .i64 (jU p t)) rfl rfl ?_
 repeat refine al 22 ?_
 refine v0 22 (fb (rfl:jU p t=jU p t)) ?_
 repeat refine I ?_
 refine aX aoP (p,t,fs) gO ?_ (hh:=iq dX);obtain⟨c,e,hC⟩:∃c e:Int,(if g5 p t fs=0 then af.bB [.i .i64 (lp p t.cs (jO p).1 (gk p t.gs fs) 0),.i .i64 0]else .bB [.i .i64 0,.i .i64 (g5 p t fs)])= .bB [.i .i64 c,.i .i64 e]:=by
  split
  ·exact⟨_,_,rfl⟩
  ·exact⟨_,_,rfl⟩
 refine az 30 (.bB [.i .i64 c,.i .i64 e]) rfl hC ?_
 repeat refine I ?_
 refine aX ao9 (p,t,fs) gO ?_;refine az 40 (.bB [.i .i64 c,.i .i64 e]) rfl hC ?_
 repeat refine al 45 ?_
 refine v0 45 (fb (rfl:c=c)) ?_
 repeat refine al 49 ?_
 refine v0 49 (fb (rfl:e=e)) ?_;have cI:=aqb p t fs;have hl:(tF p t fs).1.fs.length<=1000000∧(tF p t fs).1.ins.length<=1000000∧(tF p t fs).1.aD.length<=1000000∧(tF p t fs).1.ca.length<=1000000:=by
  have ax:nM.fs.length<=1000000∧nM.ins.length<=1000000∧nM.aD.length<=1000000∧nM.ca.length<=1000000:=⟨by decide,by decide,by decide,by decide⟩;unfold tF;split
  ·show(ite _ _ _:bH).fs.length<=_∧_;dsimp only;split
   ·refine⟨by show p.fs.length<=_;omega,by show p.ins.length<=_;omega,?_,by show p.ca.length<=_;omega⟩;show(List.zipWith _ p.aD _).length<=_;rw[List.length_zipWith];omega
   ·exact ax
  ·exact ax
 generalize tF p t fs=R at cI hl;obtain⟨P,E⟩:=R;simp only at cI hl
 repeat refine I ?_
 refine aX aoS (p,t,fs) gO ?_ (hh:=iq dX);refine az 58 (.bB [ed P,.i .i64 E]) rfl cI ?_
 repeat refine I ?_
 refine aX apw (p,t,fs) gO ?_;refine az 68 (.bB [ed P,.i .i64 E]) rfl cI ?_
 repeat refine I ?_
 refine aX anq P hl ?_
 repeat refine al 77 ?_
 refine v1 77 (rfl:E=E) ?_
 repeat refine I ?_
 refine aX ch () trivial ?_ (hh:=dX)
 repeat refine I ?_
 exact aw rfl (.refl _)
end Go.an.bh
namespace Go.an.bh
open Go.an Go.an.g4
set_option maxRecDepth 100000
theorem V5{h:ao bw}{s:c5}:∀(os:List (Nat×bw)),(∀o∈os,s.cH.get o.1=some o.1∧h.get o.1=some o.2∧tf o.2 o.2 s=some s)->xz h os s=some s
 |[],_=>rfl
 |o::os,hh=>by
  obtain⟨h1,h2,h3⟩:=hh o (by simp);show bl (s.cH.get o.1) (fun j=>bl (h.get j) (fun p=>bl (tf o.2 p s) (xz h os) none) none) none=_;rw[h1,Sym.eY,h2,Sym.eY,h3,Sym.eY];exact V5 os fun p hp=>hh p (List.mem_cons_of_mem _ hp)
theorem FY{Q:Nat×bw->Prop}(h0:Q n2)(h2:Q xU)(h3:Q n3)(ay:Q vx)(aY:Q Ap):∀p∈ks.gs,Q p:=fun p hp=>by
 have hp:p∈[n2,xU,n3,vx,Ap]:=hp;simp only[List.mem_cons,List.not_mem_nil,or_false]at hp;rcases hp with rfl|rfl|rfl|rfl|rfl<;>assumption
def GS(H:bF):Prop:=∀p∈ks.gs,H p.1=some p.2
theorem GS.up{H bs:bF}(h:dt H bs)(aO:GS H):GS bs:=fun p hp=>h _ _ (aO p hp)
theorem Uj:∀p∈ks.gs,dU.cH.get p.1=some p.1∧tf p.2 p.2 dU=some dU:=
 FY ⟨by kernel_rfl,by kernel_rfl⟩ ⟨by kernel_rfl,by kernel_rfl⟩ ⟨by kernel_rfl,by kernel_rfl⟩ ⟨by kernel_rfl,by kernel_rfl⟩ ⟨by kernel_rfl,by kernel_rfl⟩
theorem abU{s:c5}{gs:List (Nat×bw)}{aM:Nat}{st:au}{t:Bool}(hc:s.bf<=aM)(h:xz st.h gs s=some s):(⟨[],gs,[],.bool t,[],aM⟩:bG).app s [] st=some (.ret (.bool t) ⟨st.h,st.ai+(aM-s.bf)⟩ false):=by
 unfold bG.app;show bl (xz st.h gs s) _ none=_;rw[h,Sym.eY];show cond (Nat.beq s.bf (Nat.add s.bf 0)) (cond (Nat.ble s.bf aM) (ga (Nat.add st.ai (Nat.sub aM s.bf)) fun n=>some (dJ.ret (.bool t) ⟨st.h,n⟩ false)) none) none=_;rw[show Nat.beq s.bf (Nat.add s.bf 0)=true from Nat.beq_refl _,show Nat.ble s.bf aM=true from Nat.ble_eq_true_of_le hc];show ga (Nat.add st.ai (Nat.sub aM s.bf)) (fun n=>some (dJ.ret (.bool t) ⟨st.h,n⟩ false))=_;unfold ga;rw[Nat.beq_refl];rfl
theorem an1:dU.bf<=10394:=by rw[eA.2.1];exact kx (by kernel_rfl)
theorem aqM{st:au}(h:∀p∈ks.gs,st.h.get p.1=some p.2):ks.app dU [] st=some (.ret (.bool true) ⟨st.h,st.ai+(10394-dU.bf)⟩ false):=
 abU (gs:=ks.gs) an1 (V5 ks.gs fun o ak=>⟨(Uj o ak).1,h o ak,(Uj o ak).2⟩)
theorem aqN:bg aC.ctx 5 (NT GS GS.up).spec:=by
 rintro vs st ⟨⟨l,H⟩,_,dX,ar,av⟩;have av:vs=[]:=av;subst av;refine⟨.bool true,⟨st.h,st.ai+(10394-dU.bf)⟩,?_,?_⟩
 ·rintro⟨l',bs⟩ ⟨_,at6,c6,_⟩;have hw:∀b,st.ai+(10394-dU.bf)<=b->st.h.get b=none:=fun b aa=>c6.wf b (by omega);exact⟨bs,⟨hw,c6.le,rfl,rfl,List.nodup_nil,fun b aa=>by simp at aa,fun k o b U=>by simp at U⟩,⟨dt.refl _,fun _ _ _=>rfl,fun _ _ _=>rfl,Nat.le_add_right _ _,cM.refl _,fun b aa=>.inl aa⟩,rfl⟩
 ·intro ι as' w ha hw;exact O7 PA eA.1 eA.2.1 eA.2.2 (aqM fun p hp=>ar.le _ _ (dX p hp)) ι as' w ha hw
theorem QO{H:bF}{k:IntKind}:∀l:List Int,di H (l.map fun n=>.i k n) [] (l.map fun n=>Value.int k n)
 |[]=>rfl
 |n::l=>⟨_,_,rfl,rfl,QO l⟩
def Zj:List Int:=IQ.flatMap fun p=>[(p.1:Int),(p.2:Int)]
theorem ao0:n2=(0,.cells (Zj.map fun n=>Value.int .i64 n) 306 (0,32) false):=by kernel_rfl
theorem ajJ{H:bF}(h:GS H):gX H:=by
 have h0:=h n2 (by show n2∈[n2,xU,n3,vx,Ap];simp);rw[ao0]at h0;exact⟨_,_,_,_,h0,fun bs=>QO (k:=.i64) Zj⟩
theorem VM:bg aC.ctx 3 (L6 GS GS.up).spec:=ana ajJ aqN
