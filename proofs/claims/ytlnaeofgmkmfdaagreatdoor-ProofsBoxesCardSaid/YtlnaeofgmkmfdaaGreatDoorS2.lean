/- Rules for what a function computes on abstract states (part 2); no condition. -/
import Derived.Carry
import Derived.Test.YtlnaeofgmkmfdaaGreatDoorS1
import Derived.Test.YtlnaeofgmkmfdaaGreatDoorM3
noncomputable section
set_option linter.all false
namespace Go.an
open Sym
def apK{k z j q o:Nat}(h:o=j*z+q):b7 (.p k o) (.gk k z j q):=fun _ _ _ d=>by subst h;exact d
section
variable{call:bF}{s:cB}{x y i:bv}
variable{n z j k:Nat}{cs:ac aj}{el:ci}
def y8{o:Nat}{cn:d8}(aa:bM s.env x=some (.p k o))(ae:bM s.env i=some (.i cn (j:Int)))(hj:j<n):g7 call (.u0 n z x i) s (.p k (o+j*z)) s.own s.n:=ny fun H ids st fr ao af=>by
 obtain⟨b,I,U⟩:=af.ak aa;have ag:fr.ak i= .int cn (j:Int):=af.ak ae;refine⟨_,⟨b,I,rfl⟩,?_⟩;show xr n z x i call fr st=_;unfold xr;rw[U,rC,Sym.eB,ag,pI,sj,gi (by omega),qz];rfl
def aoF{cn:d8}(aa:bM s.env x=some (.ip cs))(ae:bM s.env i=some (.i cn (j:Int)))(hj:j<n):g7 call (.u0 n z x i) s (.ip (cs.drop (j*z))) s.own s.n:=ny fun H ids st fr ao af=>by
 obtain⟨b,o,vs,el,bk,bc,I,U,d⟩:=af.ak aa;have ag:fr.ak i= .int cn (j:Int):=af.ak ae;refine⟨.pointer (some ⟨b,o+j*z,none⟩),⟨b,o+j*z,vs,el,bk,bc,rfl,U,?_⟩,?_⟩
 ·have:=pW (j*z) d;rw[zdX,zbu,<-zaz]at this;exact this
 ·show xr n z x i call fr st=_;unfold xr;rw[I,rC,Sym.eB,ag,pI,sj,gi (by omega),qz];rfl
def aoE{bT:bm}{g:Nat}{vs:ac bi}{bk:Nat×Nat}{bc:Bool}{cn:d8}(aa:bM s.env x=some (.v (.pointer (some ⟨g,0,none⟩))))(aM:bT g=some (.cells vs el bk bc))(ay:∀H,c4 H cs [] vs)(ae:bM s.env i=some (.i cn (j:Int)))(hj:j<n):vW bT call (.u0 n z x i) s (.ip (cs.drop (j*z))) s.own s.n:=fun H ids st fr fc ao af=>by
 have I:fr.ak x= .pointer (some ⟨g,0,none⟩):=af.ak aa;have ag:fr.ak i= .int cn (j:Int):=af.ak ae;refine⟨.pointer (some ⟨g,0+j*z,none⟩),st,ids,H,?_,ao,⟨g,0+j*z,vs,el,bk,bc,rfl,fc _ _ aM,?_⟩,dm.refl _,c0.refl _,fun _ _ _ B=>B,cf _,fun _ _ _=>rfl⟩
 ·show xr n z x i call fr st=_;unfold xr;rw[I,rC,Sym.eB,ag,pI,sj,gi (by omega),qz];rfl
 ·have:=pW (j*z) (ay H);have hl:=hP this;rw[zas,<-hl,zbR];exact this
def auu{p q:Nat}{α:Type}{R:α->ac aj}{l:ac α}{aK ae:am bv}(aa:bM s.env x=some (.p k 0))(ab:s.own[k]? =some (.a el false z α R l))(gx:fo s aK 0 p)(g0:fo s ae n q)(hp:p<=q)(hq:q<=n)(h0:p<n∨p=0):g7 call (.CD n z x aK ae none) s (.a5 k z p (q-p) (n-p)) s.own s.n:=ny fun H ids st fr ao af=>by
 obtain⟨b,I,U⟩:=af.ak aa;obtain⟨vs,bd,cu,dh⟩:=qC ao ab I;refine⟨_,⟨b,I,rfl⟩,?_⟩;show B9 n z x aK ae none call fr st=_;unfold B9 ar.gN;rw[U,rC,Sym.eB,Sym.gI,bd,lr,cond_false,Dr,fo.ak g0 af hq,fo.ak gx af hp];congr 2;by_cases n9:n=p
 ·subst n9;rcases h0 with h0|h0
  ·omega
  ·subst h0;rw[kC rfl];simp
 ·rw[uy n9,qz,zas];rfl
def u1(c:ce)(l:ac ce):Int:=match ra c l with
 |some i=>i
 |none=> -1
def aoJ{l:ac ce}{c:ce}(aa:bM s.env x=some (.s l))(aJ:bM s.env y=some (.i .u8 (c.toNat:Int))):g7 call (.la x y) s (.i .i64 (u1 c l)) s.own s.n:=ny fun H ids st fr ao af=>by
 have I:fr.ak x= .string ⟨⟨l⟩⟩:=af.ak aa;have U:fr.ak y= .int .u8 (c.toNat:Int):=af.ak aJ;refine⟨_,rfl,?_⟩;show Jk x y call fr st=_;unfold Jk;rw[I,Gh,U,pI,show kK .u8 .u8=true from rfl,cond_true,sj,UInt8.ofNat_toNat];unfold u1;show a1.ok (.int .i64 (bp (ra c l) (fun i=>.ofNat i) (.negSucc 0))) fr st=_;cases ra c l<;>rfl
end
set_option maxRecDepth 10000
def Ca{X:Ctx}{K:co->eE}{f:co}(h:K f=eE.no)(as:ac bi)(st:ar):bO X K f as st=none:=by
 unfold bO;rw[h,dif_neg (fun⟨p,I,_⟩=>I),dif_neg (fun⟨p,I,_⟩=>I)]
def cG.trans{bT H a2:bm}{i0 ids bX:ac Nat}{aN st st':ar}(h:cG bT i0 aN H ids st)(aG:cG H ids st a2 bX st'):cG bT i0 aN a2 bX st':=by
 have hn:∀b,b<aN.ai->b∉i0->b<st.ai∧b∉ids:=fun b hb ae=>⟨fx hb h.ai,fun hm=>(h.new b hm).elim ae (fun h=>by omega)⟩;refine⟨h.hle.trans aG.hle,fun b hb ae=> ?_,fun b hb ae=> ?_,zag h.ai aG.ai,fun k b ab=>aG.iY k b (h.iY k b ab),fun b hb=> ?_⟩
 ·obtain⟨I,U⟩:=hn b hb ae;rw[aG.hold b I U,h.hold b hb ae]
 ·obtain⟨I,U⟩:=hn b hb ae;rw[aG.gh b I U,h.gh b hb ae]
 ·rcases aG.new b hb with I|I
  ·exact h.new b I
  ·exact .inr (zag h.ai I)
section
variable{X:Ctx}{aS:aq cJ}{bC:co->eE}{bE n:Nat}{fn:co}{bT:bm}{i0:ac Nat}{aN:ar}{Q:dq->cB->Prop}{K:ac eN}{own:ac aY}{aL:Nat}{e:bQ}
def ad5(aC:fp)(K:ac eN)(xs:ac bA)(d:am Tmp)(e:bQ)(res:ac hB)(x:dq)(s:cB):Prop:=(x= .norm∨x= .ret)∧∃r,Fin.ry s res=some r∧aW.ok aC ⟨K,.o xs,⟨s.own,s.n,eL d r e⟩⟩
def P3{g:co}(xf:cJ)(aa:aS.get g=some xf){b9:ac bv}{as:ac aj}{d:am Tmp}{xs:ac bA}
 (k:∀H1 i1 s1,i1.length=own.length->dm bT H1->aW.ok ⟨bH aS (bO X bC) (n+1),n+1,g,H1,i1,s1,ad5 ⟨bH aS (bO X bC) (n+2),bE,fn,bT,i0,aN,Q⟩ K xs d e xf.res⟩ ⟨[],.c xf.body,⟨own,aL,jB 0 as⟩⟩)
 (ha:jq e b9=some as:=by rfl) (hl:as.length<=xf.aI:=by exact jw rfl) (c6:bC g=eE.no:=by rfl):aW.ok ⟨bH aS (bO X bC) (n+2),bE,fn,bT,i0,aN,Q⟩ ⟨K,.o (⟨d,.call (.func g) b9,none⟩::xs),⟨own,aL,e⟩⟩:=by
 intro H ids st fr a3 ao af;have ay:=af.dG ha;have e7:=k H ids st (ao.len.trans ao.cr.symm) a3.hle H ids st (er (dG fr b9)) (cG.refl _ _ _) ao (cU.zero ay);obtain⟨v,st',I,r,a2,bX,s,cg,cl,gF,ab⟩:=LH (n:=n+1) (f:=g) (Post:=fun v st'=>∃(r:aj) (a2:bm) (bX:ac Nat) (s:cB),cG H ids st a2 bX st'∧Fit a2 bX st' s.own s.n∧den a2 r bX v∧aW.ok ⟨bH aS (bO X bC) (n+2),bE,fn,bT,i0,aN,Q⟩ ⟨K,.o xs,⟨s.own,s.n,eL d r e⟩⟩)
  (by rw[hP ay];exact hl) (e7.mono (by
   rintro x dC cp ⟨a2,bX,s,cg,cl,dN,aa,r,aD,ab⟩;obtain⟨v,ag,au⟩:=zP (call:=bH aS (bO X bC) (n+1)) cl dN aD;exact⟨aa,v,au,r,a2,bX,s,cg,cl,ag,ab⟩))
 refine rE (v:=v) (st':=st') ?_ (ab a2 bX st' _ (a3.trans cg) cl ((af.mono cg.hle cg.iY).eL d gF));rw[rk];show ma (bH aS (bO X bC) (n+2) (.func (.func g) #[] #[]) (dG fr b9) none st) _ _=_;rw[pP];have a6:fk (#[]:be bi).toList (fk (dG fr b9) (#[]:be bi).toList)=dG fr b9:=by simp
 rw[a6,Ca c6,Sym.gI,Sym.gI,aa,Sym.eB,I];rfl
end
theorem LP{H:bm}{ids:ac Nat}{α:Type}{R:α->ac aj}{z:Nat}(ax:∀w,(R w).length=z):∀{l:ac α} {vs:ac bi},kW H ids R z l vs->c4 H (l.flatMap R) ids vs
 |[],vs,h=>by
  have:vs=[]:=zaX (by rw[h.1];simp);exact this
 |w::l,vs,h=>by
  rw[<-zbp z vs,zcQ];have I:=h.2 0 w (by simp);rw[zar,zaq]at I;have U:=Ay h 1;rw[zbm]at U;exact AL I (LP ax (l:=l) U)
section
variable{aC:fp}{K:ac eN}{own aZ:ac aY}{aL ch:Nat}{e:bQ}{d:Tmp}{xs:ac bA}{x y i:bv}
variable{z:Nat}{el:ci}{α:Type}{p:ac bA}{R:α->ac aj}{l:ac α}
def asg(k:Nat)(cn:aW.ok aC ⟨K,.o p,⟨aZ,aL,e⟩⟩)(ab:own[k]? =some (.a el false z α R l):=by rfl)(ax:∀w,(R w).length=z:=by exact fun _=>rfl)(al:jV own k (.c el (l.flatMap R)) some=some aZ:=by rfl):aW.ok aC ⟨K,.o p,⟨own,aL,e⟩⟩:=fun H ids st fr a3 ao af=>by
 have:=kQ al;cases this;refine cn H ids st fr a3 ⟨ao.wf,ao.le,by simp[ao.cr],ao.len,ao.g9,ao.lt,?_⟩ af;intro j q c hj hc;by_cases im:k=j
 ·subst im;rw[zaG,zab rfl]at hj;split at hj<;>cases hj;obtain⟨⟨vs,ag,au,a0⟩,b5⟩:=ao.own k _ c ab hc;exact⟨⟨vs,ag,LP ax ⟨au,a0⟩⟩,fun _=>b5 rfl⟩
 ·rw[zaG,zaa im]at hj;exact ao.own j q c hj hc
def asn(t:Nat){k:Nat}{bc:Bool}(cn:aW.ok aC ⟨K,.o p,⟨aZ,aL,(t,.ip (l.flatMap R))::e⟩⟩)(aV:ea e t=some (.p k 0):=by rfl)(ab:own[k]? =some (.a el bc z α R l):=by rfl)(hp:∀x,ht (R x)=true:=by exact fun _=>rfl)(ax:∀w,(R w).length=z:=by exact fun _=>rfl)(al:jV own k .x some=some aZ:=by rfl):aW.ok aC ⟨K,.o p,⟨own,aL,e⟩⟩:=fun H ids st fr a3 ao af=>by
 have:=kQ al;cases this;obtain⟨b,g1,aP⟩:=af.get t _ aV;obtain⟨⟨vs,bd,cu,dh⟩,_⟩:=ao.own k _ b ab g1;have hle:=A3 ao ab rfl g1;refine cn (j3 H st b) ids st fr (a3.j3 ao ab rfl g1) (ao.j3 ab rfl g1) ⟨(af.mono hle (c0.refl _)).pl,fun j q hj=> ?_⟩;rw[sf]at hj;cases hb:Nat.beq t j with
 |false=>rw[hb]at hj;exact(af.mono hle (c0.refl _)).get j q hj
 |true=>
  rw[hb]at hj;cases hj;rw[<-dI hb];have hc:kW H [] R z l vs:=⟨cu,fun i x aa=>oB _ (hp x) (dh i x aa) []⟩;have ay:=LP ax hc;have hl:=hP ay;refine⟨b,0,vs,el,(0,0),bc,aP,by unfold j3;rw[zab rfl];exact bd,?_⟩;rw[zaq,<-hl,zbR];exact mC hle _ (c0.refl _) ay
def Ka{n bV j:Nat}{cn:d8}(k:aW.ok aC ⟨K,.o xs,⟨own,aL,(d,.gk bV 1 j 0)::e⟩⟩)(aa:bM e x=some (.p bV 0):=by rfl)(ae:bM e i=some (.i cn (j:Int)):=by rfl)(hj:j<n:=by omega):aW.ok aC ⟨K,.o (⟨some d,.u0 n 1 x i,none⟩::xs),⟨own,aL,e⟩⟩:=
 hd (fun H ids st fr ao af=>let⟨v,st',bX,a2,I,U,ag,au⟩:=y8 (call:=aC.call) (s:=⟨own,aL,e⟩) (z:=1) aa ae hj H ids st fr ao af;⟨v,st',bX,a2,I,U,apK (by omega) _ _ _ ag,au⟩) k
end
variable{st:ar}{call:bF}{fr:aO}{H:bm}{ids:ac Nat}{bE n:Nat}{a b:du}{dC:aO}{cp:ar}{s:cB}{l r:Nat}{f:co}{xf:cJ}{el:ci}
def plainO:da->Bool
 |.iu _=>true
 |.alloc _ _=>true
 |.call _ _=>true
 |_=>false
def aqV{o:da}{aF:aO}{st':ar}{v:bi}(al:plainO o=true)(h:bG call o fr st= .ok v aF st'):aF=fr:=by
 cases o<;>first|cases al|skip
 ·cases h;rfl
 ·rename_i z el;have e:bG call (.alloc z el) fr st=st.jU (.cells z el (0,0) false) fun id st=>.ok (.pointer (some ⟨id,0,none⟩)) fr st:=rfl;rw[e,gR]at h;cases h;rfl
 ·rename_i f as;rw[rk]at h;cases hc:call (fr.ak f) (dG fr as) none st with
  |ret v1 cp eD=>rw[hc,My]at h;cases h;rfl
  |aQ v1 cp eD=>rw[hc,Mx]at h;cases h
  |no=>rw[hc]at h;cases h
theorem aal{call:bF}:∀{ops:ac bA} {fr aF:aO} {st st':ar} {e:dq},(ops.all fun x=>x.g.isNone&&plainO x.o)=true->fT call ops fr st= .out e aF st'->aF.bW=fr.bW
 |[],_,_,_,_,_,_,h=>by cases h;rfl
 |⟨d,o,g⟩::ops,fr,aF,st,st',e,ha,h=>by
  rw[zdn,b1,b1]at ha;obtain⟨⟨aM,al⟩,ha⟩:=ha;cases g with
  |some p=>cases aM
  |none=>
   have h:sk (bG call o fr st) (fun v fr st=>fT call ops (fr.put d v) st) (fun v st=>cond o.jh (.out (.aQ v) fr st) .no)= .out e aF st':=h;have al:plainO o=true:=al;cases dD:bG call o fr st with
   |ok v dC cp=>
    have az:=aqV al dD;subst az;rw[dD,sl]at h;rw[aal ha h];exact(sq _ _ _).2.2.2
   |aQ v cp=>
    rw[dD,O3]at h;cases hp:o.jh with
    |true=>rw[hp,cond_true]at h;cases h;rfl
    |false=>rw[hp,cond_false]at h;cases h
   |no=>rw[dD,ZQ]at h;cases h
def seg{fn:co}{ops:ac bA}{t:cB}(hp:(ops.all fun x=>x.g.isNone&&plainO x.o)=true)(h:∀H1 i1 s1,i1.length=s.own.length->dm H H1->aW.ok ⟨call,bE,fn,H1,i1,s1,fun x bo=>x= .norm∧bo=t⟩ ⟨[],.o ops,s⟩)
 (ao:Fit H ids st s.own s.n) (af:cU fr H ids s.env):∃aF st' a2 bX,cR call bE fn (.g3 ops) fr st= .out .norm aF st'∧cG H ids st a2 bX st'∧Fit a2 bX st' t.own t.n∧cU aF a2 bX t.env∧aF.bW=fr.bW:=by
 obtain⟨e,aF,st',I,a2,bX,bo,a3,cl,dN,rfl,rfl⟩:=h H ids st (ao.len.trans ao.cr.symm) (dm.refl _) H ids st fr (cG.refl _ _ _) ao af;exact⟨aF,st',a2,bX,I,a3,cl,dN,aal hp I⟩
def Fit.extra{own:ac aY}(h:Fit H ids st own n)(eH:bB):Fit H ids ⟨st.h.set st.ai eH,st.ai+1⟩ own n:=by
 have hne:∀b,b<st.ai->(aq.set st.h st.ai eH).get b=st.h.get b:=fun b hb=>aq.gq _ _ (by omega);refine⟨fun i ae=> ?_,fun b o hb=> ?_,h.cr,h.len,h.g9,fun b hb=>zcT (h.lt b hb),fun k o b ab hb=> ?_⟩
 ·show(aq.set st.h st.ai eH).get i=none;have ae:st.ai+1<=i:=ae;rw[aq.gq _ _ (by omega)];exact h.wf i (by omega)
 ·show(aq.set st.h st.ai eH).get b=some o;rw[hne b (h.aT hb)];exact h.le b o hb
 ·show k4 H ids o ((aq.set st.h st.ai eH).get b)∧_;rw[hne b (h.lt b (zal hb))];exact h.own k o b ab hb
def Fit.other{own:ac aY}(h:Fit H ids st own n)(hl:l<st.ai)(ae:l∉ids)(fc:H l=none)(eH:bB):Fit H ids ⟨st.h.set l eH,st.ai⟩ own n:=by
 refine⟨fun i dE=> ?_,fun b o hb=> ?_,h.cr,h.len,h.g9,h.lt,fun k o b ab hb=> ?_⟩
 ·show(aq.set st.h l eH).get i=none;have dE:st.ai<=i:=dE;rw[aq.gq _ _ (by omega)];exact h.wf i dE
 ·show(aq.set st.h l eH).get b=some o;rw[aq.gq _ _ (fun e=>by rw[e,fc]at hb;cases hb)];exact h.le b o hb
 ·show k4 H ids o ((aq.set st.h l eH).get b)∧_;rw[aq.gq _ _ (by intro e;subst e;exact ae (zal hb))];exact h.own k o b ab hb
def c0.eq{i j:ac Nat}(h:c0 i j)(hl:i.length=j.length):i=j:=by
 apply zbA;intro k;by_cases ab:k<i.length
 ·rw[bg ab,h k _ (bg ab)]
 ·rw[zbq (by omega),zbq (by omega)]
def Ph:ac Tmp->ac aj->bQ->bQ
 |t::ts,a::as,e=>Ph ts as ((t,a)::e)
 |_,_,e=>e
def cU.par{cL:ac Deferred}{aQ:am bi}{eD:Bool}{Kg:am Nat}:∀{ts:ac Tmp} {as:ac aj} {vs:ac bi} {t:aq bi} {e:bQ},c4 H as ids vs->cU ⟨t,cL,aQ,eD,Kg⟩ H ids e->cU ⟨oZ ts vs t,cL,aQ,eD,Kg⟩ H ids (Ph ts as e)
 |[],[],_,_,_,_,h=>h
 |[],_::_,_,_,_,_,h=>h
 |_::_,[],vs,t,e,d,h=>by cases d;exact h
 |p::ts,a::as,_,t,e,⟨v,ws,rfl,d1,d2⟩,h=>by
  have I:=h.put p d1;have az:(⟨t,cL,aQ,eD,Kg⟩:aO).put (some p) v=⟨t.set p v,cL,aQ,eD,Kg⟩:=by
   rw[Pt]
  rw[az]at I;have:=cU.par (ts:=ts) (as:=as) (vs:=ws) d2 I;have e2:oZ (p::ts) (v::ws) t=oZ ts ws (t.set p v):=by
   show aq.jd (Nat.succ p) t p v (fun m=>oZ ts ws m)=_;rw[aq.zQ]
  rw[e2];exact this
def asV(ay:fr.cL=[]){s:LoopState}{gL:am dq}{fn:co}{t:aq bi}{ps:ac Tmp}{d:Nat}(aM:st.h.get l=some (.loop s gL fn t ps a b d)):ru l (.out .norm fr st)= .ret (.bool true) ⟨st.h.set l (.loop .ready none fn t ps a b d),st.ai⟩ false:=by
 have e:ru l (.out .norm fr st)=List.rec (motive:=fun _=>dk) (nw (st.h.get l) (fun _ _ fn t ps a b d=>st.hU l (.loop .ready none fn t ps a b d) fun st=>.ret (.bool true) st false) .no) (fun _ _ _=>.no) fr.cL:=rfl;rw[e,ay,aM];show(st.hU l (.loop .ready none fn t ps a b d) fun st=>dk.ret (.bool true) st false)=_;rw[kR]
def KM{fn:co}{Q:dq->aO->ar->Prop}(h:cR call bE fn a fr st= .out .norm dC cp)(k:W (cR call bE fn b dC cp) Q):W (cR call bE fn (.seq a b) fr st) Q:=by
 rw[yx,h];exact k
def ath{fn:co}{j2:aO}{cc:ar}(h:cR call bE fn a fr st= .out .norm dC cp)(k:cR call bE fn b dC cp= .out .norm j2 cc):cR call bE fn (.seq a b) fr st= .out .norm j2 cc:=by
 rw[yx,h];exact k
def ae9{fn:co}{i:Nat}(h:cR call bE fn a fr st= .out .norm dC cp):cR call bE fn (.block i a) fr st= .out .norm dC cp:=by
 rw[Mh,h];rfl
def cG.other{bT:bm}{i0:ac Nat}{aN:ar}(h:cG bT i0 aN H ids st)(aD:aN.ai<=r)(eH:bB):cG bT i0 aN H ids ⟨st.h.set r eH,st.ai⟩:=⟨h.hle,h.hold,fun b hb ae=>by
 show(aq.set st.h r eH).get b=_;rw[aq.gq _ _ (by omega)];exact h.gh b hb ae,h.ai,h.iY,h.new⟩
def Si{as:ac bi}{Post:bi->ar->Prop}(hl:as.length<=xf.aI)
 (h:W (cR call n f xf.body (er as) st) (fun e fr cp=>(e= .norm∨e= .ret)∧∃v st',ff call xf.res none fr cp= .ret v st' false∧Post v st')):
 ∃v st',hF call n f xf as none st= .ret v st' false∧Post v st':=by
 obtain⟨e,fr,cp,I,he,v,st',U,ag⟩:=h;refine⟨v,st',?_,ag⟩;unfold hF;rw[od,zab (by rw[fe];exact hl)];show ct.rec (motive:=fun _=>dk) _ _ (cR call n f xf.body (er as) st)=_;rw[I];rcases he with rfl|rfl
 ·exact U
 ·exact U
def agT{X:Ctx}{aS:aq cJ}(db:Good X)(gf:lK X aS)(K:co->eE)(aa:aS.get f=some xf){S:Spec}(hl:∀l as st,S.pre l as st->as.length<=xf.aI)
 (h:∀l as st,S.pre l as st->W (cR (bH aS (bO X K) (b0+1)) (b0+1) f xf.body (er as) st)
  (fun e fr cp=>(e= .norm∨e= .ret)∧∃v st',ff (bH aS (bO X K) (b0+1)) xf.res none fr cp= .ret v st' false∧S.post l as st v st')):bD X f S:=by
 intro as st ⟨l,hp⟩;obtain⟨v,st',I,U⟩:=Si (Post:=S.post l as st) (hl l as st hp) (h l as st hp);refine⟨v,st',fun l' fG=> ?_,Qc db gf aa I⟩;obtain⟨v2,cc,g1,aP⟩:=Si (Post:=S.post l' as st) (hl l' as st fG) (h l' as st fG);rw[I]at g1;cases g1;exact aP
def aiE{t:Nat}(ay:fr.cL=[{target:=.collected r,args:= #[]}])(aV:fr.cx=false)(aD:st.h.get r=some (.hG (some []))):ff call [.tmp t] none fr st= .ret (fr.tmp t) ⟨st.h.set r (.hG none),st.ai⟩ false:=by
 have e:jf call fr.cL none st=some (none,⟨st.h.set r (.hG none),st.ai⟩):=by
  rw[ay];simp only[jf,aD];rw[kR]
 unfold ff;rw[e,aV];rfl
def asi{aC:fp}{K:ac eN}{own aZ:ac aY}{aL:Nat}{e:bQ}{p:ac bA}(k:Nat){cs:ac aj}(cs':ac aj)(hl:hA cs cs')(cn:aW.ok aC ⟨K,.o p,⟨aZ,aL,e⟩⟩)(ab:own[k]? =some (.c el cs):=by rfl)(al:jV own k (.c el cs') some=some aZ:=by rfl):aW.ok aC ⟨K,.o p,⟨own,aL,e⟩⟩:=fun H ids st fr a3 ao af=>by
 have:=kQ al;cases this;refine cn H ids st fr a3 ⟨ao.wf,ao.le,by simp[ao.cr],ao.len,ao.g9,ao.lt,?_⟩ af;intro j q c hj hc;by_cases im:k=j
 ·subst im;rw[zaG,zab rfl]at hj;split at hj<;>cases hj;obtain⟨⟨vs,ag,au⟩,b5⟩:=ao.own k _ c ab hc;exact⟨⟨vs,ag,hl.den au⟩,fun _=>b5 rfl⟩
 ·rw[zaG,zaa im]at hj;exact ao.own j q c hj hc
def auv{x:bv}{k z p q:Nat}{α:Type}{R:α->ac aj}{l:ac α}{aK ae:am bv}(aa:bM s.env x=some (.p k 0))(ab:s.own[k]? =some (.a el false z α R l))(gx:fo s aK 0 p)(g0:fo s ae n q)(hp:p<=q)(hq:q<=n):g7 call (.CD n z x aK ae none) s (.a5 k z (if n=p then 0 else p) (q-p) (n-p)) s.own s.n:=ny fun H ids st fr ao af=>by
 obtain⟨b,I,U⟩:=af.ak aa;obtain⟨vs,bd,cu,dh⟩:=qC ao ab I;refine⟨_,⟨b,I,rfl⟩,?_⟩;show B9 n z x aK ae none call fr st=_;unfold B9 ar.gN;rw[U,rC,Sym.eB,Sym.gI,bd,lr,cond_false,Dr,fo.ak g0 af hq,fo.ak gx af hp];congr 2;by_cases n9:n=p
 ·subst n9;rw[kC rfl,zab rfl,zar]
 ·rw[uy n9,qz,zas,zaa n9];rfl
section
variable{aC:fp}{K:ac eN}{own:ac aY}{aL:Nat}{e:bQ}{d:Tmp}{xs:ac bA}{x y:bv}
variable{z:Nat}
def abG{α:Type}{R:α->ac aj}{l:ac α}{neg:Bool}(bl:aW.ok aC ⟨K,.o xs,⟨own,aL,(d,.b neg)::e⟩⟩)(bK:l=[]->aW.ok aC ⟨K,.o xs,⟨own,aL,(d,.b (!neg))::e⟩⟩)(aa:bM e x=some (.bq z α R l):=by rfl)(aJ:bM e y=some .nl:=by rfl):
 aW.ok aC ⟨K,.o (⟨some d,.eqv neg .lD x y,none⟩::xs),⟨own,aL,e⟩⟩:=fun H ids st fr a3 ao af=>by
 have U:fr.ak y= .slice none 0 0:=af.ak aJ;have ag:den H (.bq z α R l) ids (fr.ak x):=af.ak aa;rcases ag with⟨hn,I⟩|⟨b,o,c,vs,el,bk,bc,I,_⟩
 ·have az:bG aC.call (.eqv neg .lD x y) fr st= .ok (.bool (!neg)) fr st:=by
   have e:bG aC.call (.eqv neg .lD x y) fr st=bp (p0 (fr.ak x) (fr.ak y)) (fun b=>.ok (.bool (cond neg (!b) b)) fr st) .no:=rfl;rw[e,I,U];cases neg<;>rfl
  exact rE az (bK hn H ids st _ a3 ao (af.eL (some d) rfl))
 ·have az:bG aC.call (.eqv neg .lD x y) fr st= .ok (.bool neg) fr st:=by
   have e:bG aC.call (.eqv neg .lD x y) fr st=bp (p0 (fr.ak x) (fr.ak y)) (fun b=>.ok (.bool (cond neg (!b) b)) fr st) .no:=rfl;rw[e,I,U];cases neg<;>rfl
  exact rE az (bl H ids st _ a3 ao (af.eL (some d) rfl))
def abE{g j:Nat}{cn:d8}{vs:ac bi}{bk:Nat×Nat}{bc:Bool}{cs:ac aj}(aM:aC.bT g=some (.cells vs el bk bc))(ay:∀H,c4 H cs [] vs)(k:aW.ok aC ⟨K,.o xs,⟨own,aL,(d,.ip (cs.drop (j*z)))::e⟩⟩)(aa:bM e x=some (.v (.pointer (some ⟨g,0,none⟩))):=by rfl)(ae:bM e y=some (.i cn (j:Int)):=by rfl)(hj:j<n:=by omega):aW.ok aC ⟨K,.o (⟨some d,.u0 n z x y,none⟩::xs),⟨own,aL,e⟩⟩:=
 Cp (d:=some d) (aoE (call:=aC.call) (s:=⟨own,aL,e⟩) (z:=z) aa aM ay ae hj) k
end
def afq{X:Ctx}{aS:aq cJ}{bC:co->eE}{g:co}{S:bU}(hc:bD X g S.spec)(c6:bC g=S.spec.K){f:bv}{b9:ac bv}{as bJ cs:ac aj}(l:S.L)(q0:bM s.env f=some (.fn (.func g) bJ cs))(ha:jq s.env b9=some as)(jD:ht (bJ++(as++cs))=true)(he:hA (bJ++(as++cs)) (S.args l))(hp:S.pre l){bT:bm}(hh:S.hp bT):
 vW bT (bH aS (bO X bC) (n+1)) (.call f b9) s (S.res l) s.own s.n:=fun H ids st fr fc ao af=>by
 have uJ:den H (.fn (.func g) bJ cs) ids (fr.ak f):=af.ak q0;obtain⟨vs,ws,aE,d1,d2⟩:=uJ;have ay:=he.den (oB _ jD (AL d1 (AL (af.dG ha) d2)) []);obtain⟨v,st',I,U⟩:=hc _ st ⟨(l,H),hp,S.hm fc hh,ao.less,ay⟩;obtain⟨v1,cp,g1,aP⟩:=Fv (X:=X) (K:=bC) (f:=g) ⟨v,st',by rw[c6];exact I,U⟩;rw[c6]at aP;obtain⟨a2,cl,cg,gF⟩:=aP (l,H) ⟨hp,S.hm fc hh,ao.less,ay⟩;have bd:bH aS (bO X bC) (n+1) (fr.ak f) (dG fr b9) none st= .ret v1 cp false:=by
  rw[aE,pP];have e:fk (⟨vs⟩:be bi).toList (fk (dG fr b9) (⟨ws⟩:be bi).toList)=vs++(dG fr b9++ws):=by simp
  rw[e,g1];rfl
 have hle:dm H a2:=cg.hle;refine⟨v1,cp,ids,a2,?_,?_,uv (dm.refl _) _ (c0.nil _) gF,hle,c0.refl _,?_,cg.ai,fun b hb _=>cg.gh b hb (by simp)⟩
 ·rw[rk];rw[bd];rfl
 ·refine⟨cl.wf,cl.le,ao.cr,ao.len,ao.g9,fun b hb=>fx (ao.lt b hb) cg.ai,fun k o b ab hb=> ?_⟩;obtain⟨ag,au⟩:=ao.own k o b ab hb;have aT:=ao.lt b (zal hb);rw[cg.gh b aT (by simp)];exact⟨rO hle (c0.refl _) ag,fun hl=>by rw[cg.hold b aT (by simp)];exact au hl⟩
 ·intro bT i0 aN B;refine⟨B.hle.trans hle,fun b hb hn=> ?_,fun b hb hn=> ?_,zag B.ai cg.ai,B.iY,B.new⟩
  ·rw[cg.hold b (fx hb B.ai) (by simp)];exact B.hold b hb hn
  ·rw[cg.gh b (fx hb B.ai) (by simp)];exact B.gh b hb hn
section
variable{X:Ctx}{aS:aq cJ}{bC:co->eE}{bE n:Nat}{fn:co}{bT:bm}{i0:ac Nat}{aN:ar}{Q:dq->cB->Prop}{K:ac eN}{own:ac aY}{aL:Nat}{e:bQ}
def Cn{g:co}{S:bU}(hc:bD X g S.spec){f:bv}{b9:ac bv}{as bJ cs:ac aj}{d:Tmp}{xs:ac bA}(l:S.L)(hp:S.pre l)(k:aW.ok ⟨bH aS (bO X bC) (n+1),bE,fn,bT,i0,aN,Q⟩ ⟨K,.o xs,⟨own,aL,(d,S.res l)::e⟩⟩)
 (af:bM e f=some (.fn (.func g) bJ cs):=by rfl) (ha:jq e b9=some as:=by rfl) (he:hA (bJ++(as++cs)) (S.args l):=by exact hA.refl _) (jD:ht (bJ++(as++cs))=true:=by rfl) (c6:bC g=S.spec.K:=by rfl) (hh:S.hp bT:=by exact trivial):
 aW.ok ⟨bH aS (bO X bC) (n+1),bE,fn,bT,i0,aN,Q⟩ ⟨K,.o (⟨some d,.call f b9,none⟩::xs),⟨own,aL,e⟩⟩:=Cp (d:=some d) (s:=⟨own,aL,e⟩) (afq hc c6 l af ha jD he hp hh) k
end
section
variable{aC:fp}{K:ac eN}{own aZ:ac aY}{aL:Nat}{e:bQ}
variable{k:Nat}{cs:ac aj}
def ai1{t:Nat}(aV:ea e t=some (.p k 0))(ab:own[k]? =some (.c el cs))(hp:ht cs=true)
 {H:bm} {ids:ac Nat} {st:ar} {fr:aO} (a3:cG aC.bT aC.i0 aC.aN H ids st) (ao:Fit H ids st own aL) (af:cU fr H ids e):
 ∃a2,cG aC.bT aC.i0 aC.aN a2 ids st∧Fit a2 ids st (own.set k .x) aL∧cU fr a2 ids ((t,.ip cs)::e):=by
 obtain⟨b,g1,aP⟩:=af.get t _ aV;obtain⟨⟨vs,bd,d⟩,_⟩:=ao.own k _ b ab g1;have hle:=A3 ao ab rfl g1;refine⟨j3 H st b,a3.j3 ao ab rfl g1,ao.j3 ab rfl g1,(af.mono hle (c0.refl _)).pl,fun j q hj=> ?_⟩;rw[sf]at hj;cases hb:Nat.beq t j with
 |false=>rw[hb]at hj;exact(af.mono hle (c0.refl _)).get j q hj
 |true=>
  rw[hb]at hj;cases hj;rw[<-dI hb];refine⟨b,0,vs,el,(0,0),_,aP,by unfold j3;rw[zab rfl];exact bd,?_⟩;have hl:=hP d;rw[zaq,zau (by omega)];exact mC hle _ (c0.refl _) (oB _ hp d [])
def P2(t:Nat){p:ac bA}(cn:aW.ok aC ⟨K,.o p,⟨aZ,aL,(t,.ip cs)::e⟩⟩)(aV:ea e t=some (.p k 0):=by rfl)(ab:own[k]? =some (.c el cs):=by rfl)(hp:ht cs=true:=by rfl)(al:jV own k .x some=some aZ:=by rfl):aW.ok aC ⟨K,.o p,⟨own,aL,e⟩⟩:=by
 have I:=kQ al;cases I;exact fun H ids st fr a3 ao af=>let⟨a2,I,U,ag⟩:=ai1 aV ab hp a3 ao af;cn a2 ids st fr I U ag
end
end Go.an
namespace Go.an
open Sym
variable{X:Ctx}
end Go.an
namespace Go.an
open Sym
variable{H:bm}{ids:ac Nat}
def Pq:aj->Bool
 |.i _ _|.b _|.s _=>true
 |_=>false
def ark{a:aj}{v w:bi}(h:Pq a=true)(d:den H a ids v)(hO:den H a ids w):v=w:=by
 cases a with
 |i k n=>have d:v= .int k n:=d;have hO:w= .int k n:=hO;rw[d,hO]
 |b t=>have d:v= .bool t:=d;have hO:w= .bool t:=hO;rw[d,hO]
 |s l=>have d:v= .string ⟨⟨l⟩⟩:=d;have hO:w= .string ⟨⟨l⟩⟩:=hO;rw[d,hO]
 |_=>cases h
theorem aaG{H:bm}{ids:ac Nat}:∀{cs:ac aj} {vs ws:ac bi},cs.all Pq=true->c4 H cs ids vs->c4 H cs ids ws->vs=ws
 |[],_,_,_,d,hO=>Eq.trans (show _=[]from d) (show _=[]from hO).symm
 |c::cs,_,_,h,⟨v,us,e,d1,d2⟩,⟨v',avw,bS,ag4,ag5⟩=>by
  rw[zdn,b1]at h;rw[e,bS,ark h.1 d1 ag4,aaG h.2 d2 ag5]
def AT:Nat->ac aj->Bool
 |_,[]=>true
 |0,.s _::cs=>AT 0 cs
 |i+1,.i _ _::cs=>AT i cs
 |_,_=>false
theorem Mt{H:bm}{ids:ac Nat}:∀{i:Nat} {cs:ac aj} {vs:ac bi},AT i cs=true->c4 H cs ids vs->lN i vs vs=some true
 |i,[],vs,_,d=>by
  have d:vs=[]:=d;subst d;cases i<;>rfl
 |0,.s l::cs,vs,h,⟨v,ws,e,d1,d2⟩=>by
  have d1:v= .string ⟨⟨l⟩⟩:=d1;subst e;subst d1;have ba:=Mt (i:=0) (cs:=cs) h d2;unfold lN;simp only[Hp,DN,beq_self_eq_true,Nat.zero_sub,ba];rfl
 |i+1,.i k n::cs,vs,h,⟨v,ws,e,d1,d2⟩=>by
  have d1:v= .int k n:=d1;subst e;subst d1;have ba:=Mt (i:=i) (cs:=cs) h d2;unfold lN;simp only[Hp,Hr,if_true,beq_self_eq_true,Nat.add_sub_cancel,ba];rfl
 |0,.i _ _::_,_,h,_=>by cases h
 |0,.b _::_,_,h,_=>by cases h
 |0,.nl::_,_,h,_=>by cases h
 |0,.v _::_,_,h,_=>by cases h
 |0,.p _ _::_,_,h,_=>by cases h
 |0,.gk _ _ _ _::_,_,h,_=>by cases h
 |0,.a5 _ _ _ _ _::_,_,h,_=>by cases h
 |0,.bq _ _ _ _::_,_,h,_=>by cases h
 |0,.jT _ _ _ _::_,_,h,_=>by cases h
 |0,.cw _ _ _ _::_,_,h,_=>by cases h
 |0,.ip _::_,_,h,_=>by cases h
 |0,.fn _ _ _::_,_,h,_=>by cases h
 |0,.agg _::_,_,h,_=>by cases h
 |0,.bn _::_,_,h,_=>by cases h
 |0,.bad::_,_,h,_=>by cases h
 |i+1,.s _::_,_,h,_=>by cases h
 |i+1,.b _::_,_,h,_=>by cases h
 |i+1,.nl::_,_,h,_=>by cases h
 |i+1,.v _::_,_,h,_=>by cases h
 |i+1,.p _ _::_,_,h,_=>by cases h
 |i+1,.gk _ _ _ _::_,_,h,_=>by cases h
 |i+1,.a5 _ _ _ _ _::_,_,h,_=>by cases h
 |i+1,.bq _ _ _ _::_,_,h,_=>by cases h
 |i+1,.jT _ _ _ _::_,_,h,_=>by cases h
 |i+1,.cw _ _ _ _::_,_,h,_=>by cases h
 |i+1,.ip _::_,_,h,_=>by cases h
 |i+1,.fn _ _ _::_,_,h,_=>by cases h
 |i+1,.agg _::_,_,h,_=>by cases h
 |i+1,.bn _::_,_,h,_=>by cases h
 |i+1,.bad::_,_,h,_=>by cases h
theorem Me:∀{i:Nat} {cs:ac aj},AT i cs=true->cs.all Pq=true
 |_,[],_=>rfl
 |0,c::cs,h=>by cases c<;>first|(cases h;done)|exact Me (i:=0) (cs:=cs) h
 |i+1,c::cs,h=>by cases c<;>first|(cases h;done)|exact Me (i:=i) (cs:=cs) h
def aid{call:bF}{fr:aO}{e:bQ}{x y:bv}{neg:Bool}{n:Nat}{cs:ac aj}(af:cU fr H ids e)(aa:bM e x=some (.agg cs))(aJ:bM e y=some (.agg cs))(al:AT (n%100) cs=true)(hl:cs.length=n%100+n/100)(st:ar):
 bG call (.ext (.rR neg n x y)) fr st= .ok (.bool (l8 neg true)) fr st:=by
 obtain⟨vs,I,d1⟩:=af.ak aa;obtain⟨ws,U,d2⟩:=af.ak aJ;have e:=aaG (Me al) d1 d2;subst e;have hlen:=hP d1;show sH (fr.ak x) (fun xs=>sH (fr.ak y) (fun aw=>dQ (dd xs.toList) (Nat.add (Nat.mod n 100) (Nat.div n 100)) (dQ (dd aw.toList) (Nat.add (Nat.mod n 100) (Nat.div n 100)) (bp (lN (Nat.mod n 100) xs.toList aw.toList) (fun b=>a1.ok (.bool (cond neg (!b) b)) fr st) .no) .no) .no) .no) .no=_;rw[I,U];show dQ (dd vs) _ (dQ (dd vs) _ (bp (lN (Nat.mod n 100) vs vs) _ _) _) _=_;rw[fe,kC (show vs.length=Nat.add (Nat.mod n 100) (Nat.div n 100) by rw[hlen];exact hl),kC (show vs.length=Nat.add (Nat.mod n 100) (Nat.div n 100) by rw[hlen];exact hl),show lN (Nat.mod n 100) vs vs=some true from Mt al d1];rfl
section
variable{aC:fp}{K:ac eN}{own aZ bN eo:ac aY}{aL bj ck back:Nat}{e a6:bQ}{d:Tmp}{ts:ac Tmp}{xs:ac bA}{aw:ac (bA×cD)}{x y:bv}
variable{z j q m:Nat}{el:ci}{bc:Bool}{α:Type}{a:aj}{ds:ac aj}{R:α->ac aj}{l:ac α}{w:α}
def ag7{neg:Bool}{n:Nat}{cs:ac aj}(k:aW.ok aC ⟨K,.d aw bN ((d,.b (l8 neg true))::a6) bj ck,⟨own,aL,(d,.b (l8 neg true))::e⟩⟩)(aa:bM (fJ ts a6) x=some (.agg cs):=by rfl)(aJ:bM (fJ ts a6) y=some (.agg cs):=by rfl)(al:AT (n%100) cs=true:=by rfl)(hl:cs.length=n%100+n/100:=by rfl)(hb:back<bj:=by decide):
 aW.ok aC ⟨K,.d ((⟨some d,.ext (.rR neg n x y),none⟩,.read back ts)::aw) bN a6 bj ck,⟨own,aL,e⟩⟩:=
 sV (d:=some d) (a:=.b (l8 neg true)) hb (fun H ids st fr af _ _=>⟨.bool (l8 neg true),rfl,fun cc _ _=>aid af aa aJ al hl cc⟩) k
def abL{bV:Nat}(w':α)(hj:l[j]? =some w)(k:aW.ok aC ⟨K,.o xs,⟨aZ,aL,e⟩⟩)(aa:bM e x=some (.gk bV z j q):=by rfl)(aJ:bM e y=some a:=by rfl)(ab:own[bV]? =some (.a el bc z α R l):=by rfl)(hc:sR a=some ds:=by rfl)(hl:ds.length=m:=by rfl)(dJ:qI ds=true:=by rfl)
 (cZ:R w'=(R w).take q++(ds++(R w).drop (q+ds.length)):=by rfl) (al:jV own bV (.a el bc z α R (l.set j w')) some=some aZ:=by rfl) (ax:q+m<=z:=by decide):aW.ok aC ⟨K,.o (⟨none,.store m x y,none⟩::xs),⟨own,aL,e⟩⟩:=by
 have h:=kQ al;cases h;exact abH (Qv (s:=⟨own,aL,e⟩) w' aa aJ hc hl dJ ab hj cZ ax) k
def S8{bV:Nat}(w':α)(hj:l[j]? =some w)(k:aW.ok aC ⟨K,.d aw eo a6 (bj+1) aL,⟨aZ,aL,e⟩⟩)(aa:bM e x=some (.gk bV z j q):=by rfl)(aJ:bM e y=some a:=by rfl)(ab:own[bV]? =some (.a el bc z α R l):=by rfl)(hc:sR a=some ds:=by rfl)(hl:ds.length=m:=by rfl)(dJ:qI ds=true:=by rfl)
 (cZ:R w'=(R w).take q++(ds++(R w).drop (q+ds.length)):=by rfl) (al:jV own bV (.a el bc z α R (l.set j w')) some=some aZ:=by rfl) (mf:Jr bN (some bV) some=some eo:=by rfl) (ax:q+m<=z:=by decide):aW.ok aC ⟨K,.d ((⟨none,.store m x y,none⟩,.dY)::aw) bN a6 bj ck,⟨own,aL,e⟩⟩:=by
 have h:=kQ al;cases h;obtain⟨Pf,g1,aP,bd⟩:=aaq mf;cases g1;exact yn (d:=none) (s:=⟨own,aL,e⟩) (Qv (s:=⟨own,aL,e⟩) w' aa aJ hc hl dJ ab hj cZ ax) aP (fun k o fF hl=>by
  have:=bd k o fF hl;simp only[jb,aa];exact this)
  k
variable{c:bf}
variable{P:Prop}{b:Bool}{ay:Decidable P}
def v1(t:Nat)(h:P)(k:aW.ok aC ⟨K,c,⟨own,aL,(t,.b true)::e⟩⟩)(hl:ea e t=some (.b (decide P)):=by rfl)(hc:c.w9=false:=by rfl):aW.ok aC ⟨K,c,⟨own,aL,e⟩⟩:=aB t (.b true) hl (by rw[zae h]) k hc
def v0(t:Nat)(h:¬P)(k:aW.ok aC ⟨K,c,⟨own,aL,(t,.b false)::e⟩⟩)(hl:ea e t=some (.b (decide P)):=by rfl)(hc:c.w9=false:=by rfl):aW.ok aC ⟨K,c,⟨own,aL,e⟩⟩:=aB t (.b false) hl (by rw[zad h]) k hc
def lG(t:Nat){a:Bool}(h:a=b)(k:aW.ok aC ⟨K,c,⟨own,aL,(t,.b b)::e⟩⟩)(hl:ea e t=some (.b a):=by rfl)(hc:c.w9=false:=by rfl):aW.ok aC ⟨K,c,⟨own,aL,e⟩⟩:=aB t (.b b) hl (by rw[h]) k hc
def eY(t:Nat){a:Int}(b:Int)(k:aW.ok aC ⟨K,c,⟨own,aL,(t,.i .i64 b)::e⟩⟩)(hl:ea e t=some (.i .i64 (IntKind.i64.wrap a)):=by rfl)(h:a=b:=by omega)(I: -9223372036854775808<=a:=by omega)(U:a<9223372036854775808:=by omega)(hc:c.w9=false:=by rfl):aW.ok aC ⟨K,c,⟨own,aL,e⟩⟩:=aB t (.i .i64 b) hl (cX h I U) k hc
def dT(t:Nat)(h:P)(k:aW.ok aC ⟨K,.d aw bN ((t,.b true)::a6) bj ck,⟨own,aL,(t,.b true)::e⟩⟩)(hl:ea e t=some (.b (decide P)):=by rfl)(h0:ea a6 t=some (.b (decide P)):=by rfl):aW.ok aC ⟨K,.d aw bN a6 bj ck,⟨own,aL,e⟩⟩:=eU t (.b true) hl h0 (by rw[zae h]) k
def fi(t:Nat)(h:¬P)(k:aW.ok aC ⟨K,.d aw bN ((t,.b false)::a6) bj ck,⟨own,aL,(t,.b false)::e⟩⟩)(hl:ea e t=some (.b (decide P)):=by rfl)(h0:ea a6 t=some (.b (decide P)):=by rfl):aW.ok aC ⟨K,.d aw bN a6 bj ck,⟨own,aL,e⟩⟩:=eU t (.b false) hl h0 (by rw[zad h]) k
def CQ(t:Nat){a:Bool}(h:a=b)(k:aW.ok aC ⟨K,.d aw bN ((t,.b b)::a6) bj ck,⟨own,aL,(t,.b b)::e⟩⟩)(hl:ea e t=some (.b a):=by rfl)(h0:ea a6 t=some (.b a):=by rfl):aW.ok aC ⟨K,.d aw bN a6 bj ck,⟨own,aL,e⟩⟩:=eU t (.b b) hl h0 (by rw[h]) k
def ww(t:Nat){a:Int}(b:Int)(k:aW.ok aC ⟨K,.d aw bN ((t,.i .i64 b)::a6) bj ck,⟨own,aL,(t,.i .i64 b)::e⟩⟩)(hl:ea e t=some (.i .i64 (IntKind.i64.wrap a)):=by rfl)(h:a=b:=by omega)(I: -9223372036854775808<=a:=by omega)(U:a<9223372036854775808:=by omega)(h0:ea a6 t=some (.i .i64 (IntKind.i64.wrap a)):=by rfl):aW.ok aC ⟨K,.d aw bN a6 bj ck,⟨own,aL,e⟩⟩:=eU t (.i .i64 b) hl h0 (cX h I U) k
end
end Go.an
namespace Go.an
open Sym
variable{X:Ctx}
structure vV where
 L:Type
 args:L->ac aj
 pre:L->Prop
 new:L->ac aY
 res:L->aj
 hp:bm->Prop:=fun _=>True
 hm:∀{H a2:bm},dm H a2->hp H->hp a2:=by exact fun _ _=>trivial
def vV.spec(S:vV):Spec where
 L:=S.L×bm
 pre:=fun l vs st=>S.pre l.1∧S.hp l.2∧Fit l.2 [] st [] 0∧c4 l.2 (S.args l.1) [] vs
 post:=fun l vs st v st'=>∃a2 ids,Fit a2 ids st' (S.new l.1) (S.new l.1).length∧cG l.2 [] st a2 ids st'∧den a2 (S.res l.1) ids v
def Q6(S:vV)(l:S.L)(res:ac hB)(x:dq)(s:cB):Prop:=(x= .norm∨x= .ret)∧∃f r,Fin.ry s res=some r∧r=lZ f (S.res l)∧Sub 0 f s ⟨S.new l,(S.new l).length,[]⟩
variable{S:vV}
def agX{aS:aq cJ}(db:Good X)(gf:lK X aS)(bC:co->eE){f:co}{xf:cJ}(aa:aS.get f=some xf)(hl:∀l,(S.args l).length<=xf.aI)
 (h:∀l,S.pre l->∀H aN,S.hp H->aW.ok ⟨bH aS (bO X bC) (b0+1),b0+1,f,H,[],aN,Q6 S l xf.res⟩ ⟨[],.c xf.body,⟨[],0,jB 0 (S.args l)⟩⟩):bD X f S.spec:=by
 refine LY db gf bC aa (fun l vs st ⟨_,_,_,d⟩=>by rw[hP d];exact hl l.1) ?_;rintro⟨l,H⟩ vs st ⟨hp,hh,ao,d⟩;refine(h l hp H st hh H [] st (er vs) (cG.refl _ _ _) ao (cU.zero d)).mono ?_;rintro x fr st' ⟨a2,ids,s,a3,cl,af,aa,g,r,I,U,ah⟩;obtain⟨v,ag,au⟩:=zP (call:=bH aS (bO X bC) (b0+1)) cl af I;subst U;have dP:Sub ([]:ac Nat).length g s ⟨S.new l,(S.new l).length,[]⟩:=ah;have cg:cG H [] st a2 ids st':=a3;exact⟨aa,v,au,a2,pick g ids,ah.fit cl,dP.bh cl cg,Hh g _ ag⟩
def vG(n m:Nat):ac Nat:=(List.range m).map (n+·)
def afu{aS:aq cJ}{bC:co->eE}{g:co}(hc:bD X g S.spec)(c6:bC g=S.spec.K){s:cB}{b9:ac bv}{as:ac aj}{n:Nat}(l:S.L)(ha:jq s.env b9=some as)(jD:ht as=true)(he:hA as (S.args l))(hp:S.pre l){bT:bm}(hh:S.hp bT){new':ac aY}{f:ac Nat}
 (q0:f=vG s.n (S.new l).length) (hn:∀(i:Nat) (a8:aY),new'[i]? =some a8->∃o,(S.new l)[i]? =some o∧qx f o a8) (n7:new'.length=(S.new l).length):
 vW bT (bH aS (bO X bC) (n+1)) (.call (.func g) b9) s (lZ f (S.res l)) (s.own++new') (s.n+new'.length):=fun H ids st fr fc ao af=>by
 have ay:=he.den (oB _ jD (af.dG ha) []);obtain⟨v,st',I,U⟩:=hc _ st ⟨(l,H),hp,S.hm fc hh,ao.less,ay⟩;obtain⟨v1,cp,g1,aP⟩:=Fv (X:=X) (K:=bC) (f:=g) ⟨v,st',by rw[c6];exact I,U⟩;rw[c6]at aP;obtain⟨a2,vk,cl,cg,gF⟩:=aP (l,H) ⟨hp,S.hm fc hh,ao.less,ay⟩;simp only at cl cg gF;have bd:bH aS (bO X bC) (n+1) (.func (.func g) #[] #[]) (dG fr b9) none st= .ret v1 cp false:=by
  rw[pP];have e:fk (#[]:be bi).toList (fk (dG fr b9) (#[]:be bi).toList)=dG fr b9:=by simp
  rw[e,g1];rfl
 have hle:dm H a2:=cg.hle;have mS:∀b∈vk,st.ai<=b:=fun b hb=>(cg.new b hb).elim (fun h=>by simp at h) id;have XU:pick f (ids++vk)=vk:=by
  apply zbA;intro i;subst q0;have hlen:(vG s.n (S.new l).length).length=(S.new l).length:=by simp[vG]
  by_cases ae:i<(S.new l).length
  ·have a0:(vG s.n (S.new l).length)[i]? =some (s.n+i):=by simp[vG,ae]
   have b5:i<vk.length:=by rw[cl.len];exact ae
   have cY:(ids++vk)[s.n+i]? =some vk[i]:=by
    rw[zav (by rw[ao.len];omega),ao.len,zec,bg b5]
   rw[rl a0 cY,bg b5]
  ·rw[zbq (by simp[pick,hlen];omega),zbq (by rw[cl.len];omega)]
 have aT:∀k m:Nat,f[k]? =some m->m<(ids++vk).length:=fun k m ab=>by
  subst q0;have a0:=(zac.1 ab).1;have b5:k<(S.new l).length:=by simpa[vG]using a0
  have cY:(vG s.n (S.new l).length)[k]? =some (s.n+k):=by simp[vG,b5]
  rw[cY]at ab;cases ab;rw[zap,ao.len,cl.len];omega
 have lz:den a2 (lZ f (S.res l)) (ids++vk) v1:=L0 aT _ (by rw[XU];exact gF);refine⟨v1,cp,ids++vk,a2,?_,?_,lz,hle,c0.app _ _,?_,cg.ai,fun b hb _=>cg.gh b hb (by simp)⟩
 ·rw[rk];show ma (bH aS (bO X bC) (n+1) (.func (.func g) #[] #[]) (dG fr b9) none st) _ _=_;rw[bd];rfl
 ·refine⟨cl.wf,cl.le,by rw[zap,ao.cr],by rw[zap,ao.len,cl.len,n7],?_,fun b hb=> ?_,fun k o b ab hb=> ?_⟩
  ·rw[zdY];exact⟨ao.g9,cl.g9,fun a ha b hb e=>by have:=ao.lt a ha;have:=mS b hb;omega⟩
  ·rcases zbl.1 hb with h|h
   ·exact fx (ao.lt b h) cg.ai
   ·exact cl.lt b h
  ·by_cases s9:k<s.own.length
   ·rw[zaD s9]at ab;rw[zaD (by rw[ao.len,<-ao.cr];exact s9)]at hb;obtain⟨ag,au⟩:=ao.own k o b ab hb;have Es:=ao.lt b (zal hb);rw[cg.gh b Es (by simp)];exact⟨rO hle (c0.app _ _) ag,fun hl=>by rw[cg.hold b Es (by simp)];exact au hl⟩
   ·rw[zav (by omega)]at ab;rw[zav (by rw[ao.len,<-ao.cr];omega),ao.len,<-ao.cr]at hb;obtain⟨gS,Nx,qa⟩:=hn _ o ab;obtain⟨ag,au⟩:=cl.own _ gS b Nx hb;rw[<-XU]at ag;obtain⟨a0,b5⟩:=qa.den aT ag;exact⟨a0,fun hl=>au (by rw[<-b5];exact hl)⟩
 ·intro bT i0 aN B;refine⟨B.hle.trans hle,fun b hb hn=> ?_,fun b hb hn=> ?_,zag B.ai cg.ai,fun k b ab=>c0.app _ _ k b (B.iY k b ab),fun b hb=> ?_⟩
  ·rw[cg.hold b (fx hb B.ai) (by simp)];exact B.hold b hb hn
  ·rw[cg.gh b (fx hb B.ai) (by simp)];exact B.gh b hb hn
  ·rcases zbl.1 hb with h|h
   ·exact B.new b h
   ·exact .inr (zag B.ai (mS b h))
section
variable{aS:aq cJ}{bC:co->eE}{bE n:Nat}{fn:co}{bT:bm}{i0:ac Nat}{aN:ar}{Q:dq->cB->Prop}{K:ac eN}{own:ac aY}{aL:Nat}{e:bQ}{g:co}{S:vV}
variable{o a8:aY}
def Zo{l:ac aY}{f:ac Nat}(h:l=[o])(hb:qx f o a8):(∀(i:Nat) (q:aY),[a8][i]? =some q->∃p,l[i]? =some p∧qx f p q)∧[a8].length=l.length:=by
 subst h;refine⟨fun i q hq=> ?_,rfl⟩;cases i with
 |zero=>cases hq;exact⟨_,rfl,hb⟩
 |succ i=>simp at hq
def abB(hc:bD X g S.spec){b9:ac bv}{as:ac aj}{d:Tmp}{xs:ac bA}(l:S.L)(hp:S.pre l)(k:aW.ok ⟨bH aS (bO X bC) (n+1),bE,fn,bT,i0,aN,Q⟩ ⟨K,.o xs,⟨own++[a8],aL+1,(d,lZ [aL] (S.res l))::e⟩⟩)
 (Nv:S.new l=[o]:=by rfl) (hb:qx [aL] o a8:=by exact⟨rfl,fun _=>rfl⟩) (ha:jq e b9=some as:=by rfl) (he:hA as (S.args l):=by exact hA.refl _) (jD:ht as=true:=by rfl) (c6:bC g=S.spec.K:=by rfl) (hh:S.hp bT:=by exact trivial):
 aW.ok ⟨bH aS (bO X bC) (n+1),bE,fn,bT,i0,aN,Q⟩ ⟨K,.o (⟨some d,.call (.func g) b9,none⟩::xs),⟨own,aL,e⟩⟩:=
 Cp (d:=some d) (s:=⟨own,aL,e⟩) (afu hc c6 l ha jD he hp hh (new':=[a8]) (f:=[aL]) (by rw[Nv];simp[vG]) (Zo Nv hb).1 (Zo Nv hb).2) k
end
def gH{p:Prop}(h:p):¬¬p:=fun k=>k h
def IQ{k z qv n c:Nat}:b7 (.a5 k z 0 n c) (.a5 k qv 0 n c):=fun H ids v ⟨b,I,U⟩=>⟨b,I,by rw[U,zar,zar]⟩
mutual
def Mv(k z n:Nat)(b:aj):aj->aj
 |.a5 k' qv o ch c=>match Nat.beq k k'&&(Nat.beq z qv&&(Nat.beq 0 o&&(Nat.beq n ch&&Nat.beq n c)))with
  |true=>b
  |false=>.a5 k' qv o ch c
 |.agg cs=>.agg (wI k z n b cs)
 |.bn cs=>.bn (wI k z n b cs)
 |.fn f bJ cs=>.fn f bJ cs
 |.p k o=>.p k o
 |.gk k z j o=>.gk k z j o
 |.i k n=>.i k n
 |.b t=>.b t
 |.s l=>.s l
 |.nl=>.nl
 |.v x=>.v x
 |.bq z α R l=>.bq z α R l
 |.jT z α R l=>.jT z α R l
 |.cw z α R l=>.cw z α R l
 |.ip cs=>.ip cs
 |.bad=>.bad
def wI(k z n:Nat)(b:aj):ac aj->ac aj
 |[]=>[]
 |a::as=>Mv k z n b a::wI k z n b as
end
mutual
theorem aiV{H:bm}{ids:ac Nat}{k z n:Nat}{b:aj}(hb:∀v,den H (.a5 k z 0 n n) ids v->den H b ids v):∀(a:aj) {v:bi},den H a ids v->den H (Mv k z n b a) ids v
 |.a5 k' qv o ch c,v,d=>by
  unfold Mv;split
  ·rename_i h;simp only[b1]at h;obtain⟨I,U,ag,au,a0⟩:=h;have:=dI I;have:=dI U;have:=dI ag;have:=dI au;have:=dI a0
   subst_vars
   exact hb v d
  ·exact d
 |.agg cs,_,⟨vs,e,d⟩=>⟨vs,e,HF hb cs d⟩
 |.bn cs,_,⟨vs,e,d⟩=>⟨vs,e,HF hb cs d⟩
 |.fn _ _ _,_,d=>d
 |.p _ _,_,d=>d
 |.gk _ _ _ _,_,d=>d
 |.i _ _,_,d=>d
 |.b _,_,d=>d
 |.s _,_,d=>d
 |.nl,_,d=>d
 |.v _,_,d=>d
 |.bq _ _ _ _,_,d=>d
 |.jT _ _ _ _,_,d=>d
 |.cw _ _ _ _,_,d=>d
 |.ip _,_,d=>d
 |.bad,_,d=>d
theorem HF{H:bm}{ids:ac Nat}{k z n:Nat}{b:aj}(hb:∀v,den H (.a5 k z 0 n n) ids v->den H b ids v):∀(a:ac aj) {v:ac bi},c4 H a ids v->c4 H (wI k z n b a) ids v
 |[],_,d=>d
 |a::as,_,⟨v,ws,e,d1,d2⟩=>⟨v,ws,e,aiV hb a d1,HF hb as d2⟩
end
end Go.an
namespace Go.an
open Sym
section
variable{call:bF}{s:cB}{x y:bv}
def Fit.apV{H:bm}{ids:ac Nat}{st:ar}{own:ac aY}{n:Nat}(ao:Fit H ids st own n)(k:Nat):Fit H ids st (own.set k .x) n:=by
 refine⟨ao.wf,ao.le,by rw[zbv];exact ao.cr,ao.len,ao.g9,ao.lt,fun j o c hj hc=> ?_⟩;rw[zaG]at hj;by_cases im:k=j
 ·rw[zab im]at hj;split at hj<;>cases hj;exact⟨trivial,fun h=>by cases h⟩
 ·rw[zaa im]at hj;exact ao.own j o c hj hc
def aeu{a4 qv cH k:Nat}{el:ci}{α:Type}{R:α->ac aj}{m:ac α}(aa:bM s.env x=some (.a5 k qv 0 0 0))(ab:s.own[k]? =some (.c el []))(ah:vY call el cH s y R a4 m)(h0:m≠[])(ax:∀w,(R w).length=a4)(hb:(5*m.length+1792)*(cH+1)<=1125899906842624):
 g7 call (.app el a4 cH x y) s (.a5 s.n a4 0 m.length m.length) (s.own.set k .x++[.a el true a4 α R m]) (s.n+1):=fun H ids st fr ao af=>by
 obtain⟨b,g1,aP⟩:=af.ak aa;rw[zar]at aP;have r2:=(zac.1 ab).1;have lP:Fit H ids st (s.own.set k (.a el false a4 α R [])) s.n:=Lq [] ab rfl ax ao;have wW:(s.own.set k (.a el false a4 α R []))[k]? =some (.a el false a4 α R []):=List.getElem?_set_self r2;obtain⟨vs,bd,cu,dh⟩:=qC (s:=⟨s.own.set k (.a el false a4 α R []),s.n,s.env⟩) lP wW g1;obtain⟨new,I,U,ag⟩:=ah H ids st fr ao af x _ _ _ aP;have hl:0<m.length:=zbi.2 h0;have lO:=Dx (dm.refl H) (c0.app ids [st.ai]) I;have e6:=(ao.apV k).add (eH:=.cells new el (0,0) true) (o:=.a el true a4 α R m) ⟨_,rfl,lO.1,lO.2⟩;refine⟨.slice (some ⟨st.ai,0,none⟩) m.length m.length,_,_,H,?_,e6,⟨st.ai,by rw[<-ao.len,zav (cf _)];simp,by rw[zar]⟩,dm.refl _,c0.app _ _,fun _ _ _ B=>B.add _,zaZ _,fun b hb _=>zx hb⟩;rw[ag];unfold k5 ar.gN;simp only[zcv,zcw,Sym.eB,Sym.gI,bd,lr,zar];rw[gi (show(5*(0+m.length)+1792)*Nat.succ cH<=2^50 by rw[zas];exact hb),gi (cf _),gi (cf _),gi (by rw[fe,cu];simp),kC rfl,uy (by omega),cond_false,YL (by omega),qM (by simp),gR,qB,zaq,List.take_zero,List.nil_append,zas]
end
section
variable{aC:fp}{K:ac eN}{own aZ bN:ac aY}{aL bj ck:Nat}{e a6:bQ}{d:Tmp}{xs:ac (bA×cD)}{x y:bv}
def S5{ch:Nat}{eo:ac aY}{a4 qv cH k:Nat}{el:ci}{α:Type}(R:α->ac aj)(m:ac α)(ah:nS ⟨own,aL,e⟩ y R a4 m)(cn:aW.ok aC ⟨K,.d xs bN (mF d a6) (bj+1) ch,⟨aZ,ch,(d,.a5 aL a4 0 m.length m.length)::e⟩⟩)(aa:bM e x=some (.a5 k qv 0 0 0):=by rfl)(ab:own[k]? =some (.c el []):=by rfl)(hne:m≠[])
 (mf:jV own k .x some=some eo:=by rfl) (al:qp eo (.a el true a4 α R m) some=some aZ:=by rfl) (lB:og aL some=some ch:=by rfl) (h0:bN[k]? =none:=by rfl) (ax:∀w,(R w).length=a4:=by exact fun _=>rfl) (hb:(5*m.length+1792)*(cH+1)<=1125899906842624:=by omega):
 aW.ok aC ⟨K,.d ((⟨some d,.app el a4 cH x y,none⟩,.dY)::xs) bN a6 bj ck,⟨own,aL,e⟩⟩:=by
 have I:=kQ mf;cases I;have U:=rz al;cases U;have ag:=pz lB;cases ag;refine yn (d:=some d) (s:=⟨own,aL,e⟩) (aeu aa ab (sP ah) hne ax hb) rfl (fun j a8 hj _=>⟨hj,fun hm=> ?_⟩) cn;have:jb e (.app el a4 cH x y)=some k∨jb e (.app el a4 cH x y)=none:=by
  unfold jb;dsimp only;rw[aa];exact .inl rfl
 rcases this with h|h<;>rw[h]at hm<;>cases hm;rw[h0]at hj;cases hj
end
section
variable{aC:fp}{K:ac eN}{own aZ eo:ac aY}{aL:Nat}{e:bQ}
def FN(j k:Nat){z:Nat}{el AQ:ci}{bc:Bool}{α:Type}{R:α->ac aj}{l:ac α}{cs cs':ac aj}{p:ac bA}(cn:aW.ok aC ⟨K,.o p,⟨aZ,aL,e⟩⟩)(hj:own[j]? =some (.c AQ cs):=by rfl)(ab:own[k]? =some (.a el bc z α R l):=by rfl)(ha:wI k z l.length (.bq z α R l) cs=cs':=by rfl)(hp:∀x,ht (R x)=true:=by exact fun _=>rfl)
 (im:j≠k:=by decide) (mf:jV own k .x some=some eo:=by rfl) (al:jV eo j (.c AQ cs') some=some aZ:=by rfl):aW.ok aC ⟨K,.o p,⟨own,aL,e⟩⟩:=fun H ids st fr a3 ao af=>by
 have I:=kQ mf;cases I;have U:=kQ al;cases U;have r2:k<ids.length:=by rw[ao.len,<-ao.cr];exact(zac.1 ab).1
 obtain⟨b,g1⟩:∃b,ids[k]? =some b:=⟨_,bg r2⟩;obtain⟨⟨vs,bd,cu,dh⟩,_⟩:=ao.own k _ b ab g1;have hle:=A3 ao ab rfl g1;have pb:=ao.j3 ab rfl g1;refine cn (j3 H st b) ids st fr (a3.j3 ao ab rfl g1) ⟨pb.wf,pb.le,by rw[zbv];exact pb.cr,pb.len,pb.g9,pb.lt,fun i o c ae hc=> ?_⟩ (af.mono hle (c0.refl _));rw[zaG]at ae;by_cases mP:j=i
 ·subst mP;rw[zab rfl]at ae;split at ae<;>cases ae;have np:(own.set k .x)[j]? =some (.c AQ cs):=by rw[zaG,zaa (fun h=>im h.symm)];exact hj
  obtain⟨⟨ws,cO,cS⟩,et⟩:=pb.own j _ c np hc;refine⟨⟨ws,cO,?_⟩,fun _=>et rfl⟩;rw[<-ha];refine HF (fun v aE=> ?_) cs cS;obtain⟨eR,g2,kO⟩:=aE;rw[g1]at g2;cases g2;refine .inr ⟨b,0*z,l.length,vs,el,(0,0),bc,kO,zaO _,by unfold j3;rw[zab rfl];exact bd,fun i x aa=> ?_⟩;rw[zar,zas];exact mC hle _ (c0.refl _) (oB _ (hp x) (dh _ x aa) [])
 ·rw[zaa mP]at ae;exact pb.own i o c ae hc
end
section
variable{aC:fp}{K:ac eN}
def uq(t:Nat){a:aj}(b:aj){own bN:ac aY}{aL bj ck:Nat}{e a6:bQ}{l:ac (bA×cD)}(h:ea e t=some a)(h0:ea a6 t=some a)(fM:b7 a b)(cn:aW.ok aC ⟨K,.d l bN ((t,b)::a6) bj ck,⟨own,aL,(t,b)::e⟩⟩):aW.ok aC ⟨K,.d l bN a6 bj ck,⟨own,aL,e⟩⟩:=
 fun cQ gu H ids st fr fj ah a3 ao aG cv=>cn cQ gu H ids st fr fj ah a3 ao (oT h fM aG) ⟨cv.len,cv.hle,(oT (fr:=fr) h0 fM ⟨aG.pl,cv.er⟩).get,cv.qk,cv.xk,cv.bN,cv.old,cv.top⟩
end
set_option maxRecDepth 10000
inductive x4 where
 |ret (a:aj)
 |aQ (v:Value)
structure PP where
 L:Type
 args:L->ac aj
 pre:L->Prop
 out:L->x4
 hp:bm->Prop:=fun _=>True
 hm:∀{H a2:bm},dm H a2->hp H->hp a2:=by exact fun _ _=>trivial
def PP.spec(S:PP):C4 where
 L:=S.L×bm
 pre:=fun l vs st=>S.pre l.1∧S.hp l.2∧Fit l.2 [] st [] 0∧c4 l.2 (S.args l.1) [] vs
 post:=fun l vs st v st'=>∃a a2,S.out l.1= .ret a∧Fit a2 [] st' [] 0∧cG l.2 [] st a2 [] st'∧den a2 a [] v
 Cd:=fun l vs st v st'=>∃a2,S.out l.1= .aQ v∧Fit a2 [] st' [] 0∧cG l.2 [] st a2 [] st'
def Gw(S:PP)(l:S.L)(res:ac hB)(x:dq)(s:cB):Prop:=
 ((x= .norm∨x= .ret)∧∃r a,Fin.ry s res=some r∧oY r=true∧S.out l= .ret a∧b7 r a)∨∃v,x= .aQ v∧S.out l= .aQ v
variable{S:PP}{s:cB}{v:bi}{l:S.L}
def DV{res:ac hB}{r a:aj}{e:dq}(I:Fin.ry s res=some r)(U:oY r=true)(ag:S.out l= .ret a)(au:b7 r a)(he:e= .ret∨e= .norm:=by first|exact .inl rfl|exact .inr rfl):Gw S l res e s:=.inl ⟨he.symm,r,a,I,U,ag,au⟩
def p2{res:ac hB}(h:S.out l= .aQ v):Gw S l res (.aQ v) s:=.inr ⟨v,rfl,h⟩
def DU{call:bF}{res:ac hB}{fr:aO}{st:ar}(hp:vX fr):ff call res (some v) fr st= .aQ v st false:=by
 unfold ff;rw[hp.cL,hp.cx];simp only[jf];rfl
section
variable{X:Ctx}{aS:aq cJ}{bC:co->eE}
def agY(db:Good X)(gf:lK X aS)(bC:co->eE){f:co}{xf:cJ}(aa:aS.get f=some xf)(hl:∀l,(S.args l).length<=xf.aI)
 (h:∀l,S.pre l->∀H aN,S.hp H->aW.ok ⟨bH aS (bO X bC) (b0+1),b0+1,f,H,[],aN,Gw S l xf.res⟩ ⟨[],.c xf.body,⟨[],0,jB 0 (S.args l)⟩⟩):ou X f S.spec:=by
 refine agU db gf bC aa (fun l vs st ⟨_,_,_,d⟩=>by rw[hP d];exact hl l.1) ?_;rintro⟨l,H⟩ vs st ⟨hp,hh,ao,d⟩;refine(h l hp H st hh H [] st (er vs) (cG.refl _ _ _) ao (cU.zero d)).mono ?_;rintro x fr st' ⟨a2,ids,s,a3,cl,af,aa⟩;rcases aa with⟨aa,r,a,I,U,al,hle⟩|⟨v,rfl,al⟩
 ·obtain⟨v,ag,au⟩:=zP (call:=bH aS (bO X bC) (b0+1)) cl af I;exact .inl ⟨aa,v,au,a,a2,al,cl.less,a3.less,hle _ _ _ (AK _ U ag _)⟩
 ·exact .inr ⟨v,rfl,DU af.pl,a2,al,cl.less,a3.less⟩
def TP{H a2:bm}{ids:ac Nat}{st st':ar}{own:ac aY}{n:Nat}(ao:Fit H ids st own n)(cl:Fit a2 [] st' [] 0)(cg:cG H [] st a2 [] st'):
 Fit a2 ids st' own n∧∀bT i0 aN,cG bT i0 aN H ids st->cG bT i0 aN a2 ids st':=by
 have hle:dm H a2:=cg.hle;refine⟨⟨cl.wf,cl.le,ao.cr,ao.len,ao.g9,fun b hb=>fx (ao.lt b hb) cg.ai,fun k o b ab hb=> ?_⟩,fun bT i0 aN B=>⟨B.hle.trans hle,fun b hb hn=> ?_,fun b hb hn=> ?_,zag B.ai cg.ai,B.iY,B.new⟩⟩
 ·obtain⟨ag,au⟩:=ao.own k o b ab hb;have aT:=ao.lt b (zal hb);rw[cg.gh b aT (by simp)];exact⟨rO hle (c0.refl _) ag,fun hl=>by rw[cg.hold b aT (by simp)];exact au hl⟩
 ·rw[cg.hold b (fx hb B.ai) (by simp)];exact B.hold b hb hn
 ·rw[cg.gh b (fx hb B.ai) (by simp)];exact B.gh b hb hn
def K3(bT:bm)(call:bF)(o:da)(s:cB)(v:bi):Prop:=
 ∀(H:bm) (ids:ac Nat) (st:ar) (fr:aO),dm bT H->Fit H ids st s.own s.n->cU fr H ids s.env->
  ∃st' a2,bG call o fr st= .aQ v st'∧Fit a2 ids st' s.own s.n∧dm H a2∧∀bT i0 aN,cG bT i0 aN H ids st->cG bT i0 aN a2 ids st'
variable{g:co}{b9:ac bv}{as:ac aj}{n:Nat}{bT:bm}
def St(hc:ou X g S.spec)(c6:bC g=S.spec.K)(l:S.L)(ha:jq s.env b9=some as)(jD:ht as=true)(he:hA as (S.args l))(hp:S.pre l)(hh:S.hp bT)
 {H:bm} {ids:ac Nat} {st:ar} {fr:aO} (fc:dm bT H) (ao:Fit H ids st s.own s.n) (af:cU fr H ids s.env):
 ∃v st' a2,Fit a2 [] st' [] 0∧cG H [] st a2 [] st'∧((∃a,S.out l= .ret a∧den a2 a [] v∧bG (bH aS (bO X bC) (n+1)) (.call (.func g) b9) fr st= .ok v fr st')∨(S.out l= .aQ v∧bG (bH aS (bO X bC) (n+1)) (.call (.func g) b9) fr st= .aQ v st')):=by
 have ay:=he.den (oB _ jD (af.dG ha) []);have kH:S.spec.pre (l,H) (dG fr b9) st:=⟨hp,S.hm fc hh,ao.less,ay⟩;have yO:=aq8 (X:=X) (K:=bC) (f:=g) (as:=dG fr b9) (st:=st) (by rw[c6];exact hc _ st ⟨(l,H),kH⟩);rw[c6]at yO;have e:fk (#[]:be bi).toList (fk (dG fr b9) (#[]:be bi).toList)=dG fr b9:=by simp
 rcases yO with⟨v1,cp,g1,aP⟩|⟨v1,cp,g1,aP⟩
 ·obtain⟨a,a2,al,cl,cg,gF⟩:=aP (l,H) kH;have bd:bH aS (bO X bC) (n+1) (.func (.func g) #[] #[]) (dG fr b9) none st= .ret v1 cp false:=by
   rw[pP,e,g1];rfl
  refine⟨v1,cp,a2,cl,cg,.inl ⟨a,al,gF,?_⟩⟩;rw[rk];show ma (bH aS (bO X bC) (n+1) (.func (.func g) #[] #[]) (dG fr b9) none st) _ _=_;rw[bd];rfl
 ·obtain⟨a2,al,cl,cg⟩:=aP (l,H) kH;have bd:bH aS (bO X bC) (n+1) (.func (.func g) #[] #[]) (dG fr b9) none st= .aQ v1 cp false:=by
   rw[pP,e,g1];rfl
  refine⟨v1,cp,a2,cl,cg,.inr ⟨al,?_⟩⟩;rw[rk];show ma (bH aS (bO X bC) (n+1) (.func (.func g) #[] #[]) (dG fr b9) none st) _ _=_;rw[bd];rfl
def Su(hc:ou X g S.spec)(c6:bC g=S.spec.K)(l:S.L)(ha:jq s.env b9=some as)(jD:ht as=true)(he:hA as (S.args l))(hp:S.pre l)(hh:S.hp bT){a:aj}(al:S.out l= .ret a):
 vW bT (bH aS (bO X bC) (n+1)) (.call (.func g) b9) s a s.own s.n:=fun H ids st fr fc ao af=>by
 obtain⟨v,st',a2,cl,cg,h⟩:=St (n:=n) hc c6 l ha jD he hp hh fc ao af;rcases h with⟨a',hk,gF,gv⟩|⟨hk,_⟩
 ·rw[al]at hk;cases hk;obtain⟨I,U⟩:=TP ao cl cg;exact⟨v,st',ids,a2,gv,I,uv (dm.refl _) _ (c0.nil _) gF,cg.hle,c0.refl _,U,cg.ai,fun b hb _=>cg.gh b hb (by simp)⟩
 ·rw[al]at hk;cases hk
def Sv(hc:ou X g S.spec)(c6:bC g=S.spec.K)(l:S.L)(ha:jq s.env b9=some as)(jD:ht as=true)(he:hA as (S.args l))(hp:S.pre l)(hh:S.hp bT)(al:S.out l= .aQ v):
 K3 bT (bH aS (bO X bC) (n+1)) (.call (.func g) b9) s v:=fun H ids st fr fc ao af=>by
 obtain⟨v',st',a2,cl,cg,h⟩:=St (n:=n) hc c6 l ha jD he hp hh fc ao af;rcases h with⟨a',hk,gF,gv⟩|⟨hk,gv⟩
 ·rw[al]at hk;cases hk
 ·rw[al]at hk;cases hk;obtain⟨I,U⟩:=TP ao cl cg;exact⟨st',a2,gv,I,cg.hle,U⟩
end
section
variable{aC:fp}{K:ac eN}{s:cB}
variable{xs:ac bA}{d:am Tmp}{x:bv}{t:ci}{aL:Nat}{e:bQ}
def abI{o:da}(h:K3 aC.bT aC.call o s v)(hc:o.jh=true)(k:aW.ok aC ⟨K,.x (.aQ v),s⟩):aW.ok aC ⟨K,.o (⟨d,o,none⟩::xs),s⟩:=by
 intro H ids st fr a3 ao af;obtain⟨st',a2,I,U,ag,au⟩:=h H ids st fr a3.hle ao af;refine⟨.aQ v,fr,st',?_,a2,ids,s,au _ _ _ a3,U,af.mono ag (c0.refl _),k⟩;show sk (bG aC.call o fr st) _ (fun v st=>cond o.jh (.out (.aQ v) fr st) .no)=_;rw[I];show cond o.jh _ _=_;rw[hc];rfl
def ast{w:bi}{own:ac aY}(k:aW.ok aC ⟨K,.x (.aQ (.iface t w)),⟨own,aL,e⟩⟩)(aa:bM e x=some (.v (.iface t w)):=by rfl):aW.ok aC ⟨K,.o (⟨d,.oX x,none⟩::xs),⟨own,aL,e⟩⟩:=
 abI (fun H ids st fr fc ao af=>by
  have I:fr.ak x= .iface t w:=af.ak aa;refine⟨st,H,?_,ao,dm.refl _,fun _ _ _ B=>B⟩;show xV (fr.ak x) (fun t v=>a1.aQ (.iface t v) st) .no=_;rw[I];rfl) rfl k
def ahm{H:bm}{ids:ac Nat}{k:d8}{c:Int}(h:den H (.agg [.i k c]) ids v):v= .agg ⟨[.int k c]⟩:=by
 obtain⟨vs,rfl,u,us,rfl,I,U⟩:=h;cases I;cases U;rfl
def asq{d:Tmp}{a:aj}{own:ac aY}(w:bi)(k:aW.ok aC ⟨K,.o xs,⟨own,aL,(d,.v (.iface t w))::e⟩⟩)(aa:bM e x=some a:=by rfl)(hw:∀H ids v,den H a ids v->v=w:=by exact fun _ _ _=>ahm):aW.ok aC ⟨K,.o (⟨some d,.E7 t x,none⟩::xs),⟨own,aL,e⟩⟩:=fun H ids st fr a3 ao af=>
 rE (v:=.iface t (fr.ak x)) rfl (k H ids st _ a3 ao (af.eL (some d) (show Value.iface t (fr.ak x)= .iface t w by rw[hw H ids _ (af.ak aa)])))
end
def DT(ms:ac Nat)(n:Nat):Nat->ac (bA×cD)->am (ac (bA×cD))
 |_,[]=>some []
 |p,(x,c)::l=>match DT ms n (p+1) l with
  |none=>none
  |some l'=>match Nat.testBit (ms.getD p 0) n with
   |true=>match c with
    |.dY=>some ((⟨x.d,.iu (.const undef),none⟩,.dY)::l')
    |_=>some ((⟨x.d,.iu (.const undef),none⟩,.read 0 [])::l')
   |false=>match c with
    |.dY=>none
    |c=>some ((x,c)::l')
def adS{T:aO}{g:am (Tmp×Bool)}{a b:ct}{a' eR:Bool}{e:dq}{f:aO}{s:ar}(h:gC T g a b .no= .out e f s)(ha:a= .out e f s->a'=true)(hb:b= .out e f s->eR=true):gC T g a' eR false=true:=by
 unfold gC at h⊢;cases g with
 |none=>exact ha h
 |some p=>
  rw[Sym.eB]at h⊢;cases aE:T.tmp p.1<;>rw[aE]at h<;>first|(cases h;done)|skip
  ·rename_i c;show cond c (cond p.2 a' eR) (cond p.2 eR a')=true;have h:cond c (cond p.2 a b) (cond p.2 b a)=_:=h;cases c<;>cases hp:p.2<;>rw[hp]at h<;>first|exact ha h|exact hb h
  ·exact hb h
theorem SD{call:bF}{cQ:sK}{ms:ac Nat}{n:Nat}:∀{l l':ac (bA×cD)} {p:Nat} {ah:ac (aq bB)} {fr:aO} {st:ar} {nk:aO} {bo:ar},DT ms n p l=some l'->ga call cQ l' ah fr st= .out .norm nk bo->kg call ms n l p ah fr st=true
 |[],_,_,_,_,_,_,_,_,_=>rfl
 |(x,c)::l,l',p,ah,fr,st,nk,bo,af,h=>by
  unfold DT at af;split at af
  ·cases af
  rename_i fO I;have ba:∀{ah:ac (aq bB)} {fr:aO} {st:ar},ga call cQ fO ah fr st= .out .norm nk bo->kg call ms n l (p+1) ah fr st=true:=fun h=>SD I h;have a6:kg call ms n ((x,c)::l) p ah fr st=cond (Nat.testBit (ms.getD p 0) n)
   (cD.rec (motive:=fun _=>Bool) (kg call ms n l (Nat.succ p) (st.h::ah) (fr.put x.d undef) st) (fun _=>kg call ms n l (Nat.succ p) ah (fr.put x.d undef) st) (fun _ _=>kg call ms n l (Nat.succ p) ah (fr.put x.d undef) st) c)
   (cD.rec (motive:=fun _=>Bool) false
    (fun ts=>kp fr.t ts fun t=>gC ⟨t,[],none,false,none⟩ x.g
     (a1.rec (motive:=fun _=>Bool) (fun v _ st'=>kg call ms n l (Nat.succ p) ah (fr.put x.d v) st') (fun _ _=>false) false (bG call x.o ⟨t,[],none,false,none⟩ st))
     (kg call ms n l (Nat.succ p) ah (fr.put x.d undef) st) false)
    (fun back ts=>kp fr.t ts fun t=>gC ⟨t,[],none,false,none⟩ x.g
     (a1.rec (motive:=fun _=>Bool) (fun v _ _=>cond (sameAt call x.o ⟨t,[],none,false,none⟩ v st.ai (Nat.succ back) ah) (kg call ms n l (Nat.succ p) ah (fr.put x.d v) st) false) (fun _ _=>false) false (bG call x.o ⟨t,[],none,false,none⟩ st))
     (kg call ms n l (Nat.succ p) ah (fr.put x.d undef) st) false)
    c):=rfl
  rw[a6];split at af
  ·rename_i hb;rw[hb];split at af
   ·cases af;have h:eh st.ai st.ai (ga call cQ fO (st.h::ah) (aO.put ⟨fr.t,fr.cL,fr.aQ,fr.cx,fr.bW⟩ x.d undef) st) .no=_:=h;rw[gi (zaO _)]at h;exact ba h
   ·rename_i hc;cases af;have h:cond (sameAt call (.iu (.const undef)) ⟨.nil,[],none,false,none⟩ undef st.ai (Nat.succ 0) ah) (ga call cQ fO ah (fr.put x.d undef) st) .no=_:=h;cases dP:sameAt call (.iu (.const undef)) ⟨.nil,[],none,false,none⟩ undef st.ai (Nat.succ 0) ah with
    |false=>rw[dP]at h;cases h
    |true=>
     rw[dP]at h;cases c with
     |dY=>exact absurd rfl hc
     |hZ ts=>exact ba h
     |read b ts=>exact ba h
  ·rename_i hb;rw[hb];split at af
   ·cases af
   ·rename_i hc;cases af;cases c with
    |dY=>exact absurd rfl hc
    |hZ ts=>
     have h:kp fr.t ts (fun t=>gC ⟨t,[],none,false,none⟩ x.g
      (a1.rec (motive:=fun _=>ct) (fun v _ st'=>ga call cQ fO ah (fr.put x.d v) st') (fun _ _=>.no) .no (bG call x.o ⟨t,[],none,false,none⟩ st))
      (ga call cQ fO ah (fr.put x.d undef) st) .no)=_:=h
     show kp fr.t ts _=true;rw[pC]at h⊢;refine adS h (fun h=> ?_) (fun h=>ba h);generalize bG call x.o _ st=r at h⊢;cases r with
     |ok v f2 s2=>exact ba h
     |aQ v s2=>cases h
     |no=>cases h
    |read back ts=>
     have h:kp fr.t ts (fun t=>gC ⟨t,[],none,false,none⟩ x.g
      (a1.rec (motive:=fun _=>ct) (fun v _ _=>cond (sameAt call x.o ⟨t,[],none,false,none⟩ v st.ai (Nat.succ back) ah) (ga call cQ fO ah (fr.put x.d v) st) .no) (fun _ _=>.no) .no (bG call x.o ⟨t,[],none,false,none⟩ st))
      (ga call cQ fO ah (fr.put x.d undef) st) .no)=_:=h
     show kp fr.t ts _=true;rw[pC]at h⊢;refine adS h (fun h=> ?_) (fun h=>ba h);generalize bG call x.o _ st=r at h⊢;cases r with
     |ok v f2 s2=>
      show cond (sameAt call x.o _ v st.ai (Nat.succ back) ah) _ false=true;have h:cond (sameAt call x.o _ v st.ai (Nat.succ back) ah) (ga call cQ fO ah (fr.put x.d v) st) .no=_:=h;cases dP:sameAt call x.o _ v st.ai (Nat.succ back) ah with
      |false=>rw[dP]at h;cases h
      |true=>rw[dP]at h;exact ba h
     |aQ v s2=>cases h
     |no=>cases h
def Rd(x:dq)(_:cB):Prop:=x= .norm
section
variable{aC:fp}{K:ac eN}{s:cB}
def aha{d:am Tmp}{o:da}{l l':ac (bA×cD)}{bN:ac aY}{a6:bQ}{bj ck m:Nat}{ms:ac Nat}(h:K3 aC.bT aC.call o s v)(hc:o.jh=true)(af:DT ms (m-(dd l+1)) (m-dd l) l=some l')
 (cn:aW.ok ⟨aC.call,aC.bE,aC.fn,aC.bT,aC.i0,aC.aN,Rd⟩ ⟨[],.d l' bN (uw d a6) (bj+1) s.n,⟨s.own,s.n,eL d (.bn []) s.env⟩⟩) (k:aW.ok aC ⟨K,.x (.aQ v),s⟩):hY aC (.sY ms m::K) (.d ((⟨d,o,none⟩,.dY)::l) bN a6 bj ck) s:=by
 intro cQ gu H ids st fr fj ah a3 ao dN cv;have gu:cQ=qK aC.call ms m:=gu;obtain⟨st',a2,I,U,ag,au⟩:=h H ids st fr a3.hle ao dN;have e7:=cn (qK aC.call ms m) trivial H ids st (fr.put d undef) fj (st.h::ah) a3 ao (dN.eL d ⟨[],rfl,rfl⟩) ⟨by simp[cv.len],cv.hle,yp cv.er d _,cv.qk,by rw[ao.len];exact cf _,fun k o b ab hl hb=>by
  obtain⟨I,U⟩:=cv.bN k o b ab hl hb;refine⟨I,fun h hm=> ?_⟩;rcases zah.1 hm with rfl|hm
  ·rfl
  ·exact U h hm,fun h hm=>by
  rcases zah.1 hm with rfl|hm
  ·exact fun b o hb=>ao.le _ _ (cv.hle _ _ hb)
  ·exact cv.old h hm,fun h hm=>by
  simp at hm;subst hm;exact⟨ao.le,fun _ _ _ _=>rfl⟩⟩
 obtain⟨x,f1,s1,g1,H1,i1,t1,_,_,_,aP⟩:=e7;have aP:x= .norm:=aP;subst aP;have bd:=SD af g1;refine⟨.aQ v,fr,st',?_,a2,ids,s,au _ _ _ a3,U,dN.mono ag (c0.refl _),k⟩;show a1.rec (motive:=fun _=>ct) (fun v aF st'=>eh st.ai st'.ai (ga aC.call cQ l (st'.h::ah) (aO.put ⟨fr.t,aF.cL,aF.aQ,aF.cx,aF.bW⟩ d v) st') .no) (fun v st'=>cond o.jh (cond (cQ l (st.h::ah) (fr.put d undef) st) (.out (.aQ v) fr st') .no) .no) .no (bG aC.call o fr st)=_;rw[I,gu];show cond (α:=ct) o.jh (cond (kg aC.call ms (Nat.sub m (Nat.succ (dd l))) l (Nat.sub m (dd l)) (st.h::ah) (fr.put d undef) st) (ct.out (.aQ v) fr st') ct.no) ct.no=_;have bd:kg aC.call ms (Nat.sub m (Nat.succ (dd l))) l (Nat.sub m (dd l)) (st.h::ah) (fr.put d undef) st=true:=bd;rw[bd,hc];rfl
end
section
variable{X:Ctx}{aS:aq cJ}{bC:co->eE}{bE n:Nat}{fn:co}{bT:bm}{i0:ac Nat}{aN:ar}{Q:dq->cB->Prop}{K:ac eN}{own:ac aY}{aL:Nat}{e:bQ}
variable{g:co}{b9:ac bv}{as:ac aj}{d:am Tmp}{xs:ac bA}{bN:ac aY}{a6:bQ}{ck:Nat}
def xE(hc:ou X g S.spec)(l:S.L)(hp:S.pre l)(a:aj)(al:S.out l= .ret a)(k:aW.ok ⟨bH aS (bO X bC) (n+1),bE,fn,bT,i0,aN,Q⟩ ⟨K,.o xs,⟨own,aL,eL d a e⟩⟩)
 (ha:jq e b9=some as:=by rfl) (he:hA as (S.args l):=by exact hA.refl _) (jD:ht as=true:=by rfl) (c6:bC g=S.spec.K:=by rfl) (hh:S.hp bT:=by exact trivial):
 aW.ok ⟨bH aS (bO X bC) (n+1),bE,fn,bT,i0,aN,Q⟩ ⟨K,.o (⟨d,.call (.func g) b9,none⟩::xs),⟨own,aL,e⟩⟩:=Cp (d:=d) (s:=⟨own,aL,e⟩) (Su hc c6 l ha jD he hp hh al) k
def tN(hc:ou X g S.spec)(l:S.L)(hp:S.pre l)(v:bi)(al:S.out l= .aQ v)(Og:aW.ok ⟨bH aS (bO X bC) (n+1),bE,fn,bT,i0,aN,Q⟩ ⟨K,.x (.aQ v),⟨own,aL,e⟩⟩)
 (ha:jq e b9=some as:=by rfl) (he:hA as (S.args l):=by exact hA.refl _) (jD:ht as=true:=by rfl) (c6:bC g=S.spec.K:=by rfl) (hh:S.hp bT:=by exact trivial):
 aW.ok ⟨bH aS (bO X bC) (n+1),bE,fn,bT,i0,aN,Q⟩ ⟨K,.o (⟨d,.call (.func g) b9,none⟩::xs),⟨own,aL,e⟩⟩:=abI (s:=⟨own,aL,e⟩) (Sv hc c6 l ha jD he hp hh al) rfl Og
def lM(hc:ou X g S.spec){d:Tmp}{xs:ac (bA×cD)}{bj:Nat}(l:S.L)(hp:S.pre l)(a:aj)(al:S.out l= .ret a)
 (k:aW.ok ⟨bH aS (bO X bC) (n+1),bE,fn,bT,i0,aN,Q⟩ ⟨K,.d xs bN (mF d a6) (bj+1) aL,⟨own,aL,(d,a)::e⟩⟩)
 (ha:jq e b9=some as:=by rfl) (he:hA as (S.args l):=by exact hA.refl _) (jD:ht as=true:=by rfl) (c6:bC g=S.spec.K:=by rfl) (hh:S.hp bT:=by exact trivial):
 aW.ok ⟨bH aS (bO X bC) (n+1),bE,fn,bT,i0,aN,Q⟩ ⟨K,.d ((⟨some d,.call (.func g) b9,none⟩,.dY)::xs) bN a6 bj ck,⟨own,aL,e⟩⟩:=
 LZ (d:=some d) (s:=⟨own,aL,e⟩) (Su hc c6 l ha jD he hp hh al) rfl (fun _ _ ab _=>⟨ab,by simp[jb]⟩) k
def ij(hc:ou X g S.spec){d:Tmp}{xs l':ac (bA×cD)}{bj m:Nat}{ms:ac Nat}(l:S.L)(hp:S.pre l)(v:bi)(al:S.out l= .aQ v)
 (Og:aW.ok ⟨bH aS (bO X bC) (n+1),bE,fn,bT,i0,aN,Q⟩ ⟨K,.x (.aQ v),⟨own,aL,e⟩⟩)
 (af:DT ms (m-(dd xs+1)) (m-dd xs) xs=some l':=by rfl)
 (ha:jq e b9=some as:=by rfl) (he:hA as (S.args l):=by exact hA.refl _) (jD:ht as=true:=by rfl) (c6:bC g=S.spec.K:=by rfl) (hh:S.hp bT:=by exact trivial)
 (cn:aW.ok ⟨bH aS (bO X bC) (n+1),bE,fn,bT,i0,aN,Rd⟩ ⟨[],.d l' bN (mF d a6) (bj+1) aL,⟨own,aL,(d,.bn [])::e⟩⟩:=by(repeat refine F7 rfl ?_);exact c8 rfl):
 aW.ok ⟨bH aS (bO X bC) (n+1),bE,fn,bT,i0,aN,Q⟩ ⟨.sY ms m::K,.d ((⟨some d,.call (.func g) b9,none⟩,.dY)::xs) bN a6 bj ck,⟨own,aL,e⟩⟩:=
 aha (d:=some d) (s:=⟨own,aL,e⟩) (Sv hc c6 l ha jD he hp hh al) rfl af cn Og
end
def zg(g1 t:Nat):cJ:=⟨6,[.cell 2 false 1],.seq (.g3 [⟨some 2,.alloc [.int .i64 0] t,none⟩]) (.seq (.g3 [⟨some 3,.sh (.func g1) [] [.tmp 2],none⟩,⟨none,.pX (.tmp 3) [],none⟩]) (.seq (.g3 [⟨some 4,.iu (.tmp 0),none⟩,⟨some 5,.call (.tmp 4) [],none⟩]) (.seq (.g3 [⟨none,.store 1 (.tmp 2) (.const (.int .i64 0)),none⟩]) .ret)))⟩
def xF(ts:Nat):cJ:=⟨12,[],.seq (.g3 [⟨some 4,.vy,none⟩]) (.block 0 (.seq (.g3 [⟨some 6,.eqv false .xi (.tmp 4) (.const .nilIface),none⟩]) (.cond (.tmp 6) (.g3 [⟨some 1,.iu (.tmp 4),none⟩]) (.seq (.g3 [⟨some 7,.Gb ts (.agg #[.int .i64 0]) true (.tmp 4),none⟩,⟨some 8,.rT (.tmp 7) 1,none⟩,⟨some 9,.rT (.tmp 7) 0,none⟩]) (.cond (.tmp 8) (.seq (.g3 [⟨some 2,.alloc [.int .i64 0] ts,none⟩,⟨none,.store 1 (.tmp 2) (.tmp 9),none⟩]) (.g3 [⟨some 10,.qS 0 (.tmp 2),none⟩,⟨some 11,.jr (.tmp 10),none⟩,⟨none,.store 1 (.tmp 0) (.tmp 11),none⟩])) (.seq (.g3 [⟨some 3,.iu (.tmp 4),none⟩]) (.g3 [⟨some 5,.iu (.tmp 3),none⟩,⟨none,.oX (.tmp 5),none⟩])))))))⟩
section
variable{call:bF}{fr:aO}{st:ar}
variable{el:ci}{x:bv}
def TF{z:ac bi}:bG call (.alloc z el) fr st= .ok (.pointer (some ⟨st.ai,0,none⟩)) fr ⟨st.h.set st.ai (.cells z el (0,0) false),st.ai+1⟩:=by
 show st.jU (.cells z el (0,0) false) (fun id st=>a1.ok (.pointer (some ⟨id,0,none⟩)) fr st)=_;rw[gR]
def Ml{y:bv}{id:Nat}{old:bi}(h:fr.ak x= .pointer (some ⟨id,0,none⟩))(aE:ih (fr.ak y)=[v])(hp:hD [v]=true)(al:st.h.get id=some (.cells [old] el (0,0) false)):
 bG call (.store 1 x y) fr st= .ok undef fr ⟨st.h.set id (.cells [v] el (0,0) false),st.ai⟩:=by
 have:bG call (.store 1 x y) fr st=iM (fr.ak x) (fun p=>bp p (fun a=>dQ (dd (ih (fr.ak y))) 1 (cond (hD (ih (fr.ak y))) (st.store a (ih (fr.ak y)) (fun st=>a1.ok undef fr st) .no) .no) .no) .no) .no:=rfl;rw[this,h,aE,rC,Sym.eB,fe,kC (show[v].length=1 from rfl),hp,cond_true];unfold ar.store ar.gN;rw[Sym.gI,al,lr,gi (cf _),rn,zab (by simp),kR];rfl
def aip{id:Nat}(h:fr.ak x= .pointer (some ⟨id,0,none⟩))(al:st.h.get id=some (.cells [v] el (0,0) false)):bG call (.jr x) fr st= .ok v fr st:=by
 rw[O8,h,rC,Sym.eB];unfold ar.load ar.gN;rw[Sym.gI,al,lr,qM (by simp)];rfl
end
variable{n:Nat}{st:ar}{call:bF}{f b t:Nat}{H:bm}{ids:ac Nat}
def asH{ts:Nat}:hF call n f (xF ts) [.pointer (some ⟨b,0,none⟩)] none st= .ret (.tuple #[]) st false:=rfl
def asI{ts:Nat}{c:Int}(hb:st.h.get b=some (.cells [.int .i64 0] t (0,0) false))(aT:b<st.ai):
 hF call n f (xF ts) [.pointer (some ⟨b,0,none⟩)] (some (.iface ts (.agg #[.int .i64 c]))) st=
  .ret (.tuple #[]) ⟨((st.h.set st.ai (.cells [.int .i64 0] ts (0,0) false)).set st.ai (.cells [.int .i64 c] ts (0,0) false)).set b (.cells [.int .i64 c] t (0,0) false),st.ai+1⟩ true:=by
 let er:aO:=⟨l7 [.pointer (some ⟨b,0,none⟩)] 0 .nil,[],some (.iface ts (.agg #[.int .i64 c])),true,none⟩
 let f1:=(((er.put (some 4) (.iface ts (.agg #[.int .i64 c]))).put (some 6) (.bool false)).put (some 7) (.tuple #[.agg #[.int .i64 c],.bool true])).put (some 8) (.bool true)
 let dC:=f1.put (some 9) (.agg #[.int .i64 c])
 have az:cR call n f (xF ts).body ⟨l7 [.pointer (some ⟨b,0,none⟩)] 0 .nil,[],some (.iface ts (.agg #[.int .i64 c])),false,none⟩ st=
  qG 0 (G6 (dC.ak (.tmp 8)) (l0 (fT call [⟨some 2,.alloc [.int .i64 0] ts,none⟩,⟨none,.store 1 (.tmp 2) (.tmp 9),none⟩] dC st) (cR call n f (.g3 [⟨some 10,.qS 0 (.tmp 2),none⟩,⟨some 11,.jr (.tmp 10),none⟩,⟨none,.store 1 (.tmp 0) (.tmp 11),none⟩]))) (cR call n f (.seq (.g3 [⟨some 3,.iu (.tmp 4),none⟩]) (.g3 [⟨some 5,.iu (.tmp 3),none⟩,⟨none,.oX (.tmp 5),none⟩])) dC st)):=by
  have Md:dQ ts ts (a1.ok (.tuple #[.agg #[.int .i64 c],.bool true]) ((er.put (some 4) (.iface ts (.agg #[.int .i64 c]))).put (some 6) (.bool false)) st) (a1.ok (.tuple #[.agg #[.int .i64 0],.bool false]) ((er.put (some 4) (.iface ts (.agg #[.int .i64 c]))).put (some 6) (.bool false)) st)=a1.ok (.tuple #[.agg #[.int .i64 c],.bool true]) ((er.put (some 4) (.iface ts (.agg #[.int .i64 c]))).put (some 6) (.bool false)) st:=kC rfl _ _;show qG 0 (l0 (sk (dQ ts ts (a1.ok (.tuple #[.agg #[.int .i64 c],.bool true]) ((er.put (some 4) (.iface ts (.agg #[.int .i64 c]))).put (some 6) (.bool false)) st) (a1.ok (.tuple #[.agg #[.int .i64 0],.bool false]) ((er.put (some 4) (.iface ts (.agg #[.int .i64 c]))).put (some 6) (.bool false)) st)) (fun v fr st=>fT call [⟨some 8,.rT (.tmp 7) 1,none⟩,⟨some 9,.rT (.tmp 7) 0,none⟩] (fr.put (some 7) v) st) (fun v st=>.no)) _)=_;rw[Md];rfl
 have eW:fT call [⟨some 2,.alloc [.int .i64 0] ts,none⟩,⟨none,.store 1 (.tmp 2) (.tmp 9),none⟩] dC st= .out .norm (dC.put (some 2) (.pointer (some ⟨st.ai,0,none⟩))) ⟨(st.h.set st.ai (.cells [.int .i64 0] ts (0,0) false)).set st.ai (.cells [.int .i64 c] ts (0,0) false),st.ai+1⟩:=by
  rw[rS,TF,sl,rS,Ml (id:=st.ai) (old:=.int .i64 0) (v:=.int .i64 c) (el:=ts) rfl rfl rfl (aq.oF _ _ _),sl];rfl
 have hne:b≠st.ai:=by omega
 have eQ:fT call [⟨some 10,.qS 0 (.tmp 2),none⟩,⟨some 11,.jr (.tmp 10),none⟩,⟨none,.store 1 (.tmp 0) (.tmp 11),none⟩] (dC.put (some 2) (.pointer (some ⟨st.ai,0,none⟩))) ⟨(st.h.set st.ai (.cells [.int .i64 0] ts (0,0) false)).set st.ai (.cells [.int .i64 c] ts (0,0) false),st.ai+1⟩=
  .out .norm (((dC.put (some 2) (.pointer (some ⟨st.ai,0,none⟩))).put (some 10) (.pointer (some ⟨st.ai,0,none⟩))).put (some 11) (.int .i64 c)) ⟨((st.h.set st.ai (.cells [.int .i64 0] ts (0,0) false)).set st.ai (.cells [.int .i64 c] ts (0,0) false)).set b (.cells [.int .i64 c] t (0,0) false),st.ai+1⟩:=by
  rw[rS];show fT call [⟨some 11,.jr (.tmp 10),none⟩,⟨none,.store 1 (.tmp 0) (.tmp 11),none⟩] ((dC.put (some 2) (.pointer (some ⟨st.ai,0,none⟩))).put (some 10) (.pointer (some ⟨st.ai,0,none⟩))) _=_;rw[rS,aip (id:=st.ai) (v:=.int .i64 c) (el:=ts) rfl (aq.oF _ _ _),sl,rS,Ml (id:=b) (old:=.int .i64 0) (v:=.int .i64 c) (el:=t) rfl rfl rfl (by
   show(aq.set _ st.ai _).get b=_;rw[aq.gq _ _ hne,aq.gq _ _ hne];exact hb),sl]
  rfl
 have e2:hF call n f (xF ts) [.pointer (some ⟨b,0,none⟩)] (some (.iface ts (.agg #[.int .i64 c]))) st=ct.rec (motive:=fun _=>dk) (fun e fr st=>dq.rec (motive:=fun _=>dk) (ff call [] none fr st) (fun _=>.no) (ff call [] none fr st) (fun v=>ff call [] (some v) fr st) e) .no (cR call n f (xF ts).body ⟨l7 [.pointer (some ⟨b,0,none⟩)] 0 .nil,[],some (.iface ts (.agg #[.int .i64 c])),false,none⟩ st):=rfl;have b8:G6 (dC.ak (.tmp 8)) (l0 (fT call [⟨some 2,.alloc [.int .i64 0] ts,none⟩,⟨none,.store 1 (.tmp 2) (.tmp 9),none⟩] dC st) (cR call n f (.g3 [⟨some 10,.qS 0 (.tmp 2),none⟩,⟨some 11,.jr (.tmp 10),none⟩,⟨none,.store 1 (.tmp 0) (.tmp 11),none⟩]))) (cR call n f (.seq (.g3 [⟨some 3,.iu (.tmp 4),none⟩]) (.g3 [⟨some 5,.iu (.tmp 3),none⟩,⟨none,.oX (.tmp 5),none⟩])) dC st)=l0 (fT call [⟨some 2,.alloc [.int .i64 0] ts,none⟩,⟨none,.store 1 (.tmp 2) (.tmp 9),none⟩] dC st) (cR call n f (.g3 [⟨some 10,.qS 0 (.tmp 2),none⟩,⟨some 11,.jr (.tmp 10),none⟩,⟨none,.store 1 (.tmp 0) (.tmp 11),none⟩])):=rfl;rw[e2,az,b8,eW,Sym.xO,TC,eQ,afb];rfl
def TQ{own:ac aY}(ao:Fit H ids st own n)(o:bB):Fit H ids ⟨st.h.set st.ai o,st.ai+1⟩ own n:=by
 refine⟨fun i ae=> ?_,fun b a8 hb=> ?_,ao.cr,ao.len,ao.g9,fun b hb=>zcT (ao.lt b hb),fun k a8 b ab hb=> ?_⟩
 ·have ae:st.ai+1<=i:=ae;show(aq.set st.h st.ai o).get i=none;rw[aq.gq _ _ (by omega)];exact ao.wf i (by omega)
 ·show(aq.set st.h st.ai o).get b=_;have:=ao.aT hb;rw[aq.gq _ _ (by omega)];exact ao.le b a8 hb
 ·have aT:=ao.lt b (zal hb);show k4 H ids a8 ((aq.set st.h st.ai o).get b)∧_;rw[aq.gq _ _ (by omega)];exact ao.own k a8 b ab hb
def Mq{own:ac aY}(ao:Fit H ids st own n)(hb:b∉ids)(fc:H b=none)(aT:b<st.ai)(o:bB):Fit H ids ⟨st.h.set b o,st.ai⟩ own n:=by
 refine⟨fun i ae=> ?_,fun eR a8 cP=> ?_,ao.cr,ao.len,ao.g9,ao.lt,fun k a8 eR ab cP=> ?_⟩
 ·have ae:st.ai<=i:=ae;show(aq.set st.h b o).get i=none;rw[aq.gq _ _ (by omega)];exact ao.wf i ae
 ·show(aq.set st.h b o).get eR=_;rw[aq.gq _ _ (fun e=>by rw[e,fc]at cP;cases cP)];exact ao.le eR a8 cP
 ·show k4 H ids a8 ((aq.set st.h b o).get eR)∧_;rw[aq.gq _ _ (fun e=>hb (by rw[<-e];exact zal cP))];exact ao.own k a8 eR ab cP
def apL{g1:Nat}{fv:bi}:∃fr:aO,fr.cL=[{target:=.fn (.func g1) #[.pointer (some ⟨st.ai,0,none⟩)],args:= #[]}]∧fr.cx=false∧fr.tmp 2= .pointer (some ⟨st.ai,0,none⟩)∧
 cR call n f (zg g1 t).body (er [fv]) st=l0 (sk (ma (call fv [] none ⟨st.h.set st.ai (.cells [.int .i64 0] t (0,0) false),st.ai+1⟩) (fun v st=>.ok v fr st) (fun v st=>.aQ v st)) (fun v fr st=>.out .norm (fr.put (some 5) v) st) (fun v st=>.out (.aQ v) fr st)) (cR call n f (.seq (.g3 [⟨none,.store 1 (.tmp 2) (.const (.int .i64 0)),none⟩]) .ret)):=by
 refine⟨(aO.mk ((((er [fv]).put (some 2) (.pointer (some ⟨st.ai,0,none⟩))).put (some 3) (.func (.func g1) #[] #[.pointer (some ⟨st.ai,0,none⟩)])).t) [{target:=.fn (.func g1) #[.pointer (some ⟨st.ai,0,none⟩)],args:= #[]}] none false none).put (some 4) fv,rfl,rfl,rfl,?_⟩;have e:cR call n f (zg g1 t).body (er [fv]) st=l0 (fT call [⟨some 2,.alloc [.int .i64 0] t,none⟩] (er [fv]) st) (cR call n f (.seq (.g3 [⟨some 3,.sh (.func g1) [] [.tmp 2],none⟩,⟨none,.pX (.tmp 3) [],none⟩]) (.seq (.g3 [⟨some 4,.iu (.tmp 0),none⟩,⟨some 5,.call (.tmp 4) [],none⟩]) (.seq (.g3 [⟨none,.store 1 (.tmp 2) (.const (.int .i64 0)),none⟩]) .ret)))):=rfl;rw[e,rS,TF,sl,TE,Sym.xO];rfl
section
variable{X:Ctx}{aS:aq cJ}{bC:co->eE}{bE n:Nat}{fn:co}{bT:bm}{i0:ac Nat}{aN:ar}{Q:dq->cB->Prop}{K:ac eN}{own:ac aY}{aL:Nat}{e:bQ}
def ad7(aC:fp)(K:ac eN)(xs:ac bA)(d:am Tmp)(e:bQ)(ts:Nat)(x:dq)(s:cB):Prop:=
 ((x= .norm∨x= .ret)∧aW.ok aC ⟨K,.o xs,⟨s.own,s.n,eL d (.i .i64 0) e⟩⟩)∨∃c:Int,x= .aQ (.iface ts (.agg #[.int .i64 c]))∧aW.ok aC ⟨K,.o xs,⟨s.own,s.n,eL d (.i .i64 c) e⟩⟩
variable{g g1:co}{x:bv}{caps:ac aj}{d:am Tmp}{xs:ac bA}
def abF{N:Nat}(gP:N=n+3){f:co}{ts:Nat}(xf:cJ)(aa:aS.get f=some xf)(aM:aS.get g=some (zg g1 t))(Bh:aS.get g1=some (xF ts))
 (k:∀H ids st cs,ids.length=own.length->dm bT H->Fit H ids st own aL->c4 H caps ids cs->∃(cc:ar) (a2:bm) (bX:ac Nat) (s:cB),cG H ids st a2 bX cc∧Fit a2 bX cc s.own s.n∧
  ((hF (bH aS (bO X bC) (n+1)) (n+1) f xf cs none st= .ret (.tuple #[]) cc false∧aW.ok ⟨bH aS (bO X bC) N,bE,fn,bT,i0,aN,Q⟩ ⟨K,.o xs,⟨s.own,s.n,eL d (.i .i64 0) e⟩⟩)∨
    ∃c:Int,hF (bH aS (bO X bC) (n+1)) (n+1) f xf cs none st= .aQ (.iface ts (.agg #[.int .i64 c])) cc false∧aW.ok ⟨bH aS (bO X bC) N,bE,fn,bT,i0,aN,Q⟩ ⟨K,.o xs,⟨s.own,s.n,eL d (.i .i64 c) e⟩⟩))
 (gw:bM e x=some (.fn (.func f) [] caps):=by rfl) (c6:bC f=eE.no:=by rfl) (MQ:bC g=eE.no:=by rfl) (MP:bC g1=eE.no:=by rfl):
 aW.ok ⟨bH aS (bO X bC) N,bE,fn,bT,i0,aN,Q⟩ ⟨K,.o (⟨d,.call (.func g) [x],none⟩::xs),⟨own,aL,e⟩⟩:=by
 subst gP;intro H ids st fr a3 ao af;obtain⟨bJ,cs,aE,Nc,dJ⟩:=af.ak gw;cases Nc;have aE:fr.ak x= .func (.func f) #[] ⟨cs⟩:=aE;have lP:=TQ ao (.cells [.int .i64 0] t (0,0) false);obtain⟨cc,a2,bX,s,cg,cl,hq⟩:=k H ids _ cs (ao.len.trans ao.cr.symm) a3.hle lP dJ;have Nt:st.ai∉ids:=fun h=>by have:=ao.lt _ h;omega
 have fc:a2 st.ai=none:=by
  rw[cg.hold st.ai (zbJ _) Nt];cases hh:H st.ai with
  |none=>rfl
  |some o=>have:=ao.aT hh;omega
 have XO:st.ai∉bX:=fun h=>by
  rcases cg.new _ h with h|h
  ·exact Nt h
  ·have h:st.ai+1<=st.ai:=h;omega
 have ly:cc.h.get st.ai=some (.cells [.int .i64 0] t (0,0) false):=by
  rw[cg.gh st.ai (zbJ _) Nt];exact aq.oF _ _ _
 have Nw:st.ai<cc.ai:=cg.ai;have fin:∀(c:Int) (dB:ar),Fit a2 bX dB s.own s.n->cc.ai<=dB.ai->(∀b,b<cc.ai->b≠st.ai->dB.h.get b=cc.h.get b)->
  bG (bH aS (bO X bC) (n+3)) (.call (.func g) [x]) fr st= .ok (.int .i64 c) fr dB->aW.ok ⟨bH aS (bO X bC) (n+3),bE,fn,bT,i0,aN,Q⟩ ⟨K,.o xs,⟨s.own,s.n,eL d (.i .i64 c) e⟩⟩->
  W (fT (bH aS (bO X bC) (n+3)) (⟨d,.call (.func g) [x],none⟩::xs) fr st) (ub ⟨bH aS (bO X bC) (n+3),bE,fn,bT,i0,aN,Q⟩ (Sem ⟨bH aS (bO X bC) (n+3),bE,fn,bT,i0,aN,Q⟩ K)):=fun c dB jO oM ab gv hc=>by
  have gr:cG H ids st a2 bX dB:=by
   refine⟨cg.hle,fun b hb hn=>cg.hold b (zcT hb) hn,fun b hb hn=> ?_,by omega,cg.iY,fun b hb=> ?_⟩
   ·rw[ab b (by omega) (by omega),cg.gh b (zcT hb) hn];show(aq.set st.h st.ai _).get b=_;exact aq.gq _ _ (by omega)
   ·rcases cg.new b hb with h|h
    ·exact .inl h
    ·have h:st.ai+1<=b:=h;exact .inr (by omega)
  exact rE gv (hc a2 bX dB _ (a3.trans gr) jO ((af.mono cg.hle cg.iY).eL d rfl))
 have Tm:bG (bH aS (bO X bC) (n+3)) (.call (.func g) [x]) fr st=ma (hF (bH aS (bO X bC) (n+2)) (n+2) g (zg g1 t) [fr.ak x] none st) (fun v st=>.ok v fr st) (fun v st=>.aQ v st):=by
  rw[rk];show ma (bH aS (bO X bC) (n+3) (.func (.func g) #[] #[]) (dG fr [x]) none st) _ _=_;rw[pP];have a6:fk (#[]:be bi).toList (fk (dG fr [x]) (#[]:be bi).toList)=[fr.ak x]:=by simp[aiq,air]
  rw[a6,Ca MQ,Sym.gI,Sym.gI,aM,Sym.eB]
 obtain⟨j2,lA,tj,EG,XF⟩:=apL (call:=bH aS (bO X bC) (n+2)) (n:=n+2) (f:=g) (g1:=g1) (t:=t) (fv:=fr.ak x) (st:=st);have Tl:hF (bH aS (bO X bC) (n+2)) (n+2) g (zg g1 t) [fr.ak x] none st=ct.rec (motive:=fun _=>dk) (fun e fr st=>dq.rec (motive:=fun _=>dk) (ff (bH aS (bO X bC) (n+2)) [.cell 2 false 1] none fr st) (fun _=>.no) (ff (bH aS (bO X bC) (n+2)) [.cell 2 false 1] none fr st) (fun v=>ff (bH aS (bO X bC) (n+2)) [.cell 2 false 1] (some v) fr st) e) .no (cR (bH aS (bO X bC) (n+2)) (n+2) g (zg g1 t).body (er [fr.ak x]) st):=rfl;have Tp:∀r,hF (bH aS (bO X bC) (n+1)) (n+1) f xf cs none ⟨st.h.set st.ai (.cells [.int .i64 0] t (0,0) false),st.ai+1⟩=r->bH aS (bO X bC) (n+2) (fr.ak x) [] none ⟨st.h.set st.ai (.cells [.int .i64 0] t (0,0) false),st.ai+1⟩=r:=fun r h=>by
  rw[aE,pP];have a6:fk (#[]:be bi).toList (fk ([]:ac bi) (⟨cs⟩:be bi).toList)=cs:=by simp
  rw[a6,Ca c6,Sym.gI,Sym.gI,aa,Sym.eB,h]
 have Tn:∀(b:Nat) (m:am bi) (st:ar),bH aS (bO X bC) (n+2) (.func (.func g1) #[] #[.pointer (some ⟨b,0,none⟩)]) [] m st=hF (bH aS (bO X bC) (n+1)) (n+1) g1 (xF ts) [.pointer (some ⟨b,0,none⟩)] m st:=fun b m st=>by
  rw[pP];have a6:fk (#[]:be bi).toList (fk ([]:ac bi) (#[.pointer (some ⟨b,0,none⟩)]:be bi).toList)=[.pointer (some ⟨b,0,none⟩)]:=by simp
  rw[a6,Ca MP,Sym.gI];cases m with
  |none=>rw[Sym.gI,Bh,Sym.eB]
  |some v=>rw[Sym.eB,Bh,Sym.eB]
 have uQ:∀(c:Int) (dB:ar) (n0:aO),n0.tmp 2= .pointer (some ⟨st.ai,0,none⟩)->dB.h.get st.ai=some (.cells [.int .i64 c] t (0,0) false)->pd n0 dB [.cell 2 false 1]=some [.int .i64 c]:=fun c dB n0 I U=>by
  show iM (n0.tmp 2) (fun p=>bp p (fun ad=>dB.load ad 1 (fun cs=>cond false (some [.agg ⟨cs⟩]) (one cs (fun v=>some [v]) none)) none) none) none=_;rw[I,rC,Sym.eB];unfold ar.load ar.gN;rw[Sym.gI,U,lr,qM (by simp)];rfl
 rcases hq with⟨I,hc⟩|⟨c,I,hc⟩
 ·have U:=Tp _ I;have jO:=Mq cl XO fc Nw (.cells [.int .i64 0] t (0,0) false);refine fin 0 ⟨cc.h.set st.ai (.cells [.int .i64 0] t (0,0) false),cc.ai⟩ jO (zaO _) (fun b hb hne=>aq.gq _ _ (by omega)) ?_ hc;rw[Tm,Tl,XF,U,My,sl,Sym.xO,yx,TC,rS,Ml (id:=st.ai) (old:=.int .i64 0) (v:=.int .i64 0) (el:=t) (by rw[DR,xR,zaa (by decide)];exact EG) rfl rfl ly,sl,TE,Sym.xO,aij];show ma (ff (bH aS (bO X bC) (n+2)) [.cell 2 false 1] none ((j2.put (some 5) (.tuple #[])).put none undef) _) _ _=_;unfold ff;rw[ars,ahq,lA,avg,tj];simp only[jf];rw[Tn,asH];show ma (bp (pd _ _ _) _ _) _ _=_;rw[uQ 0 _ _ (by rw[xR,zaa (by decide)];exact EG) (aq.oF _ _ _)];rfl
 ·have U:=Tp _ I;have jO:=Mq (Mq (TQ cl (.cells [.int .i64 0] ts (0,0) false)) (b:=cc.ai) (fun h=>by have:=cl.lt _ h;omega) (by
   cases hh:a2 cc.ai with
   |none=>rfl
   |some o=>have:=cl.aT hh;omega) (zbJ _) (.cells [.int .i64 c] ts (0,0) false)) XO fc (zcT Nw) (.cells [.int .i64 c] t (0,0) false)
  refine fin c _ jO (zaZ _) (fun b hb hne=> ?_) ?_ hc
  ·show(aq.set (aq.set (aq.set cc.h cc.ai _) cc.ai _) st.ai _).get b=_;rw[aq.gq _ _ (by omega),aq.gq _ _ (by omega),aq.gq _ _ (by omega)]
  rw[Tm,Tl,XF,U,Mx,O3,avd];show ma (ff (bH aS (bO X bC) (n+2)) [.cell 2 false 1] (some _) j2 cc) _ _=_;unfold ff;rw[lA,tj];simp only[jf];rw[Tn,asI ly Nw];show ma (bp (pd _ _ _) _ _) _ _=_;rw[uQ c _ _ EG (aq.oF _ _ _)];rfl
def aso{N:Nat}(gP:N=n+3){f:co}{ts:Nat}(xf:cJ)(aa:aS.get f=some xf)(aM:aS.get g=some (zg g1 t))(Bh:aS.get g1=some (xF ts))
 (k:∀H1 i1 s1,i1.length=own.length->dm bT H1->aW.ok ⟨bH aS (bO X bC) (n+1),n+1,f,H1,i1,s1,ad7 ⟨bH aS (bO X bC) N,bE,fn,bT,i0,aN,Q⟩ K xs d e ts⟩ ⟨[],.c xf.body,⟨own,aL,jB 0 caps⟩⟩)
 (gw:bM e x=some (.fn (.func f) [] caps):=by rfl) (aD:xf.res=[]:=by rfl) (hl:caps.length<=xf.aI:=by exact jw rfl) (c6:bC f=eE.no:=by rfl) (MQ:bC g=eE.no:=by rfl) (MP:bC g1=eE.no:=by rfl):
 aW.ok ⟨bH aS (bO X bC) N,bE,fn,bT,i0,aN,Q⟩ ⟨K,.o (⟨d,.call (.func g) [x],none⟩::xs),⟨own,aL,e⟩⟩:=
 abF gP xf aa aM Bh (fun H ids st cs hlen hle ao dJ=>by
  obtain⟨ez,dC,cc,gv,a2,bX,s,cg,cl,dN,hq⟩:=k H ids st hlen hle H ids st (er cs) (cG.refl _ _ _) ao (cU.zero dJ);have hb:hF (bH aS (bO X bC) (n+1)) (n+1) f xf cs none st=ct.rec (motive:=fun _=>dk) (fun e fr st=>dq.rec (motive:=fun _=>dk) (ff (bH aS (bO X bC) (n+1)) [] none fr st) (fun _=>.no) (ff (bH aS (bO X bC) (n+1)) [] none fr st) (fun v=>ff (bH aS (bO X bC) (n+1)) [] (some v) fr st) e) .no (.out ez dC cc):=by
   rw[<-gv];unfold hF;rw[od,zab (by rw[fe,hP dJ];exact hl),aD];rfl
  have h0:ff (bH aS (bO X bC) (n+1)) [] none dC cc= .ret (.tuple #[]) cc false:=by
   unfold ff;rw[dN.pl.cL,dN.pl.cx];simp only[jf];rfl
  refine⟨cc,a2,bX,s,cg,cl,?_⟩;rw[hb];rcases hq with⟨NV,hc⟩|⟨c,rfl,hc⟩
  ·refine .inl ⟨?_,hc⟩;rcases NV with rfl|rfl
   ·exact h0
   ·exact h0
  ·exact .inr ⟨c,DU dN.pl,hc⟩) gw c6 MQ MP
end
section
variable{aC:fp}{K:ac eN}{own:ac aY}{aL:Nat}{e:bQ}{d:Tmp}{xs:ac bA}{x y:bv}
variable{α:Type}{a4 cH:Nat}{el:ci}{R:α->ac aj}
def asr{z:Nat}{l:ac α}{neg:Bool}(bl:aW.ok aC ⟨K,.o xs,⟨own,aL,(d,.b neg)::e⟩⟩)(bK:l=[]->aW.ok aC ⟨K,.o xs,⟨own,aL,(d,.b (!neg))::e⟩⟩)(aa:bM e x=some (.cw z α R l):=by rfl)(aJ:bM e y=some .nl:=by rfl):
 aW.ok aC ⟨K,.o (⟨some d,.eqv neg .lD x y,none⟩::xs),⟨own,aL,e⟩⟩:=fun H ids st fr a3 ao af=>by
 have U:fr.ak y= .slice none 0 0:=af.ak aJ;have ag:den H (.cw z α R l) ids (fr.ak x):=af.ak aa;have a6:bG aC.call (.eqv neg .lD x y) fr st=bp (p0 (fr.ak x) (fr.ak y)) (fun b=>.ok (.bool (cond neg (!b) b)) fr st) .no:=rfl;rcases ag with⟨hn,I⟩|⟨hn,I⟩|⟨b,o,c,vs,el,bk,bc,I,_⟩
 ·have az:bG aC.call (.eqv neg .lD x y) fr st= .ok (.bool neg) fr st:=by
   rw[a6,I,U];cases neg<;>rfl
  exact rE az (bl H ids st _ a3 ao (af.eL (some d) rfl))
 ·have az:bG aC.call (.eqv neg .lD x y) fr st= .ok (.bool (!neg)) fr st:=by
   rw[a6,I,U];cases neg<;>rfl
  exact rE az (bK hn H ids st _ a3 ao (af.eL (some d) rfl))
 ·have az:bG aC.call (.eqv neg .lD x y) fr st= .ok (.bool neg) fr st:=by
   rw[a6,I,U];cases neg<;>rfl
  exact rE az (bl H ids st _ a3 ao (af.eL (some d) rfl))
def aev(aJ:bM s.env y=some (.cw a4 α R [])):vY call el cH s y R a4 ([]:ac α):=fun H ids st fr ao af x p n c aa=>by
 have e:bG call (.app el a4 cH x y) fr st=ju (fr.ak x) (fun base len cap=>ju (fr.ak y) (fun b n _=>bp b (fun b=>st.load b (Nat.mul n a4) (fun new=>cond (hD new) (k5 fr st el a4 cH base len cap n new) .no) .no) (dQ n 0 (k5 fr st el a4 cH base len cap 0 []) .no)) (vI (fr.ak y) (k5 fr st el a4 cH base len cap 0 []) (jv (fr.ak y) (fun s=>dQ a4 1 (k5 fr st el a4 cH base len cap (dd s.data.toList) (o8 s.data.toList)) .no) .no))) .no:=rfl;have ag:den H (.cw a4 α R []) ids (fr.ak y):=af.ak aJ;refine⟨[],Dy _ _ _ _,rfl,?_⟩;rw[e,aa,qt];rcases ag with⟨_,I⟩|⟨_,I⟩|⟨b,o,bL,vs,AQ,bk,bc,I,_,U,_⟩
 ·have az:∀(k:am Addr->Nat->Nat->a1) (z:a1),ju (.chan none) k z=z:=fun _ _=>rfl;have e2:∀a z:a1,vI (.chan none) a z=a:=fun _ _=>rfl;simp only[I,az,e2];rfl
 ·rw[I,qt,Sym.gI,kC rfl];rfl
 ·rw[I,qt,Sym.eB];show st.load ⟨b,o,none⟩ (0*a4) _ _=_;unfold ar.load ar.gN;rw[Sym.gI,ao.le _ _ U,lr,zar,qM (zaf _),List.take_zero];have b8:∀a z:a1,cond (hD []) a z=a:=fun _ _=>rfl;simp only[b8]
def asf{bV c:Nat}{bc:Bool}{l:ac α}(k:aW.ok aC ⟨K,.o xs,⟨own,aL,(d,.a5 bV a4 0 n c)::e⟩⟩)(aJ:bM e y=some (.cw a4 α R []):=by rfl)(aa:bM e x=some (.a5 bV a4 0 n c):=by rfl)(ab:own[bV]? =some (.a el bc a4 α R l):=by rfl)
 (j7:n<=c:=by omega) (hc:c<=l.length:=by first|omega|(simp;done)|(simp;omega)) (hb:(5*n+1792)*(cH+1)<=1125899906842624:=by omega):aW.ok aC ⟨K,.o (⟨some d,.app el a4 cH x y,none⟩::xs),⟨own,aL,e⟩⟩:=hd (Ln (s:=⟨own,aL,e⟩) aa ab (aev aJ) j7 hc hb) k
end
section
variable{aC:fp}{K:ac eN}{own aZ bN:ac aY}{aL bj ck:Nat}{e a6:bQ}{d:Tmp}{xs:ac (bA×cD)}{x y:bv}
variable{el:ci}{a4 cH c:Nat}{α:Type}{ch:Nat}{R:α->ac aj}
def RB{bV z o:Nat}(aa:bM s.env x=some (.a5 bV z o n c))(j:Nat)(a8:aY)(hj:(bN.set bV .x)[j]? =some a8)(hl:a8.live=true):bN[j]? =some a8∧jb s.env (.app el a4 cH x y)≠some j:=by
 have im:j≠bV:=fun bS=>by
  subst bS;rw[zaG]at hj;rw[zab rfl]at hj;split at hj
  ·cases hj;cases hl
  ·cases hj
 rw[zbn (fun bS=>im bS.symm)]at hj;refine⟨hj,fun hm=> ?_⟩;have:jb s.env (.app el a4 cH x y)=some bV:=by
  unfold jb;dsimp only;rw[aa]
 rw[this]at hm;cases hm;exact im rfl
def Fit.aqK{bV:Nat}{cs cs':ac aj}(ao:Fit H ids st own n)(ab:own[bV]? =some (.c el cs))(hle:hA cs cs'):Fit H ids st (own.set bV (.c el cs')) n:=by
 refine⟨ao.wf,ao.le,by rw[zbv];exact ao.cr,ao.len,ao.g9,ao.lt,fun j o c hj hc=> ?_⟩;rw[zaG]at hj;by_cases im:bV=j
 ·subst im;obtain⟨I,U⟩:=ao.own bV _ c ab hc;rw[zab rfl]at hj;split at hj
  ·cases hj;obtain⟨vs,ag,au⟩:=I;exact⟨⟨vs,ag,hle.den au⟩,fun _=>U rfl⟩
  ·cases hj
 ·rw[zaa im]at hj;exact ao.own j o c hj hc
def AI(R:α->ac aj)(m:ac α)(ah:nS ⟨own,aL,e⟩ y R a4 m)(cn:aW.ok aC ⟨K,.d xs bN (mF d a6) (bj+1) ch,⟨aZ,ch,(d,.a5 aL a4 0 m.length m.length)::e⟩⟩)(aa:bM e x=some .nl:=by rfl)
 (al:qp own (.a el true a4 α R m) some=some aZ:=by rfl) (lB:og aL some=some ch:=by rfl) (h0:m≠[]:=by first|rfl|simp) (hb:(5*m.length+1792)*(cH+1)<=1125899906842624:=by first|omega|(simp;done)|(simp;omega)):
 aW.ok aC ⟨K,.d ((⟨some d,.app el a4 cH x y,none⟩,.dY)::xs) bN a6 bj ck,⟨own,aL,e⟩⟩:=by
 have I:=rz al;have U:=pz lB;cases I;cases U;refine yn (d:=some d) (s:=⟨own,aL,e⟩) (Rz (s:=⟨own,aL,e⟩) aa (sP ah) h0 hb) rfl (fun j a8 hj _=>⟨hj,fun hm=> ?_⟩) cn;have:jb e (.app el a4 cH x y)=none:=by
  unfold jb;dsimp only;rw[aa]
 rw[this]at hm;cases hm
def wv{bV:Nat}{l:ac α}{eo Pf:ac aY}(m:ac α)(ah:nS ⟨own,aL,e⟩ y R a4 m)(cn:aW.ok aC ⟨K,.d xs Pf (mF d a6) (bj+1) ch,⟨aZ,ch,(d,.a5 aL a4 0 (n+m.length) (n+m.length))::e⟩⟩)(aa:bM e x=some (.a5 bV a4 0 n c):=by rfl)(ab:own[bV]? =some (.a el true a4 α R l):=by rfl)
 (mf:jV own bV .x some=some eo:=by rfl) (al:qp eo (.a el true a4 α R (l++m)) some=some aZ:=by rfl) (lB:og aL some=some ch:=by rfl) (mT:Pf=bN.set bV .x:=by rfl) (h0:m≠[]:=by first|rfl|simp) (hn:n=l.length:=by first|omega|(simp;done)|(simp;omega)) (j7:n=c:=by omega) (hb:(5*(n+m.length)+1792)*(cH+1)<=1125899906842624:=by first|omega|(simp;done)|(simp;omega)):
 aW.ok aC ⟨K,.d ((⟨some d,.app el a4 cH x y,none⟩,.dY)::xs) bN a6 bj ck,⟨own,aL,e⟩⟩:=by
 have k6:=kQ mf;cases k6;have I:=rz al;have U:=pz lB;cases I;cases U;subst mT;have:=Ry (call:=aC.call) (s:=⟨own,aL,e⟩) (cH:=cH) aa ab (sP ah) h0 (by omega) (by omega) (by omega) hb;rw[hn,zbR]at this;rw[hn]at cn;refine yn (d:=some d) (s:=⟨own,aL,e⟩) this (by rw[zbv]) (fun j a8 hj hl=> ?_) cn;have im:j≠bV:=fun bS=>by
  subst bS;rw[zaG]at hj;rw[zab rfl]at hj;split at hj
  ·cases hj;cases hl
  ·cases hj
 rw[zbn (fun bS=>im bS.symm)]at hj;refine⟨hj,fun hm=> ?_⟩;have:jb e (.app el a4 cH x y)=some bV:=by
  unfold jb;dsimp only;rw[aa]
 rw[this]at hm;cases hm;exact im rfl
def S3{bV:Nat}{bc:Bool}{l:ac α}(ah:nS ⟨own,aL,e⟩ y R a4 ([]:ac α))(cn:aW.ok aC ⟨K,.d xs (bN.set bV .x) (mF d a6) (bj+1) aL,⟨own,aL,(d,.a5 bV a4 0 n c)::e⟩⟩)(aa:bM e x=some (.a5 bV a4 0 n c):=by rfl)(ab:own[bV]? =some (.a el bc a4 α R l):=by rfl)
 (j7:n<=c:=by omega) (hc:c<=l.length:=by first|omega|(simp;done)|(simp;omega)) (hb:(5*n+1792)*(cH+1)<=1125899906842624:=by first|omega|(simp;done)|(simp;omega)):
 aW.ok aC ⟨K,.d ((⟨some d,.app el a4 cH x y,none⟩,.dY)::xs) bN a6 bj ck,⟨own,aL,e⟩⟩:=
 yn (d:=some d) (s:=⟨own,aL,e⟩) (Ln (s:=⟨own,aL,e⟩) aa ab (sP ah) j7 hc hb) (by rw[zbv]) (RB aa) cn
def S4{bV:Nat}{l:ac α}(m l':ac α)(ah:nS ⟨own,aL,e⟩ y R a4 m)(cn:aW.ok aC ⟨K,.d xs (bN.set bV .x) (mF d a6) (bj+1) ch,⟨aZ,ch,(d,.a5 aL a4 0 l'.length l'.length)::e⟩⟩)(h0:m≠[])(Bo:c<n+m.length)(hl:l.take n++m=l')(hb:(5*(n+m.length)+1792)*(cH+1)<=1125899906842624)(aa:bM e x=some (.a5 bV a4 0 n c):=by rfl)(ab:own[bV]? =some (.a el false a4 α R l):=by rfl)
 (al:qp own (.a el true a4 α R l') some=some aZ:=by rfl) (lB:og aL some=some ch:=by rfl) (j7:n<=c:=by omega) (hc:c<=l.length:=by first|omega|(simp;done)|(simp;omega)):
 aW.ok aC ⟨K,.d ((⟨some d,.app el a4 cH x y,none⟩,.dY)::xs) bN a6 bj ck,⟨own,aL,e⟩⟩:=by
 have I:=rz al;have U:=pz lB;cases I;cases U;have hlen:n+m.length=l'.length:=by
  rw[<-hl,zap,zao];omega
 have:=RC (call:=aC.call) (s:=⟨own,aL,e⟩) (cH:=cH) aa ab (sP ah) h0 j7 Bo hc hb;rw[hl,hlen]at this;exact yn (d:=some d) (s:=⟨own,aL,e⟩) this (by rw[zbv]) (RB aa) cn
end
section
variable{aC:fp}{K:ac eN}{own aZ:ac aY}{aL:Nat}{e:bQ}
def ass(bV:Nat){el:ci}{cs:ac aj}(cs':ac aj){xs:ac bA}(k:aW.ok aC ⟨K,.o xs,⟨aZ,aL,e⟩⟩)(hle:hA cs cs')(ab:own[bV]? =some (.c el cs):=by rfl)(al:jV own bV (.c el cs') some=some aZ:=by rfl):aW.ok aC ⟨K,.o xs,⟨own,aL,e⟩⟩:=by
 have I:=kQ al;cases I;exact fun H ids st fr a3 ao af=>k H ids st fr a3 (ao.aqK ab hle) af
end
def avV{d:am Tmp}{o:da}{xs:ac bA}{fr:aO}{st':ar}{Q:dq->aO->ar->Prop}(hc:o.jh=true)(h:bG call o fr st= .aQ v st')(k:Q (.aQ v) fr st'):W (fT call (⟨d,o,none⟩::xs) fr st) Q:=by
 refine⟨.aQ v,fr,st',?_,k⟩;show sk (bG call o fr st) _ (fun v st=>cond o.jh (.out (.aQ v) fr st) .no)=_;rw[h];show cond o.jh _ _=_;rw[hc];rfl
structure rH(l:Nat)(lx:co)(jK:aq bi)(ps:ac Tmp)(dt body:du)(h2:Nat)(ki:bQ)(bT:bm)(i0:ac Nat)(aN:ar):Prop where
 get:aN.h.get l=some (.loop .ready none lx jK ps dt body h2)
 lt:l<aN.ai
 vj:l∉i0
 hn:bT l=none
 env:cU ⟨jK,[],none,false,some l⟩ bT i0 ki
def rH.up{l:Nat}{lx:co}{jK:aq bi}{ps:ac Tmp}{dt body:du}{h2:Nat}{ki:bQ}{bT H1:bm}{i0 i1:ac Nat}{aN s1:ar}(h:rH l lx jK ps dt body h2 ki bT i0 aN)(a3:cG bT i0 aN H1 i1 s1):rH l lx jK ps dt body h2 ki H1 i1 s1:=
 ⟨(a3.gh l h.lt h.vj).trans h.get,fx h.lt a3.ai,fun hm=>(a3.new l hm).elim h.vj fun g=>absurd h.lt (zds.2 g),(a3.hold l h.lt h.vj).trans h.hn,h.env.mono a3.hle a3.iY⟩
section
variable{X:Ctx}{aS:aq cJ}{bC:co->eE}{bE n:Nat}{fn:co}{bT:bm}{i0:ac Nat}{aN:ar}{Q:dq->cB->Prop}{K:ac eN}{own:ac aY}{aL:Nat}{e:bQ}
def p4(f:ac Nat)(aL m:Nat):ac Nat:=f++List.range' aL m
def x3(f:ac Nat)(own aZ os:ac aY):Prop:=aZ.length+f.length=own.length+os.length∧(∀j:Nat,j<own.length->j∉f->aZ[j]? =own[j]?)∧
 ∀(i k:Nat) (a8:aY),(p4 f own.length (os.length-f.length))[i]? =some k->aZ[k]? =some a8->∃o,os[i]? =some o∧qx (p4 f own.length (os.length-f.length)) o a8
variable{h2:Nat}{lx:co}{jK:aq bi}{ps:ac Tmp}{dt body:du}{ki:bQ}
def aiY{f:ac Nat}{eo aZ os:ac aY}{iK qj:Nat}{az:bQ}{iz:bm}{hr:ac Nat}{dB:ar}(ah:Sub 0 f ⟨own,aL,e⟩ ⟨eo,iK,az⟩)(hb:x3 f own aZ os)(ao:Fit H ids st own aL)(gr:cG H (pick f ids) st iz hr dB)(jO:Fit iz hr dB os qj):
 Fit iz (ids++hr.drop f.length) dB aZ aZ.length∧cG H ids st iz (ids++hr.drop f.length) dB:=by
 obtain⟨jn,oH,HX⟩:=hb;have XR:own.length=aL:=ao.cr;have hH:ids.length=aL:=ao.len;have iX:(pick f ids).length=f.length:=by simp[pick]
 have awU:hr.length=os.length:=jO.len.trans jO.cr.symm;have oJ:∀(i k:Nat),f[i]? =some k->k<aL:=fun i k ab=>by
  have I:=(zac.1 ab).1;have hl:eo.length=f.length:=ah.own.len;obtain⟨eG,a8,U,ag,_⟩:=ah.own.get (bg (show i<eo.length by omega));rw[ab]at U;cases U;have:=(zac.1 ag).1;exact XR▸this
 have NG:∀(i k:Nat),f[i]? =some k->∃b,ids[k]? =some b∧hr[i]? =some b:=fun i k ab=>by
  have I:k<ids.length:=by rw[hH];exact oJ i k ab
  exact⟨_,bg I,gr.iY i _ (rl ab (bg I))⟩
 have hle:f.length<=os.length:=by
  by_cases h:f.length=0
  ·omega
  ·obtain⟨b,_,U⟩:=NG (f.length-1) _ (bg (by omega));have:=(zac.1 U).1;omega
 obtain⟨m,hm⟩:∃m,os.length=f.length+m:=⟨os.length-f.length,by omega⟩;rw[show os.length-f.length=m by omega]at HX;have wT:∀i k,(p4 f own.length m)[i]? =some k->(i<f.length∧f[i]? =some k)∨(f.length<=i∧k=aL+(i-f.length)∧i<os.length):=fun i k h=>by
  unfold p4 at h;by_cases ae:i<f.length
  ·rw[zaD ae]at h;exact .inl ⟨ae,h⟩
  ·rw[zav (by omega)]at h;have hl:=(zac.1 h).1;rw[zed]at hl;rw[List.getElem?_range' hl]at h;cases h;exact .inr ⟨by omega,by omega,by omega⟩
 have mS:∀b,b∈hr.drop f.length->st.ai<=b:=fun b wQ=>by
  obtain⟨j,hj⟩:=zaS.1 wQ;rw[zaw]at hj;rcases gr.new b (zal hj)with h|h
  ·obtain⟨i,ae⟩:=zaS.1 h;have U:=gr.iY i b ae;have ag:=(zac.1 ae).1;have az:=zac.1 hj;have e2:=zac.1 U;have:=(zbC (h₀:=az.1) (h₁:=e2.1) jO.g9).1 (az.2.trans e2.2.symm);omega
  ·exact h
 have Bf:(hr.drop f.length).length=m:=by rw[zaz];omega
 have NI:pick (p4 f own.length m) (ids++hr.drop f.length)=hr:=by
  apply zbA;intro i;by_cases ae:i<os.length
  ·obtain⟨k,ab⟩:∃k,(p4 f own.length m)[i]? =some k:=⟨_,bg (by unfold p4;rw[zap,zed];omega)⟩;rcases wT i k ab with⟨I,U⟩|⟨I,rfl,_⟩
   ·obtain⟨b,ag,au⟩:=NG i k U;rw[au];exact rl ab (by rw[zaD (zac.1 ag).1];exact ag)
   ·have a0:hr[i]? =some hr[i]:=bg (by omega);rw[a0];refine rl ab ?_;rw[zav (by omega),zaw,<-a0];congr 1;omega
  ·rw[zbq (by unfold pick p4;rw[zbB,zap,zed];omega),zbq (by omega)]
 have aT:∀k eG:Nat,(p4 f own.length m)[k]? =some eG->eG<(ids++hr.drop f.length).length:=fun i k h=>by
  rw[zap,Bf];rcases wT i k h with⟨_,U⟩|⟨I,rfl,ag⟩
  ·have:=oJ i k U;omega
  ·omega
 have XA:c0 ids (ids++hr.drop f.length):=fun k b ab=>by rw[zaD (zac.1 ab).1];exact ab
 have yV:∀(j b:Nat),j∉f->ids[j]? =some b->b∉pick f ids:=fun j b hj hb hm=>by
  obtain⟨k,ab⟩:=zaS.1 hm;obtain⟨eG,ag,au⟩:=tE (fun i k h=>by rw[hH];exact oJ i k h) ab;have az:=zac.1 hb;have e2:=zac.1 au;have:=(zbC (h₀:=az.1) (h₁:=e2.1) ao.g9).1 (az.2.trans e2.2.symm);exact hj (this▸zal ag)
 have r6:∀b,b∈pick f ids->b∈ids:=fun b hb=>by
  obtain⟨k,ab⟩:=zaS.1 hb;obtain⟨eG,_,au⟩:=tE (fun i k h=>by rw[hH];exact oJ i k h) ab;exact zal au
 have back:∀(i k:Nat) (a8:aY) (b:Nat),(p4 f own.length m)[i]? =some k->aZ[k]? =some a8->hr[i]? =some b->k4 iz (ids++hr.drop f.length) a8 (dB.h.get b)∧(a8.live=true->iz b=none):=fun i k a8 b I U ag=>by
  obtain⟨o,al,qa⟩:=HX i k a8 I U;obtain⟨au,a0⟩:=jO.own i o b al ag;obtain⟨b5,cY⟩:=qa.den aT (by rw[NI];exact au);exact⟨b5,fun hl=>a0 (by rw[<-cY];exact hl)⟩
 refine⟨⟨jO.wf,jO.le,rfl,by rw[zap,Bf];omega,?_,fun b hb=> ?_,fun k a8 b ab jP=> ?_⟩,⟨gr.hle,fun b hb ae=>gr.hold b hb fun h=>ae (r6 b h),fun b hb ae=>gr.gh b hb fun h=>ae (r6 b h),gr.ai,XA,fun b hb=>(zbl.1 hb).imp id (mS b)⟩⟩
 ·refine zdY.2 ⟨ao.g9,jO.g9.sublist (List.drop_sublist _ _),fun a ha b hb e=> ?_⟩;have I:=ao.lt a ha;have U:=mS b hb;omega
 ·rcases zbl.1 hb with h|h
  ·exact fx (ao.lt b h) gr.ai
  ·exact jO.lt b (zcx h)
 ·by_cases Em:k<aL
  ·have jP:ids[k]? =some b:=by rw[zaD (by omega)]at jP;exact jP
   by_cases yS:k∈f
   ·obtain⟨i,ae⟩:=zaS.1 yS;obtain⟨eR,I,U⟩:=NG i k ae;rw[jP]at I;cases I;exact back i k a8 b (by unfold p4;rw[zaD (zac.1 ae).1];exact ae) ab U
   ·have fF:=ab;rw[oH k (by omega) yS]at fF;obtain⟨ag,au⟩:=ao.own k a8 b fF jP;have a0:=ao.lt b (zal jP);have b5:=yV k b yS jP;rw[gr.gh b a0 b5];exact⟨rO gr.hle XA ag,fun hl=>by rw[gr.hold b a0 b5];exact au hl⟩
  ·have jP:hr[f.length+(k-aL)]? =some b:=by rw[zav (by omega),zaw,hH]at jP;exact jP
   have awY:=(zac.1 jP).1;refine back (f.length+(k-aL)) k a8 b ?_ ab jP;unfold p4;rw[zav (by omega),List.getElem?_range' (by omega)];congr 1;omega
def P5{l:Nat}{e2:bQ}{y:bv}{b9:ac bv}{as:ac aj}{d:am Tmp}{xs:ac bA}(ft:rH l lx jK ps dt body h2 ki bT i0 aN)
 (apd:∀H1 i1 s1,aW.ok ⟨bH aS (bO X bC) (n+1),n+1,lx,H1,i1,s1,fun x s=>x= .norm∧s=⟨own,aL,e2⟩⟩ ⟨[],.c dt,⟨own,aL,Ph ps as ki⟩⟩)
 (ape:∀H1 i1 s1,i1.length=own.length->dm bT H1->aW.ok ⟨bH aS (bO X bC) (n+1),n+1,lx,H1,i1,s1,fun x s=>x= .norm∧aW.ok ⟨bH aS (bO X bC) (n+2),bE,fn,bT,i0,aN,Q⟩ ⟨K,.o xs,⟨s.own,s.n,eL d (.b true) e⟩⟩⟩ ⟨[],.c body,⟨own,aL,e2⟩⟩)
 (aJ:bM e y=some (.v (.func (.yield l) #[] #[])):=by rfl) (ha:jq e b9=some as:=by rfl) (hlen:as.length=ps.length:=by rfl):
 aW.ok ⟨bH aS (bO X bC) (n+2),bE,fn,bT,i0,aN,Q⟩ ⟨K,.o (⟨d,.call y b9,none⟩::xs),⟨own,aL,e⟩⟩:=by
 intro H ids st fr a3 ao af;have a3:cG bT i0 aN H ids st:=a3;have ay:=af.dG ha;have gy:fr.ak y= .func (.yield l) #[] #[]:=af.ak aJ;have s4:=ft.up a3;obtain⟨ez,dC,cp,g1,H1,ID,s1,uC,lP,uJ,rfl,rfl⟩:=apd H ids st H ids st ⟨oZ ps (dG fr b9) jK,[],none,false,some l⟩ (cG.refl _ _ _) ao (s4.env.par ay);have az:ids=ID:=uC.iY.eq (ao.len.trans lP.len.symm);subst az;have uC:cG H ids st H1 ids cp:=uC;have qX:=s4.up uC;have yE:=lP.other qX.lt qX.vj qX.hn (.loop .busy none lx jK ps dt body h2);obtain⟨axH,n0,dB,bd,iz,IE,sz,n2,HT,am3,rfl,ab⟩:=ape H1 ids ⟨cp.h.set l (.loop .busy none lx jK ps dt body h2),cp.ai⟩ (lP.len.trans lP.cr.symm) (a3.hle.trans uC.hle) H1 ids _ dC (cG.refl _ _ _) yE uJ;have n2:cG H1 ids ⟨cp.h.set l (.loop .busy none lx jK ps dt body h2),cp.ai⟩ iz IE dB:=n2;have anf:dB.h.get l=some (.loop .busy none lx jK ps dt body h2):=(n2.gh l qX.lt qX.vj).trans (aq.oF _ _ _);have amr:iz l=none:=(n2.hold l qX.lt qX.vj).trans qX.hn;have yT:l<dB.ai:=fx qX.lt n2.ai;have anr:l∉IE:=fun hm=>(n2.new l hm).elim qX.vj fun g=>absurd qX.lt (zds.2 g);have amp:=HT.other yT anr amr (.loop .ready none lx jK ps dt body h2);have M3:bH aS (bO X bC) (n+2) (.func (.yield l) #[] #[]) (dG fr b9) none st= .ret (.bool true) ⟨dB.h.set l (.loop .ready none lx jK ps dt body h2),dB.ai⟩ false:=by
  have a6:bH aS (bO X bC) (n+2) (.func (.yield l) #[] #[]) (dG fr b9) none st=z7 (bH aS (bO X bC) (n+1)) (n+1) l (dG fr b9) st:=rfl;rw[a6];unfold z7;rw[s4.get];show dQ (dd (dG fr b9)) (dd ps) _ _=_;rw[kC (by rw[fe,fe,hP ay,hlen]),g1];show Cw (bH aS (bO X bC) (n+1)) (n+1) l lx body dC cp=_;unfold Cw;rw[qX.get];show(cp.hU l (.loop .busy none lx jK ps dt body h2) fun st=>ru l (cR (bH aS (bO X bC) (n+1)) (n+1) lx body dC st))=_;rw[kR,bd];exact asV am3.pl.cL anf
 have hle:dm H iz:=uC.hle.trans n2.hle;refine rE (v:=.bool true) (st':=⟨dB.h.set l (.loop .ready none lx jK ps dt body h2),dB.ai⟩) ?_ (ab iz IE _ _ (a3.trans ?_) amp ((af.mono hle n2.iY).eL d rfl))
 ·rw[rk,gy];show ma (bH aS (bO X bC) (n+2) (.func (.yield l) #[] #[]) (dG fr b9) none st) _ _=_;rw[M3];rfl
 ·have Ew:st.ai<=cp.ai:=uC.ai;have XN:cp.ai<=dB.ai:=n2.ai;refine⟨hle,fun b hb ae=>(n2.hold b (fx hb Ew) ae).trans (uC.hold b hb ae),fun b hb ae=> ?_,zag Ew XN,n2.iY,fun b hb=>(n2.new b hb).imp id fun g=>zag Ew g⟩;show(aq.set dB.h l _).get b=st.h.get b;by_cases n3:b=l
  ·subst n3;rw[aq.oF];exact s4.get.symm
  ·rw[aq.gq _ _ n3];refine(n2.gh b (fx hb Ew) ae).trans ?_;show(aq.set cp.h l _).get b=st.h.get b;rw[aq.gq _ _ n3];exact uC.gh b hb ae
def rH.frame{l:Nat}{Tk:bQ}{H1:bm}{i1:ac Nat}{s1:ar}(h:rH l lx jK ps dt body h2 ki bT i0 aN)(a3:cG bT i0 aN H1 i1 s1)(f:ac Nat)(ah:kZ f Tk ki)(af:∀m∈f,m<i1.length):rH l lx jK ps dt body h2 Tk H1 (pick f i1) s1:=by
 have I:=h.up a3;refine⟨I.get,I.lt,fun hm=> ?_,I.hn,⟨I.env.pl,fun j a hj=>Hh f a (I.env.get j _ (ah.get hj))⟩⟩;obtain⟨k,ab⟩:=zaS.1 hm;obtain⟨m,_,au⟩:=tE (fun i k h=>af k (zal h)) ab;exact I.vj (zal au)
def x6(ts f:ac Nat)(own aZ:ac aY):Prop:=aZ.length=own.length∧(∀j:Nat,j<own.length->j∉f->aZ[j]? =own[j]?)∧∀i k:Nat,f[i]? =some k->(∀t,ts[i]? =some t->∃w,aZ[k]? =some (aY.c t [.v w]))∧(ts[i]? =none->aZ[k]? =some aY.x)
def ua(ts f:ac Nat)(own:ac aY)(iK:Nat)(res:ac hB)(N:aj->ac aY->Prop)(P:bi->ac aY->Prop)(x:dq)(s:cB):Prop:=
 ((x= .norm∨x= .ret)∧∃r g t aI aZ,Fin.ry s res=some r∧oY r=true∧Sub iK g s ⟨t,aI,[]⟩∧x3 f own aZ t∧N r aZ)∨∃v,x= .aQ v∧(∀(i:Nat) (t:ci),ts[i]? =some t->∃a,s.own[i]? =some (aY.c t [a]))∧∀aZ,x6 ts f own aZ->P v aZ
variable{eo:ac aY}{iK:Nat}{g:co}{b9:ac bv}{as nf:ac aj}{d:am Tmp}
def aiZ{ts f:ac Nat}{os:ac aY}{qj:Nat}{az:bQ}{iz:bm}{hr:ac Nat}{dB:ar}(ah:Sub 0 f ⟨own,aL,e⟩ ⟨eo,iK,az⟩)(al:∀(i:Nat) (t:ci),ts[i]? =some t->∃a,os[i]? =some (aY.c t [a]))(ao:Fit H ids st own aL)(gr:cG H (pick f ids) st iz hr dB)(jO:Fit iz hr dB os qj):
 ∃aZ,x6 ts f own aZ∧Fit iz ids dB aZ aZ.length∧cG H ids st iz ids dB:=by
 have XR:own.length=aL:=ao.cr;have hH:ids.length=aL:=ao.len;have oJ:∀(i k:Nat),f[i]? =some k->k<ids.length:=fun i k ab=>by
  have I:=(zac.1 ab).1;have hl:eo.length=f.length:=ah.own.len;obtain⟨eG,a8,U,ag,_⟩:=ah.own.get (bg (show i<eo.length by omega));rw[ab]at U;cases U;have:k<own.length:=(zac.1 ag).1;omega
 have po:f.Nodup:=ah.g9;have yV:∀(j b:Nat),j∉f->ids[j]? =some b->b∉pick f ids:=fun j b hj hb hm=>by
  obtain⟨k,ab⟩:=zaS.1 hm;obtain⟨eG,ag,au⟩:=tE oJ ab;have az:=zac.1 hb;have e2:=zac.1 au;have:=(zbC (h₀:=az.1) (h₁:=e2.1) ao.g9).1 (az.2.trans e2.2.symm);exact hj (this▸zal ag)
 have r6:∀b,b∈pick f ids->b∈ids:=fun b hb=>by
  obtain⟨k,ab⟩:=zaS.1 hb;obtain⟨eG,_,au⟩:=tE oJ ab;exact zal au
 have a3:cG H ids st iz ids dB:=⟨gr.hle,fun b hb ae=>gr.hold b hb fun h=>ae (r6 b h),fun b hb ae=>gr.gh b hb fun h=>ae (r6 b h),gr.ai,c0.refl _,fun b hb=>.inl hb⟩;have tk:∀i t,ts[i]? =some t->∃w,∀b,hr[i]? =some b->k4 iz ids (.c t [.v w]) (dB.h.get b)∧iz b=none:=fun i t aV=>by
  obtain⟨a,ha⟩:=al i t aV;have ae:i<hr.length:=by rw[jO.len,<-jO.cr];exact(zac.1 ha).1
  obtain⟨⟨vs,I,v,us,rfl,_,ag⟩,au⟩:=jO.own i _ _ ha (bg ae);have ag:us=[]:=ag;subst ag;exact⟨v,fun b hb=>by rw[bg ae]at hb;cases hb;exact⟨⟨_,I,_,_,rfl,rfl,rfl⟩,au rfl⟩⟩
 have uO:∀i hJ k,f[i]? =some k->f[hJ]? =some k->i=hJ:=fun i hJ k h aG=>by
  have az:=zac.1 h;have e2:=zac.1 aG;exact(zbC (h₀:=az.1) (h₁:=e2.1) po).1 (az.2.trans e2.2.symm)
 have hex:∀j,∃o:aY,(j∉f->o=(own[j]?).getD .x)∧∀i,f[i]? =some j->(∀t,ts[i]? =some t->∃w,o= .c t [.v w]∧∀b,hr[i]? =some b->k4 iz ids (.c t [.v w]) (dB.h.get b)∧iz b=none)∧(ts[i]? =none->o= .x):=fun j=>by
  by_cases hj:j∈f
  ·obtain⟨i,ae⟩:=zaS.1 hj;cases aV:ts[i]? with
   |none=>exact⟨.x,fun h=>absurd hj h,fun hJ dE=>⟨fun t h=>(by rw[<-uO i hJ j ae dE,aV]at h;cases h),fun _=>rfl⟩⟩
   |some t=>
    obtain⟨w,hw⟩:=tk i t aV;exact⟨.c t [.v w],fun h=>absurd hj h,fun hJ dE=>by
     have e:=uO i hJ j ae dE;subst e;exact⟨fun hM h=>(by rw[aV]at h;cases h;exact⟨w,rfl,hw⟩),fun h=>(by rw[aV]at h;cases h)⟩⟩
  ·exact⟨_,fun _=>rfl,fun i ae=>absurd (zal ae) hj⟩
 obtain⟨F,nn⟩:=Classical.axiomOfChoice hex;have aM:∀k,k<own.length->((List.range own.length).map F)[k]? =some (F k):=fun k ab=>by rw[zcR,List.getElem?_range ab];rfl
 have W6:∀i k t,f[i]? =some k->ts[i]? =some t->∃w,F k= .c t [.v w]∧∀b,hr[i]? =some b->k4 iz ids (.c t [.v w]) (dB.h.get b)∧iz b=none:=fun i k t ab aV=>((nn k).2 i ab).1 t aV;have W7:∀i k,f[i]? =some k->ts[i]? =none->F k= .x:=fun i k ab aV=>((nn k).2 i ab).2 aV;have W5:∀j,j∉f->F j=(own[j]?).getD .x:=fun j hj=>(nn j).1 hj;refine⟨(List.range own.length).map F,⟨by simp,fun j hj Ei=> ?_,fun i k ab=>⟨fun t aV=> ?_,fun aV=> ?_⟩⟩,⟨jO.wf,jO.le,rfl,by simp;omega,ao.g9,fun b hb=>fx (ao.lt b hb) gr.ai,fun k a8 b ab jP=> ?_⟩,a3⟩
 ·rw[aM j hj,W5 j Ei,bg hj];rfl
 ·obtain⟨w,I,_⟩:=W6 i k t ab aV;exact⟨w,by rw[aM k (by have:=oJ i k ab;omega),I]⟩
 ·rw[aM k (by have:=oJ i k ab;omega),W7 i k ab aV]
 ·have r2:k<own.length:=by have:=(zac.1 jP).1;omega
  rw[aM k r2]at ab;cases ab;by_cases yS:k∈f
  ·obtain⟨i,ae⟩:=zaS.1 yS;cases aV:ts[i]? with
   |none=>rw[W7 i k ae aV];exact⟨trivial,fun h=>by cases h⟩
   |some t=>
    obtain⟨w,I,U⟩:=W6 i k t ae aV;have ag:=U b (gr.iY i _ (rl ae jP));rw[I];exact⟨ag.1,fun _=>ag.2⟩
  ·rw[W5 k yS,bg r2];obtain⟨ag,au⟩:=ao.own k _ b (bg r2) jP;have a0:=ao.lt b (zal jP);have b5:=yV k b yS jP;rw[gr.gh b a0 b5];exact⟨rO gr.hle (c0.refl _) ag,fun hl=>by rw[gr.hold b a0 b5];exact au hl⟩
def Yq(xf:cJ)(aa:aS.get g=some xf)(ts f:ac Nat)(ah:Sub 0 f ⟨own,aL,[]⟩ ⟨eo,iK,[]⟩){N:aj->ac aY->Prop}{P:bi->ac aY->Prop}
 {H:bm} {ids:ac Nat} {st:ar} {fr:aO} (ao:Fit H ids st own aL) (af:cU fr H ids e)
 (k:(pick f ids).length=eo.length->aW.ok ⟨bH aS (bO X bC) (n+1),n+1,g,H,pick f ids,st,ua ts f own eo.length xf.res N P⟩ ⟨[],.c xf.body,⟨eo,iK,jB 0 nf⟩⟩)
 (ha:jq e b9=some as) (he:as=o5 f nf) (hl:nf.length<=xf.aI) (c6:bC g=eE.no):
 ∃st' a2 bX aZ,cG H ids st a2 bX st'∧Fit a2 bX st' aZ aZ.length∧((∃r v,bG (bH aS (bO X bC) (n+2)) (.call (.func g) b9) fr st= .ok v fr st'∧den a2 r bX v∧N r aZ)∨∃v,bG (bH aS (bO X bC) (n+2)) (.call (.func g) b9) fr st= .aQ v st'∧P v aZ):=by
 subst he;have ay:=af.dG ha;have k7:=wy f _ ay;have lP:=ah.fit ao;have q4:(pick f ids).length=eo.length:=lP.len.trans lP.cr.symm;have e7:=k q4 H _ st (er (dG fr b9)) (cG.refl _ _ _) lP (cU.zero k7);have ak:bG (bH aS (bO X bC) (n+2)) (.call (.func g) b9) fr st=ma (hF (bH aS (bO X bC) (n+1)) (n+1) g xf (dG fr b9) none st) (fun v st=>.ok v fr st) (fun v st=>.aQ v st):=by
  rw[rk];show ma (bH aS (bO X bC) (n+2) (.func (.func g) #[] #[]) (dG fr b9) none st) _ _=_;rw[pP];have a6:fk (#[]:be bi).toList (fk (dG fr b9) (#[]:be bi).toList)=dG fr b9:=by simp
  rw[a6,Ca c6,Sym.gI,Sym.gI,aa,Sym.eB]
 have fin:∀{a2:bm} {bX gD:ac Nat} {st':ar} {s:cB} {t aZ:ac aY} {aI:Nat},cG H (pick f ids) st a2 bX st'->Fit a2 bX st' s.own s.n->Sub eo.length gD s ⟨t,aI,[]⟩->x3 f own aZ t->∃BB,cG H ids st a2 BB st'∧Fit a2 BB st' aZ aZ.length:=fun cg cl r6 hb=>by
  have X3:Sub (pick f ids).length _ _ _:=q4▸r6;obtain⟨I,U⟩:=aiY ah hb ao (X3.bh cl cg) (X3.fit cl);exact⟨_,U,I⟩
 rcases Dp (n:=n+1) (f:=g) (Post:=fun v st'=>∃(r:aj) (a2:bm) (bX:ac Nat) (aZ:ac aY),cG H ids st a2 bX st'∧Fit a2 bX st' aZ aZ.length∧den a2 r bX v∧N r aZ)
  (x7:=fun v st'=>∃(a2:bm) (bX:ac Nat) (aZ:ac aY),cG H ids st a2 bX st'∧Fit a2 bX st' aZ aZ.length∧P v aZ)
  (by rw[hP k7];exact hl) (e7.mono (by
   rintro x dC cp ⟨a2,bX,s,cg,cl,dN,⟨aa,r,gD,t,aI,aZ,aD,anQ,r6,hb,hn⟩|⟨v,rfl,aok,hn⟩⟩
   ·obtain⟨v,ag,au⟩:=zP (call:=bH aS (bO X bC) (n+1)) cl dN aD;obtain⟨BB,a0,b5⟩:=fin cg cl r6 hb;exact .inl ⟨aa,v,au,r,a2,BB,aZ,a0,b5,AK _ anQ ag _,hn⟩
   ·obtain⟨aZ,a0,b5,cY⟩:=aiZ ah aok ao cg cl;exact .inr ⟨v,rfl,DU dN.pl,a2,ids,aZ,cY,b5,hn aZ a0⟩))with⟨v,st',I,r,a2,bX,aZ,cg,cl,gF,hn⟩|⟨v,st',I,a2,bX,aZ,cg,cl,hn⟩
 ·exact⟨st',a2,bX,aZ,cg,cl,.inl ⟨r,v,by rw[ak,I];rfl,gF,hn⟩⟩
 ·exact⟨st',a2,bX,aZ,cg,cl,.inr ⟨v,by rw[ak,I];rfl,hn⟩⟩
def FO(xf:cJ)(aa:aS.get g=some xf){xs:ac bA}(ts f:ac Nat)(ah:Sub 0 f ⟨own,aL,[]⟩ ⟨eo,iK,[]⟩)
 (k:∀H ids st,cG bT i0 aN H ids st->ids.length=own.length->(pick f ids).length=eo.length->aW.ok ⟨bH aS (bO X bC) (n+1),n+1,g,H,pick f ids,st,ua ts f own eo.length xf.res (fun r aZ=>aW.ok ⟨bH aS (bO X bC) (n+2),bE,fn,bT,i0,aN,Q⟩ ⟨K,.o xs,⟨aZ,aZ.length,eL d r e⟩⟩) (fun v aZ=>aW.ok ⟨bH aS (bO X bC) (n+2),bE,fn,bT,i0,aN,Q⟩ ⟨K,.x (.aQ v),⟨aZ,aZ.length,e⟩⟩)⟩ ⟨[],.c xf.body,⟨eo,iK,jB 0 nf⟩⟩)
 (ha:jq e b9=some as:=by rfl) (he:as=o5 f nf:=by rfl) (hl:nf.length<=xf.aI:=by exact jw rfl) (c6:bC g=eE.no:=by rfl):aW.ok ⟨bH aS (bO X bC) (n+2),bE,fn,bT,i0,aN,Q⟩ ⟨K,.o (⟨d,.call (.func g) b9,none⟩::xs),⟨own,aL,e⟩⟩:=fun H ids st fr a3 ao af=>by
 obtain⟨st',a2,bX,aZ,cg,cl,⟨r,v,I,ay,hn⟩|⟨v,I,hn⟩⟩:=Yq (n:=n) xf aa ts f ah ao af (k H ids st a3 (ao.len.trans ao.cr.symm)) ha he hl c6
 ·exact rE I (hn a2 bX st' _ (cG.trans a3 cg) cl ((af.mono cg.hle cg.iY).eL d ay))
 ·exact avV rfl I ⟨a2,bX,⟨aZ,aZ.length,e⟩,cG.trans a3 cg,cl,af.mono cg.hle cg.iY,hn⟩
def ag8(xf:cJ)(aa:aS.get g=some xf){bN:ac aY}{bj ck m:Nat}{ms:ac Nat}{a6:bQ}(ts f:ac Nat)(ah:Sub 0 f ⟨own,aL,[]⟩ ⟨eo,iK,[]⟩)
 (k:∀H ids st,cG bT i0 aN H ids st->ids.length=own.length->(pick f ids).length=eo.length->aW.ok ⟨bH aS (bO X bC) (n+1),n+1,g,H,pick f ids,st,ua ts f own eo.length xf.res (fun r aZ=>aW.ok ⟨bH aS (bO X bC) (n+2),bE,fn,bT,i0,aN,Q⟩ ⟨.sY ms m::K,.x .norm,⟨aZ,aZ.length,eL d r e⟩⟩) (fun v aZ=>aW.ok ⟨bH aS (bO X bC) (n+2),bE,fn,bT,i0,aN,Q⟩ ⟨.sY ms m::K,.x (.aQ v),⟨aZ,aZ.length,e⟩⟩)⟩ ⟨[],.c xf.body,⟨eo,iK,jB 0 nf⟩⟩)
 (ha:jq e b9=some as:=by rfl) (he:as=o5 f nf:=by rfl) (hl:nf.length<=xf.aI:=by exact jw rfl) (c6:bC g=eE.no:=by rfl):aW.ok ⟨bH aS (bO X bC) (n+2),bE,fn,bT,i0,aN,Q⟩ ⟨.sY ms m::K,.d [(⟨d,.call (.func g) b9,none⟩,.dY)] bN a6 bj ck,⟨own,aL,e⟩⟩:=by
 intro cQ gu H ids st fr fj dP a3 ao af cv;have gu:cQ=qK (bH aS (bO X bC) (n+2)) ms m:=gu;obtain⟨st',a2,bX,aZ,cg,cl,⟨r,v,I,ay,hn⟩|⟨v,I,hn⟩⟩:=Yq (n:=n) xf aa ts f ah ao af (k H ids st a3 (ao.len.trans ao.cr.symm)) ha he hl c6
 ·refine⟨.norm,fr.put d v,st',?_,a2,bX,⟨aZ,aZ.length,eL d r e⟩,cG.trans a3 cg,cl,(af.mono cg.hle cg.iY).eL d ay,hn⟩;show a1.rec (motive:=fun _=>ct) (fun v aF st'=>eh st.ai st'.ai (ga (bH aS (bO X bC) (n+2)) cQ [] (st'.h::dP) (aO.put ⟨fr.t,aF.cL,aF.aQ,aF.cx,aF.bW⟩ d v) st') .no) (fun v st'=>cond (da.call (.func g) b9).jh (cond (cQ [] (st.h::dP) (fr.put d undef) st) (.out (.aQ v) fr st') .no) .no) .no (bG (bH aS (bO X bC) (n+2)) (.call (.func g) b9) fr st)=_;rw[I];show eh st.ai st'.ai _ _=_;rw[gi cg.ai];rfl
 ·refine⟨.aQ v,fr,st',?_,a2,bX,⟨aZ,aZ.length,e⟩,cG.trans a3 cg,cl,af.mono cg.hle cg.iY,hn⟩;show a1.rec (motive:=fun _=>ct) (fun v aF st'=>eh st.ai st'.ai (ga (bH aS (bO X bC) (n+2)) cQ [] (st'.h::dP) (aO.put ⟨fr.t,aF.cL,aF.aQ,aF.cx,aF.bW⟩ d v) st') .no) (fun v st'=>cond (da.call (.func g) b9).jh (cond (cQ [] (st.h::dP) (fr.put d undef) st) (.out (.aQ v) fr st') .no) .no) .no (bG (bH aS (bO X bC) (n+2)) (.call (.func g) b9) fr st)=_;rw[I,gu];rfl
def Re(Post:am bi->ac aY->Prop)(res:ac hB)(x:dq)(s:cB):Prop:=((x= .norm∨x= .ret)∧(∃r,Fin.ry s res=some r)∧Post none s.own)∨∃v,x= .aQ v∧Post (some v) s.own
def adQ{fr:aO}(pv:fr.bW=none)(ao:Fit H ids st own aL)(af:cU fr H ids e){f:bv}{xf:cJ}{caps:ac aj}(Post:am bi->ac aY->Prop)(aa:aS.get g=some xf)(gw:bM e f=some (.fn (.func g) [] caps))(c6:bC g=eE.no)(Nu:caps.length+1<=xf.aI)
 (apg:∀(s1:ar) (l:Nat),ids.length=own.length->rH l fn fr.t ps dt body st.ai e H ids s1->
  aW.ok ⟨bH aS (bO X bC) (n+2),n+2,g,H,ids,s1,Re Post xf.res⟩ ⟨[],.c xf.body,⟨own,aL,jB 0 (.v (.func (.yield l) #[] #[])::caps)⟩⟩):
 ∃(o:am bi) (st':ar) (a2:bm) (bX:ac Nat) (aZ:ac aY),cR (bH aS (bO X bC) (n+3)) bE fn (.tP f ps dt body) fr st= .out (match o with|none=>.norm|some v=>.aQ v) ⟨fr.t,{target:=.collected st.ai,args:= #[]}::fr.cL,fr.aQ,fr.cx,fr.bW⟩ st'∧
  cG H ids st a2 bX st'∧Fit a2 bX st' aZ aZ.length∧Post o aZ∧st'.h.get st.ai=some (.hG (some []))∧st.ai<st'.ai∧a2 st.ai=none∧st.ai∉bX:=by
 obtain⟨vs,ws,aE,d1,d2⟩:=af.ak gw;have d1:vs=[]:=d1;subst d1;have aT:∀b∈ids,b<st.ai:=ao.lt;have MO:∀b,st.ai<=b->H b=none:=fun b hb=>by
  cases h:H b with
  |none=>rfl
  |some o=>have:=ao.aT h;omega
 have amq:=(ao.extra (.hG (some []))).extra (.loop .ready none fn fr.t ps dt body st.ai);have ta:∀b,st.ai<=b->b∉ids:=fun b hb hm=>by have:=aT _ hm;omega
 generalize kJ:(⟨(aq.set st.h st.ai (.hG (some []))).set (st.ai+1) (.loop .ready none fn fr.t ps dt body st.ai),st.ai+1+1⟩:ar)=s1 at *;have WZ:s1.h.get (st.ai+1)=some (.loop .ready none fn fr.t ps dt body st.ai):=by rw[<-kJ];show(aq.set _ (st.ai+1) _).get (st.ai+1)=_;exact aq.oF _ _ _
 have amk:s1.h.get st.ai=some (.hG (some [])):=by
  rw[<-kJ];show(aq.set _ (st.ai+1) _).get st.ai=_;rw[aq.gq _ _ (by omega),aq.oF]
 have amj:∀b,b<st.ai->s1.h.get b=st.h.get b:=fun b hb=>by
  rw[<-kJ];show(aq.set (aq.set st.h st.ai _) (st.ai+1) _).get b=_;rw[aq.gq _ _ (by omega),aq.gq _ _ (by omega)]
 have awB:s1.ai=st.ai+2:=by rw[<-kJ]
 have anp:=apg s1 (st.ai+1) (ao.len.trans ao.cr.symm) ⟨WZ,by omega,ta _ (zaZ _),MO _ (zaZ _),⟨⟨rfl,rfl,rfl⟩,af.get⟩⟩;have Xp:c4 H (.v (.func (.yield (st.ai+1)) #[] #[])::caps) ids (.func (.yield (st.ai+1)) #[] #[]::ws):=⟨_,ws,rfl,rfl,d2⟩;have fin:∀(o:am bi) (dB:ar) (a2:bm) (bX:ac Nat) (s:cB) (r:dk),hF (bH aS (bO X bC) (n+2)) (n+2) g xf (.func (.yield (st.ai+1)) #[] #[]::ws) none s1=r->cG H ids s1 a2 bX dB->Fit a2 bX dB s.own s.n->Post o s.own->
  (∃v,(o=none∧r= .ret v dB false)∨(o=some v∧r= .aQ v dB false))->∃(o:am bi) (st':ar) (a2:bm) (bX:ac Nat) (aZ:ac aY),cR (bH aS (bO X bC) (n+3)) bE fn (.tP f ps dt body) fr st= .out (match o with|none=>.norm|some v=>.aQ v) ⟨fr.t,{target:=.collected st.ai,args:= #[]}::fr.cL,fr.aQ,fr.cx,fr.bW⟩ st'∧
  cG H ids st a2 bX st'∧Fit a2 bX st' aZ aZ.length∧Post o aZ∧st'.h.get st.ai=some (.hG (some []))∧st.ai<st'.ai∧a2 st.ai=none∧st.ai∉bX:=by
  intro o dB a2 bX s r aD gr jO hp al;have XN:s1.ai<=dB.ai:=gr.ai;have jO:Fit a2 bX dB s.own s.own.length:=by rw[jO.cr];exact jO
  have n7:st.ai+1∉bX:=fun hm=>(gr.new _ hm).elim (ta _ (zaZ _)) fun g=>by omega
  have XQ:st.ai∉bX:=fun hm=>(gr.new _ hm).elim (ta _ (zaO _)) fun g=>by omega
  have wT:dB.h.get (st.ai+1)=some (.loop .ready none fn fr.t ps dt body st.ai):=(gr.gh _ (by omega) (ta _ (zaZ _))).trans WZ;have iG:dB.h.get st.ai=some (.hG (some [])):=(gr.gh _ (by omega) (ta _ (zaO _))).trans amk;have ams:a2 (st.ai+1)=none:=(gr.hold _ (by omega) (ta _ (zaZ _))).trans (MO _ (zaZ _));have W8:a2 st.ai=none:=(gr.hold _ (by omega) (ta _ (zaO _))).trans (MO _ (zaO _));have W1:cG H ids st a2 bX dB:=⟨gr.hle,fun b hb ae=>gr.hold b (by omega) ae,fun b hb ae=>(gr.gh b (by omega) ae).trans (amj b hb),by omega,gr.iY,fun b hb=>(gr.new b hb).imp id fun g=>by omega⟩;have gv:cR (bH aS (bO X bC) (n+3)) bE fn (.tP f ps dt body) fr st=Cv (st.ai+1) ⟨fr.t,{target:=.collected st.ai,args:= #[]}::fr.cL,fr.aQ,fr.cx,fr.bW⟩ r:=by
   show DQ (bH aS (bO X bC) (n+3)) fn f ps dt body fr st=_;unfold DQ;rw[pv,Sym.gI,gR,gR,aE,pP];have a6:fk (#[]:be bi).toList (fk [Value.func (.yield (st.ai+1)) #[] #[]] (⟨ws⟩:be bi).toList)=Value.func (.yield (st.ai+1)) #[] #[]::ws:=by simp
   show Cv _ _ (bp none _ (bp (bO X bC g (fk (#[]:be bi).toList (fk [Value.func (.yield (st.ai+1)) #[] #[]] (⟨ws⟩:be bi).toList)) _) _ (bp (aS.get g) _ _)))=_;rw[a6,Ca c6,Sym.gI,Sym.gI,aa,Sym.eB];show Cv _ _ (hF _ _ _ _ _ _ (⟨(aq.set st.h st.ai (.hG (some []))).set (st.ai+1) (.loop .ready none fn fr.t ps dt body st.ai),st.ai+1+1⟩:ar))=_;rw[kJ,aD]
  obtain⟨v,⟨rfl,rfl⟩|⟨rfl,rfl⟩⟩:=al
  ·refine⟨none,⟨dB.h.set (st.ai+1) (.loop .exhausted none fn fr.t ps dt body st.ai),dB.ai⟩,a2,bX,s.own,?_,W1.other (by omega) _,jO.other (by omega) n7 ams _,hp,?_,by show st.ai<dB.ai;omega,W8,XQ⟩
   ·rw[gv];show nw (dB.h.get (st.ai+1)) _ _=_;rw[wT];show(dB.hU (st.ai+1) (.loop .exhausted none fn fr.t ps dt body st.ai) fun st'=>bp none (fun e=>ct.out e _ st') (ct.out .norm _ st'))=_;rw[kR];rfl
   ·show(aq.set dB.h (st.ai+1) _).get st.ai=_;rw[aq.gq _ _ (by omega)];exact iG
  ·exact⟨some v,dB,a2,bX,s.own,gv,W1,jO,hp,iG,by omega,W8,XQ⟩
 rcases Dp (n:=n+2) (f:=g) (Post:=fun v st'=>∃(a2:bm) (bX:ac Nat) (s:cB),cG H ids s1 a2 bX st'∧Fit a2 bX st' s.own s.n∧Post none s.own)
  (x7:=fun v st'=>∃(a2:bm) (bX:ac Nat) (s:cB),cG H ids s1 a2 bX st'∧Fit a2 bX st' s.own s.n∧Post (some v) s.own)
  (by rw[hP Xp];exact Nu) ((anp H ids s1 (er _) (cG.refl _ _ _) amq (cU.zero Xp)).mono (by
   rintro x dC cp ⟨a2,bX,s,cg,cl,dN,⟨aa,⟨r,aD⟩,hp⟩|⟨v,rfl,hp⟩⟩
   ·obtain⟨v,au,a0⟩:=zP (call:=bH aS (bO X bC) (n+2)) cl dN aD;exact .inl ⟨aa,v,a0,a2,bX,s,cg,cl,hp⟩
   ·exact .inr ⟨v,rfl,DU dN.pl,a2,bX,s,cg,cl,hp⟩))with⟨v,dB,I,a2,bX,s,cg,cl,hp⟩|⟨v,dB,I,a2,bX,s,cg,cl,hp⟩
 ·exact fin none dB a2 bX s _ I cg cl hp ⟨v,.inl ⟨rfl,rfl⟩⟩
 ·exact fin (some v) dB a2 bX s _ I cg cl hp ⟨v,.inr ⟨rfl,rfl⟩⟩
end
variable{fr:aO}{r bE:Nat}{ops:ac bA}
def Fz:da->Bool
 |.iu _=>true
 |.alloc _ _=>true
 |.call _ _=>true
 |.jr _=>true
 |_=>false
def apF{a:bv}:bG call (.jr a) fr st= .no∨∃v,bG call (.jr a) fr st= .ok v fr st:=by
 rw[O8];cases fr.ak a<;>first|exact .inl rfl|skip
 rename_i p;cases p with
 |none=>exact .inl rfl
 |some ad=>
  obtain⟨b,o,sp⟩:=ad;show ar.load st ⟨b,o,sp⟩ 1 _ _=_∨∃v,ar.load st ⟨b,o,sp⟩ 1 _ _=_;unfold ar.load ar.gN;cases sp with
  |some _=>exact .inl rfl
  |none=>
   show yh (st.h.get b) _ _=_∨∃v,yh (st.h.get b) _ _=_;cases st.h.get b with
   |none=>exact .inl rfl
   |some q=>
    cases q<;>first|exact .inl rfl|skip
    rename_i cs _ _ _;show iB cs o 1 _ _=_∨∃v,iB cs o 1 _ _=_;unfold iB;cases KB 1 (Hl o cs)with
    |none=>exact .inl rfl
    |some vs=>
     cases vs with
     |nil=>exact .inl rfl
     |cons v vs=>
      cases vs with
      |nil=>exact .inr ⟨v,rfl⟩
      |cons _ _=>exact .inl rfl
def aqW{o:da}{aF:aO}{st':ar}(al:Fz o=true)(h:bG call o fr st= .ok v aF st'):aF=fr:=by
 cases o<;>first|cases al|skip
 ·cases h;rfl
 ·rename_i z el;have e:bG call (.alloc z el) fr st=st.jU (.cells z el (0,0) false) fun id st=>.ok (.pointer (some ⟨id,0,none⟩)) fr st:=rfl;rw[e,gR]at h;cases h;rfl
 ·rename_i a;rcases apF (call:=call) (a:=a) (fr:=fr) (st:=st)with g|⟨v1,g⟩
  ·rw[g]at h;cases h
  ·rw[g]at h;cases h;rfl
 ·rename_i f as;rw[rk]at h;cases hc:call (fr.ak f) (dG fr as) none st with
  |ret v1 cp eD=>rw[hc,My]at h;cases h;rfl
  |aQ v1 cp eD=>rw[hc,Mx]at h;cases h
  |no=>rw[hc]at h;cases h
theorem aam{call:bF}:∀{ops:ac bA} {fr aF:aO} {st st':ar} {e:dq},(ops.all fun x=>x.g.isNone&&Fz x.o)=true->fT call ops fr st= .out e aF st'->aF.bW=fr.bW
 |[],_,_,_,_,_,_,h=>by cases h;rfl
 |⟨d,o,g⟩::ops,fr,aF,st,st',e,ha,h=>by
  rw[zdn,b1,b1]at ha;obtain⟨⟨aM,al⟩,ha⟩:=ha;cases g with
  |some p=>cases aM
  |none=>
   have h:sk (bG call o fr st) (fun v fr st=>fT call ops (fr.put d v) st) (fun v st=>cond o.jh (.out (.aQ v) fr st) .no)= .out e aF st':=h;have al:Fz o=true:=al;cases dD:bG call o fr st with
   |ok v dC cp=>
    have az:=aqW al dD;subst az;rw[dD,sl]at h;rw[aam ha h];exact(sq _ _ _).2.2.2
   |aQ v cp=>
    rw[dD,O3]at h;cases hp:o.jh with
    |true=>rw[hp,cond_true]at h;cases h;rfl
    |false=>rw[hp,cond_false]at h;cases h
   |no=>rw[dD,ZQ]at h;cases h
def Qo{fn:co}(Q:dq->cB->Prop)(hp:(ops.all fun x=>x.g.isNone&&Fz x.o)=true)(h:∀H1 i1 s1,i1.length=s.own.length->dm H H1->aW.ok ⟨call,bE,fn,H1,i1,s1,Q⟩ ⟨[],.o ops,s⟩)
 (ao:Fit H ids st s.own s.n) (af:cU fr H ids s.env):∃x aF st' a2 bX bo,cR call bE fn (.g3 ops) fr st= .out x aF st'∧cG H ids st a2 bX st'∧Fit a2 bX st' bo.own bo.n∧cU aF a2 bX bo.env∧aF.bW=fr.bW∧Q x bo:=by
 obtain⟨e,aF,st',I,a2,bX,bo,a3,cl,dN,hq⟩:=h H ids st (ao.len.trans ao.cr.symm) (dm.refl _) H ids st fr (cG.refl _ _ _) ao af;exact⟨e,aF,st',a2,bX,bo,I,a3,cl,dN,aam hp I,hq⟩
def Qn{fn:co}{t:cB}(hp:(ops.all fun x=>x.g.isNone&&Fz x.o)=true)(h:∀H1 i1 s1,i1.length=s.own.length->dm H H1->aW.ok ⟨call,bE,fn,H1,i1,s1,fun x bo=>x= .norm∧bo=t⟩ ⟨[],.o ops,s⟩)
 (ao:Fit H ids st s.own s.n) (af:cU fr H ids s.env):∃aF st' a2 bX,cR call bE fn (.g3 ops) fr st= .out .norm aF st'∧cG H ids st a2 bX st'∧Fit a2 bX st' t.own t.n∧cU aF a2 bX t.env∧aF.bW=fr.bW:=by
 obtain⟨_,aF,st',a2,bX,_,I,U,ag,au,a0,rfl,rfl⟩:=Qo _ hp h ao af;exact⟨aF,st',a2,bX,I,U,ag,au,a0⟩
def adI{m:am bi}(aD:st.h.get r=some (.hG (some []))):jf call [{target:=.collected r,args:= #[]}] m st=some (m,⟨st.h.set r (.hG none),st.ai⟩):=by
 simp only[jf,aD];rw[kR]
def aiF(ay:fr.cL=[{target:=.collected r,args:= #[]}])(aV:fr.cx=false)(aD:st.h.get r=some (.hG (some []))):ff call [] none fr st= .ret (.tuple #[]) ⟨st.h.set r (.hG none),st.ai⟩ false:=by
 unfold ff;rw[ay,adI aD,aV];rfl
def aiG{res:ac hB}(ay:fr.cL=[{target:=.collected r,args:= #[]}])(aV:fr.cx=false)(aD:st.h.get r=some (.hG (some []))):ff call res (some v) fr st= .aQ v ⟨st.h.set r (.hG none),st.ai⟩ false:=by
 unfold ff;rw[ay,adI aD,aV];rfl
end Go.an
namespace Go.an
variable{X:Ctx}
variable{b:Nat}{gs:ac (Nat×bB)}{g:Nat}{p:Nat×bB}
def oc(g n:Nat):bu:=fun i=>if i<g then some ⟨i,0,0,h3⟩else if n<=i∧i<2*n then some ⟨i-n,0,0,h3⟩else none
def tl(W:d7)(b:Nat):Bool:=match W.heap[b]? with
 |some (.cells _ _ _)=>true
 |_=>false
def Yu{W:d7}(h:tl W b=true):∃C el bk,W.heap[b]? =some (.cells C el bk):=by
 unfold tl at h;split at h
 ·rename_i C el bk hC;exact⟨C,el,bk,hC⟩
 ·cases h
def toA(W:d7):bi->bi
 |.bool b=>.bool b
 |.int k m=>.int k m
 |.string s=>.string s
 |.slice none l c=>.slice none l c
 |.slice (some a) l c=>if tl W a.block=true∧a.spot=none then .slice (some ⟨W.heap.size+a.block,a.off,none⟩) l c else(match l with|0=>.chan none|_=>js)
 |.pointer none=>.pointer none
 |.pointer (some a)=>if a.block<W.heap.size∧a.spot=none then .pointer (some ⟨W.heap.size+a.block,a.off,none⟩)else js
 |_=>js
def N8{n:Nat}(aM:g<=n)(hb:b<n):oc g n (n+b)=some ⟨b,0,0,h3⟩:=by
 unfold oc;rw[zaa (by omega),zab (by omega),zec]
def QB{W:d7}(aM:g<=W.heap.size)(v:bi):bw (oc g W.heap.size) (toA W v) v:=by
 cases v with
 |slice a l c=>
  cases a with
  |none=>exact .nJ _ _
  |some a=>
   show bw _ (if tl W a.block=true∧a.spot=none then Value.slice (some ⟨W.heap.size+a.block,a.off,none⟩) l c else(match l with|0=>.chan none|_=>js)) _;split
   ·rename_i h;obtain⟨b,o,sp⟩:=a;obtain⟨I,U⟩:=h;simp only at I U;subst U;obtain⟨_,_,_,ag⟩:=Yu I;have:=bw.gV (ι:=oc g W.heap.size) ⟨W.heap.size+b,o,none⟩ ⟨b,0,0,h3⟩ o l c (N8 aM (zbh.1 ag).1) rfl (.inl (by simp));exact this
   ·split
    ·exact .emp _ _
    ·exact .top _
 |pointer a=>
  cases a with
  |none=>exact .nF
  |some a=>
   show bw _ (if a.block<W.heap.size∧a.spot=none then Value.pointer (some ⟨W.heap.size+a.block,a.off,none⟩)else js) _;split
   ·rename_i h;obtain⟨b,o,sp⟩:=a;obtain⟨I,U⟩:=h;simp only at I U;subst U;have:=bw.ptr (ι:=oc g W.heap.size) ⟨W.heap.size+b,o,none⟩ ⟨b,0,0,h3⟩ (N8 aM I) rfl;simpa using this
   ·exact .top _
 |bool b=>exact .bool b
 |int k m=>exact .int k m
 |string s=>exact .string s
 |_=>exact .top _
theorem adg{g:Nat}{W:d7}(aM:g<=W.heap.size):∀vs:ac bi,bP (oc g W.heap.size) (vs.map (toA W)) vs
 |[]=>.nil _
 |v::vs=>.cons (QB aM v) (adg aM vs)
theorem QN:∀(us:ac (Nat×bB)) (h:aq bB) (k:Nat),(∀p∈us,p.1≠k)->(kT us h).get k=h.get k
 |[],_,_,_=>rfl
 |u::us,h,k,hn=>by
  rw[KH,QN us _ k (fun p hp=>hn p (zaC _ hp)),aq.eI,zaa (fun e=>hn u zbf e.symm)]
theorem adJ:∀(us:ac (Nat×bB)) (h:aq bB) (k:Nat) (o:bB),(us.map (·.1)).Nodup->(k,o)∈us->(kT us h).get k=some o
 |u::us,h,k,o,ay,hm=>by
  rw[zaQ,List.nodup_cons]at ay;rw[KH];rcases zah.1 hm with rfl|hm
  ·rw[QN us _ k (fun p hp e=>ay.1 (e▸zbc.2 ⟨p,hp,rfl⟩)),aq.eI,zab rfl]
  ·exact adJ us _ k o ay.2 hm
def zw(W:d7)(b:Nat):am Obj->am (Nat×bB)
 |some (.cells C el _)=>some (W.heap.size+b,.cells (C.toList.map (toA W)) el (0,C.size+1) false)
 |_=>none
def Fl(W:d7):ac (Nat×bB):=(List.range W.heap.size).filterMap fun b=>zw W b W.heap[b]?
def h6(gs:ac (Nat×bB))(W:d7):aq bB:=kT (Fl W) (kT gs .nil)
def Jg{W:d7}:p∈Fl W↔∃b,b<W.heap.size∧zw W b W.heap[b]? =some p:=by
 unfold Fl;simp only[List.mem_filterMap,zcN]
def Fk{W:d7}{o:am Obj}(h:zw W b o=some p):p.1=W.heap.size+b:=by
 unfold zw at h;split at h
 ·cases h;rfl
 ·cases h
def aqJ(W:d7):((Fl W).map (·.1)).Nodup:=by
 unfold Fl;rw[List.map_filterMap];have aD:(List.range W.heap.size).Nodup:=List.nodup_range;refine List.Pairwise.filterMap (R:=fun a b=>a≠b) _ ?_ aD;intro a b fM x aa y aJ e;obtain⟨p,I,rfl⟩:=zaR.1 aa;obtain⟨q,U,rfl⟩:=zaR.1 aJ;rw[Fk I,Fk U]at e;omega
def amZ{W:d7}{C:be bi}{el:ci}{bk:Nat×Nat}(h:W.heap[b]? =some (.cells C el bk)):(h6 gs W).get (W.heap.size+b)=some (.cells (C.toList.map (toA W)) el (0,C.size+1) false):=
 adJ _ _ _ _ (aqJ W) (Jg.2 ⟨b,(zbh.1 h).1,by rw[h];rfl⟩)
def amY{W:d7}(h:g<W.heap.size):(h6 gs W).get g=(kT gs .nil).get g:=
 QN _ _ _ fun p hp=>by
  obtain⟨b,_,e⟩:=Jg.1 hp;rw[Fk e];omega
def awf{W:d7}(e0:X.aH<=W.heap.size)(h:∀p∈gs,vS X.aH W p):bx X (oc X.aH W.heap.size) ⟨h6 gs W,2*W.heap.size⟩ W:=by
 have hle:(IG X.aH).le (oc X.aH W.heap.size):=fun i l hl=>by
  unfold IG at hl;unfold oc;split at hl
  ·rename_i ae;cases hl;rw[zab ae]
  ·cases hl
 have hH:∀i l,oc X.aH W.heap.size i=some l->l.bY=h3∧l.cK<W.heap.size∧i<2*W.heap.size:=by
  intro i l hl;unfold oc at hl;split at hl
  ·cases hl;exact⟨rfl,by simp only;omega,by omega⟩
  ·split at hl
   ·cases hl;exact⟨rfl,by simp only;omega,by omega⟩
   ·cases hl
 have qa:∀i o,(h6 gs W).get i=some o->vS X.aH W (i,o)∨∃b,b<W.heap.size∧i=W.heap.size+b∧zw W b W.heap[b]? =some (i,o):=by
  intro i o al;rcases CM _ _ _ _ al with hm|hm
  ·obtain⟨b,hb,e⟩:=Jg.1 hm;exact .inr ⟨b,hb,Fk e,e⟩
  ·rcases CM _ _ _ _ hm with hm|hm
   ·exact .inl (h _ hm)
   ·simp at hm
 refine⟨fun i o al ay=> ?_,fun i j o p l m ae _ hj _ hl hm ah e=> ?_,fun i ae=> ?_,fun i l hl=>(hH i l hl).2.1,fun g aM=> ?_,?_,fun i l o hl _ al _=> ?_⟩
 ·rcases qa i o al with⟨aT,cs,el,m,C,bk,az,e2,b8,fa⟩|⟨b,hb,rfl,e⟩
  ·simp only at aT az b8;refine⟨⟨i,0,0,h3⟩,by unfold oc;rw[zab aT],?_⟩;subst az;have hlen:cs.length=C.size:=by rw[fa.1];simp
   have fa:=fa.mono hle;refine⟨C,bk,b8,by simp[hlen],fun k ab=> ?_,fun af=> ?_,fun _=>⟨rfl,rfl,hlen.symm⟩⟩
   ·have fF:k<C.size:=by omega
    refine⟨C[k],by simp[fF],?_⟩;have:=fa.2 k ab (by simpa using fF)
    rwa [zaB]at this
   ·simp only at af;omega
  ·refine⟨⟨b,0,0,h3⟩,N8 e0 hb,?_⟩;unfold zw at e;split at e
   ·rename_i C el bk hC;cases e;have aD:=adg e0 C.toList;refine⟨C,bk,hC,by simp,fun k ab=> ?_,fun af=> ?_,fun _=>⟨rfl,rfl,by simp⟩⟩
    ·have fF:k<C.size:=by simpa using ab
     refine⟨C[k],by simp[fF],?_⟩;have:=aD.2 k ab (by simpa using fF)
     rwa [zaB]at this
    ·simp only at af;omega
   ·cases e
 ·exact(ah.elim (fun h=>h (hH i l hl).1) (fun h=>h (hH j m hm).1)).elim
 ·have ae:2*W.heap.size<=i:=ae;refine⟨?_,?_⟩
  ·cases e:oc X.aH W.heap.size i with
   |none=>rfl
   |some l=>have:=(hH i l e).2.2;omega
  ·cases e:(h6 gs W).get i with
   |none=>rfl
   |some o=>
    rcases qa i o e with h|⟨b,hb,rfl,_⟩
    ·have:=h.1;simp only at this;omega
    ·omega
 ·exact hle _ _ (by unfold IG;rw[zab aM])
 ·show X.aH<=2*W.heap.size;omega
 ·rcases qa i o al with⟨_,cs,el,m,C,bk,az,e2,_,_⟩|⟨b,hb,rfl,e⟩
  ·simp only at az;subst az;exact⟨rfl,e2⟩
  ·unfold zw at e;split at e
   ·cases e;exact⟨rfl,zdt _⟩
   ·cases e
def am0{W:d7}(h:∀p∈gs,p.1<W.heap.size)(b:Nat)(hb:2*W.heap.size<=b):(h6 gs W).get b=none:=by
 cases e:(h6 gs W).get b with
 |none=>rfl
 |some o=>
  rcases CM _ _ _ _ e with hm|hm
  ·obtain⟨c,hc,e⟩:=Jg.1 hm;have:=Fk e;simp only at this;omega
  ·rcases CM _ _ _ _ hm with hm|hm
   ·have:=h _ hm;simp only at this;omega
   ·simp at hm
inductive ot
 |i (k:IntKind)
 |b
 |s
 |a5 (z w:Nat) (cs:List ot)
mutual
def sx(B:Nat)(W:d7):ot->bi->Prop
 |.i k,v=>∃m,v= .int k m∧(Lit.int k m).wf=true
 |.b,v=>∃t,v= .bool t
 |.s,v=>∃s:f6,v= .string s∧s.data.toList.length<=B
 |.a5 z w cs,v=>v= .slice none 0 0∨∃(a:Addr) (n c:Nat),v= .slice (some a) n c∧n<=c∧c<=B∧c*w<=B∧∀i,i<n->∃vs,W.cells? 0 (a.add (i*z)) z=some vs∧lh B W cs vs
def lh(B:Nat)(W:d7):ac ot->ac bi->Prop
 |[],vs=>vs=[]
 |c::cs,vs=>∃v ws,vs=v::ws∧sx B W c v∧lh B W cs ws
end
theorem abN{B:Nat}{W:d7}:∀{cs ds:ac ot} {vs ws:ac bi},lh B W cs vs->lh B W ds ws->lh B W (cs++ds) (vs++ws)
 |[],ds,vs,ws,h,aG=>by
  have h:vs=[]:=h;subst h;exact aG
 |c::cs,ds,vs,ws,⟨v,us,e,I,U⟩,aG=>by
  subst e;exact⟨v,us++ws,rfl,I,abN U aG⟩
def Az(P:f5):Nat->ci->am (ac ot)
 |0,_=>none
 |n+1,t=>
  match P.underlying t with
  |some .bool=>some [.b]
  |some (.int k)=>some [.i k]
  |some .string=>some [.s]
  |some (.slice e)=>if P.bytesOf e=0 then none else(Az P n e).map fun cs=>[.a5 (P.cellsOf e) (P.bytesOf e) cs]
  |some (.struct bJ)=>if AH 0 (bJ.toList.map fun f=>(f.offset,P.cellsOf f.type)) (P.cellsOf t)then(bJ.toList.mapM fun(f:Field)=>Az P n f.type).map List.flatten else none
  |_=>none
theorem adX{H:Type}{P:f5}{e:ci}{x:Nat}:∀{l:ac (DataW H)} {d:DataW H},d∈l->x∈d.weights P e->x∈DataW.weightsAll P e l
 |y::l,d,ay,aa=>by
  unfold DataW.weightsAll;rcases zah.1 ay with rfl|ay
  ·exact zcU _ aa
  ·exact zee _ (adX ay aa)
theorem KP{H:Type}{P:f5}{x:Nat}:∀{ts:ac ci} {l:ac (DataW H)} {i:Nat} {t:ci} {d:DataW H},ts[i]? =some t->l[i]? =some d->x∈d.weights P t->x∈DataW.weightsEach P ts l
 |[],_,_,_,_,h,_,_=>by simp at h
 |_::_,[],_,_,_,_,h,_=>by simp at h
 |u::ts,y::l,0,t,d,h,aG,aa=>by
  simp at h aG;subst h;subst aG;unfold DataW.weightsEach;exact zcU _ aa
 |u::ts,y::l,i+1,t,d,h,aG,aa=>by
  unfold DataW.weightsEach;exact zee _ (KP (i:=i) (by simpa using h) (by simpa using aG) aa)
theorem acb{B:Nat}{W:d7}{α:Type}{seg:α->ac bi}{cQ:α->am (ac ot)}:∀(as:ac α) (mB:ac (ac ot)),as.mapM cQ=some mB->(∀a∈as,∀cs,cQ a=some cs->lh B W cs (seg a))->lh B W mB.flatten (as.map seg).flatten
 |[],mB,h,_=>by
  simp at h;subst h;exact rfl
 |a::as,mB,h,ab=>by
  rw[zdi]at h;obtain⟨cs,aa,h⟩:=zbK.1 h;obtain⟨aw,aJ,h⟩:=zbK.1 h;cases h;rw[zaQ,zdV,zdV];exact abN (ab a zbf cs aa) (acb as aw aJ (fun a ha=>ab a (zaC _ ha)))
theorem GR{H:Type}{enc:ci×bi->H}{P:f5}{W:d7}{B:Nat}:∀(n fuel:Nat) (t:ci) (cs:ac bi) (d:DataW H) (p:ac MemPlace) (mB:ac ot),
 DataW.trod enc P W 0 (fun _=>true) true fuel t cs=some (d,p)->Az P n t=some mB->(∀x∈d.weights P t,x<=B)->lh B W mB cs
 |0,_,_,_,_,_,_,_,h,_=>by cases h
 |n+1,fuel,t,cs,d,p,mB,h,hc,a3=>by
  unfold Az at hc;cases fuel with
  |zero=>simp[DataW.trod]at h
  |succ fuel=>
  split at hc
  ·rename_i hu;cases hc;simp only[DataW.trod,hu]at h;split at h<;>first|(rename_i hq;cases hq)|skip
   all_goals first|(exact⟨_,_,rfl,⟨_,rfl⟩,rfl⟩)|(simp at h)
  ·rename_i k hu;cases hc;simp only[DataW.trod,hu]at h;split at h<;>first|(rename_i hq;cases hq)|skip
   all_goals first
    |(split at h
      ·rename_i hc;exact⟨_,_,rfl,⟨_,by rw[hc.1],hc.2⟩,rfl⟩
      ·cases h)
    |(simp at h)
  ·rename_i hu;cases hc;simp only[DataW.trod,hu]at h;split at h<;>first|(rename_i hq;cases hq)|skip
   all_goals first
    |(split at h
      ·cases h;exact⟨_,_,rfl,⟨_,rfl,a3 _ (by unfold DataW.weights;exact zbf)⟩,rfl⟩
      ·cases h)
    |(simp at h)
  ·rename_i e hu;split at hc
   ·cases hc
   rename_i awN;obtain⟨afF,amO,rfl⟩:=zaR.1 hc;rcases DataW.trod_slice hu h with⟨rfl,_⟩|⟨a,len,cap,elems,rest,m,az,rfl,e2,_,I,U,ag,au,a0,_⟩
   ·exact⟨_,_,rfl,.inl rfl,rfl⟩
   ·have ay:d= .slice (elems.map (·.1)) (rest.map (·.1)):=congrArg Prod.fst e2;subst ay;have hw:∀x,x∈(elems.length+rest.length)*P.bytesOf e::(DataW.weightsAll P e (elems.map (·.1))++DataW.weightsAll P e (rest.map (·.1)))->x<=B:=fun x aa=>a3 x (by
     unfold DataW.weights;rw[hu];simp only[zbB];exact aa)
    have ah:=hw _ zbf;have j8:(elems.length+rest.length)*1<=(elems.length+rest.length)*P.bytesOf e:=Nat.mul_le_mul_left _ (by omega);have aD:=(a0 rfl).1;refine⟨_,_,rfl,.inr ⟨a,len,cap,rfl,I,by omega,zag (zdE _ (by omega)) ah,fun i ae=> ?_⟩,rfl⟩;have au:=au i ae;have yN:i<elems.length:=by omega
    rw[zcf yN]at au;obtain⟨vs,cO,cS⟩:=zbK.1 au;refine⟨vs,cO,GR n m e vs _ _ afF cS amO (fun x aa=>hw x (zaC _ (zcU _ (adX (zbc.2 ⟨_,zdF yN,rfl⟩) aa))))⟩
  ·rename_i bJ hu;split at hc
   ·rename_i Xm;obtain⟨afL,hm,rfl⟩:=zaR.1 hc;obtain⟨xs,m,az,e2,b8,fa,l9⟩:=DataW.trod_struct hu h;have ay:d= .agg (xs.map (·.1)):=congrArg Prod.fst e2;subst ay;rw[<-b8]at Xm;have Ho:=G7 cs _ 0 Xm;rw[zaq,zcl]at Ho;rw[Ho];refine acb (seg:=fun(f:Field)=>(cs.drop f.offset).take (P.cellsOf f.type)) bJ.toList afL hm (fun f af cs' gu=> ?_);obtain⟨i,ae,rfl⟩:=List.mem_iff_getElem.1 af;have dE:i<bJ.size:=by simpa using ae
    have l9:=l9 i bJ.toList[i] (by simp[dE]);have mN:i<xs.length:=by omega
    rw[zcf mN]at l9;exact GR n m _ _ _ _ cs' l9 gu (fun x aa=>a3 x (by
     unfold DataW.weights;rw[hu];exact KP (i:=i) (t:=bJ.toList[i].type) (d:=xs[i].1) (by simp[dE]) (by simp[mN]) aa))
   ·cases hc
  ·cases hc
def A7(W:d7)(v:bi):Prop:=∀a l c,v= .slice (some a) l c->a.spot=none∧∃C el bk,W.heap[a.block]? =some (.cells C el bk)
variable{z:Nat}{v:bi}{α:Type}{a:Addr}{vs:ac bi}{B w:Nat}{R:α->ac aj}{Q:α->Prop}
def A8{P:f5}{W:d7}{u e:ci}(hu:P.underlying u=some (.slice e))(h:Cell.okWide P W .any 0 u v):A7 W v:=by
 intro a l c aE;subst aE;unfold Cell.okWide at h;rw[hu]at h;simp only[Cell.ok,hu]at h;obtain⟨_,_,_,I,row,cells,U,_⟩:=h;refine⟨I,?_⟩;unfold World.shape? at U;split at U
 ·rename_i C el bk hC;exact⟨C,el,bk,hC⟩
 ·cases U
def afB{W:d7}{C:be bi}{el:ci}{bk:Nat×Nat}{o:Nat}(ah:a=⟨b,o,none⟩)(h:W.cells? 0 a z=some vs)(hC:W.heap[b]? =some (.cells C el bk)):vs=(C.toList.drop o).take z:=by
 unfold World.cells? at h;rw[zab (zaf _)]at h;have hl:=mapM_some_length h;rw[zef]at hl;have aM:∀i,i<z->C[o+i]? =vs[i]? :=fun i ae=>by
  have:=mapM_some_get h i i (by simp[ae]);unfold World.cell? at this;rw[ah,qz]at this;simp only[hC]at this;exact this
 apply zbA;intro i;rw[zaK];split
 ·rename_i ae;rw[zaw,<-aM i ae];simp
 ·rw[zbq (by omega)]
def afC{W:d7}(ax:0<z)(h:W.cells? 0 (a.add (0*z)) z=some vs):tl W a.block=true∧a.spot=none:=by
 unfold World.cells? at h;rw[zab (zaf _)]at h;have hl:=mapM_some_length h;rw[zef]at hl;have h0:=mapM_some_get h 0 0 (by simp[ax]);have aE:vs[0]? =some (vs[0]'(by omega)):=zcf (by omega);have e:(a.add (0*z)).add 0=a:=by simp[Addr.add]
 rw[aE,e]at h0;unfold World.cell? at h0;split at h0
 ·rename_i c el bk hc;split at h0
  ·cases h0
  ·rename_i ah;refine⟨by unfold tl;rw[hc],?_⟩;cases th:a.spot with
   |none=>rfl
   |some _=>rw[th]at ah;exact absurd rfl ah
 ·cases h0
def apR{n:Nat}{p:Nat->α->Prop}(h:∀i,i<n->∃x,p i x):∃l:ac α,l.length=n∧∀(i:Nat) (x:α),l[i]? =some x->p i x:=by
 induction n with
 |zero=>exact⟨[],rfl,fun i x aa=>by simp at aa⟩
 |succ n ba=>
  obtain⟨l,I,U⟩:=ba (fun i ae=>h i (by omega));obtain⟨y,aJ⟩:=h n (zbJ _);refine⟨l++[y],by simp[I],fun i x aa=> ?_⟩;by_cases ae:i<n
  ·rw[zaD (by omega)]at aa;exact U i x aa
  ·rw[zav (by omega)]at aa;have:i=n:=by
    have:=(zac.1 aa).1;simp at this;omega
   subst this;rw[I,zbZ]at aa;simp at aa;subst aa;exact aJ
def zT{W:d7}{mB:ac ot}(rZ:∀vs,lh B W mB vs->∃x:α,c4 (fun b=>(h6 gs W).get b) (R x) [] (vs.map (toA W))∧Q x)
 (h:sx B W (.a5 z w mB) v) (hh:A7 W v):∃l:ac α,l.length<=B∧l.length*w<=B∧(∀x∈l,Q x)∧den (fun b=>(h6 gs W).get b) (.bq z α R l) [] (toA W v):=by
 rcases h with rfl|⟨a,n,c,rfl,I,U,hw,ag⟩
 ·exact⟨[],zaf _,by simp,(fun x aa=>by cases aa),.inl ⟨rfl,rfl⟩⟩
 ·obtain⟨g1,C,el,bk,aP⟩:=hh a n c rfl;obtain⟨b,o,sp⟩:=a;simp only at g1 aP;subst g1;have Xk:=(zbh.1 aP).1;obtain⟨l,az,e2⟩:=apR (p:=fun i x=>c4 (fun b=>(h6 gs W).get b) (R x) [] ((((C.toList.map (toA W)).drop (o+i*z)).take z))∧Q x) (n:=n) (fun i ae=>by
   obtain⟨vs,cO,cS⟩:=ag i ae;obtain⟨x,et,kr⟩:=rZ vs cS;have:=afB (qz b o (i*z)) cO aP;rw[this]at et;refine⟨x,?_,kr⟩;rw[<-zeg,<-List.map_take];exact et)
  refine⟨l,by omega,zag (zdE _ (by omega)) hw,fun x aa=> ?_,.inr ⟨W.heap.size+b,o,c,C.toList.map (toA W),el,(0,C.size+1),false,?_,by omega,amZ aP,fun i x aa=>(e2 i x aa).1⟩⟩
  ·obtain⟨i,ae⟩:=zaS.1 aa;exact(e2 i x ae).2
  ·show(if tl W b=true∧(none:am Nat)=none then Value.slice (some ⟨W.heap.size+b,o,none⟩) n c else _)=_;rw[zab ⟨by unfold tl;rw[aP],rfl⟩,az]
def CC{W:d7}{mB:ac ot}(ax:0<z)(rZ:∀vs,lh B W mB vs->∃x:α,c4 (fun b=>(h6 gs W).get b) (R x) [] (vs.map (toA W))∧Q x)
 (h:sx B W (.a5 z w mB) v):∃l:ac α,l.length*w<=B∧(∀x∈l,Q x)∧den (fun b=>(h6 gs W).get b) (.cw z α R l) [] (toA W v):=by
 by_cases hh:A7 W v
 ·obtain⟨l,_,I,U,d⟩:=zT (gs:=gs) rZ h hh;exact⟨l,I,U,.inr d⟩
 ·rcases h with rfl|⟨a,n,c,rfl,I,U,_,ag⟩
  ·exact absurd (fun a l c e=>by cases e) hh
  ·refine⟨[],by simp,(fun x aa=>by cases aa),.inl ⟨rfl,?_⟩⟩;have hb:¬(tl W a.block=true∧a.spot=none):=fun⟨au,a0⟩=>hh fun a' l' bL e=>by
    cases e;exact⟨a0,Yu au⟩
   cases n with
   |zero=>
    show(if tl W a.block=true∧a.spot=none then Value.slice (some ⟨W.heap.size+a.block,a.off,none⟩) 0 c else .chan none)=_;rw[zaa hb]
   |succ n=>
    obtain⟨vs,cO,_⟩:=ag 0 (zdt n);exact absurd (afC ax (by simpa using cO)) hb
