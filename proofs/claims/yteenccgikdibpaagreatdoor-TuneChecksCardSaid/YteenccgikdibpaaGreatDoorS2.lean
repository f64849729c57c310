/- Rules for what a function computes on abstract states (part 2); no condition. -/
import Derived.Carry
import Derived.Test.YteenccgikdibpaaGreatDoorS1
import Derived.Test.YteenccgikdibpaaGreatDoorM3
noncomputable section
set_option linter.all false
namespace Go.an
open Sym
set_option maxRecDepth 10000
theorem Xs{X:Ctx}{K:FuncId->List Value->au->Value->au->Prop}{f:FuncId}(h:K f=fun _ _ _ _=>False)(as:List Value)(st:au):c0 X K f as st=none:=by
 unfold c0;rw[dif_neg];rintro⟨p,h1,_⟩;rw[h]at h1;exact h1
theorem dM.trans{b9 H bs:bF}{i0 ids cU:List Nat}{aJ st st':au}(h:dM b9 i0 aJ H ids st)(aB:dM H ids st bs cU st'):dM b9 i0 aJ bs cU st':=by
 have hn:∀b,b<aJ.ai->b∉i0->b<st.ai∧b∉ids:=fun b aa ae=>⟨e4 aa h.ai,fun hm=>(h.new b hm).elim ae (fun h=>by omega)⟩;refine⟨h.hle.trans aB.hle,fun b aa ae=> ?_,fun b aa ae=> ?_,Nat.le_trans h.ai aB.ai,fun k b U=>aB.kq k b (h.kq k b U),fun b aa=> ?_⟩
 ·obtain⟨h1,h2⟩:=hn b aa ae;rw[aB.hold b h1 h2,h.hold b aa ae]
 ·obtain⟨h1,h2⟩:=hn b aa ae;rw[aB.gz b h1 h2,h.gz b aa ae]
 ·rcases aB.new b aa with h1|h1
  ·exact h.new b h1
  ·exact .inr (Nat.le_trans h.ai h1)
section
variable{X:Ctx}{aW:ao df}{cp:FuncId->List Value->au->Value->au->Prop}{cd n:Nat}{fn:FuncId}{b9:bF}{i0:List Nat}{aJ:au}{Q:dF->cS->Prop}{K:List eQ}{own:List a3}{aM:Nat}{e:bT}
def abv(aF:gx)(K:List eQ)(xs:List bL)(d:Option Tmp)(e:bT)(res:List ig)(x:dF)(s:cS):Prop:=(x= .norm∨x= .ret)∧∃r,Fin.tH s res=some r∧a2.ok aF ⟨K,.o xs,⟨s.own,s.n,fA d r e⟩⟩
theorem YN{g:FuncId}(xf:df)(J:aW.get g=some xf){cr:List Operand}{as:List af}{d:Option Tmp}{xs:List bL}
 (k:∀H1 i1 s1,i1.length=own.length->dt b9 H1->a2.ok ⟨cC aW (c0 X cp) (n+1),n+1,g,H1,i1,s1,abv ⟨cC aW (c0 X cp) (n+2),cd,fn,b9,i0,aJ,Q⟩ K xs d e xf.res⟩ ⟨[],.c xf.body,⟨own,aM,lS 0 as⟩⟩)
 (ha:kc e cr=some as:=by rfl) (hl:as.length<=xf.aS:=by exact kx rfl) (dB:cp g=fun _ _ _ _=>False:=by rfl):a2.ok ⟨cC aW (c0 X cp) (n+2),cd,fn,b9,i0,aJ,Q⟩ ⟨K,.o (⟨d,.call (.func g) cr,none⟩::xs),⟨own,aM,e⟩⟩:=by
 intro H ids st fr a5 ar ab;have av:=ab.dT ha;have gq:=k H ids st (ar.len.trans ar.cq.symm) a5.hle H ids st (fH (dT fr cr)) (dM.refl _ _ _) ar (c3.zero av);obtain⟨v,st',h1,r,bs,cU,s,dg,c6,gb,U⟩:=E0 (n:=n+1) (f:=g) (Post:=fun v st'=>∃(r:af) (bs:bF) (cU:List Nat) (s:cS),dM H ids st bs cU st'∧Fit bs cU st' s.own s.n∧den bs r cU v∧a2.ok ⟨cC aW (c0 X cp) (n+2),cd,fn,b9,i0,aJ,Q⟩ ⟨K,.o xs,⟨s.own,s.n,fA d r e⟩⟩)
  (by rw[hI av];exact hl) (gq.mono (by
   rintro x eZ cm ⟨bs,cU,s,dg,c6,eG,J,r,aQ,U⟩;obtain⟨v,h3,ay⟩:=AK (call:=cC aW (c0 X cp) (n+1)) c6 eG aQ;exact⟨J,v,ay,r,bs,cU,s,dg,c6,h3,U⟩))
 refine vQ (v:=v) (st':=st') ?_ (U bs cU st' _ (a5.trans dg) c6 ((ab.mono dg.hle dg.kq).fA d gb));rw[vp];show sM (cC aW (c0 X cp) (n+2) (.func (.func g) #[] #[]) (dT fr cr) none st) _ _=_;rw[um];have aU:fZ (#[]:Array Value).toList (fZ (dT fr cr) (#[]:Array Value).toList)=dT fr cr:=by simp
 rw[aU,Xs dB,Sym.ia,Sym.ia,J,Sym.eY,h1];rfl
end
theorem Kf{H:bF}{ids:List Nat}{α:Type}{R:α->List af}{z:Nat}(ax:∀w,(R w).length=z):∀{l:List α} {vs:List Value},jY H ids R z l vs->di H (l.flatMap R) ids vs
 |[],vs,h=>by
  have:vs=[]:=List.eq_nil_of_length_eq_zero (by rw[h.1];simp);exact this
 |w::l,vs,h=>by
  rw[<-List.take_append_drop z vs,List.flatMap_cons];have h1:=h.2 0 w (by simp);rw[Nat.zero_mul,List.drop_zero]at h1;have h2:=yU h 1;rw[Nat.one_mul]at h2;exact y3 h1 (Kf ax (l:=l) h2)
section
variable{aF:gx}{K:List eQ}{own bu:List a3}{aM b8:Nat}{e:bT}{d:Tmp}{xs:List bL}{x y i:Operand}
theorem apJ(k:Nat){z:Nat}{el:TypeId}{α:Type}{R:α->List af}{l:List α}{p:List bL}(cc:a2.ok aF ⟨K,.o p,⟨bu,aM,e⟩⟩)(U:own[k]? =some (.a el false z α R l):=by rfl)(ax:∀w,(R w).length=z:=by exact fun _=>rfl)(ak:iT own k (.c el (l.flatMap R)) some=some bu:=by rfl):a2.ok aF ⟨K,.o p,⟨own,aM,e⟩⟩:=fun H ids st fr a5 ar ab=>by
 have:=jT ak;cases this;refine cc H ids st fr a5 ⟨ar.wf,ar.le,by simp[ar.cq],ar.len,ar.iz,ar.lt,?_⟩ ab;intro j q c hj hc;by_cases je:k=j
 ·subst je;rw[List.getElem?_set,if_pos rfl]at hj;split at hj<;>cases hj;obtain⟨⟨vs,h3,ay,aY⟩,b7⟩:=ar.own k _ c U hc;exact⟨⟨vs,h3,Kf ax ⟨ay,aY⟩⟩,fun _=>b7 rfl⟩
 ·rw[List.getElem?_set,if_neg je]at hj;exact ar.own j q c hj hc
theorem apT(t:Nat){k z:Nat}{el:TypeId}{a8:Bool}{α:Type}{R:α->List af}{l:List α}{p:List bL}(cc:a2.ok aF ⟨K,.o p,⟨bu,aM,(t,.ip (l.flatMap R))::e⟩⟩)(aN:dO e t=some (.p k 0):=by rfl)(U:own[k]? =some (.a el a8 z α R l):=by rfl)(hp:∀x,ht (R x)=true:=by exact fun _=>rfl)(ax:∀w,(R w).length=z:=by exact fun _=>rfl)(ak:iT own k .x some=some bu:=by rfl):a2.ok aF ⟨K,.o p,⟨own,aM,e⟩⟩:=fun H ids st fr a5 ar ab=>by
 have:=jT ak;cases this;obtain⟨b,aL,aR⟩:=ab.get t _ aN;obtain⟨⟨vs,a7,cl,dc⟩,_⟩:=ar.own k _ b U aL;have hle:=uK ar U rfl aL;refine cc (g7 H st b) ids st fr (a5.g7 ar U rfl aL) (ar.g7 U rfl aL) ⟨(ab.mono hle (cM.refl _)).pl,fun j q hj=> ?_⟩;rw[pS]at hj;cases aa:Nat.beq t j with
 |false=>rw[aa]at hj;exact(ab.mono hle (cM.refl _)).get j q hj
 |true=>
  rw[aa]at hj;cases hj;rw[<-ep aa];have hc:jY H [] R z l vs:=⟨cl,fun i x J=>mA _ (hp x) (dc i x J) []⟩;have av:=Kf ax hc;have hl:=hI av;refine⟨b,0,vs,el,(0,0),a8,aR,by unfold g7;rw[if_pos rfl];exact a7,?_⟩;rw[List.drop_zero,<-hl,List.take_length];exact kX hle _ (cM.refl _) av
theorem IF{n bD j:Nat}{cc:IntKind}(k:a2.ok aF ⟨K,.o xs,⟨own,aM,(d,.fz bD 1 j 0)::e⟩⟩)(J:bI e x=some (.p bD 0):=by rfl)(ae:bI e i=some (.i cc (j:Int)):=by rfl)(hj:j<n:=by omega):a2.ok aF ⟨K,.o (⟨some d,.s6 n 1 x i,none⟩::xs),⟨own,aM,e⟩⟩:=
 g2 (fun H ids st fr ar ab=>let⟨v,st',cU,bs,h1,h2,h3,ay⟩:=xn (call:=aF.call) (s:=⟨own,aM,e⟩) (z:=1) J ae hj H ids st fr ar ab;⟨v,st',cU,bs,h1,h2,anh (by omega) _ _ _ h3,ay⟩) k
end
def plainO:dd->Bool
 |.l4 _=>true
 |.alloc _ _=>true
 |.call _ _=>true
 |_=>false
theorem aoy{call:bQ}{o:dd}{fr aI:aT}{st st':au}{v:Value}(ak:plainO o=true)(h:b2 call o fr st= .ok v aI st'):aI=fr:=by
 cases o<;>first|cases ak|skip
 ·cases h;rfl
 ·rename_i z el;have e:b2 call (.alloc z el) fr st=st.jv (.cells z el (0,0) false) fun id st=>.ok (.pointer (some ⟨id,0,none⟩)) fr st:=rfl;rw[e,gv]at h;cases h;rfl
 ·rename_i f as;rw[vp]at h;cases hc:call (fr.aj f) (dT fr as) none st with
  |ret v1 cm ew=>rw[hc,agE]at h;cases h;rfl
  |bk v1 cm ew=>rw[hc,agD]at h;cases h
  |no=>rw[hc]at h;cases h
theorem Xq{call:bQ}:∀{ops:List bL} {fr aI:aT} {st st':au} {e:dF},(ops.all fun x=>x.g.isNone&&plainO x.o)=true->iJ call ops fr st= .out e aI st'->aI.b4=fr.b4
 |[],_,_,_,_,_,_,h=>by cases h;rfl
 |⟨d,o,g⟩::ops,fr,aI,st,st',e,ha,h=>by
  rw[List.all_cons,bZ,bZ]at ha;obtain⟨⟨aO,ak⟩,ha⟩:=ha;cases g with
  |some p=>cases aO
  |none=>
   have h:Ai (b2 call o fr st) (fun v fr st=>iJ call ops (fr.put d v) st) (fun v st=>cond o.m0 (.out (.bk v) fr st) .no)= .out e aI st':=h;have ak:plainO o=true:=ak;cases cN:b2 call o fr st with
   |ok v eZ cm=>
    have aA:=aoy ak cN;subst aA;rw[cN,MO]at h;rw[Xq ha h];exact(vv _ _ _).2.2.2
   |bk v cm=>
    rw[cN,aor]at h;cases hp:o.m0 with
    |true=>rw[hp,cond_true]at h;cases h;rfl
    |false=>rw[hp,cond_false]at h;cases h
   |no=>rw[cN,aoq]at h;cases h
theorem seg{call:bQ}{cd:Nat}{fn:FuncId}{ops:List bL}{s t:cS}{H:bF}{ids:List Nat}{st:au}{fr:aT}(hp:(ops.all fun x=>x.g.isNone&&plainO x.o)=true)(h:∀H1 i1 s1,i1.length=s.own.length->dt H H1->a2.ok ⟨call,cd,fn,H1,i1,s1,fun x br=>x= .norm∧br=t⟩ ⟨[],.o ops,s⟩)
 (ar:Fit H ids st s.own s.n) (ab:c3 fr H ids s.env):∃aI st' bs cU,dA call cd fn (.yb ops) fr st= .out .norm aI st'∧dM H ids st bs cU st'∧Fit bs cU st' t.own t.n∧c3 aI bs cU t.env∧aI.b4=fr.b4:=by
 obtain⟨e,aI,st',h1,bs,cU,br,a5,c6,eG,rfl,rfl⟩:=h H ids st (ar.len.trans ar.cq.symm) (dt.refl _) H ids st fr (dM.refl _ _ _) ar ab;exact⟨aI,st',bs,cU,h1,a5,c6,eG,Xq hp h1⟩
theorem Fit.extra{H:bF}{ids:List Nat}{st:au}{own:List a3}{n:Nat}(h:Fit H ids st own n)(eg:bw):Fit H ids ⟨st.h.set st.ai eg,st.ai+1⟩ own n:=by
 have hne:∀b,b<st.ai->(ao.set st.h st.ai eg).get b=st.h.get b:=fun b aa=>ao.h6 _ _ (by omega);refine⟨fun i ae=> ?_,fun b o aa=> ?_,h.cq,h.len,h.iz,fun b aa=>Nat.lt_succ_of_lt (h.lt b aa),fun k o b U aa=> ?_⟩
 ·show(ao.set st.h st.ai eg).get i=none;have ae:st.ai+1<=i:=ae;rw[ao.h6 _ _ (by omega)];exact h.wf i (by omega)
 ·show(ao.set st.h st.ai eg).get b=some o;rw[hne b (h.aP aa)];exact h.le b o aa
 ·show mz H ids o ((ao.set st.h st.ai eg).get b)∧_;rw[hne b (h.lt b (List.mem_of_getElem? aa))];exact h.own k o b U aa
theorem Fit.other{H:bF}{ids:List Nat}{st:au}{own:List a3}{n l:Nat}(h:Fit H ids st own n)(hl:l<st.ai)(ae:l∉ids)(dX:H l=none)(eg:bw):Fit H ids ⟨st.h.set l eg,st.ai⟩ own n:=by
 refine⟨fun i ea=> ?_,fun b o aa=> ?_,h.cq,h.len,h.iz,h.lt,fun k o b U aa=> ?_⟩
 ·show(ao.set st.h l eg).get i=none;have ea:st.ai<=i:=ea;rw[ao.h6 _ _ (by omega)];exact h.wf i ea
 ·show(ao.set st.h l eg).get b=some o;rw[ao.h6 _ _ (fun e=>by rw[e,dX]at aa;cases aa)];exact h.le b o aa
 ·show mz H ids o ((ao.set st.h l eg).get b)∧_;rw[ao.h6 _ _ (by intro e;subst e;exact ae (List.mem_of_getElem? aa))];exact h.own k o b U aa
theorem cM.eq{i j:List Nat}(h:cM i j)(hl:i.length=j.length):i=j:=by
 apply List.ext_getElem?;intro k;by_cases U:k<i.length
 ·rw[a9 U,h k _ (a9 U)]
 ·rw[List.getElem?_eq_none (by omega),List.getElem?_eq_none (by omega)]
def M4:List Tmp->List af->bT->bT
 |t::ts,a::as,e=>M4 ts as ((t,a)::e)
 |_,_,e=>e
theorem c3.par{H:bF}{ids:List Nat}{c4:List Deferred}{bk:Option Value}{ew:Bool}{IH:Option Nat}:∀{ts:List Tmp} {as:List af} {vs:List Value} {t:ao Value} {e:bT},di H as ids vs->c3 ⟨t,c4,bk,ew,IH⟩ H ids e->c3 ⟨nt ts vs t,c4,bk,ew,IH⟩ H ids (M4 ts as e)
 |[],[],_,_,_,_,h=>h
 |[],_::_,_,_,_,_,h=>h
 |_::_,[],vs,t,e,d,h=>by cases d;exact h
 |p::ts,a::as,_,t,e,⟨v,ws,rfl,d1,d2⟩,h=>by
  have h1:=h.put p d1;have aA:(⟨t,c4,bk,ew,IH⟩:aT).put (some p) v=⟨t.set p v,c4,bk,ew,IH⟩:=by
   rw[Nb]
  rw[aA]at h1;have:=c3.par (ts:=ts) (as:=as) (vs:=ws) d2 h1;have e2:nt (p::ts) (v::ws) t=nt ts ws (t.set p v):=by
   show ao.e9 (Nat.succ p) t p v (fun m=>nt ts ws m)=_;rw[ao.yf]
  rw[e2];exact this
theorem aqf{l:Nat}{fr:aT}{st:au}(av:fr.c4=[]){s:LoopState}{fW:Option dF}{fn:FuncId}{t:ao Value}{ps:List Tmp}{a b:dy}{d:Nat}(aO:st.h.get l=some (.loop s fW fn t ps a b d)):p5 l (.out .norm fr st)= .ret (.bool true) ⟨st.h.set l (.loop .ready none fn t ps a b d),st.ai⟩ false:=by
 have e:p5 l (.out .norm fr st)=List.rec (motive:=fun _=>dJ) (l3 (st.h.get l) (fun _ _ fn t ps a b d=>st.g9 l (.loop .ready none fn t ps a b d) fun st=>.ret (.bool true) st false) .no) (fun _ _ _=>.no) fr.c4:=rfl;rw[e,av,aO];show(st.g9 l (.loop .ready none fn t ps a b d) fun st=>dJ.ret (.bool true) st false)=_;rw[kt]
section
variable{X:Ctx}{aW:ao df}{cp:FuncId->List Value->au->Value->au->Prop}{cd n:Nat}{fn:FuncId}{b9:bF}{i0:List Nat}{aJ:au}{Q:dF->cS->Prop}{K:List eQ}{own:List a3}{aM:Nat}{e:bT}
def abF(aF:gx)(K:List eQ)(xs:List bL)(d:Option Tmp)(e:bT)(aM:Nat)(x:dF)(s:cS):Prop:=x= .norm∧∃bu f,f.length=aM∧Sub aM f s ⟨bu,aM,[]⟩∧a2.ok aF ⟨K,.o xs,⟨bu,aM,fA d (.b true) e⟩⟩
theorem ap1{l lq:Nat}{m7:FuncId}{oX:ao Value}{ps:List Tmp}{du body:dy}{oy e2:bT}{y:Operand}{cr:List Operand}{as:List af}{d:Option Tmp}{xs:List bL}
 (hl:aJ.h.get l=some (.loop .ready none m7 oX ps du body lq)) (qA:l<aJ.ai) (gQ:l∉i0) (dX:b9 l=none) (aN:c3 ⟨oX,[],none,false,some l⟩ b9 i0 oy)
 (amP:∀H1 i1 s1,a2.ok ⟨cC aW (c0 X cp) (n+1),n+1,m7,H1,i1,s1,fun x s=>x= .norm∧s=⟨own,aM,e2⟩⟩ ⟨[],.c du,⟨own,aM,M4 ps as oy⟩⟩)
 (amQ:∀H1 i1 s1,i1.length=own.length->dt b9 H1->a2.ok ⟨cC aW (c0 X cp) (n+1),n+1,m7,H1,i1,s1,abF ⟨cC aW (c0 X cp) (n+2),cd,fn,b9,i0,aJ,Q⟩ K xs d e aM⟩ ⟨[],.c body,⟨own,aM,e2⟩⟩)
 (aG:bI e y=some (.v (.func (.yield l) #[] #[])):=by rfl) (ha:kc e cr=some as:=by rfl) (hlen:as.length=ps.length:=by rfl):
 a2.ok ⟨cC aW (c0 X cp) (n+2),cd,fn,b9,i0,aJ,Q⟩ ⟨K,.o (⟨d,.call y cr,none⟩::xs),⟨own,aM,e⟩⟩:=by
 intro H ids st fr a5 ar ab;have a5:dM b9 i0 aJ H ids st:=a5;have av:=ab.dT ha;have fT:fr.aj y= .func (.yield l) #[] #[]:=ab.aj aG;have zy:l∉ids:=fun hm=>(a5.new l hm).elim gQ (fun h=>by have h:aJ.ai<=l:=h;omega);have Lo:l<st.ai:=e4 qA a5.ai;have j9:st.h.get l=some (.loop .ready none m7 oX ps du body lq):=(a5.gz l qA gQ).trans hl;have Cm:H l=none:=(a5.hold l qA gQ).trans dX;have Gl:ids.length=aM:=ar.len;obtain⟨dR,eZ,cm,aL,H1,Vn,s1,nT,j7,sT,rfl,rfl⟩:=amP H ids st H ids st ⟨nt ps (dT fr cr) oX,[],none,false,some l⟩ (dM.refl _ _ _) ar ((aN.mono a5.hle a5.kq).par av);have aA:ids=Vn:=nT.kq.eq (Gl.trans j7.len.symm);subst aA;have nT:dM H ids st H1 ids cm:=nT;have Ge:cm.h.get l=some (.loop .ready none m7 oX ps du body lq):=(nT.gz l Lo zy).trans j9;have Uo:H1 l=none:=(nT.hold l Lo zy).trans Cm;have hL:l<cm.ai:=e4 Lo nT.ai;have oD:=j7.other hL zy Uo (.loop .busy none m7 oX ps du body lq);obtain⟨ava,KP,gI,a7,q7,rN,ye,uO,Cj,akG,rfl,bu,f,wS,CT,U⟩:=amQ H1 ids ⟨cm.h.set l (.loop .busy none m7 oX ps du body lq),cm.ai⟩ (j7.len.trans j7.cq.symm) (a5.hle.trans nT.hle) H1 ids _ eZ (dM.refl _ _ _) oD sT;have akV:gI.h.get l=some (.loop .busy none m7 oX ps du body lq):=(uO.gz l hL zy).trans (ao.pw _ _ _);have aj4:q7 l=none:=(uO.hold l hL zy).trans Uo;have Lm:l<gI.ai:=e4 hL uO.ai;have xc:Sub ids.length f ye ⟨bu,aM,[]⟩:=by rw[Gl];exact CT
 have w5:=HB (by omega) xc.DG uO.kq;have Ck:=xc.fit Cj;have kE:=xc.bW Cj uO;rw[w5]at Ck kE;have kE:dM H1 ids ⟨cm.h.set l (.loop .busy none m7 oX ps du body lq),cm.ai⟩ q7 ids gI:=kE;have aj1:=Ck.other Lm zy aj4 (.loop .ready none m7 oX ps du body lq);have K8:cC aW (c0 X cp) (n+2) (.func (.yield l) #[] #[]) (dT fr cr) none st= .ret (.bool true) ⟨gI.h.set l (.loop .ready none m7 oX ps du body lq),gI.ai⟩ false:=by
  have aU:cC aW (c0 X cp) (n+2) (.func (.yield l) #[] #[]) (dT fr cr) none st=yw (cC aW (c0 X cp) (n+1)) (n+1) l (dT fr cr) st:=rfl;rw[aU];unfold yw;rw[j9];show et (ec (dT fr cr)) (ec ps) _ _=_;rw[jI (by rw[fU,fU,hI av,hlen]),aL];show AJ (cC aW (c0 X cp) (n+1)) (n+1) l m7 body eZ cm=_;unfold AJ;rw[Ge];show(cm.g9 l (.loop .busy none m7 oX ps du body lq) fun st=>p5 l (dA (cC aW (c0 X cp) (n+1)) (n+1) m7 body eZ st))=_;rw[kt,a7];exact aqf akG.pl.c4 akV
 refine vQ (v:=.bool true) (st':=⟨gI.h.set l (.loop .ready none m7 oX ps du body lq),gI.ai⟩) ?_ (U q7 ids _ _ ?_ aj1 ((ab.mono (nT.hle.trans kE.hle) (cM.refl _)).fA d rfl))
 ·rw[vp,fT];show sM (cC aW (c0 X cp) (n+2) (.func (.yield l) #[] #[]) (dT fr cr) none st) _ _=_;rw[K8];rfl
 ·have hle:dt H q7:=nT.hle.trans kE.hle;refine⟨a5.hle.trans hle,fun b aa ae=> ?_,fun b aa ae=> ?_,Nat.le_trans a5.ai (Nat.le_trans nT.ai kE.ai),a5.kq,a5.new⟩
  ·have aa:b<aJ.ai:=aa;have zp:b∉ids:=fun hm=>(a5.new b hm).elim ae (fun h=>by have h:aJ.ai<=b:=h;omega);have fQ:b<st.ai:=e4 aa a5.ai;exact(kE.hold b (e4 fQ nT.ai) zp).trans ((nT.hold b fQ zp).trans (a5.hold b aa ae))
  ·have aa:b<aJ.ai:=aa;have zp:b∉ids:=fun hm=>(a5.new b hm).elim ae (fun h=>by have h:aJ.ai<=b:=h;omega);have fQ:b<st.ai:=e4 aa a5.ai;show(ao.set gI.h l _).get b=aJ.h.get b;by_cases nW:b=l
   ·subst nW;rw[ao.pw];exact hl.symm
   ·rw[ao.h6 _ _ nW];refine(kE.gz b (e4 fQ nT.ai) zp).trans ?_;show(ao.set cm.h l _).get b=aJ.h.get b;rw[ao.h6 _ _ nW];exact(nT.gz b fQ zp).trans (a5.gz b aa ae)
def abz(Post:List a3->Prop)(aM:Nat)(res:List ig)(x:dF)(s:cS):Prop:=(x= .norm∨x= .ret)∧(∃r,Fin.tH s res=some r)∧∃bu f,f.length=aM∧Sub aM f s ⟨bu,aM,[]⟩∧Post bu
theorem atr{H:bF}{ids:List Nat}{st:au}{fr:aT}(pK:fr.b4=none)(ar:Fit H ids st own aM)(ab:c3 fr H ids e){f:Operand}{ps:List Tmp}{du body:dy}{g:FuncId}{xf:df}{caps:List af}(Post:List a3->Prop)(J:aW.get g=some xf)(gE:bI e f=some (.fn (.func g) [] caps))(dB:cp g=fun _ _ _ _=>False)(Lv:caps.length+1<=xf.aS)
 (amR:∀(s1:au) (l:Nat),ids.length=own.length->s1.h.get l=some (.loop .ready none fn fr.t ps du body st.ai)->l<s1.ai->l∉ids->H l=none->c3 ⟨fr.t,[],none,false,some l⟩ H ids e->
  a2.ok ⟨cC aW (c0 X cp) (n+2),n+2,g,H,ids,s1,abz Post aM xf.res⟩ ⟨[],.c xf.body,⟨own,aM,lS 0 (.v (.func (.yield l) #[] #[])::caps)⟩⟩):
 ∃aI st' bs bu,dA (cC aW (c0 X cp) (n+3)) cd fn (.II f ps du body) fr st= .out .norm aI st'∧aI.t=fr.t∧aI.c4={target:=.collected st.ai,args:= #[]}::fr.c4∧aI.cF=fr.cF∧
  dM H ids st bs ids st'∧Fit bs ids st' bu aM∧Post bu∧st'.h.get st.ai=some (.iI (some []))∧st.ai<st'.ai∧bs st.ai=none:=by
 obtain⟨vs,ws,aH,d1,d2⟩:=ab.aj gE;have d1:vs=[]:=d1;subst d1;have aP:∀b∈ids,b<st.ai:=ar.lt;have KY:∀b,st.ai<=b->H b=none:=fun b aa=>by
  cases h:H b with
  |none=>rfl
  |some o=>have:=ar.aP h;omega
 have aj2:=ar.extra (.iI (some []));have aj3:=aj2.extra (.loop .ready none fn fr.t ps du body st.ai);have ak1:=amR ⟨(ao.set st.h st.ai (.iI (some []))).set (st.ai+1) (.loop .ready none fn fr.t ps du body st.ai),st.ai+1+1⟩ (st.ai+1) (ar.len.trans ar.cq.symm) (show(ao.set (ao.set st.h st.ai (.iI (some []))) (st.ai+1) (.loop .ready none fn fr.t ps du body st.ai)).get (st.ai+1)=_ from ao.pw _ _ _) (Nat.lt_succ_self _) (fun hm=>by have:=aP _ hm;omega) (KY _ (Nat.le_succ _)) ⟨⟨rfl,rfl,rfl⟩,ab.get⟩;have UD:di H (.v (.func (.yield (st.ai+1)) #[] #[])::caps) ids (.func (.yield (st.ai+1)) #[] #[]::ws):=⟨_,ws,rfl,rfl,d2⟩;obtain⟨v,gI,h1,q7,rN,ye,bu,zg,uO,Cj,wS,CT,alu⟩:=E0 (n:=n+2) (f:=g) (Post:=fun v st'=>∃(bs:bF) (cU:List Nat) (s:cS) (bu:List a3) (zg:List Nat),dM H ids _ bs cU st'∧Fit bs cU st' s.own s.n∧zg.length=aM∧Sub aM zg s ⟨bu,aM,[]⟩∧Post bu)
  (by rw[hI UD];exact Lv) ((ak1 H ids _ (fH _) (dM.refl _ _ _) aj3 (c3.zero UD)).mono (by
   rintro x eZ cm ⟨bs,cU,s,dg,c6,eG,J,⟨r,aQ⟩,bu,zg,h1,h2,h3⟩;obtain⟨v,ay,aY⟩:=AK (call:=cC aW (c0 X cp) (n+2)) c6 eG aQ;exact⟨J,v,aY,bs,cU,s,bu,zg,dg,c6,h1,h2,h3⟩))
 have Gl:ids.length=aM:=ar.len;have xc:Sub ids.length zg ye ⟨bu,aM,[]⟩:=by rw[Gl];exact CT
 have w5:=HB (by omega) xc.DG uO.kq;have Ck:=xc.fit Cj;have kE:=xc.bW Cj uO;rw[w5]at Ck kE;have kE:dM H ids ⟨(ao.set st.h st.ai (.iI (some []))).set (st.ai+1) (.loop .ready none fn fr.t ps du body st.ai),st.ai+1+1⟩ q7 ids gI:=kE;have auA:st.ai+1+1<=gI.ai:=kE.ai;have uZ:∀b,st.ai<=b->b∉ids:=fun b aa hm=>by have:=aP _ hm;omega
 have Cy:gI.h.get (st.ai+1)=some (.loop .ready none fn fr.t ps du body st.ai):=(kE.gz _ (Nat.lt_succ_self _) (uZ _ (Nat.le_succ _))).trans (show(ao.set (ao.set st.h st.ai (.iI (some []))) (st.ai+1) (.loop .ready none fn fr.t ps du body st.ai)).get (st.ai+1)=_ from ao.pw _ _ _);have zu:gI.h.get st.ai=some (.iI (some [])):=by
  refine(kE.gz st.ai (by show st.ai<st.ai+1+1;omega) (uZ _ (b5 _))).trans ?_;show(ao.set _ (st.ai+1) _).get st.ai=_;rw[ao.h6 _ _ (by omega),ao.pw]
 have Cm:q7 (st.ai+1)=none:=(kE.hold _ (Nat.lt_succ_self _) (uZ _ (Nat.le_succ _))).trans (KY _ (Nat.le_succ _));have aj5:q7 st.ai=none:=(kE.hold _ (by show st.ai<st.ai+1+1;omega) (uZ _ (b5 _))).trans (KY _ (b5 _));refine⟨⟨fr.t,{target:=.collected st.ai,args:= #[]}::fr.c4,fr.bk,fr.cF,fr.b4⟩,⟨gI.h.set (st.ai+1) (.loop .exhausted none fn fr.t ps du body st.ai),gI.ai⟩,q7,bu,?_,rfl,rfl,rfl,?_,Ck.other (by omega) (uZ _ (Nat.le_succ _)) Cm _,alu,?_,by show st.ai<gI.ai;omega,aj5⟩
 ·show B6 (cC aW (c0 X cp) (n+3)) fn f ps du body fr st=_;unfold B6;rw[pK,Sym.ia,gv,gv,aH,um];have aU:fZ (#[]:Array Value).toList (fZ [Value.func (.yield (st.ai+1)) #[] #[]] (⟨ws⟩:Array Value).toList)=Value.func (.yield (st.ai+1)) #[] #[]::ws:=by simp
  show IJ _ _ (bl none _ (bl (c0 X cp g (fZ (#[]:Array Value).toList (fZ [Value.func (.yield (st.ai+1)) #[] #[]] (⟨ws⟩:Array Value).toList)) _) _ (bl (aW.get g) _ _)))=_;rw[aU,Xs dB,Sym.ia,Sym.ia,J,Sym.eY,h1];show l3 (gI.h.get (st.ai+1)) _ _=_;rw[Cy];show(gI.g9 (st.ai+1) (.loop .exhausted none fn fr.t ps du body st.ai) fun st'=>bl none (fun e=>cY.out e _ st') (cY.out .norm _ st'))=_;rw[kt];rfl
 ·refine⟨kE.hle,fun b aa ae=>kE.hold b (by show b<st.ai+1+1;omega) ae,fun b aa ae=> ?_,by show st.ai<=gI.ai;omega,cM.refl _,fun b aa=>.inl aa⟩;show(ao.set gI.h (st.ai+1) _).get b=_;rw[ao.h6 _ _ (by omega),kE.gz b (by show b<st.ai+1+1;omega) ae];show(ao.set (ao.set st.h st.ai _) (st.ai+1) _).get b=_;rw[ao.h6 _ _ (by omega),ao.h6 _ _ (by omega)]
 ·show(ao.set gI.h (st.ai+1) _).get st.ai=_;rw[ao.h6 _ _ (by omega)];exact zu
end
theorem Jf{call:bQ}{cd:Nat}{fn:FuncId}{a b:dy}{fr eZ:aT}{st cm:au}{Q:dF->aT->au->Prop}(h:dA call cd fn a fr st= .out .norm eZ cm)(k:W (dA call cd fn b eZ cm) Q):W (dA call cd fn (.seq a b) fr st) Q:=by
 rw[KG,h];exact k
theorem aqx{call:bQ}{cd:Nat}{fn:FuncId}{a b:dy}{fr eZ m8:aT}{st cm ek:au}(h:dA call cd fn a fr st= .out .norm eZ cm)(k:dA call cd fn b eZ cm= .out .norm m8 ek):dA call cd fn (.seq a b) fr st= .out .norm m8 ek:=by
 rw[KG,h];exact k
theorem acD{call:bQ}{cd:Nat}{fn:FuncId}{a:dy}{i:Nat}{fr eZ:aT}{st cm:au}(h:dA call cd fn a fr st= .out .norm eZ cm):dA call cd fn (.block i a) fr st= .out .norm eZ cm:=by
 rw[Q7,h];rfl
theorem dM.other{b9 H:bF}{i0 ids:List Nat}{aJ st:au}(h:dM b9 i0 aJ H ids st){r:Nat}(aQ:aJ.ai<=r)(eg:bw):dM b9 i0 aJ H ids ⟨st.h.set r eg,st.ai⟩:=⟨h.hle,h.hold,fun b aa ae=>by
 show(ao.set st.h r eg).get b=_;rw[ao.h6 _ _ (by omega)];exact h.gz b aa ae,h.ai,h.kq,h.new⟩
theorem P6{call:bQ}{n:Nat}{f:FuncId}{xf:df}{as:List Value}{st:au}{Post:Value->au->Prop}(hl:as.length<=xf.aS)
 (h:W (dA call n f xf.body (fH as) st) (fun e fr cm=>(e= .norm∨e= .ret)∧∃v st',nQ call xf.res none fr cm= .ret v st' false∧Post v st')):
 ∃v st',pc call n f xf as none st= .ret v st' false∧Post v st':=by
 obtain⟨e,fr,cm,h1,he,v,st',h2,h3⟩:=h;refine⟨v,st',?_,h3⟩;unfold pc;rw[pR,if_pos (by rw[fU];exact hl)];show cY.rec (motive:=fun _=>dJ) _ _ (dA call n f xf.body (fH as) st)=_;rw[h1];rcases he with rfl|rfl
 ·exact h2
 ·exact h2
theorem aeM{X:Ctx}{aW:ao df}(dv:Good X)(h8:mY X aW)(K:FuncId->List Value->au->Value->au->Prop){f:FuncId}{xf:df}(J:aW.get f=some xf){S:Spec}(hl:∀l as st,S.pre l as st->as.length<=xf.aS)
 (h:∀l as st,S.pre l as st->W (dA (cC aW (c0 X K) (ba+1)) (ba+1) f xf.body (fH as) st)
  (fun e fr cm=>(e= .norm∨e= .ret)∧∃v st',nQ (cC aW (c0 X K) (ba+1)) xf.res none fr cm= .ret v st' false∧S.post l as st v st')):bg X f S:=by
 intro as st ⟨l,hp⟩;obtain⟨v,st',h1,h2⟩:=P6 (Post:=S.post l as st) (hl l as st hp) (h l as st hp);refine⟨v,st',fun l' k5=> ?_,Y3 dv h8 J h1⟩;obtain⟨v2,ek,aL,aR⟩:=P6 (Post:=S.post l' as st) (hl l' as st k5) (h l' as st k5);rw[h1]at aL;cases aL;exact aR
theorem agn{call:bQ}{t r:Nat}{fr:aT}{st:au}(av:fr.c4=[{target:=.collected r,args:= #[]}])(aN:fr.cF=false)(aQ:st.h.get r=some (.iI (some []))):nQ call [.tmp t] none fr st= .ret (fr.tmp t) ⟨st.h.set r (.iI none),st.ai⟩ false:=by
 have e:jV call fr.c4 none st=some (none,⟨st.h.set r (.iI none),st.ai⟩):=by
  rw[av];simp only[jV,aQ];rw[kt]
 unfold nQ;rw[e,aN];rfl
theorem apN{aF:gx}{K:List eQ}{own bu:List a3}{aM:Nat}{e:bT}{p:List bL}(k:Nat){el:TypeId}{cs:List af}(cs':List af)(hl:jE cs cs')(cc:a2.ok aF ⟨K,.o p,⟨bu,aM,e⟩⟩)(U:own[k]? =some (.c el cs):=by rfl)(ak:iT own k (.c el cs') some=some bu:=by rfl):a2.ok aF ⟨K,.o p,⟨own,aM,e⟩⟩:=fun H ids st fr a5 ar ab=>by
 have:=jT ak;cases this;refine cc H ids st fr a5 ⟨ar.wf,ar.le,by simp[ar.cq],ar.len,ar.iz,ar.lt,?_⟩ ab;intro j q c hj hc;by_cases je:k=j
 ·subst je;rw[List.getElem?_set,if_pos rfl]at hj;split at hj<;>cases hj;obtain⟨⟨vs,h3,ay⟩,b7⟩:=ar.own k _ c U hc;exact⟨⟨vs,h3,hl.den ay⟩,fun _=>b7 rfl⟩
 ·rw[List.getElem?_set,if_neg je]at hj;exact ar.own j q c hj hc
theorem arN{call:bQ}{s:cS}{x:Operand}{k z n p q:Nat}{el:TypeId}{α:Type}{R:α->List af}{l:List α}{bb ae:Option Operand}(J:bI s.env x=some (.p k 0))(U:s.own[k]? =some (.a el false z α R l))(gr:fj s bb 0 p)(gP:fj s ae n q)(hp:p<=q)(hq:q<=n):gy call (.AQ n z x bb ae none) s (.a6 k z (if n=p then 0 else p) (q-p) (n-p)) s.own s.n:=l6 fun H ids st fr ar ab=>by
 obtain⟨b,h1,h2⟩:=ab.aj J;obtain⟨vs,a7,cl,dc⟩:=om ar U h1;refine⟨_,⟨b,h1,rfl⟩,?_⟩;show Am n z x bb ae none call fr st=_;unfold Am au.gL;rw[h2,tN,Sym.eY,Sym.ia,a7,kU,cond_false,BC,fj.aj gP ab hq,fj.aj gr ab hp];congr 2;by_cases ng:n=p
 ·subst ng;rw[jI rfl,if_pos rfl,Nat.zero_mul]
 ·rw[rr ng,o3,Nat.zero_add,if_neg ng];rfl
section
variable{aF:gx}{K:List eQ}{own:List a3}{aM:Nat}{e:bT}{d:Tmp}{xs:List bL}{x y:Operand}
theorem D3{z:Nat}{α:Type}{R:α->List af}{l:List α}{neg:Bool}(bj:a2.ok aF ⟨K,.o xs,⟨own,aM,(d,.b neg)::e⟩⟩)(bM:l=[]->a2.ok aF ⟨K,.o xs,⟨own,aM,(d,.b (!neg))::e⟩⟩)(J:bI e x=some (.bS z α R l):=by rfl)(aG:bI e y=some .nl:=by rfl):
 a2.ok aF ⟨K,.o (⟨some d,.eqv neg .mP x y,none⟩::xs),⟨own,aM,e⟩⟩:=fun H ids st fr a5 ar ab=>by
 have h2:fr.aj y= .slice none 0 0:=ab.aj aG;have h3:den H (.bS z α R l) ids (fr.aj x):=ab.aj J;rcases h3 with⟨hn,h1⟩|⟨b,o,c,vs,el,bn,a8,h1,_⟩
 ·have aA:b2 aF.call (.eqv neg .mP x y) fr st= .ok (.bool (!neg)) fr st:=by
   have e:b2 aF.call (.eqv neg .mP x y) fr st=bl (pn (fr.aj x) (fr.aj y)) (fun b=>.ok (.bool (cond neg (!b) b)) fr st) .no:=rfl;rw[e,h1,h2];cases neg<;>rfl
  exact vQ aA (bM hn H ids st _ a5 ar (ab.fA (some d) rfl))
 ·have aA:b2 aF.call (.eqv neg .mP x y) fr st= .ok (.bool neg) fr st:=by
   have e:b2 aF.call (.eqv neg .mP x y) fr st=bl (pn (fr.aj x) (fr.aj y)) (fun b=>.ok (.bool (cond neg (!b) b)) fr st) .no:=rfl;rw[e,h1,h2];cases neg<;>rfl
  exact vQ aA (bj H ids st _ a5 ar (ab.fA (some d) rfl))
theorem YM{n g j z:Nat}{cc:IntKind}{vs:List Value}{el:TypeId}{bn:Nat×Nat}{a8:Bool}{cs:List af}(aO:aF.b9 g=some (.cells vs el bn a8))(av:∀H,di H cs [] vs)(k:a2.ok aF ⟨K,.o xs,⟨own,aM,(d,.ip (cs.drop (j*z)))::e⟩⟩)(J:bI e x=some (.v (.pointer (some ⟨g,0,none⟩))):=by rfl)(ae:bI e y=some (.i cc (j:Int)):=by rfl)(hj:j<n:=by omega):a2.ok aF ⟨K,.o (⟨some d,.s6 n z x y,none⟩::xs),⟨own,aM,e⟩⟩:=
 D4 (d:=some d) (amb (call:=aF.call) (s:=⟨own,aM,e⟩) (z:=z) J aO av ae hj) k
end
theorem acI{X:Ctx}{aW:ao df}{cp:FuncId->List Value->au->Value->au->Prop}{g:FuncId}{S:bE}(hc:bg X g S.spec)(dB:cp g=S.spec.K){s:cS}{f:Operand}{cr:List Operand}{as fs cs:List af}{n:Nat}(l:S.L)(pB:bI s.env f=some (.fn (.func g) fs cs))(ha:kc s.env cr=some as)(nh:ht (fs++(as++cs))=true)(he:jE (fs++(as++cs)) (S.args l))(hp:S.pre l){b9:bF}(hh:S.hp b9):
 v3 b9 (cC aW (c0 X cp) (n+1)) (.call f cr) s (S.res l) s.own s.n:=fun H ids st fr dX ar ab=>by
 have sT:den H (.fn (.func g) fs cs) ids (fr.aj f):=ab.aj pB;obtain⟨vs,ws,aH,d1,d2⟩:=sT;have av:=he.den (mA _ nh (y3 d1 (y3 (ab.dT ha) d2)) []);obtain⟨v,st',h1,h2⟩:=hc _ st ⟨(l,H),hp,S.hm dX hh,ar.less,av⟩;obtain⟨v1,cm,aL,aR⟩:=DD (X:=X) (K:=cp) (f:=g) ⟨v,st',by rw[dB];exact h1,h2⟩;rw[dB]at aR;obtain⟨bs,c6,dg,gb⟩:=aR (l,H) ⟨hp,S.hm dX hh,ar.less,av⟩;have a7:cC aW (c0 X cp) (n+1) (fr.aj f) (dT fr cr) none st= .ret v1 cm false:=by
  rw[aH,um];have e:fZ (⟨vs⟩:Array Value).toList (fZ (dT fr cr) (⟨ws⟩:Array Value).toList)=vs++(dT fr cr++ws):=by simp
  rw[e,aL];rfl
 have hle:dt H bs:=dg.hle;refine⟨v1,cm,ids,bs,?_,?_,sH (dt.refl _) _ (cM.nil _) gb,hle,cM.refl _,?_,dg.ai,fun b aa _=>dg.gz b aa (by simp)⟩
 ·rw[vp];rw[a7];rfl
 ·refine⟨c6.wf,c6.le,ar.cq,ar.len,ar.iz,fun b aa=>e4 (ar.lt b aa) dg.ai,fun k o b U aa=> ?_⟩;obtain⟨h3,ay⟩:=ar.own k o b U aa;have aP:=ar.lt b (List.mem_of_getElem? aa);rw[dg.gz b aP (by simp)];exact⟨rn hle (cM.refl _) h3,fun hl=>by rw[dg.hold b aP (by simp)];exact ay hl⟩
 ·intro b9 i0 aJ B;refine⟨B.hle.trans hle,fun b aa hn=> ?_,fun b aa hn=> ?_,Nat.le_trans B.ai dg.ai,B.kq,B.new⟩
  ·rw[dg.hold b (e4 aa B.ai) (by simp)];exact B.hold b aa hn
  ·rw[dg.gz b (e4 aa B.ai) (by simp)];exact B.gz b aa hn
section
variable{X:Ctx}{aW:ao df}{cp:FuncId->List Value->au->Value->au->Prop}{cd n:Nat}{fn:FuncId}{b9:bF}{i0:List Nat}{aJ:au}{Q:dF->cS->Prop}{K:List eQ}{own:List a3}{aM:Nat}{e:bT}
theorem D1{g:FuncId}{S:bE}(hc:bg X g S.spec){f:Operand}{cr:List Operand}{as fs cs:List af}{d:Tmp}{xs:List bL}(l:S.L)(hp:S.pre l)(k:a2.ok ⟨cC aW (c0 X cp) (n+1),cd,fn,b9,i0,aJ,Q⟩ ⟨K,.o xs,⟨own,aM,(d,S.res l)::e⟩⟩)
 (ab:bI e f=some (.fn (.func g) fs cs):=by rfl) (ha:kc e cr=some as:=by rfl) (he:jE (fs++(as++cs)) (S.args l):=by exact jE.refl _) (nh:ht (fs++(as++cs))=true:=by rfl) (dB:cp g=S.spec.K:=by rfl) (hh:S.hp b9:=by exact trivial):
 a2.ok ⟨cC aW (c0 X cp) (n+1),cd,fn,b9,i0,aJ,Q⟩ ⟨K,.o (⟨some d,.call f cr,none⟩::xs),⟨own,aM,e⟩⟩:=D4 (d:=some d) (s:=⟨own,aM,e⟩) (acI hc dB l ab ha nh he hp hh) k
end
section
variable{aF:gx}{K:List eQ}{own bu:List a3}{aM:Nat}{e:bT}
theorem agG{k t:Nat}{el:TypeId}{cs:List af}(aN:dO e t=some (.p k 0))(U:own[k]? =some (.c el cs))(hp:ht cs=true)
 {H:bF} {ids:List Nat} {st:au} {fr:aT} (a5:dM aF.b9 aF.i0 aF.aJ H ids st) (ar:Fit H ids st own aM) (ab:c3 fr H ids e):
 ∃bs,dM aF.b9 aF.i0 aF.aJ bs ids st∧Fit bs ids st (own.set k .x) aM∧c3 fr bs ids ((t,.ip cs)::e):=by
 obtain⟨b,aL,aR⟩:=ab.get t _ aN;obtain⟨⟨vs,a7,d⟩,_⟩:=ar.own k _ b U aL;have hle:=uK ar U rfl aL;refine⟨g7 H st b,a5.g7 ar U rfl aL,ar.g7 U rfl aL,(ab.mono hle (cM.refl _)).pl,fun j q hj=> ?_⟩;rw[pS]at hj;cases aa:Nat.beq t j with
 |false=>rw[aa]at hj;exact(ab.mono hle (cM.refl _)).get j q hj
 |true=>
  rw[aa]at hj;cases hj;rw[<-ep aa];refine⟨b,0,vs,el,(0,0),_,aR,by unfold g7;rw[if_pos rfl];exact a7,?_⟩;have hl:=hI d;rw[List.drop_zero,List.take_of_length_le (by omega)];exact kX hle _ (cM.refl _) (mA _ hp d [])
theorem NA(t:Nat){k:Nat}{el:TypeId}{cs:List af}{p:List bL}(cc:a2.ok aF ⟨K,.o p,⟨bu,aM,(t,.ip cs)::e⟩⟩)(aN:dO e t=some (.p k 0):=by rfl)(U:own[k]? =some (.c el cs):=by rfl)(hp:ht cs=true:=by rfl)(ak:iT own k .x some=some bu:=by rfl):a2.ok aF ⟨K,.o p,⟨own,aM,e⟩⟩:=by
 have h1:=jT ak;cases h1;exact fun H ids st fr a5 ar ab=>let⟨bs,h1,h2,h3⟩:=agG aN U hp a5 ar ab;cc bs ids st fr h1 h2 h3
end
end Go.an
namespace Go.an
open Sym
variable{X:Ctx}
section
variable{aF:gx}{K:List eQ}{s:cS}
theorem aeZ{d:Option Tmp}{o:dd}{l:List (bL×cL)}{bO:List a3}{aU:bT}{bf cf b8:Nat}{bu:List a3}{a:af}
 (h:∀(H:bF) (ids:List Nat) (st:au) (fr:aT),dM aF.b9 aF.i0 aF.aJ H ids st->Fit H ids st s.own s.n->c3 fr H ids s.env->∃v st' cU bs,b2 aF.call o fr st= .ok v fr st'∧Fit bs cU st' bu b8∧den bs a cU v∧dt H bs∧cM ids cU∧dM aF.b9 aF.i0 aF.aJ bs cU st'∧st.ai<=st'.ai)
 (k:R aF K (.d l (bO.map fun _=>.x) (sJ d aU) (bf+1) b8) ⟨bu,b8,fA d a s.env⟩):R aF K (.d ((⟨d,o,none⟩,.eO)::l) bO aU bf cf) s:=by
 intro H ids st fr fE ah a5 ar ab ch;obtain⟨v,st',cU,bs,aL,aR,a7,cl,dc,eI,g8⟩:=h H ids st fr a5 ar ab;have gq:=k bs cU st' (fr.put d v) fE (st'.h::ah) eI aR ((ab.mono cl dc).fA d a7) ⟨by simp[ch.len],ch.hle.trans cl,wu (fun j a hj=>sH (dt.refl _) _ dc (ch.fH j a hj)) d v,?_,by rw[aR.len];exact b5 _,?_,?_,?_⟩
 ·refine W.of_eq ?_ gq;show aZ.rec (motive:=fun _=>cY) (fun v aI st'=>eo st.ai st'.ai (hR aF.call l (st'.h::ah) (aT.put ⟨fr.t,aI.c4,aI.bk,aI.cF,aI.b4⟩ d v) st') .no) (fun v st'=>cond o.m0 (GU l (.out (.bk v) fr st') .no) .no) .no (b2 aF.call o fr st)=_;rw[aL];show eo st.ai st'.ai _ _=_;rw[eX g8]
 ·rw[List.length_map];exact Nat.le_trans ch.pX (LV dc)
 ·intro k bd b U uY aa;rw[List.getElem?_map]at U;cases ak:bO[k]? with
  |none=>rw[ak]at U;cases U
  |some q=>rw[ak]at U;cases U;cases uY
 ·intro h hm b bd aa;rcases List.mem_cons.1 hm with rfl|hm
  ·exact aR.le _ _ (cl _ _ (ch.hle _ _ aa))
  ·exact ch.old h hm b bd aa
 ·intro h hm;simp at hm;subst hm;exact⟨aR.le,fun _ _ _ _=>rfl⟩
end
theorem PM{a b c a' er bJ:a3}{rest:List a3}(h1:j2 [0,1,2] a' a')(h2:j2 [0,1,2] er er)(h3:j2 [0,1,2] bJ bJ):yA [0,1,2] (a::b::c::rest) (a'::er::bJ::rest) [a',er,bJ]:=by
 refine⟨rfl,fun j hj=> ?_,fun i k bd U ak=> ?_⟩
 ·match j with
  |0=>exact absurd (by simp) hj
  |1=>exact absurd (by simp) hj
  |2=>exact absurd (by simp) hj
  |j+3=>rfl
 ·match i with
  |0=>cases U;cases ak;exact⟨_,rfl,h1⟩
  |1=>cases U;cases ak;exact⟨_,rfl,h2⟩
  |2=>cases U;cases ak;exact⟨_,rfl,h3⟩
  |i+3=>simp at U
section
variable{aW:ao df}{cp:FuncId->List Value->au->Value->au->Prop}{cd n:Nat}{fn:FuncId}{b9:bF}{i0:List Nat}{aJ:au}{Q:dF->cS->Prop}{K:List eQ}{rest:List a3}{aM:Nat}{e:bT}{g:FuncId}{S:GS}{a b c a' er bJ jh oS rW:a3}
theorem ZT(h1:ft [0,1,2] jh a)(h2:ft [0,1,2] oS b)(h3:ft [0,1,2] rW c):Sub 0 [0,1,2] ⟨a::b::c::rest,aM,e⟩ ⟨[jh,oS,rW],3,[]⟩:=
 ⟨by simp,rfl,⟨⟨_,rfl,h1⟩,⟨_,rfl,h2⟩,⟨_,rfl,h3⟩,trivial⟩,trivial,rfl⟩
end
structure tW extends GS where
 hp:bF->Prop
 hm:∀{H bs:bF},dt H bs->hp H->hp bs
def tW.spec(S:tW):Spec where
 L:=S.L×bF×List Nat
 pre:=fun l vs st=>S.pre l.1∧S.hp l.2.1∧Fit l.2.1 l.2.2 st (S.own l.1) (S.own l.1).length∧di l.2.1 (S.args l.1) l.2.2 vs
 post:=fun l vs st v st'=>∃bs,Fit bs l.2.2 st' (S.bu l.1) (S.own l.1).length∧dM l.2.1 l.2.2 st bs l.2.2 st'∧den bs (S.res l.1) l.2.2 v
theorem aeN{aW:ao df}(dv:Good X)(h8:mY X aW)(cp:FuncId->List Value->au->Value->au->Prop){f:FuncId}{xf:df}(J:aW.get f=some xf){S:tW}(hl:∀l,(S.args l).length<=xf.aS)
 (h:∀l,S.pre l->∀H i0 aJ,S.hp H->i0.length=(S.own l).length->a2.ok ⟨cC aW (c0 X cp) (ba+1),ba+1,f,H,i0,aJ,EA S.toGS l xf.res⟩ ⟨[],.c xf.body,⟨S.own l,(S.own l).length,lS 0 (S.args l)⟩⟩):bg X f S.spec:=by
 refine Ff dv h8 cp J (fun l vs st ⟨_,_,_,d⟩=>by rw[hI d];exact hl l.1) ?_;rintro⟨l,H,i0⟩ vs st ⟨hp,hh,ar,d⟩;simp only at hp hh ar d;refine(h l hp H i0 st hh ar.len H i0 st (fH vs) (dM.refl _ _ _) ar (c3.zero d)).mono ?_;rintro x fr st' ⟨bs,ids,s,a5,c6,ab,J,⟨r,h1,h2,hle⟩,g,aO,ah⟩;obtain⟨v,h3,ay⟩:=AK (call:=cC aW (c0 X cp) (ba+1)) c6 ab h1;have zw:i0.length=(S.own l).length:=ar.len;have e1:Sub i0.length g s ⟨S.bu l,(S.own l).length,[]⟩:=by rw[zw];exact ah
 have w5:=HB (by omega) e1.DG a5.kq;have oD:=e1.fit c6;have Ci:=e1.bW c6 a5;rw[w5]at oD Ci;exact⟨J,v,ay,bs,oD,Ci,hle _ _ _ (BR _ h2 h3 _)⟩
theorem Kd{aW:ao df}{cp:FuncId->List Value->au->Value->au->Prop}{n:Nat}{b9:bF}{i0:List Nat}{aJ:au}{own bu:List a3}{aM:Nat}{e:bT}{g:FuncId}{S:tW}(hc:bg X g S.spec){cr:List Operand}{as:List af}(f:List Nat)(l:S.L)(hp:S.pre l)(hh:S.hp b9)
 (ah:Sub 0 f ⟨own,aM,e⟩ ⟨S.own l,(S.own l).length,[]⟩) (aa:yA f own bu (S.bu l))
 (ha:kc e cr=some as) (he:as=nB f (S.args l)) (dB:cp g=S.spec.K) {H:bF} {ids:List Nat} {st:au} {fr:aT} (a5:dM b9 i0 aJ H ids st) (ar:Fit H ids st own aM) (ab:c3 fr H ids e):
 ∃v st' cU bs,b2 (cC aW (c0 X cp) (n+1)) (.call (.func g) cr) fr st= .ok v fr st'∧Fit bs cU st' bu aM∧den bs (jx f (S.res l)) cU v∧dt H bs∧cM ids cU∧dM b9 i0 aJ bs cU st'∧st.ai<=st'.ai:=by
 subst he;have j7:=ah.fit ar;have av:=uA f _ (ab.dT ha);obtain⟨v,st',h1,h2⟩:=hc _ st ⟨(l,H,pick f ids),hp,S.hm a5.hle hh,j7,av⟩;obtain⟨v1,cm,aL,aR⟩:=DD (X:=X) (K:=cp) (f:=g) ⟨v,st',by rw[dB];exact h1,h2⟩;rw[dB]at aR;obtain⟨bs,c6,dg,gb⟩:=aR (l,H,pick f ids) ⟨hp,S.hm a5.hle hh,j7,av⟩;simp only at c6 dg gb;have aP:∀k m:Nat,f[k]? =some m->m<ids.length:=fun k m U=>by
  have hl:(S.own l).length=f.length:=ah.own.len;have h1:=(List.getElem?_eq_some_iff.1 U).1;obtain⟨fq,bd,h2,h3,_⟩:=ah.own.get (a9 (show k<(S.own l).length by omega));rw[U]at h2;cases h2;rw[ar.len,<-ar.cq];exact(List.getElem?_eq_some_iff.1 h3).1
 have CJ:∀(j b:Nat),j∉f->ids[j]? =some b->b∉pick f ids:=fun j b hj aa hm=>by
  obtain⟨k,U⟩:=List.mem_iff_getElem?.1 hm;obtain⟨m,h3,ay⟩:=xP aP U;have aA:=List.getElem?_eq_some_iff.1 aa;have e2:=List.getElem?_eq_some_iff.1 ay;have:=(List.getElem_inj (h₀:=aA.1) (h₁:=e2.1) ar.iz).1 (aA.2.trans e2.2.symm);exact hj (this▸List.mem_of_getElem? h3)
 have a7:cC aW (c0 X cp) (n+1) (.func (.func g) #[] #[]) (dT fr cr) none st= .ret v1 cm false:=by
  rw[um];have e:fZ (#[]:Array Value).toList (fZ (dT fr cr) (#[]:Array Value).toList)=dT fr cr:=by simp
  rw[e,aL];rfl
 have hle:dt H bs:=dg.hle;refine⟨v1,cm,ids,bs,?_,?_,Fp aP _ gb,hle,cM.refl _,?_,dg.ai⟩
 ·rw[vp];show sM (cC aW (c0 X cp) (n+1) (.func (.func g) #[] #[]) (dT fr cr) none st) _ _=_;rw[a7];rfl
 ·obtain⟨fQ,mE,Cq⟩:=aa;refine⟨c6.wf,c6.le,by rw[fQ];exact ar.cq,ar.len,ar.iz,fun b aa=>e4 (ar.lt b aa) dg.ai,fun j o b hj lU=> ?_⟩;by_cases wV:j∈f
  ·obtain⟨i,ae⟩:=List.mem_iff_getElem?.1 wV;obtain⟨gS,CL,qB⟩:=Cq i j o ae hj;have CO:=tu ae lU;obtain⟨h3,ay⟩:=c6.own i gS b CL CO;obtain⟨aY,b7⟩:=qB.den aP h3;exact⟨aY,fun hl=>ay (by rw[<-b7];exact hl)⟩
  ·have hj:bu[j]? =some o:=hj;rw[mE j wV]at hj;obtain⟨h3,ay⟩:=ar.own j o b hj lU;have uX:=ar.lt b (List.mem_of_getElem? lU);have rF:=CJ j b wV lU;rw[dg.gz b uX rF];exact⟨rn hle (cM.refl _) h3,fun hl=>by rw[dg.hold b uX rF];exact ay hl⟩
 ·have uS:∀b,b∈pick f ids->b∈ids:=fun b aa=>by
   obtain⟨k,U⟩:=List.mem_iff_getElem?.1 aa;obtain⟨m,_,ay⟩:=xP aP U;exact List.mem_of_getElem? ay
  have mG:∀b,b<aJ.ai->b∉i0->b∉pick f ids:=fun b aa hn hm=>by
   rcases a5.new b (uS b hm)with h|h
   ·exact hn h
   ·have h:aJ.ai<=b:=h;omega
  refine⟨a5.hle.trans hle,fun b aa hn=> ?_,fun b aa hn=> ?_,Nat.le_trans a5.ai dg.ai,a5.kq,a5.new⟩
  ·rw[dg.hold b (e4 aa a5.ai) (mG b aa hn)];exact a5.hold b aa hn
  ·rw[dg.gz b (e4 aa a5.ai) (mG b aa hn)];exact a5.gz b aa hn
section
variable{aW:ao df}{cp:FuncId->List Value->au->Value->au->Prop}{cd n:Nat}{fn:FuncId}{b9:bF}{i0:List Nat}{aJ:au}{Q:dF->cS->Prop}{K:List eQ}{rest:List a3}{aM:Nat}{e:bT}{g:FuncId}{S:tW}{a b c a' er bJ jh oS rW:a3}
theorem apK(hc:bg X g S.spec){cr:List Operand}{as:List af}{d:Tmp}{xs:List bL}(l:S.L)(hp:S.pre l)
 (k:a2.ok ⟨cC aW (c0 X cp) (n+1),cd,fn,b9,i0,aJ,Q⟩ ⟨K,.o xs,⟨a'::er::bJ::rest,aM,(d,jx [0,1,2] (S.res l))::e⟩⟩) (ak:S.own l=[jh,oS,rW]:=by rfl) (iv:S.bu l=[a',er,bJ]:=by rfl)
 (h1:ft [0,1,2] jh a:=by exact rfl) (h2:ft [0,1,2] oS b:=by exact⟨rfl,fun _=>rfl⟩) (h3:ft [0,1,2] rW c:=by exact⟨rfl,fun _=>rfl⟩)
 (aL:j2 [0,1,2] a' a':=by exact rfl) (aR:j2 [0,1,2] er er:=by exact⟨rfl,fun _=>rfl⟩) (a7:j2 [0,1,2] bJ bJ:=by exact⟨rfl,fun _=>rfl⟩)
 (ha:kc e cr=some as:=by rfl) (he:as=nB [0,1,2] (S.args l):=by rfl) (dB:cp g=S.spec.K:=by rfl) (hh:S.hp b9:=by assumption):
 a2.ok ⟨cC aW (c0 X cp) (n+1),cd,fn,b9,i0,aJ,Q⟩ ⟨K,.o (⟨some d,.call (.func g) cr,none⟩::xs),⟨a::b::c::rest,aM,e⟩⟩:=
 fun H ids st fr a5 ar ab=>let⟨v,st',cU,bs,cn,cz,dp,jS,tv,Nd,ao1⟩:=Kd hc [0,1,2] l hp hh (by rw[ak];exact ZT h1 h2 h3) (by rw[iv];exact PM aL aR a7) ha he dB a5 ar ab;vQ cn (k bs cU st' _ Nd cz ((ab.mono jS tv).fA (some d) dp))
theorem QK(hc:bg X g S.spec){cr:List Operand}{as:List af}{d:Tmp}{xs:List (bL×cL)}{bO:List a3}{aU:bT}{bf cf:Nat}(l:S.L)(hp:S.pre l)
 (k:a2.ok ⟨cC aW (c0 X cp) (n+1),cd,fn,b9,i0,aJ,Q⟩ ⟨K,.d xs (bO.map fun _=>.x) (mC d aU) (bf+1) aM,⟨a'::er::bJ::rest,aM,(d,jx [0,1,2] (S.res l))::e⟩⟩) (ak:S.own l=[jh,oS,rW]:=by rfl) (iv:S.bu l=[a',er,bJ]:=by rfl)
 (h1:ft [0,1,2] jh a:=by exact rfl) (h2:ft [0,1,2] oS b:=by exact⟨rfl,fun _=>rfl⟩) (h3:ft [0,1,2] rW c:=by exact⟨rfl,fun _=>rfl⟩)
 (aL:j2 [0,1,2] a' a':=by exact rfl) (aR:j2 [0,1,2] er er:=by exact⟨rfl,fun _=>rfl⟩) (a7:j2 [0,1,2] bJ bJ:=by exact⟨rfl,fun _=>rfl⟩)
 (ha:kc e cr=some as:=by rfl) (he:as=nB [0,1,2] (S.args l):=by rfl) (dB:cp g=S.spec.K:=by rfl) (hh:S.hp b9:=by assumption):
 a2.ok ⟨cC aW (c0 X cp) (n+1),cd,fn,b9,i0,aJ,Q⟩ ⟨K,.d ((⟨some d,.call (.func g) cr,none⟩,.eO)::xs) bO aU bf cf,⟨a::b::c::rest,aM,e⟩⟩:=
 aeZ (d:=some d) (s:=⟨a::b::c::rest,aM,e⟩) (fun H ids st fr a5 ar ab=>Kd hc [0,1,2] l hp hh (by rw[ak];exact ZT h1 h2 h3) (by rw[iv];exact PM aL aR a7) ha he dB a5 ar ab) k
end
end Go.an
namespace Go.an
open Sym
section
variable{call:bQ}{s:cS}{x y:Operand}
theorem anF{el:TypeId}{cQ z n c:Nat}{gi:List Value}{k k':IntKind}{α:Type}(R:α->List af)(w:α)(J:bI s.env x=some (.i k (n:Int)))(aG:bI s.env y=some (.i k' (c:Int)))(ax:gi.length=z)(cI:vl gi=R w)(hn:n<=c)(hc:c*(cQ+1)<=1099511627776):
 yC call (.oO el cQ gi x y) s (.a6 s.n z 0 n c) (s.own++[.a el false z α R (List.replicate c w)]) (s.n+1):=fun H ids st fr ar ab=>by
 have h1:fr.aj x= .int k (n:Int):=ab.aj J;have h2:fr.aj y= .int k' (c:Int):=ab.aj aG;subst ax;have av:=uz H (ids++[st.ai]) gi;rw[cI]at av;have iL:=Kg av c;refine⟨_,_,_,?_,ar.add (eg:=.cells (my gi c) el (0,0) false) ⟨_,rfl,iL.1,iL.2⟩,⟨st.ai,by rw[<-ar.len,List.getElem?_append_right (b5 _)];simp,rfl⟩,cM.app _ _,fun _ _ _ B=>B.add _,Nat.le_succ _,fun b aa _=>r1 aa⟩;show r3 el cQ gi x y call fr st=_;unfold r3;rw[h1,h2,mU,mU,oQ,oQ,eX hn,eX (show Nat.mul c (Nat.succ cQ)<=2^40 from hc),gv,Nat.zero_mul]
end
section
variable{aF:gx}{K:List eQ}{own bO bu:List a3}{aM b8 bf cf:Nat}{e aU:bT}{d:Tmp}{ts:List Tmp}{xs:List (bL×cL)}{x y:Operand}
theorem Fl{el:TypeId}{cQ z n c:Nat}{gi:List Value}{bD k':IntKind}{α:Type}(R:α->List af)(w:α)(k:a2.ok aF ⟨K,.d xs bO (mC d aU) bf cf,⟨bu,b8,(d,.a6 aM z 0 n c)::e⟩⟩)(J:bI (e7 ts e) x=some (.i bD (n:Int)):=by rfl)(aG:bI (e7 ts e) y=some (.i k' (c:Int)):=by rfl)(ax:G0 gi=some z:=by rfl)(cI:vl gi=R w:=by rfl)
 (ak:qZ own (.a el false z α R (List.replicate c w)) some=some bu:=by rfl) (gR:oR aM some=some b8:=by rfl) (hn:n<=c:=by omega) (hc:c*(cQ+1)<=1099511627776:=by omega):a2.ok aF ⟨K,.d ((⟨some d,.oO el cQ gi x y,none⟩,.hP ts)::xs) bO aU bf cf,⟨own,aM,e⟩⟩:=by
 have h1:=sb ak;have h2:=qN gR;cases h1;cases h2;exact QJ (d:=some d) (s:=⟨own,aM,e⟩) (anF (s:=⟨own,aM,e7 ts e⟩) R w J aG (VQ ax) cI hn hc) rfl k
end
section
variable{X:Ctx}{aW:ao df}{cp:FuncId->List Value->au->Value->au->Prop}{cd n:Nat}{fn:FuncId}{b9:bF}{i0:List Nat}{aJ:au}{Q:dF->cS->Prop}{K:List eQ}{own bu:List a3}{aM:Nat}{e:bT}{g:FuncId}{S:tW}
theorem apL(hc:bg X g S.spec){cr:List Operand}{as:List af}{d:Tmp}{xs:List bL}(f:List Nat)(l:S.L)(hp:S.pre l)
 (k:a2.ok ⟨cC aW (c0 X cp) (n+1),cd,fn,b9,i0,aJ,Q⟩ ⟨K,.o xs,⟨bu,aM,(d,jx f (S.res l))::e⟩⟩) (ah:Sub 0 f ⟨own,aM,e⟩ ⟨S.own l,(S.own l).length,[]⟩) (aa:yA f own bu (S.bu l)) (hh:S.hp b9)
 (ha:kc e cr=some as:=by rfl) (he:as=nB f (S.args l):=by rfl) (dB:cp g=S.spec.K:=by rfl):
 a2.ok ⟨cC aW (c0 X cp) (n+1),cd,fn,b9,i0,aJ,Q⟩ ⟨K,.o (⟨some d,.call (.func g) cr,none⟩::xs),⟨own,aM,e⟩⟩:=
 fun H ids st fr a5 ar ab=>let⟨v,st',cU,bs,cn,cz,dp,jS,tv,Nd,ao1⟩:=Kd hc f l hp hh ah aa ha he dB a5 ar ab;vQ cn (k bs cU st' _ Nd cz ((ab.mono jS tv).fA (some d) dp))
end
def M8:af->Bool
 |.i _ _|.b _|.s _=>true
 |_=>false
theorem aoT{H:bF}{ids:List Nat}{a:af}{v w:Value}(h:M8 a=true)(d:den H a ids v)(h5:den H a ids w):v=w:=by
 cases a with
 |i k n=>have d:v= .int k n:=d;have h5:w= .int k n:=h5;rw[d,h5]
 |b t=>have d:v= .bool t:=d;have h5:w= .bool t:=h5;rw[d,h5]
 |s l=>have d:v= .string ⟨⟨l⟩⟩:=d;have h5:w= .string ⟨⟨l⟩⟩:=h5;rw[d,h5]
 |_=>cases h
theorem XJ{H:bF}{ids:List Nat}:∀{cs:List af} {vs ws:List Value},cs.all M8=true->di H cs ids vs->di H cs ids ws->vs=ws
 |[],_,_,_,d,h5=>Eq.trans (show _=[]from d) (show _=[]from h5).symm
 |c::cs,_,_,h,⟨v,us,e,d1,d2⟩,⟨v',asX,cK,aeV,aeW⟩=>by
  rw[List.all_cons,bZ]at h;rw[e,cK,aoT h.1 d1 aeV,XJ h.2 d2 aeW]
def y9:Nat->List af->Bool
 |_,[]=>true
 |0,.s _::cs=>y9 0 cs
 |i+1,.i _ _::cs=>y9 i cs
 |_,_=>false
theorem KN{H:bF}{ids:List Nat}:∀{i:Nat} {cs:List af} {vs:List Value},y9 i cs=true->di H cs ids vs->kB i vs vs=some true
 |i,[],vs,_,d=>by
  have d:vs=[]:=d;subst d;cases i<;>rfl
 |0,.s l::cs,vs,h,⟨v,ws,e,d1,d2⟩=>by
  have d1:v= .string ⟨⟨l⟩⟩:=d1;subst e;subst d1;have a0:=KN (i:=0) (cs:=cs) h d2;unfold kB;simp only[Fx,B3,beq_self_eq_true,Nat.zero_sub,a0];rfl
 |i+1,.i k n::cs,vs,h,⟨v,ws,e,d1,d2⟩=>by
  have d1:v= .int k n:=d1;subst e;subst d1;have a0:=KN (i:=i) (cs:=cs) h d2;unfold kB;simp only[Fx,Fz,if_true,beq_self_eq_true,Nat.add_sub_cancel,a0];rfl
 |0,.i _ _::_,_,h,_=>by cases h
 |0,.b _::_,_,h,_=>by cases h
 |0,.nl::_,_,h,_=>by cases h
 |0,.v _::_,_,h,_=>by cases h
 |0,.p _ _::_,_,h,_=>by cases h
 |0,.fz _ _ _ _::_,_,h,_=>by cases h
 |0,.a6 _ _ _ _ _::_,_,h,_=>by cases h
 |0,.bS _ _ _ _::_,_,h,_=>by cases h
 |0,.iP _ _ _ _::_,_,h,_=>by cases h
 |0,.ip _::_,_,h,_=>by cases h
 |0,.fn _ _ _::_,_,h,_=>by cases h
 |0,.agg _::_,_,h,_=>by cases h
 |0,.bB _::_,_,h,_=>by cases h
 |0,.bad::_,_,h,_=>by cases h
 |i+1,.s _::_,_,h,_=>by cases h
 |i+1,.b _::_,_,h,_=>by cases h
 |i+1,.nl::_,_,h,_=>by cases h
 |i+1,.v _::_,_,h,_=>by cases h
 |i+1,.p _ _::_,_,h,_=>by cases h
 |i+1,.fz _ _ _ _::_,_,h,_=>by cases h
 |i+1,.a6 _ _ _ _ _::_,_,h,_=>by cases h
 |i+1,.bS _ _ _ _::_,_,h,_=>by cases h
 |i+1,.iP _ _ _ _::_,_,h,_=>by cases h
 |i+1,.ip _::_,_,h,_=>by cases h
 |i+1,.fn _ _ _::_,_,h,_=>by cases h
 |i+1,.agg _::_,_,h,_=>by cases h
 |i+1,.bB _::_,_,h,_=>by cases h
 |i+1,.bad::_,_,h,_=>by cases h
theorem KC:∀{i:Nat} {cs:List af},y9 i cs=true->cs.all M8=true
 |_,[],_=>rfl
 |0,c::cs,h=>by cases c<;>first|(cases h;done)|exact KC (i:=0) (cs:=cs) h
 |i+1,c::cs,h=>by cases c<;>first|(cases h;done)|exact KC (i:=i) (cs:=cs) h
theorem af2{call:bQ}{fr:aT}{H:bF}{ids:List Nat}{e:bT}{x y:Operand}{neg:Bool}{n:Nat}{cs:List af}(ab:c3 fr H ids e)(J:bI e x=some (.agg cs))(aG:bI e y=some (.agg cs))(ak:y9 (n%100) cs=true)(hl:cs.length=n%100+n/100)(st:au):
 b2 call (.ext (.qp neg n x y)) fr st= .ok (.bool (kW neg true)) fr st:=by
 obtain⟨vs,h1,d1⟩:=ab.aj J;obtain⟨ws,h2,d2⟩:=ab.aj aG;have e:=XJ (KC ak) d1 d2;subst e;have hlen:=hI d1;show q2 (fr.aj x) (fun xs=>q2 (fr.aj y) (fun aq=>et (ec xs.toList) (Nat.add (Nat.mod n 100) (Nat.div n 100)) (et (ec aq.toList) (Nat.add (Nat.mod n 100) (Nat.div n 100)) (bl (kB (Nat.mod n 100) xs.toList aq.toList) (fun b=>aZ.ok (.bool (cond neg (!b) b)) fr st) .no) .no) .no) .no) .no=_;rw[h1,h2];show et (ec vs) _ (et (ec vs) _ (bl (kB (Nat.mod n 100) vs vs) _ _) _) _=_;rw[fU,jI (show vs.length=Nat.add (Nat.mod n 100) (Nat.div n 100) by rw[hlen];exact hl),jI (show vs.length=Nat.add (Nat.mod n 100) (Nat.div n 100) by rw[hlen];exact hl),show kB (Nat.mod n 100) vs vs=some true from KN ak d1];rfl
section
variable{aF:gx}{K:List eQ}{own bu bO hX:List a3}{aM bf cf back:Nat}{e aU:bT}{d:Tmp}{ts:List Tmp}{xs:List bL}{aq:List (bL×cL)}{x y:Operand}
theorem Fj{neg:Bool}{n:Nat}{cs:List af}(k:a2.ok aF ⟨K,.d aq bO ((d,.b (kW neg true))::aU) bf cf,⟨own,aM,(d,.b (kW neg true))::e⟩⟩)(J:bI (e7 ts aU) x=some (.agg cs):=by rfl)(aG:bI (e7 ts aU) y=some (.agg cs):=by rfl)(ak:y9 (n%100) cs=true:=by rfl)(hl:cs.length=n%100+n/100:=by rfl)(aa:back<bf:=by decide):
 a2.ok aF ⟨K,.d ((⟨some d,.ext (.qp neg n x y),none⟩,.read back ts)::aq) bO aU bf cf,⟨own,aM,e⟩⟩:=
 rm (d:=some d) (a:=.b (kW neg true)) aa (fun H ids st fr ab _ _=>⟨.bool (kW neg true),rfl,fun ek _ _=>af2 ab J aG ak hl ek⟩) k
theorem apZ{bD z j q m:Nat}{el:TypeId}{a8:Bool}{α:Type}{R:α->List af}{l:List α}{a:af}{w:α}(w':α){ds:List af}(hj:l[j]? =some w)(k:a2.ok aF ⟨K,.o xs,⟨bu,aM,e⟩⟩)(J:bI e x=some (.fz bD z j q):=by rfl)(aG:bI e y=some a:=by rfl)(U:own[bD]? =some (.a el a8 z α R l):=by rfl)(hc:rj a=some ds:=by rfl)(hl:ds.length=m:=by rfl)(eu:pd ds=true:=by rfl)
 (cI:R w'=(R w).take q++(ds++(R w).drop (q+ds.length)):=by rfl) (ak:iT own bD (.a el a8 z α R (l.set j w')) some=some bu:=by rfl) (ax:q+m<=z:=by decide):a2.ok aF ⟨K,.o (⟨none,.store m x y,none⟩::xs),⟨own,aM,e⟩⟩:=by
 have h:=jT ak;cases h;exact YO (NZ (s:=⟨own,aM,e⟩) w' J aG hc hl eu U hj cI ax) k
theorem ae7{bD z j q m:Nat}{el:TypeId}{a8:Bool}{α:Type}{R:α->List af}{l:List α}{a:af}{w:α}(w':α){ds:List af}(hj:l[j]? =some w)(k:a2.ok aF ⟨K,.d aq hX aU (bf+1) aM,⟨bu,aM,e⟩⟩)(J:bI e x=some (.fz bD z j q):=by rfl)(aG:bI e y=some a:=by rfl)(U:own[bD]? =some (.a el a8 z α R l):=by rfl)(hc:rj a=some ds:=by rfl)(hl:ds.length=m:=by rfl)(eu:pd ds=true:=by rfl)
 (cI:R w'=(R w).take q++(ds++(R w).drop (q+ds.length)):=by rfl) (ak:iT own bD (.a el a8 z α R (l.set j w')) some=some bu:=by rfl) (k4:DE bO (some bD) some=some hX:=by rfl) (ax:q+m<=z:=by decide):a2.ok aF ⟨K,.d ((⟨none,.store m x y,none⟩,.eO)::aq) bO aU bf cf,⟨own,aM,e⟩⟩:=by
 have h:=jT ak;cases h;obtain⟨aoN,aL,aR,a7⟩:=M3 k4;cases aL;exact BP (d:=none) (s:=⟨own,aM,e⟩) (NZ (s:=⟨own,aM,e⟩) w' J aG hc hl eu U hj cI ax) aR (fun k o fu hl=>by
  have:=a7 k o fu hl;simp only[iR,J];exact this)
  k
variable{c:bz}
theorem v1(t:Nat){P:Prop}{av:Decidable P}(h:P)(k:a2.ok aF ⟨K,c,⟨own,aM,(t,.b true)::e⟩⟩)(hl:dO e t=some (.b (decide P)):=by rfl)(hc:c.ta=false:=by rfl):a2.ok aF ⟨K,c,⟨own,aM,e⟩⟩:=az t (.b true) hl (by rw[decide_eq_true h]) k hc
theorem v0(t:Nat){P:Prop}{av:Decidable P}(h:¬P)(k:a2.ok aF ⟨K,c,⟨own,aM,(t,.b false)::e⟩⟩)(hl:dO e t=some (.b (decide P)):=by rfl)(hc:c.ta=false:=by rfl):a2.ok aF ⟨K,c,⟨own,aM,e⟩⟩:=az t (.b false) hl (by rw[decide_eq_false h]) k hc
theorem kN(t:Nat){a b:Bool}(h:a=b)(k:a2.ok aF ⟨K,c,⟨own,aM,(t,.b b)::e⟩⟩)(hl:dO e t=some (.b a):=by rfl)(hc:c.ta=false:=by rfl):a2.ok aF ⟨K,c,⟨own,aM,e⟩⟩:=az t (.b b) hl (by rw[h]) k hc
theorem oa(t:Nat){cc:IntKind}{a:Int}(b:Int)(k:a2.ok aF ⟨K,c,⟨own,aM,(t,.i cc b)::e⟩⟩)(hl:dO e t=some (.i cc a):=by rfl)(h:a=b:=by omega)(hc:c.ta=false:=by rfl):a2.ok aF ⟨K,c,⟨own,aM,e⟩⟩:=az t (.i cc b) hl (by rw[h]) k hc
theorem dW(t:Nat){a:Int}(b:Int)(k:a2.ok aF ⟨K,c,⟨own,aM,(t,.i .i64 b)::e⟩⟩)(hl:dO e t=some (.i .i64 (IntKind.i64.wrap a)):=by rfl)(h:a=b:=by omega)(h1: -9223372036854775808<=a:=by omega)(h2:a<9223372036854775808:=by omega)(hc:c.ta=false:=by rfl):a2.ok aF ⟨K,c,⟨own,aM,e⟩⟩:=az t (.i .i64 b) hl (cO h h1 h2) k hc
theorem fM(t:Nat){P:Prop}{av:Decidable P}(h:P)(k:a2.ok aF ⟨K,.d aq bO ((t,.b true)::aU) bf cf,⟨own,aM,(t,.b true)::e⟩⟩)(hl:dO e t=some (.b (decide P)):=by rfl)(h0:dO aU t=some (.b (decide P)):=by rfl):a2.ok aF ⟨K,.d aq bO aU bf cf,⟨own,aM,e⟩⟩:=eh t (.b true) hl h0 (by rw[decide_eq_true h]) k
theorem iF(t:Nat){P:Prop}{av:Decidable P}(h:¬P)(k:a2.ok aF ⟨K,.d aq bO ((t,.b false)::aU) bf cf,⟨own,aM,(t,.b false)::e⟩⟩)(hl:dO e t=some (.b (decide P)):=by rfl)(h0:dO aU t=some (.b (decide P)):=by rfl):a2.ok aF ⟨K,.d aq bO aU bf cf,⟨own,aM,e⟩⟩:=eh t (.b false) hl h0 (by rw[decide_eq_false h]) k
theorem atB(t:Nat){cc:IntKind}{a:Int}(b:Int)(k:a2.ok aF ⟨K,.d aq bO ((t,.i cc b)::aU) bf cf,⟨own,aM,(t,.i cc b)::e⟩⟩)(hl:dO e t=some (.i cc a):=by rfl)(h:a=b:=by omega)(h0:dO aU t=some (.i cc a):=by rfl):a2.ok aF ⟨K,.d aq bO aU bf cf,⟨own,aM,e⟩⟩:=eh t (.i cc b) hl h0 (by rw[h]) k
theorem ww(t:Nat){a:Int}(b:Int)(k:a2.ok aF ⟨K,.d aq bO ((t,.i .i64 b)::aU) bf cf,⟨own,aM,(t,.i .i64 b)::e⟩⟩)(hl:dO e t=some (.i .i64 (IntKind.i64.wrap a)):=by rfl)(h:a=b:=by omega)(h1: -9223372036854775808<=a:=by omega)(h2:a<9223372036854775808:=by omega)(h0:dO aU t=some (.i .i64 (IntKind.i64.wrap a)):=by rfl):a2.ok aF ⟨K,.d aq bO aU bf cf,⟨own,aM,e⟩⟩:=eh t (.i .i64 b) hl h0 (cO h h1 h2) k
end
end Go.an
namespace Go.an
open Sym
variable{X:Ctx}
structure q9 where
 L:Type
 args:L->List af
 pre:L->Prop
 new:L->List a3
 res:L->af
 hp:bF->Prop:=fun _=>True
 hm:∀{H bs:bF},dt H bs->hp H->hp bs:=by exact fun _ _=>trivial
def q9.spec(S:q9):Spec where
 L:=S.L×bF
 pre:=fun l vs st=>S.pre l.1∧S.hp l.2∧Fit l.2 [] st [] 0∧di l.2 (S.args l.1) [] vs
 post:=fun l vs st v st'=>∃bs ids,Fit bs ids st' (S.new l.1) (S.new l.1).length∧dM l.2 [] st bs ids st'∧den bs (S.res l.1) ids v
def OK(S:q9)(l:S.L)(res:List ig)(x:dF)(s:cS):Prop:=(x= .norm∨x= .ret)∧∃f r,Fin.tH s res=some r∧r=jx f (S.res l)∧Sub 0 f s ⟨S.new l,(S.new l).length,[]⟩
theorem aeP{aW:ao df}(dv:Good X)(h8:mY X aW)(cp:FuncId->List Value->au->Value->au->Prop){f:FuncId}{xf:df}(J:aW.get f=some xf){S:q9}(hl:∀l,(S.args l).length<=xf.aS)
 (h:∀l,S.pre l->∀H aJ,S.hp H->a2.ok ⟨cC aW (c0 X cp) (ba+1),ba+1,f,H,[],aJ,OK S l xf.res⟩ ⟨[],.c xf.body,⟨[],0,lS 0 (S.args l)⟩⟩):bg X f S.spec:=by
 refine Ff dv h8 cp J (fun l vs st ⟨_,_,_,d⟩=>by rw[hI d];exact hl l.1) ?_;rintro⟨l,H⟩ vs st ⟨hp,hh,ar,d⟩;refine(h l hp H st hh H [] st (fH vs) (dM.refl _ _ _) ar (c3.zero d)).mono ?_;rintro x fr st' ⟨bs,ids,s,a5,c6,ab,J,g,r,h1,h2,ah⟩;obtain⟨v,h3,ay⟩:=AK (call:=cC aW (c0 X cp) (ba+1)) c6 ab h1;subst h2;have e1:Sub ([]:List Nat).length g s ⟨S.new l,(S.new l).length,[]⟩:=ah;have dg:dM H [] st bs ids st':=a5;exact⟨J,v,ay,bs,pick g ids,ah.fit c6,e1.bW c6 dg,Kq g _ h3⟩
def sh(n m:Nat):List Nat:=(List.range m).map (n+·)
theorem Qd{aW:ao df}{cp:FuncId->List Value->au->Value->au->Prop}{g:FuncId}{S:q9}(hc:bg X g S.spec)(dB:cp g=S.spec.K){s:cS}{cr:List Operand}{as:List af}{n:Nat}(l:S.L)(ha:kc s.env cr=some as)(nh:ht as=true)(he:jE as (S.args l))(hp:S.pre l){b9:bF}(hh:S.hp b9){new':List a3}{f:List Nat}
 (pB:f=sh s.n (S.new l).length) (hn:∀(i:Nat) (bd:a3),new'[i]? =some bd->∃o,(S.new l)[i]? =some o∧j2 f o bd) (mH:new'.length=(S.new l).length):
 v3 b9 (cC aW (c0 X cp) (n+1)) (.call (.func g) cr) s (jx f (S.res l)) (s.own++new') (s.n+new'.length):=fun H ids st fr dX ar ab=>by
 have av:=he.den (mA _ nh (ab.dT ha) []);obtain⟨v,st',h1,h2⟩:=hc _ st ⟨(l,H),hp,S.hm dX hh,ar.less,av⟩;obtain⟨v1,cm,aL,aR⟩:=DD (X:=X) (K:=cp) (f:=g) ⟨v,st',by rw[dB];exact h1,h2⟩;rw[dB]at aR;obtain⟨bs,tm,c6,dg,gb⟩:=aR (l,H) ⟨hp,S.hm dX hh,ar.less,av⟩;simp only at c6 dg gb;have a7:cC aW (c0 X cp) (n+1) (.func (.func g) #[] #[]) (dT fr cr) none st= .ret v1 cm false:=by
  rw[um];have e:fZ (#[]:Array Value).toList (fZ (dT fr cr) (#[]:Array Value).toList)=dT fr cr:=by simp
  rw[e,aL];rfl
 have hle:dt H bs:=dg.hle;have mG:∀b∈tm,st.ai<=b:=fun b aa=>(dg.new b aa).elim (fun h=>by simp at h) id;have U1:pick f (ids++tm)=tm:=by
  apply List.ext_getElem?;intro i;subst pB;have hlen:(sh s.n (S.new l).length).length=(S.new l).length:=by simp[sh]
  by_cases ae:i<(S.new l).length
  ·have aY:(sh s.n (S.new l).length)[i]? =some (s.n+i):=by simp[sh,ae]
   have b7:i<tm.length:=by rw[c6.len];exact ae
   have dn:(ids++tm)[s.n+i]? =some tm[i]:=by
    rw[List.getElem?_append_right (by rw[ar.len];omega),ar.len,Nat.add_sub_cancel_left,a9 b7]
   rw[tu aY dn,a9 b7]
  ·rw[List.getElem?_eq_none (by simp[pick,hlen];omega),List.getElem?_eq_none (by rw[c6.len];omega)]
 have aP:∀k m:Nat,f[k]? =some m->m<(ids++tm).length:=fun k m U=>by
  subst pB;have aY:=(List.getElem?_eq_some_iff.1 U).1;have b7:k<(S.new l).length:=by simpa[sh]using aY
  have dn:(sh s.n (S.new l).length)[k]? =some (s.n+k):=by simp[sh,b7]
  rw[dn]at U;cases U;rw[List.length_append,ar.len,c6.len];omega
 have kF:den bs (jx f (S.res l)) (ids++tm) v1:=Fp aP _ (by rw[U1];exact gb);refine⟨v1,cm,ids++tm,bs,?_,?_,kF,hle,cM.app _ _,?_,dg.ai,fun b aa _=>dg.gz b aa (by simp)⟩
 ·rw[vp];show sM (cC aW (c0 X cp) (n+1) (.func (.func g) #[] #[]) (dT fr cr) none st) _ _=_;rw[a7];rfl
 ·refine⟨c6.wf,c6.le,by rw[List.length_append,ar.cq],by rw[List.length_append,ar.len,c6.len,mH],?_,fun b aa=> ?_,fun k o b U aa=> ?_⟩
  ·rw[List.nodup_append];exact⟨ar.iz,c6.iz,fun a ha b aa e=>by have:=ar.lt a ha;have:=mG b aa;omega⟩
  ·rcases List.mem_append.1 aa with h|h
   ·exact e4 (ar.lt b h) dg.ai
   ·exact c6.lt b h
  ·by_cases rD:k<s.own.length
   ·rw[List.getElem?_append_left rD]at U;rw[List.getElem?_append_left (by rw[ar.len,<-ar.cq];exact rD)]at aa;obtain⟨h3,ay⟩:=ar.own k o b U aa;have uX:=ar.lt b (List.mem_of_getElem? aa);rw[dg.gz b uX (by simp)];exact⟨rn hle (cM.app _ _) h3,fun hl=>by rw[dg.hold b uX (by simp)];exact ay hl⟩
   ·rw[List.getElem?_append_right (by omega)]at U;rw[List.getElem?_append_right (by rw[ar.len,<-ar.cq];omega),ar.len,<-ar.cq]at aa;obtain⟨gS,CL,qB⟩:=hn _ o U;obtain⟨h3,ay⟩:=c6.own _ gS b CL aa;rw[<-U1]at h3;obtain⟨aY,b7⟩:=qB.den aP h3;exact⟨aY,fun hl=>ay (by rw[<-b7];exact hl)⟩
 ·intro b9 i0 aJ B;refine⟨B.hle.trans hle,fun b aa hn=> ?_,fun b aa hn=> ?_,Nat.le_trans B.ai dg.ai,fun k b U=>cM.app _ _ k b (B.kq k b U),fun b aa=> ?_⟩
  ·rw[dg.hold b (e4 aa B.ai) (by simp)];exact B.hold b aa hn
  ·rw[dg.gz b (e4 aa B.ai) (by simp)];exact B.gz b aa hn
  ·rcases List.mem_append.1 aa with h|h
   ·exact B.new b h
   ·exact .inr (Nat.le_trans B.ai (mG b h))
section
variable{aW:ao df}{cp:FuncId->List Value->au->Value->au->Prop}{cd n:Nat}{fn:FuncId}{b9:bF}{i0:List Nat}{aJ:au}{Q:dF->cS->Prop}{K:List eQ}{own:List a3}{aM:Nat}{e:bT}{g:FuncId}{S:q9}
theorem Hk{o bd:a3}{l:List a3}{f:List Nat}(h:l=[o])(aa:j2 f o bd):(∀(i:Nat) (q:a3),[bd][i]? =some q->∃p,l[i]? =some p∧j2 f p q)∧[bd].length=l.length:=by
 subst h;refine⟨fun i q hq=> ?_,rfl⟩;cases i with
 |zero=>cases hq;exact⟨_,rfl,aa⟩
 |succ i=>simp at hq
theorem YK(hc:bg X g S.spec){cr:List Operand}{as:List af}{d:Tmp}{xs:List bL}{o bd:a3}(l:S.L)(hp:S.pre l)(k:a2.ok ⟨cC aW (c0 X cp) (n+1),cd,fn,b9,i0,aJ,Q⟩ ⟨K,.o xs,⟨own++[bd],aM+1,(d,jx [aM] (S.res l))::e⟩⟩)
 (w2:S.new l=[o]:=by rfl) (aa:j2 [aM] o bd:=by exact⟨rfl,fun _=>rfl⟩) (ha:kc e cr=some as:=by rfl) (he:jE as (S.args l):=by exact jE.refl _) (nh:ht as=true:=by rfl) (dB:cp g=S.spec.K:=by rfl) (hh:S.hp b9:=by exact trivial):
 a2.ok ⟨cC aW (c0 X cp) (n+1),cd,fn,b9,i0,aJ,Q⟩ ⟨K,.o (⟨some d,.call (.func g) cr,none⟩::xs),⟨own,aM,e⟩⟩:=
 D4 (d:=some d) (s:=⟨own,aM,e⟩) (Qd hc dB l ha nh he hp hh (new':=[bd]) (f:=[aM]) (by rw[w2];simp[sh]) (Hk w2 aa).1 (Hk w2 aa).2) k
theorem aeY(hc:bg X g S.spec){cr:List Operand}{as:List af}{d:Tmp}{xs:List (bL×cL)}{bO:List a3}{aU:bT}{bf cf:Nat}{o bd:a3}(l:S.L)(hp:S.pre l)(k:a2.ok ⟨cC aW (c0 X cp) (n+1),cd,fn,b9,i0,aJ,Q⟩ ⟨K,.d xs bO (mC d aU) (bf+1) (aM+1),⟨own++[bd],aM+1,(d,jx [aM] (S.res l))::e⟩⟩)
 (w2:S.new l=[o]:=by rfl) (aa:j2 [aM] o bd:=by exact⟨rfl,fun _=>rfl⟩) (ha:kc e cr=some as:=by rfl) (he:jE as (S.args l):=by exact jE.refl _) (nh:ht as=true:=by rfl) (dB:cp g=S.spec.K:=by rfl) (hh:S.hp b9:=by exact trivial):
 a2.ok ⟨cC aW (c0 X cp) (n+1),cd,fn,b9,i0,aJ,Q⟩ ⟨K,.d ((⟨some d,.call (.func g) cr,none⟩,.eO)::xs) bO aU bf cf,⟨own,aM,e⟩⟩:=
 Kp (d:=some d) (s:=⟨own,aM,e⟩) (Qd hc dB l ha nh he hp hh (new':=[bd]) (f:=[aM]) (by rw[w2];simp[sh]) (Hk w2 aa).1 (Hk w2 aa).2) rfl (fun _ _ U _=>⟨U,by simp[iR]⟩) k
end
theorem fb{p:Prop}(h:p):¬¬p:=fun k=>k h
theorem GX{k z mr n c:Nat}:b3 (.a6 k z 0 n c) (.a6 k mr 0 n c):=fun H ids v ⟨b,h1,h2⟩=>⟨b,h1,by rw[h2,Nat.zero_mul,Nat.zero_mul]⟩
mutual
def wF(k z n:Nat)(b:af):af->af
 |.a6 k' mr o b8 c=>match Nat.beq k k'&&(Nat.beq z mr&&(Nat.beq 0 o&&(Nat.beq n b8&&Nat.beq n c)))with
  |true=>b
  |false=>.a6 k' mr o b8 c
 |.agg cs=>.agg (uI k z n b cs)
 |.bB cs=>.bB (uI k z n b cs)
 |.fn f fs cs=>.fn f fs cs
 |.p k o=>.p k o
 |.fz k z j o=>.fz k z j o
 |.i k n=>.i k n
 |.b t=>.b t
 |.s l=>.s l
 |.nl=>.nl
 |.v x=>.v x
 |.bS z α R l=>.bS z α R l
 |.iP z α R l=>.iP z α R l
 |.ip cs=>.ip cs
 |.bad=>.bad
def uI(k z n:Nat)(b:af):List af->List af
 |[]=>[]
 |a::as=>wF k z n b a::uI k z n b as
end
mutual
theorem Rl{H:bF}{ids:List Nat}{k z n:Nat}{b:af}(aa:∀v,den H (.a6 k z 0 n n) ids v->den H b ids v):∀(a:af) {v:Value},den H a ids v->den H (wF k z n b a) ids v
 |.a6 k' mr o b8 c,v,d=>by
  unfold wF;split
  ·rename_i h;simp only[bZ]at h;obtain⟨h1,h2,h3,ay,aY⟩:=h;have:=ep h1;have:=ep h2;have:=ep h3;have:=ep ay;have:=ep aY
   subst_vars
   exact aa v d
  ·exact d
 |.agg cs,_,⟨vs,e,d⟩=>⟨vs,e,FN aa cs d⟩
 |.bB cs,_,⟨vs,e,d⟩=>⟨vs,e,FN aa cs d⟩
 |.fn _ _ _,_,d=>d
 |.p _ _,_,d=>d
 |.fz _ _ _ _,_,d=>d
 |.i _ _,_,d=>d
 |.b _,_,d=>d
 |.s _,_,d=>d
 |.nl,_,d=>d
 |.v _,_,d=>d
 |.bS _ _ _ _,_,d=>d
 |.iP _ _ _ _,_,d=>d
 |.ip _,_,d=>d
 |.bad,_,d=>d
theorem FN{H:bF}{ids:List Nat}{k z n:Nat}{b:af}(aa:∀v,den H (.a6 k z 0 n n) ids v->den H b ids v):∀(a:List af) {v:List Value},di H a ids v->di H (uI k z n b a) ids v
 |[],_,d=>d
 |a::as,_,⟨v,ws,e,d1,d2⟩=>⟨v,ws,e,Rl aa a d1,FN aa as d2⟩
end
section
variable{aF:gx}{K:List eQ}{own bu:List a3}{aM:Nat}{e:bT}
theorem apR(t k:Nat){z:Nat}{el:TypeId}{a8:Bool}{α:Type}{R:α->List af}{l:List α}{a a':af}{p:List bL}(cc:a2.ok aF ⟨K,.o p,⟨bu,aM,(t,a')::e⟩⟩)(aN:dO e t=some a:=by rfl)(U:own[k]? =some (.a el a8 z α R l):=by rfl)(ha:wF k z l.length (.bS z α R l) a=a':=by rfl)(hp:∀x,ht (R x)=true:=by exact fun _=>rfl)
 (ak:iT own k .x some=some bu:=by rfl):a2.ok aF ⟨K,.o p,⟨own,aM,e⟩⟩:=fun H ids st fr a5 ar ab=>by
 have h1:=jT ak;cases h1;have wY:k<ids.length:=by rw[ar.len,<-ar.cq];exact(List.getElem?_eq_some_iff.1 U).1
 obtain⟨b,aL⟩:∃b,ids[k]? =some b:=⟨_,a9 wY⟩;obtain⟨⟨vs,a7,cl,dc⟩,_⟩:=ar.own k _ b U aL;have hle:=uK ar U rfl aL;have eG:=ab.mono hle (cM.refl _);refine cc (g7 H st b) ids st fr (a5.g7 ar U rfl aL) (ar.g7 U rfl aL) ⟨eG.pl,fun j q hj=> ?_⟩;rw[pS]at hj;cases aa:Nat.beq t j with
 |false=>rw[aa]at hj;exact eG.get j q hj
 |true=>
  rw[aa]at hj;cases hj;rw[<-ep aa,<-ha];refine Rl (fun v aH=> ?_) a (eG.get t a aN);obtain⟨er,cn,cz⟩:=aH;rw[aL]at cn;cases cn;refine .inr ⟨b,0*z,l.length,vs,el,(0,0),a8,cz,Nat.le_refl _,by unfold g7;rw[if_pos rfl];exact a7,fun i x J=> ?_⟩;rw[Nat.zero_mul,Nat.zero_add];exact kX hle _ (cM.refl _) (mA _ (hp x) (dc _ x J) [])
end
end Go.an
namespace Go.an
open Sym
section
variable{call:bQ}{s:cS}{x y:Operand}
theorem af7{fr:aT}{st:au}{el:TypeId}{a4 cQ b q:Nat}{vs new:List Value}{a8:Bool}(a7:st.h.get b=some (.cells vs el (0,0) a8))(hq:q=0)(aa:(2*q+768)*(cQ+1)<=1099511627776):kZ fr st el a4 cQ (some ⟨b,0,none⟩) q q q new= .ok (.slice (some ⟨b,0,none⟩) q q) fr st:=by
 have aU:q+q=q:=by omega
 unfold kZ au.gL;simp only[Nat.add_eq,Nat.mul_eq,Sym.eY,Sym.ia,a7,kU,aU];rw[eX (show(2*q+768)*Nat.succ cQ<=2^40 from aa),eX (b5 _),eX (b5 _),eX (by rw[hq];simp),jI rfl,jI hq]
theorem abX{a4 mr cQ k:Nat}{el:TypeId}{α:Type}{R:α->List af}{m:List α}(J:bI s.env x=some (.a6 k mr 0 0 0))(U:s.own[k]? =some (.c el []))(ah:ub call el cQ s y R a4 m)(ax:∀w,(R w).length=a4)(hp:∀w,ht (R w)=true)(aa:(2*m.length+768)*(cQ+1)<=1099511627776):
 gy call (.app el a4 cQ x y) s (.bS a4 α R m) (s.own.set k .x) s.n:=fun H ids st fr ar ab=>by
 obtain⟨b,aL,aR⟩:=ab.aj J;rw[Nat.zero_mul]at aR;have j7:Fit H ids st (s.own.set k (.a el false a4 α R [])) s.n:=JS [] U rfl ax ar;have oG:(s.own.set k (.a el false a4 α R []))[k]? =some (.a el false a4 α R []):=List.getElem?_set_self (List.getElem?_eq_some_iff.1 U).1;obtain⟨vs,a7,cl,dc⟩:=om (s:=⟨s.own.set k (.a el false a4 α R []),s.n,s.env⟩) j7 oG aL;obtain⟨new,h1,h2,h3⟩:=ah H ids st fr ar ab x _ _ _ aR;have hle:=uK j7 oG rfl aL;have oD:=j7.g7 oG rfl aL;rw[List.set_set]at oD;by_cases h0:m=[]
 ·subst h0;refine⟨.slice (some ⟨b,0,none⟩) 0 0,st,ids,g7 H st b,?_,oD,.inr ⟨b,0,0,vs,el,(0,0),false,rfl,Nat.le_refl _,by unfold g7;rw[if_pos rfl];exact a7,fun i x J=>by simp at J⟩,hle,cM.refl _,fun _ _ _ B=>B.g7 j7 oG rfl aL,b5 _,fun _ _ _=>rfl⟩;rw[h3];exact af7 a7 rfl aa
 ·have hl:0<m.length:=List.length_pos_iff.2 h0;have hn:st.h.get st.ai=none:=ar.wf _ (b5 _)
  let bs:bF:=fun c=>if c=st.ai then some (.cells new el (0,0) true)else H c
  have dX:dt H bs:=fun c q hc=>by
   show(if c=st.ai then _ else H c)=_;rw[if_neg]
   ·exact hc
   ·intro e;have:=ar.aP hc;omega
  have rG:∀{c:Nat},c<st.ai->bs c=H c:=fun hc=>if_neg (by omega);refine⟨.slice (some ⟨st.ai,0,none⟩) m.length m.length,⟨st.h.set st.ai (.cells new el (0,0) true),st.ai+1⟩,ids,bs,?_,?_,.inr ⟨st.ai,0,m.length,new,el,(0,0),true,rfl,Nat.le_refl _,if_pos rfl,fun i x J=> ?_⟩,dX,cM.refl _,fun b9 i0 aJ B=> ?_,Nat.le_succ _,fun b aa _=>r1 aa⟩
  ·rw[h3];unfold kZ au.gL;simp only[Nat.add_eq,Nat.mul_eq,Sym.eY,Sym.ia,a7,kU,Nat.zero_mul];rw[eX (show(2*(0+m.length)+768)*Nat.succ cQ<=2^40 by rw[Nat.zero_add];exact aa),eX (b5 _),eX (b5 _),eX (by rw[fU,cl];simp),jI rfl,rr (by omega),cond_false,L8 (by omega),rl (by simp),gv,og,List.drop_zero,List.take_zero,List.nil_append,Nat.zero_add]
  ·have eF:=ar.add (o:=.x) (eg:=.cells new el (0,0) true) trivial;refine⟨eF.wf,fun c q hc=> ?_,by rw[List.length_set];exact ar.cq,ar.len,ar.iz,fun c hc=>Nat.lt_succ_of_lt (ar.lt c hc),fun j o c hj hc=> ?_⟩
   ·by_cases e:c=st.ai
    ·subst e;have hc:(if st.ai=st.ai then some (bw.cells new el (0,0) true)else H st.ai)=some q:=hc;rw[if_pos rfl]at hc;rw[<-hc];exact ao.pw _ _ _
    ·have hc:H c=some q:=by
      have hc:(if c=st.ai then some (bw.cells new el (0,0) true)else H c)=some q:=hc;rw[if_neg e]at hc;exact hc
     exact eF.le c q hc
   ·have UA:=ar.lt c (List.mem_of_getElem? hc);rw[List.getElem?_set]at hj;by_cases je:k=j
    ·rw[if_pos je]at hj;split at hj<;>cases hj;exact⟨trivial,fun h=>by cases h⟩
    ·rw[if_neg je]at hj;obtain⟨d1,d2⟩:=ar.own j o c hj hc;refine⟨?_,fun ak=>(rG UA).trans (d2 ak)⟩;rw[show(au.h ⟨st.h.set st.ai (.cells new el (0,0) true),st.ai+1⟩).get c=st.h.get c from r1 UA];exact rn dX (cM.refl _) d1
  ·rw[Nat.zero_add];exact kX dX _ (cM.refl _) (mA _ (hp x) (h1.2 i x J) [])
  ·have eF:=B.add (.cells new el (0,0) true);exact⟨B.hle.trans dX,fun c hc hn=>(rG (e4 hc B.ai)).trans (B.hold c hc hn),eF.gz,eF.ai,B.kq,B.new⟩
theorem Fit.ann{H:bF}{ids:List Nat}{st:au}{own:List a3}{n:Nat}(ar:Fit H ids st own n)(k:Nat):Fit H ids st (own.set k .x) n:=by
 refine⟨ar.wf,ar.le,by rw[List.length_set];exact ar.cq,ar.len,ar.iz,ar.lt,fun j o c hj hc=> ?_⟩;rw[List.getElem?_set]at hj;by_cases je:k=j
 ·rw[if_pos je]at hj;split at hj<;>cases hj;exact⟨trivial,fun h=>by cases h⟩
 ·rw[if_neg je]at hj;exact ar.own j o c hj hc
theorem ab0{a4 mr cQ k:Nat}{el:TypeId}{α:Type}{R:α->List af}{m:List α}(J:bI s.env x=some (.a6 k mr 0 0 0))(U:s.own[k]? =some (.c el []))(ah:ub call el cQ s y R a4 m)(h0:m≠[])(ax:∀w,(R w).length=a4)(aa:(2*m.length+768)*(cQ+1)<=1099511627776):
 gy call (.app el a4 cQ x y) s (.a6 s.n a4 0 m.length m.length) (s.own.set k .x++[.a el true a4 α R m]) (s.n+1):=fun H ids st fr ar ab=>by
 obtain⟨b,aL,aR⟩:=ab.aj J;rw[Nat.zero_mul]at aR;have wY:=(List.getElem?_eq_some_iff.1 U).1;have j7:Fit H ids st (s.own.set k (.a el false a4 α R [])) s.n:=JS [] U rfl ax ar;have oG:(s.own.set k (.a el false a4 α R []))[k]? =some (.a el false a4 α R []):=List.getElem?_set_self wY;obtain⟨vs,a7,cl,dc⟩:=om (s:=⟨s.own.set k (.a el false a4 α R []),s.n,s.env⟩) j7 oG aL;obtain⟨new,h1,h2,h3⟩:=ah H ids st fr ar ab x _ _ _ aR;have hl:0<m.length:=List.length_pos_iff.2 h0;have kD:=BI (dt.refl H) (cM.app ids [st.ai]) h1;have eF:=(ar.ann k).add (eg:=.cells new el (0,0) true) (o:=.a el true a4 α R m) ⟨_,rfl,kD.1,kD.2⟩;refine⟨.slice (some ⟨st.ai,0,none⟩) m.length m.length,_,_,H,?_,eF,⟨st.ai,by rw[<-ar.len,List.getElem?_append_right (b5 _)];simp,by rw[Nat.zero_mul]⟩,dt.refl _,cM.app _ _,fun _ _ _ B=>B.add _,Nat.le_succ _,fun b aa _=>r1 aa⟩;rw[h3];unfold kZ au.gL;simp only[Nat.add_eq,Nat.mul_eq,Sym.eY,Sym.ia,a7,kU,Nat.zero_mul];rw[eX (show(2*(0+m.length)+768)*Nat.succ cQ<=2^40 by rw[Nat.zero_add];exact aa),eX (b5 _),eX (b5 _),eX (by rw[fU,cl];simp),jI rfl,rr (by omega),cond_false,L8 (by omega),rl (by simp),gv,og,List.drop_zero,List.take_zero,List.nil_append,Nat.zero_add]
end
section
variable{aF:gx}{K:List eQ}{own bu bO:List a3}{aM bf cf:Nat}{e aU:bT}{d:Tmp}{xs:List (bL×cL)}{x y:Operand}
theorem Ko{a4 mr cQ k:Nat}{el:TypeId}{α:Type}(R:α->List af)(m:List α)(ah:od ⟨own,aM,e⟩ y R a4 m)(cc:a2.ok aF ⟨K,.d xs bO (mC d aU) (bf+1) aM,⟨bu,aM,(d,.bS a4 α R m)::e⟩⟩)(J:bI e x=some (.a6 k mr 0 0 0):=by rfl)(U:own[k]? =some (.c el []):=by rfl)
 (ak:iT own k .x some=some bu:=by rfl) (h0:bO[k]? =none:=by rfl) (ax:∀w,(R w).length=a4:=by exact fun _=>rfl) (hp:∀w,ht (R w)=true:=by exact fun _=>rfl) (aa:(2*m.length+768)*(cQ+1)<=1099511627776:=by omega):
 a2.ok aF ⟨K,.d ((⟨some d,.app el a4 cQ x y,none⟩,.eO)::xs) bO aU bf cf,⟨own,aM,e⟩⟩:=by
 have h1:=jT ak;cases h1;refine BP (d:=some d) (s:=⟨own,aM,e⟩) (abX J U (wb ah) ax hp aa) rfl (fun j bd hj _=>⟨hj,fun hm=> ?_⟩) cc;have:iR e (.app el a4 cQ x y)=some k∨iR e (.app el a4 cQ x y)=none:=by
  unfold iR;dsimp only;rw[J];exact .inl rfl
 rcases this with h|h<;>rw[h]at hm<;>cases hm;rw[h0]at hj;cases hj
theorem aeX{b8:Nat}{hX:List a3}{a4 mr cQ k:Nat}{el:TypeId}{α:Type}(R:α->List af)(m:List α)(ah:od ⟨own,aM,e⟩ y R a4 m)(cc:a2.ok aF ⟨K,.d xs bO (mC d aU) (bf+1) b8,⟨bu,b8,(d,.a6 aM a4 0 m.length m.length)::e⟩⟩)(J:bI e x=some (.a6 k mr 0 0 0):=by rfl)(U:own[k]? =some (.c el []):=by rfl)(hne:m≠[])
 (k4:iT own k .x some=some hX:=by rfl) (ak:qZ hX (.a el true a4 α R m) some=some bu:=by rfl) (gR:oR aM some=some b8:=by rfl) (h0:bO[k]? =none:=by rfl) (ax:∀w,(R w).length=a4:=by exact fun _=>rfl) (aa:(2*m.length+768)*(cQ+1)<=1099511627776:=by omega):
 a2.ok aF ⟨K,.d ((⟨some d,.app el a4 cQ x y,none⟩,.eO)::xs) bO aU bf cf,⟨own,aM,e⟩⟩:=by
 have h1:=jT k4;cases h1;have h2:=sb ak;cases h2;have h3:=qN gR;cases h3;refine BP (d:=some d) (s:=⟨own,aM,e⟩) (ab0 J U (wb ah) hne ax aa) rfl (fun j bd hj _=>⟨hj,fun hm=> ?_⟩) cc;have:iR e (.app el a4 cQ x y)=some k∨iR e (.app el a4 cQ x y)=none:=by
  unfold iR;dsimp only;rw[J];exact .inl rfl
 rcases this with h|h<;>rw[h]at hm<;>cases hm;rw[h0]at hj;cases hj
end
section
variable{aF:gx}{K:List eQ}{own bu hX:List a3}{aM:Nat}{e:bT}
theorem apS(j k:Nat){z:Nat}{el B0:TypeId}{a8:Bool}{α:Type}{R:α->List af}{l:List α}{cs cs':List af}{p:List bL}(cc:a2.ok aF ⟨K,.o p,⟨bu,aM,e⟩⟩)(hj:own[j]? =some (.c B0 cs):=by rfl)(U:own[k]? =some (.a el a8 z α R l):=by rfl)(ha:uI k z l.length (.bS z α R l) cs=cs':=by rfl)(hp:∀x,ht (R x)=true:=by exact fun _=>rfl)
 (je:j≠k:=by decide) (k4:iT own k .x some=some hX:=by rfl) (ak:iT hX j (.c B0 cs') some=some bu:=by rfl):a2.ok aF ⟨K,.o p,⟨own,aM,e⟩⟩:=fun H ids st fr a5 ar ab=>by
 have h1:=jT k4;cases h1;have h2:=jT ak;cases h2;have wY:k<ids.length:=by rw[ar.len,<-ar.cq];exact(List.getElem?_eq_some_iff.1 U).1
 obtain⟨b,aL⟩:∃b,ids[k]? =some b:=⟨_,a9 wY⟩;obtain⟨⟨vs,a7,cl,dc⟩,_⟩:=ar.own k _ b U aL;have hle:=uK ar U rfl aL;have mw:=ar.g7 U rfl aL;refine cc (g7 H st b) ids st fr (a5.g7 ar U rfl aL) ⟨mw.wf,mw.le,by rw[List.length_set];exact mw.cq,mw.len,mw.iz,mw.lt,fun i o c ae hc=> ?_⟩ (ab.mono hle (cM.refl _));rw[List.getElem?_set]at ae;by_cases kH:j=i
 ·subst kH;rw[if_pos rfl]at ae;split at ae<;>cases ae;have nd:(own.set k .x)[j]? =some (.c B0 cs):=by rw[List.getElem?_set,if_neg (fun h=>je h.symm)];exact hj
  obtain⟨⟨ws,cn,cz⟩,dp⟩:=mw.own j _ c nd hc;refine⟨⟨ws,cn,?_⟩,fun _=>dp rfl⟩;rw[<-ha];refine FN (fun v aH=> ?_) cs cz;obtain⟨er,ic,kL⟩:=aH;rw[aL]at ic;cases ic;refine .inr ⟨b,0*z,l.length,vs,el,(0,0),a8,kL,Nat.le_refl _,by unfold g7;rw[if_pos rfl];exact a7,fun i x J=> ?_⟩;rw[Nat.zero_mul,Nat.zero_add];exact kX hle _ (cM.refl _) (mA _ (hp x) (dc _ x J) [])
 ·rw[if_neg kH]at ae;exact mw.own i o c ae hc
end
end Go.an
namespace Go.an
variable{X:Ctx}
def mN(g n:Nat):bA:=fun i=>if i<g then some ⟨i,0,0,im⟩else if n<=i∧i<2*n then some ⟨i-n,0,0,im⟩else none
def toA(n:Nat):Value->Value
 |.bool b=>.bool b
 |.int k m=>.int k m
 |.string s=>.string s
 |.slice none l c=>.slice none l c
 |.slice (some a) l c=>if a.block<n∧a.spot=none then .slice (some ⟨n+a.block,a.off,none⟩) l c else ib
 |.pointer none=>.pointer none
 |.pointer (some a)=>if a.block<n∧a.spot=none then .pointer (some ⟨n+a.block,a.off,none⟩)else ib
 |_=>ib
theorem LW{g n b:Nat}(aO:g<=n)(aa:b<n):mN g n (n+b)=some ⟨b,0,0,im⟩:=by
 unfold mN;rw[if_neg (by omega),if_pos (by omega),Nat.add_sub_cancel_left]
theorem Z5{g n:Nat}(aO:g<=n)(v:Value):bq (mN g n) (toA n v) v:=by
 cases v with
 |slice a l c=>
  cases a with
  |none=>exact .nD _ _
  |some a=>
   show bq _ (if a.block<n∧a.spot=none then Value.slice (some ⟨n+a.block,a.off,none⟩) l c else ib) _;split
   ·rename_i h;obtain⟨b,o,sp⟩:=a;obtain⟨h1,h2⟩:=h;simp only at h1 h2;subst h2;have:=bq.gH (ι:=mN g n) ⟨n+b,o,none⟩ ⟨b,0,0,im⟩ o l c (LW aO h1) rfl (.inl (by simp));exact this
   ·exact .top _
 |pointer a=>
  cases a with
  |none=>exact .ns
  |some a=>
   show bq _ (if a.block<n∧a.spot=none then Value.pointer (some ⟨n+a.block,a.off,none⟩)else ib) _;split
   ·rename_i h;obtain⟨b,o,sp⟩:=a;obtain⟨h1,h2⟩:=h;simp only at h1 h2;subst h2;have:=bq.ptr (ι:=mN g n) ⟨n+b,o,none⟩ ⟨b,0,0,im⟩ (LW aO h1) rfl;simpa using this
   ·exact .top _
 |bool b=>exact .bool b
 |int k m=>exact .int k m
 |string s=>exact .string s
 |_=>exact .top _
theorem Z6{g n:Nat}(aO:g<=n):∀vs:List Value,bN (mN g n) (vs.map (toA n)) vs
 |[]=>.nil _
 |v::vs=>.cons (Z5 aO v) (Z6 aO vs)
theorem Oi:∀(us:List (Nat×bw)) (h:ao bw) (k:Nat),(∀p∈us,p.1≠k)->(ke us h).get k=h.get k
 |[],_,_,_=>rfl
 |u::us,h,k,hn=>by
  rw[Ja,Oi us _ k (fun p hp=>hn p (List.mem_cons_of_mem _ hp)),ao.ey,if_neg (fun e=>hn u List.mem_cons_self e.symm)]
theorem aa9:∀(us:List (Nat×bw)) (h:ao bw) (k:Nat) (o:bw),(us.map (·.1)).Nodup->(k,o)∈us->(ke us h).get k=some o
 |u::us,h,k,o,av,hm=>by
  rw[List.map_cons,List.nodup_cons]at av;rw[Ja];rcases List.mem_cons.1 hm with rfl|hm
  ·rw[Oi us _ k (fun p hp e=>av.1 (e▸List.mem_map.2 ⟨p,hp,rfl⟩)),ao.ey,if_pos rfl]
  ·exact aa9 us _ k o av.2 hm
def xM(n:Nat)(b:Nat):Option Obj->Option (Nat×bw)
 |some (.cells C el _)=>some (n+b,.cells (C.toList.map (toA n)) el (0,C.size+1) false)
 |_=>none
def Dw(W:World):List (Nat×bw):=(List.range W.heap.size).filterMap fun b=>xM W.heap.size b W.heap[b]?
def j8(gs:List (Nat×bw))(W:World):ao bw:=ke (Dw W) (ke gs .nil)
theorem Hr{W:World}{p:Nat×bw}:p∈Dw W↔∃b,b<W.heap.size∧xM W.heap.size b W.heap[b]? =some p:=by
 unfold Dw;simp only[List.mem_filterMap,List.mem_range]
theorem Dv{n b:Nat}{o:Option Obj}{p:Nat×bw}(h:xM n b o=some p):p.1=n+b:=by
 unfold xM at h;split at h
 ·cases h;rfl
 ·cases h
theorem aom(W:World):((Dw W).map (·.1)).Nodup:=by
 unfold Dw;rw[List.map_filterMap];have aQ:(List.range W.heap.size).Nodup:=List.nodup_range;refine List.Pairwise.filterMap (R:=fun a b=>a≠b) _ ?_ aQ;intro a b iK x J y aG e;obtain⟨p,h1,rfl⟩:=Option.map_eq_some_iff.1 J;obtain⟨q,h2,rfl⟩:=Option.map_eq_some_iff.1 aG;rw[Dv h1,Dv h2]at e;omega
theorem akC{gs:List (Nat×bw)}{W:World}{b:Nat}{C:Array Value}{el:TypeId}{bn:Nat×Nat}(h:W.heap[b]? =some (.cells C el bn)):(j8 gs W).get (W.heap.size+b)=some (.cells (C.toList.map (toA W.heap.size)) el (0,C.size+1) false):=
 aa9 _ _ _ _ (aom W) (Hr.2 ⟨b,(Array.getElem?_eq_some_iff.1 h).1,by rw[h];rfl⟩)
theorem akB{gs:List (Nat×bw)}{W:World}{g:Nat}(h:g<W.heap.size):(j8 gs W).get g=(ke gs .nil).get g:=
 Oi _ _ _ fun p hp=>by
  obtain⟨b,_,e⟩:=Hr.1 hp;rw[Dv e];omega
theorem atH{W:World}{gs:List (Nat×bw)}(eJ:X.aE<=W.heap.size)(h:∀p∈gs,tX X.aE W p):bt X (mN X.aE W.heap.size) ⟨j8 gs W,2*W.heap.size⟩ W:=by
 have hle:(GJ X.aE).le (mN X.aE W.heap.size):=fun i l hl=>by
  unfold GJ at hl;unfold mN;split at hl
  ·rename_i ae;cases hl;rw[if_pos ae]
  ·cases hl
 have kn:∀i l,mN X.aE W.heap.size i=some l->l.cj=im∧l.cJ<W.heap.size∧i<2*W.heap.size:=by
  intro i l hl;unfold mN at hl;split at hl
  ·cases hl;exact⟨rfl,by simp only;omega,by omega⟩
  ·split at hl
   ·cases hl;exact⟨rfl,by simp only;omega,by omega⟩
   ·cases hl
 have qB:∀i o,(j8 gs W).get i=some o->tX X.aE W (i,o)∨∃b,b<W.heap.size∧i=W.heap.size+b∧xM W.heap.size b W.heap[b]? =some (i,o):=by
  intro i o ak;rcases AX _ _ _ _ ak with hm|hm
  ·obtain⟨b,aa,e⟩:=Hr.1 hm;exact .inr ⟨b,aa,Dv e,e⟩
  ·rcases AX _ _ _ _ hm with hm|hm
   ·exact .inl (h _ hm)
   ·simp at hm
 refine⟨fun i o ak av=> ?_,fun i j o p l m ae _ hj _ hl hm ah e=> ?_,fun i ae=> ?_,fun i l hl=>(kn i l hl).2.1,fun g aO=> ?_,?_,fun i l o hl _ ak _=> ?_⟩
 ·rcases qB i o ak with⟨aP,cs,el,m,C,bn,aA,e2,b0,eS⟩|⟨b,aa,rfl,e⟩
  ·simp only at aP aA b0;refine⟨⟨i,0,0,im⟩,by unfold mN;rw[if_pos aP],?_⟩;subst aA;have hlen:cs.length=C.size:=by rw[eS.1];simp
   have eS:=eS.mono hle;refine⟨C,bn,b0,by simp[hlen],fun k U=> ?_,fun ab=> ?_,fun _=>⟨rfl,rfl,hlen.symm⟩⟩
   ·have fu:k<C.size:=by omega
    refine⟨C[k],by simp[fu],?_⟩;have:=eS.2 k U (by simpa using fu)
    rwa [Array.getElem_toList]at this
   ·simp only at ab;omega
  ·refine⟨⟨b,0,0,im⟩,LW eJ aa,?_⟩;unfold xM at e;split at e
   ·rename_i C el bn hC;cases e;have aQ:=Z6 eJ C.toList;refine⟨C,bn,hC,by simp,fun k U=> ?_,fun ab=> ?_,fun _=>⟨rfl,rfl,by simp⟩⟩
    ·have fu:k<C.size:=by simpa using U
     refine⟨C[k],by simp[fu],?_⟩;have:=aQ.2 k U (by simpa using fu)
     rwa [Array.getElem_toList]at this
    ·simp only at ab;omega
   ·cases e
 ·exact(ah.elim (fun h=>h (kn i l hl).1) (fun h=>h (kn j m hm).1)).elim
 ·have ae:2*W.heap.size<=i:=ae;refine⟨?_,?_⟩
  ·cases e:mN X.aE W.heap.size i with
   |none=>rfl
   |some l=>have:=(kn i l e).2.2;omega
  ·cases e:(j8 gs W).get i with
   |none=>rfl
   |some o=>
    rcases qB i o e with h|⟨b,aa,rfl,_⟩
    ·have:=h.1;simp only at this;omega
    ·omega
 ·exact hle _ _ (by unfold GJ;rw[if_pos aO])
 ·show X.aE<=2*W.heap.size;omega
 ·rcases qB i o ak with⟨_,cs,el,m,C,bn,aA,e2,_,_⟩|⟨b,aa,rfl,e⟩
  ·simp only at aA;subst aA;exact⟨rfl,e2⟩
  ·unfold xM at e;split at e
   ·cases e;exact⟨rfl,Nat.succ_pos _⟩
   ·cases e
theorem akD{W:World}{gs:List (Nat×bw)}(h:∀p∈gs,p.1<W.heap.size)(b:Nat)(aa:2*W.heap.size<=b):(j8 gs W).get b=none:=by
 cases e:(j8 gs W).get b with
 |none=>rfl
 |some o=>
  rcases AX _ _ _ _ e with hm|hm
  ·obtain⟨c,hc,e⟩:=Hr.1 hm;have:=Dv e;simp only at this;omega
  ·rcases AX _ _ _ _ hm with hm|hm
   ·have:=h _ hm;simp only at this;omega
   ·simp at hm
inductive q6
 |i (k:IntKind)
 |b
 |s
 |a6 (z:Nat) (cs:List q6)
mutual
def YS(B:Nat)(W:World):q6->Value->Prop
 |.i k,v=>∃m,v= .int k m∧(Lit.int k m).wf=true
 |.b,v=>∃t,v= .bool t
 |.s,v=>∃s:ByteArray,v= .string s∧s.data.toList.length<=B
 |.a6 z cs,v=>v= .slice none 0 0∨∃(a:Addr) (n c:Nat),v= .slice (some a) n c∧n<=c∧c<=B∧∀i,i<n->∃vs,W.cells? 0 (a.add (i*z)) z=some vs∧nA B W cs vs
def nA(B:Nat)(W:World):List q6->List Value->Prop
 |[],vs=>vs=[]
 |c::cs,vs=>∃v ws,vs=v::ws∧YS B W c v∧nA B W cs ws
end
theorem YT{B:Nat}{W:World}:∀{cs ds:List q6} {vs ws:List Value},nA B W cs vs->nA B W ds ws->nA B W (cs++ds) (vs++ws)
 |[],ds,vs,ws,h,aB=>by
  have h:vs=[]:=h;subst h;exact aB
 |c::cs,ds,vs,ws,⟨v,us,e,h1,h2⟩,aB=>by
  subst e;exact⟨v,us++ws,rfl,h1,YT h2 aB⟩
def BJ(P:Program):Nat->TypeId->Option (List q6)
 |0,_=>none
 |n+1,t=>
  match P.underlying t with
  |some .bool=>some [.b]
  |some (.int k)=>some [.i k]
  |some .string=>some [.s]
  |some (.slice e)=>if P.bytesOf e=0 then none else(BJ P n e).map fun cs=>[.a6 (P.cellsOf e) cs]
  |some (.struct fs)=>if y1 0 (fs.toList.map fun f=>(f.offset,P.cellsOf f.type)) (P.cellsOf t)then(fs.toList.mapM fun(f:Field)=>BJ P n f.type).map List.flatten else none
  |_=>none
theorem abj{H:Type}{P:Program}{e:TypeId}{x:Nat}:∀{l:List (DataW H)} {d:DataW H},d∈l->x∈d.weights P e->x∈DataW.weightsAll P e l
 |y::l,d,av,J=>by
  unfold DataW.weightsAll;rcases List.mem_cons.1 av with rfl|av
  ·exact List.mem_append_left _ J
  ·exact List.mem_append_right _ (abj av J)
theorem Ov{H:Type}{P:Program}{x:Nat}:∀{ts:List TypeId} {l:List (DataW H)} {i:Nat} {t:TypeId} {d:DataW H},ts[i]? =some t->l[i]? =some d->x∈d.weights P t->x∈DataW.weightsEach P ts l
 |[],_,_,_,_,h,_,_=>by simp at h
 |_::_,[],_,_,_,_,h,_=>by simp at h
 |u::ts,y::l,0,t,d,h,aB,J=>by
  simp at h aB;subst h;subst aB;unfold DataW.weightsEach;exact List.mem_append_left _ J
 |u::ts,y::l,i+1,t,d,h,aB,J=>by
  unfold DataW.weightsEach;exact List.mem_append_right _ (Ov (i:=i) (by simpa using h) (by simpa using aB) J)
theorem Ze{B:Nat}{W:World}{α:Type}{seg:α->List Value}{Qo:α->Option (List q6)}:∀(as:List α) (m1:List (List q6)),as.mapM Qo=some m1->(∀a∈as,∀cs,Qo a=some cs->nA B W cs (seg a))->nA B W m1.flatten (as.map seg).flatten
 |[],m1,h,_=>by
  simp at h;subst h;exact rfl
 |a::as,m1,h,U=>by
  rw[List.mapM_cons]at h;obtain⟨cs,J,h⟩:=Option.bind_eq_some_iff.1 h;obtain⟨aq,aG,h⟩:=Option.bind_eq_some_iff.1 h;cases h;rw[List.map_cons,List.flatten_cons,List.flatten_cons];exact YT (U a List.mem_cons_self cs J) (Ze as aq aG (fun a ha=>U a (List.mem_cons_of_mem _ ha)))
theorem JR{H:Type}{enc:TypeId×Value->H}{P:Program}{W:World}{B:Nat}:∀(n fuel:Nat) (t:TypeId) (cs:List Value) (d:DataW H) (p:List MemPlace) (m1:List q6),
 DataW.trod enc P W 0 (fun _=>true) true fuel t cs=some (d,p)->BJ P n t=some m1->(∀x∈d.weights P t,x<=B)->nA B W m1 cs
 |0,_,_,_,_,_,_,_,h,_=>by cases h
 |n+1,fuel,t,cs,d,p,m1,h,hc,a5=>by
  unfold BJ at hc;cases fuel with
  |zero=>simp[DataW.trod]at h
  |succ fuel=>
  split at hc
  ·rename_i hu;cases hc;simp only[DataW.trod,hu]at h;split at h<;>first|(rename_i hq;cases hq)|skip
   all_goals first|(exact⟨_,_,rfl,⟨_,rfl⟩,rfl⟩)|(simp at h)
  ·rename_i k hu;cases hc;simp only[DataW.trod,hu]at h;split at h<;>first|(rename_i hq;cases hq)|skip
   all_goals first
    |(split at h
      ·rename_i hc;exact⟨_,_,rfl,⟨_,by rw[hc.1],hc.2⟩,rfl⟩
      ·cases h)
    |(simp at h)
  ·rename_i hu;cases hc;simp only[DataW.trod,hu]at h;split at h<;>first|(rename_i hq;cases hq)|skip
   all_goals first
    |(split at h
      ·cases h;exact⟨_,_,rfl,⟨_,rfl,a5 _ (by unfold DataW.weights;exact List.mem_cons_self)⟩,rfl⟩
      ·cases h)
    |(simp at h)
  ·rename_i e hu;split at hc
   ·cases hc
   rename_i aui;obtain⟨acS,akq,rfl⟩:=Option.map_eq_some_iff.1 hc;rcases DataW.trod_slice hu h with⟨rfl,_⟩|⟨a,len,cap,elems,rest,m,aA,rfl,e2,_,h1,h2,h3,ay,aY,_⟩
   ·exact⟨_,_,rfl,.inl rfl,rfl⟩
   ·have av:d= .slice (elems.map (·.1)) (rest.map (·.1)):=congrArg Prod.fst e2;subst av;have hw:∀x,x∈(elems.length+rest.length)*P.bytesOf e::(DataW.weightsAll P e (elems.map (·.1))++DataW.weightsAll P e (rest.map (·.1)))->x<=B:=fun x J=>a5 x (by
     unfold DataW.weights;rw[hu];simp only[List.length_map];exact J)
    have ah:=hw _ List.mem_cons_self;have mK:(elems.length+rest.length)*1<=(elems.length+rest.length)*P.bytesOf e:=Nat.mul_le_mul_left _ (by omega);have aQ:=(aY rfl).1;refine⟨_,_,rfl,.inr ⟨a,len,cap,rfl,h1,by omega,fun i ae=> ?_⟩,rfl⟩;have ay:=ay i ae;have sW:i<elems.length:=by omega
    rw[List.getElem?_eq_getElem sW]at ay;obtain⟨vs,cn,cz⟩:=Option.bind_eq_some_iff.1 ay;refine⟨vs,cn,JR n m e vs _ _ acS cz akq (fun x J=>hw x (List.mem_cons_of_mem _ (List.mem_append_left _ (abj (List.mem_map.2 ⟨_,List.getElem_mem sW,rfl⟩) J))))⟩
  ·rename_i fs hu;split at hc
   ·rename_i UB;obtain⟨acX,hm,rfl⟩:=Option.map_eq_some_iff.1 hc;obtain⟨xs,m,aA,e2,b0,eS,j5⟩:=DataW.trod_struct hu h;have av:d= .agg (xs.map (·.1)):=congrArg Prod.fst e2;subst av;rw[<-b0]at UB;have Fw:=Fb cs _ 0 UB;rw[List.drop_zero,List.map_map]at Fw;rw[Fw];refine Ze (seg:=fun(f:Field)=>(cs.drop f.offset).take (P.cellsOf f.type)) fs.toList acX hm (fun f ab cs' aks=> ?_);obtain⟨i,ae,rfl⟩:=List.mem_iff_getElem.1 ab;have ea:i<fs.size:=by simpa using ae
    have j5:=j5 i fs.toList[i] (by simp[ea]);have lA:i<xs.length:=by omega
    rw[List.getElem?_eq_getElem lA]at j5;exact JR n m _ _ _ _ cs' j5 aks (fun x J=>a5 x (by
     unfold DataW.weights;rw[hu];exact Ov (i:=i) (t:=fs.toList[i].type) (d:=xs[i].1) (by simp[ea]) (by simp[lA]) J))
   ·cases hc
  ·cases hc
def F4(W:World)(v:Value):Prop:=∀a l c,v= .slice (some a) l c->a.spot=none∧∃C el bn,W.heap[a.block]? =some (.cells C el bn)
theorem wM{P:Program}{W:World}{u e:TypeId}{v:Value}(hu:P.underlying u=some (.slice e))(h:Cell.okWide P W .any 0 u v):F4 W v:=by
 intro a l c aH;subst aH;unfold Cell.okWide at h;rw[hu]at h;simp only[Cell.ok,hu]at h;obtain⟨_,_,_,h1,row,cells,h2,_⟩:=h;refine⟨h1,?_⟩;unfold World.shape? at h2;split at h2
 ·rename_i C el bn hC;exact⟨C,el,bn,hC⟩
 ·cases h2
theorem acP{W:World}{a:Addr}{z:Nat}{vs:List Value}{C:Array Value}{el:TypeId}{bn:Nat×Nat}{b o:Nat}(ah:a=⟨b,o,none⟩)(h:W.cells? 0 a z=some vs)(hC:W.heap[b]? =some (.cells C el bn)):vs=(C.toList.drop o).take z:=by
 unfold World.cells? at h;rw[if_pos (Nat.zero_le _)]at h;have hl:=mapM_some_length h;rw[List.length_range]at hl;have aO:∀i,i<z->C[o+i]? =vs[i]? :=fun i ae=>by
  have:=mapM_some_get h i i (by simp[ae]);unfold World.cell? at this;rw[ah,o3]at this;simp only[hC]at this;exact this
 apply List.ext_getElem?;intro i;rw[List.getElem?_take];split
 ·rename_i ae;rw[List.getElem?_drop,<-aO i ae];simp
 ·rw[List.getElem?_eq_none (by omega)]
theorem anj{α:Type}{n:Nat}{p:Nat->α->Prop}(h:∀i,i<n->∃x,p i x):∃l:List α,l.length=n∧∀(i:Nat) (x:α),l[i]? =some x->p i x:=by
 induction n with
 |zero=>exact⟨[],rfl,fun i x J=>by simp at J⟩
 |succ n a0=>
  obtain⟨l,h1,h2⟩:=a0 (fun i ae=>h i (by omega));obtain⟨y,aG⟩:=h n (Nat.lt_succ_self _);refine⟨l++[y],by simp[h1],fun i x J=> ?_⟩;by_cases ae:i<n
  ·rw[List.getElem?_append_left (by omega)]at J;exact h2 i x J
  ·rw[List.getElem?_append_right (by omega)]at J;have:i=n:=by
    have:=(List.getElem?_eq_some_iff.1 J).1;simp at this;omega
   subst this;rw[h1,Nat.sub_self]at J;simp at J;subst J;exact aG
theorem yi{B:Nat}{W:World}{gs:List (Nat×bw)}{z:Nat}{m1:List q6}{α:Type}{R:α->List af}{Q:α->Prop}{v:Value}(wR:∀vs,nA B W m1 vs->∃x:α,di (fun b=>(j8 gs W).get b) (R x) [] (vs.map (toA W.heap.size))∧Q x)
 (h:YS B W (.a6 z m1) v) (hh:F4 W v):∃l:List α,l.length<=B∧(∀x∈l,Q x)∧den (fun b=>(j8 gs W).get b) (.bS z α R l) [] (toA W.heap.size v):=by
 rcases h with rfl|⟨a,n,c,rfl,h1,h2,h3⟩
 ·exact⟨[],Nat.zero_le _,(fun x J=>by cases J),.inl ⟨rfl,rfl⟩⟩
 ·obtain⟨aL,C,el,bn,aR⟩:=hh a n c rfl;obtain⟨b,o,sp⟩:=a;simp only at aL aR;subst aL;have K6:=(Array.getElem?_eq_some_iff.1 aR).1;obtain⟨l,aA,e2⟩:=anj (p:=fun i x=>di (fun b=>(j8 gs W).get b) (R x) [] ((((C.toList.map (toA W.heap.size)).drop (o+i*z)).take z))∧Q x) (n:=n) (fun i ae=>by
   obtain⟨vs,cn,cz⟩:=h3 i ae;obtain⟨x,dp,jS⟩:=wR vs cz;have:=acP (o3 b o (i*z)) cn aR;rw[this]at dp;refine⟨x,?_,jS⟩;rw[<-List.map_drop,<-List.map_take];exact dp)
  refine⟨l,by omega,fun x J=> ?_,.inr ⟨W.heap.size+b,o,c,C.toList.map (toA W.heap.size),el,(0,C.size+1),false,?_,by omega,akC aR,fun i x J=>(e2 i x J).1⟩⟩
  ·obtain⟨i,ae⟩:=List.mem_iff_getElem?.1 J;exact(e2 i x ae).2
  ·show(if b<W.heap.size∧(none:Option Nat)=none then Value.slice (some ⟨W.heap.size+b,o,none⟩) n c else ib)=_;rw[if_pos ⟨K6,rfl⟩,aA]
