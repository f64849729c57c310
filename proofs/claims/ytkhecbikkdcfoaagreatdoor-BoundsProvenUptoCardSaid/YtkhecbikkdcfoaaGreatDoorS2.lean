/- Rules for what a function computes on abstract states (part 2); no condition. -/
import Derived.Carry
import Derived.Test.YtkhecbikkdcfoaaGreatDoorS1
import Derived.Test.YtkhecbikkdcfoaaGreatDoorM2
noncomputable section
set_option linter.all false
namespace Go.bI
open Sym
set_option maxRecDepth 10000
def ze{X:Ctx}{K:d8->dT}{f:d8}(h:K f=dT.no)(as:ac bv)(st:ao):cm X K f as st=none:=by
 rw[cm,h,dif_neg λ⟨p,Y,_⟩=>Y,dif_neg λ⟨p,Y,_⟩=>Y]
theorem cZ.trans{aX H bB:bm}{i0 ids F:ac Nat}{ax st al:ao}(h:cZ aX i0 ax H ids st)(D:cZ H ids st bB F al):cZ aX i0 ax bB F al:=by
 have aj:∀b,b<ax.ag->b∉i0->b<st.ag/\b∉ids:=λb aa af=>⟨fG aa h.ag,λhm=>(h.new b hm).elim af λh=>J⟩;refine⟨h.hle.trans D.hle,λb aa af=>?_,λb aa af=>?_,cN h.ag D.ag,λk b E=>D.jf k b<|h.jf k b E,λb aa=>?_⟩
 .have⟨Y,G⟩:=aj b aa af;rw[D.hold b Y G,h.hold b aa af]
 .have⟨Y,G⟩:=aj b aa af;rw[D.dZ b Y G,h.dZ b aa af]
 .obtain Y|Y:=D.new b aa
  .exact h.new b Y
  .exact .inr<|cN h.ag Y
section
variable{X:Ctx}{aV:ar c7}{bp:d8->dT}{a8 n:Nat}{fn:d8}{aX:bm}{i0:ac Nat}{ax:ao}{Q:c6->cg->Prop}{K:ac dC}{own:ac a0}{aC:Nat}{e:bV}
def R8(an:e2)(K:ac dC)(xs:ac bt)(d:be Tmp)(e:bV)(res:ac gU)(x:c6)(s:cg):Prop:=(x= .norm\/x= .ret)/\∃r,Fin.kO s res=some r/\cE an K xs s.own s.n (ec d r e)
def vv{g:d8}(a7:c7)(O:aV.get g=some a7){bJ:ac ce}{as:ac ai}{d:be Tmp}{xs:ac bt}
 (k:∀H1 Z M,Z.length=own.length->cL aX H1->fz ⟨cf aV (cm X bp)<|n+1,n+1,g,H1,Z,M,R8 ⟨cf aV (cm X bp)<|n+2,a8,fn,aX,i0,ax,Q⟩ K xs d e a7.res⟩ [] (.c a7.body) own aC (iJ 0 as))
 (bK:gM e bJ=some as:=by rfl) (aI:as.length<=a7.aR:=by exact jb o) (J:bp g=dT.no:=by rfl):cE ⟨cf aV (cm X bp)<|n+2,a8,fn,aX,i0,ax,Q⟩ K (⟨d,.call (.func g) bJ,none⟩::xs) own aC e:=by
 intro H ids st I h U D;have cd:=D.dt bK;obtain⟨v,al,Y,r,bB,F,s,V,A,T,E⟩:=FH (ld:=λv al=>∃(r:ai) (bB:bm) (F:ac Nat) (s:cg),cZ H ids st bB F al/\Fit bB F al s.own s.n/\den bB r F v/\cE ⟨cf aV (cm X bp)<|n+2,a8,fn,aX,i0,ax,Q⟩ K xs s.own s.n (ec d r e))
  (by rw[gr cd];exact aI) ((k H ids st (U.len.trans U.cV.symm) h.hle H ids st (en<|dt I bJ) apk U<|cY.zero cd).mono (by
   rintro x e4 ca ⟨bB,F,s,V,A,G,O,r,aw,E⟩;obtain⟨v,C,N⟩:=rK A G aw;exact⟨O,v,N,r,bB,F,s,V,A,C,E⟩))
 refine oM ?_ (E bB F al _ (h.trans V) A<|(D.mono V.hle V.jf).ec d T);show lK (cf aV (cm X bp) (n+2) (.func (.func g) #[] #[]) (dt I bJ) none st) _ _=_;rw[nT];have bc:e8 (#[]:bi bv).toList (e8 (dt I bJ) (#[]:bi bv).toList)=dt I bJ:=az
 rw[bc,ze J,O,Sym.et,Y];rfl
end
theorem K7{H:bm}{ids:ac Nat}{α:Type}{ak:α->ac ai}{z:Nat}(aH:∀w,(ak w).length=z):∀{l:ac α} {ab:ac bv},jR H ids ak z l ab->cT H (l.flatMap ak) ids ab
 |[],ab,h=>by
  have:=pg (by rw[h.1];simp);exact this
 |w::l,ab,h=>by
  rw[<-List.take_append_drop z ab];have Y:=h.2 0 w az;rw[jC]at Y;have G:=Ce h 1;rw[te]at G;exact tH Y<|K7 aH G
section
variable{an:e2}{K:ac dC}{own bk:ac a0}{aC cI:Nat}{e:bV}{d:Tmp}{xs:ac bt}{x y i:ce}
variable{el:d7}{dD:Nat}{l:ac ci}{n z:Nat}{α:Type}{p:ac bt}{aW:Bool}{j:Nat}
def R9(k:Nat){ak:α->ac ai}{l:ac α}(bE:cE an K p bk aC e)(aB:own[k]? =some (.a el false z α ak l):=by rfl)(aH:∀w,(ak w).length=z:=by exactλ_=>o)(ay:gN own k (.c el<|l.flatMap ak) some=some bk:=by rfl):cE an K p own aC e:=λH ids st I O U D=>by
 have:=hR ay;cases this;refine bE H ids st I O ⟨U.wf,U.le,by simp[U.cV],U.len,U.c2,U.lt,?_⟩ D;intro j q c A ah;by_cases E:k=j
 .subst E;rw[mq,aA o]at A;split at A<;>cases A;have⟨⟨ab,C,N,J⟩,h⟩:=U.own k _ c aB ah;exact⟨⟨ab,C,K7 aH ⟨N,J⟩⟩,λ_=>h o⟩
 .rw[mq,au E]at A;exact U.own j q c A ah
def aeA(t:Nat){k:Nat}{ak:α->ac ai}{l:ac α}(bE:cE an K p bk aC ((t,.ip<|l.flatMap ak)::e))(aN:dx e t=some (.p k 0):=by rfl)(aB:own[k]? =some (.a el aW z α ak l):=by rfl)(hp:∀x,g0 (ak x)=true:=by exactλ_=>o)(aH:∀w,(ak w).length=z:=by exactλ_=>o)(ay:gN own k .x some=some bk:=by rfl):cE an K p own aC e:=λH ids st I h U D=>by
 have:=hR ay;cases this;have⟨b,cy,C⟩:=D.get t _ aN;have⟨⟨ab,bj,dj,dp⟩,_⟩:=U.own k _ b aB cy;have hle:=rJ U aB o cy;refine bE (fs H st b) ids st I (h.fs U aB o cy) (U.fs aB o cy) ⟨(D.mono hle aoN).pl,λj q A=>?_⟩;rw[mD]at A;cases aa:Nat.beq t j with
 |false=>exact atb
 |true=>
  rw[aa]at A;cases A;rw[<-dy aa];have cd:=K7 aH as7;refine⟨b,0,ab,el,(0,0),aW,C,by unfold fs;rw[aA o];exact bj,?_⟩;rw[kC,<-(gr cd),nG];exact lM hle _ aoN cd
def Sa{call:bR}{s:cg}(N:bb s.env y=some (.s l)):xq call el dD s y lO 1 l:=λH ids st I U D x p n c O=>by
 have Y:=D.aq N;obtain⟨G,C⟩:=R4 H ids l;refine⟨nN l,G,C,?_⟩;have e:bD call (.app el 1 dD x y) I st=h2 (I.aq x) (λbase len L=>h2 (I.aq y) (λb n _=>bx b (λb=>st.load b (Nat.mul n 1) (λnew=>cond (hk new) (j6 I st el 1 dD base len L n new) .no) .no)<|dL n 0 (j6 I st el 1 dD base len L 0 []) .no)<|so (I.aq y) (j6 I st el 1 dD base len L 0 [])<|h1 (I.aq y) (λs=>dL 1 1 (j6 I st el 1 dD base len L (dK s.data.toList)<|nN s.data.toList) .no) .no) .no:=rfl;rw[e,O,Y];show dL 1 1 (j6 I st el 1 dD p n c (dK l)<|nN l) .no=_;rw[je o,fi]
def aeB(k:cE an K xs bk cI ((d,.aL aC 1 0 l.length l.length)::e))(O:bb e x=some .nl:=by rfl)(N:bb e y=some (.s l):=by rfl)
 (ay:ma own (.a el true 1 ci lO l) some=some bk:=by rfl) (F:mb aC some=some cI:=by rfl) (bS:l≠[]:=by first|rfl|simp) (aa:(5*l.length+1792)*(dD+1)<=1125899906842624:=by first|omega|(simp;done)|(simp;omega)):g2 an K d (.app el 1 dD x y) xs own aC e:=by
 have Y:=mE ay;have G:=nn F;cases Y;cases G;exact e6 (KV O (Sa N) bS aa) k
def aeC{a5 c:Nat}{m:ac ci}{fN:ac a0}(k:cE an K xs bk cI ((d,.aL aC 1 0 (n+m.length)<|n+m.length)::e))(O:bb e x=some (.aL a5 1 0 n c):=by rfl)(N:bb e y=some (.s m):=by rfl)(aB:own[a5]? =some (.a el true 1 ci lO l):=by rfl)
 (E:gN own a5 .x some=some fN:=by rfl) (ay:ma fN (.a el true 1 ci lO<|l++m) some=some bk:=by rfl) (F:mb aC some=some cI:=by rfl) (bS:m≠[]:=by first|rfl|simp) (aj:n=l.length:=by first|omega|(simp;done)|(simp;omega)) (Z:n=c:=by omega) (aa:(5*(n+m.length)+1792)*(dD+1)<=1125899906842624:=by first|omega|(simp;done)|(simp;omega)):g2 an K d (.app el 1 dD x y) xs own aC e:=by
 have V:=hR E;cases V;have Y:=mE ay;have G:=nn F;cases Y;cases G;have:=F8 (call:=an.call) (s:=⟨own,aC,e⟩) O aB (Sa N) bS J J J aa;rw[aj,nG]at this;rw[aj]at k;exact e6 this k
def aeD{a5:Nat}{bE:f5}(k:cE an K xs own aC ((d,.fb a5 1 j 0)::e))(O:bb e x=some (.p a5 0):=by rfl)(af:bb e i=some (.i bE (j:Int)):=by rfl)(a3:j<n:=by omega):g2 an K d (.sj n 1 x i) xs own aC e:=
 e6 (λH ids st I U D=>let⟨v,al,F,bB,Y,G,C,N⟩:=tR O af a3 H ids st I U D;⟨v,al,F,bB,Y,G,aeu J _ _ _ C,N⟩) k
def aeE{g:Nat}{bE:f5}{ab:ac bv}{D:Nat×Nat}{cs:ac ai}(F:an.aX g=some (.cells ab el D aW))(cd:∀H,cT H cs [] ab)(k:cE an K xs own aC ((d,.ip<|cs.drop j)::e))(O:bb e x=some (.v<|.pointer<|some ⟨g,0,none⟩):=by rfl)(af:bb e i=some (.i bE (j:Int)):=by rfl)(a3:j<n:=by omega):g2 an K d (.sj n 1 x i) xs own aC e:=by
 have:=R7 (call:=an.call) (s:=⟨own,aC,e⟩) (z:=1) O F cd af a3;rw[ph]at this;exact tL this k
end
section
variable{call:bR}{s:cg}{x y:ce}
variable{neg:Bool}
def Sb{c:Bool}{t:q2}{I:aO}{st:ao}(ah:kk 8 t (I.aq x) (I.aq y)=some c):bD call (.eqv neg t x y) I st= .ok (.bool<|nm neg c) I st:=by
 exact apL
def aeF(O:bb s.env x=some (.v<|.pointer none))(N:bb s.env y=some (.v<|.pointer none)):fH call (.eqv neg .ptr x y) s (.b<|nm neg true) s.own s.n:=ka λH ids st I U D=>
 ⟨_,o,Sb<|by rw[show I.aq x=_ from D.aq O,show I.aq y=_ from D.aq N];simp[kk,wH]⟩
def aeG{k R:Nat}(O:bb s.env x=some (.p k R))(N:bb s.env y=some (.p k R)):fH call (.eqv neg .ptr x y) s (.b<|nm neg true) s.own s.n:=ka λH ids st I U D=>by
 have⟨b,Y,G⟩:=D.aq O;have⟨A,T,C⟩:=D.aq N;rw[Y]at T;cases T;exact⟨_,o,Sb<|by rw[G,C];simp[kk,wH]⟩
end
section
variable{an:e2}{K:ac dC}{own bk bl fN:ac a0}{aC a4 b3 back:Nat}{e bc:bV}{d:Tmp}{aF:ac Tmp}{xs:ac (bt×cz)}{x y i:ce}
variable{n:Nat}
def aeH{a5 z c:Nat}(k:dB an K xs bl ((d,.p a5 0)::bc) a4 b3 own aC ((d,.p a5 0)::e))(O:bb (eF aF bc) x=some (.aL a5 z 0 n c):=by rfl)(ah:c≠0:=by omega)(aa:back<a4:=by decide):dB an K ((⟨some d,.En x,none⟩,.read back aF)::xs) bl bc a4 b3 own aC e:=
 mF aa (λH ids st I D _ _=>by
  have⟨b,Y,G⟩:=D.aq O;refine⟨_,aq1,λL _ _=>?_⟩;show IW x an.call I L=_;rw[IW,G,qt,jC,Sym.et,rB ah]) k
def aeI{a5:Nat}{el:d7}{aW:Bool}{l:ac ci}{bE:f5}{U:bV}(k:dB an K xs fN U (a4+1) aC bk aC ((d,.s l)::e))(O:bb e x=some (.p a5 0):=by rfl)(N:bb e y=some (.i bE (n:Int)):=by rfl)(aB:own[a5]? =some (.a el aW 1 ci lO l):=by rfl)(ay:gN own a5 .x some=some bk:=by rfl)(E:za bl (some a5) some=some fN:=by rfl)(J:jt d bc=U:=by rfl)
 (aj:n=l.length:=by first|rfl|omega|(simp;done)) (bS:n≠0:=by omega) (aa:n<=1099511627776:=by omega):dB an K ((⟨some d,.u2 el x y,none⟩,.dJ)::xs) bl bc a4 b3 own aC e:=by
 cases hR ay;have⟨D,cy,h,bj⟩:=F3 E;cases cy;subst J;exact vq (aey O N aB aj bS aa) h (λk R L W=>by
  have:=bj k R L W;simp only[g1,O];exact this) k
end
variable{call:bR}{I:aO}{H:bm}{ids:ac Nat}{a8 n:Nat}{a b:dz}{e4:aO}{ca:ao}{s:cg}{l r:Nat}{f:d8}{a7:c7}{el:d7}
def plainO:dm->Bool
 |.jF _=>true
 |.alloc _ _=>true
 |.call _ _=>true
 |_=>false
def aeJ{R:dm}{D:aO}{st al:ao}{v:bv}(ay:plainO R=true)(h:bD call R I st= .ok v D al):D=I:=by
 cases R<;>first|cases ay|skip
 .cases h;rfl
 .exact ao9
 .rename_i f as;rw[vm]at h;cases ah:call (I.aq f) (dt I as) none st with
  |ret v1 ca O=>rw[ah,Q0]at h;cases h;rfl
  |aY v1 ca O=>rw[ah,Q1]at h;cases h
  |no=>rw[ah]at h;cases h
theorem Sc{call:bR}:∀{ops:ac bt} {I L:aO} {st al:ao} {e:c6},(ops.all λx=>x.g.isNone&&plainO x.R)=true->gz call ops I st= .out e L al->L.b7=I.b7
 |[],_,_,_,_,_,_,h=>by cases h;rfl
 |⟨d,R,g⟩::ops,I,L,st,al,e,bK,h=>by
  rw[x7,cQ,cQ]at bK;obtain⟨⟨F,ay⟩,bK⟩:=bK;cases g with
  |some p=>cases F
  |none=>
   have h:sN (bD call R I st) (λv I st=>gz call ops (I.put d v) st) (λv st=>cond R.lE (.out (.aY v) I st) .no)= .out e L al:=h;have ay:plainO R=true:=ay;cases J:bD call R I st with
   |ok v e4 ca=>
    have U:=aeJ ay J;subst U;rw[J,xc]at h;rw[Sc bK h];exact(re _ _ _).2.2.2
   |aY v ca=>
    rw[J,QZ]at h;cases hp:R.lE with
    |true=>rw[hp,cond_true]at h;cases h;rfl
    |false=>rw[hp,cond_false]at h;cases h
   |no=>rw[J,acJ]at h;cases h
def xa{fn:d8}{ops:ac bt}{t:cg}{st:ao}(hp:(ops.all λx=>x.g.isNone&&plainO x.R)=true)(h:∀H1 Z M,Z.length=s.own.length->cL H H1->bP.ok ⟨call,a8,fn,H1,Z,M,λx J=>x= .norm/\J=t⟩ ⟨[],.R ops,s⟩)
 (U:Fit H ids st s.own s.n) (D:cY I H ids s.env):∃L al bB F,dh call a8 fn (.gx ops) I st= .out .norm L al/\cZ H ids st bB F al/\Fit bB F al t.own t.n/\cY L bB F t.env/\L.b7=I.b7:=by
 obtain⟨e,L,al,Y,bB,F,J,O,A,C,rfl,rfl⟩:=h H ids st (U.len.trans U.cV.symm) apv H ids st I apk U D;exact⟨L,al,bB,F,Y,O,A,C,Sc hp Y⟩
def Fit.extra{st:ao}{own:ac a0}(h:Fit H ids st own n)(hs:bG):Fit H ids ⟨st.h.set st.ag hs,st.ag+1⟩ own n:=by
 have O:∀b,b<st.ag->(ar.set st.h st.ag hs).get b=st.h.get b:=λb aa=>ar.fu _ _ J;refine⟨λi af=>?_,λb R aa=>?_,h.cV,h.len,h.c2,λb aa=>AB<|h.lt b aa,λk R b E aa=>?_⟩
 .show(ar.set st.h st.ag hs).get i=none;exact aro
 .show(ar.set st.h st.ag hs).get b=some R;rw[O b<|h.aT aa];exact h.le b R aa
 .show oO H ids R ((ar.set st.h st.ag hs).get b)/\_;rw[O b<|h.lt b<|fQ aa];exact h.own k R b E aa
theorem Fit.other{st:ao}{own:ac a0}(h:Fit H ids st own n)(aI:l<st.ag)(af:l∉ids)(F:H l=none)(hs:bG):Fit H ids ⟨st.h.set l hs,st.ag⟩ own n:=by
 refine⟨λi G=>?_,λb R aa=>?_,h.cV,h.len,h.c2,h.lt,λk R b E aa=>?_⟩
 .show(ar.set st.h l hs).get i=none;have G:st.ag<=i:=G;rw[ar.fu _ _ J];exact h.wf i G
 .show(ar.set st.h l hs).get b=some R;rw[ar.fu _ _ λe=>by rw[e,F]at aa;cases aa];exact h.le b R aa
 .show oO H ids R ((ar.set st.h l hs).get b)/\_;rw[ar.fu _ _ aoM];exact h.own k R b E aa
theorem ck.eq{i j:ac Nat}(h:ck i j)(aI:i.length=j.length):i=j:=by
 apply pf;intro k;by_cases E:k<i.length
 .rw[ba E,h k _<|ba E]
 .grind
def K8:ac Tmp->ac ai->bV->bV
 |t::aF,a::as,e=>K8 aF as ((t,a)::e)
 |_,_,e=>e
def cY.par{di:ac Deferred}{aY:be bv}{O:Bool}{o:be Nat}:∀{aF:ac Tmp} {as:ac ai} {ab:ac bv} {t:ar bv} {e:bV},cT H as ids ab->cY ⟨t,di,aY,O,o⟩ H ids e->cY ⟨pw aF ab t,di,aY,O,o⟩ H ids (K8 aF as e)
 |[],[],_,_,_,_,h=>h
 |[],_::_,_,_,_,_,h=>h
 |_::_,[],ab,t,e,d,h=>by cases d;exact h
 |p::aF,a::as,_,t,e,⟨v,G,rfl,W,F⟩,h=>by
  have aE:=h.put p W;have U:(⟨t,di,aY,O,o⟩:aO).put (some p) v=⟨t.set p v,di,aY,O,o⟩:=by
   rw[IY]
  rw[U]at aE;have:=cY.par (aF:=aF) F aE;have T:pw (p::aF) (v::G) t=pw aF G (t.set p v):=by
   show ar.jc (Nat.succ p) t p v (λm=>pw aF G m)=_;rw[ar.wN]
  rw[T];exact this
def aeK{st:ao}(cd:I.di=[]){s:LoopState}{gA:be c6}{fn:d8}{t:ar bv}{bd:ac Tmp}{d:Nat}(F:st.h.get l=some (.loop s gA fn t bd a b d)):rb l (.out .norm I st)= .ret (.bool true) ⟨st.h.set l<|.loop .ready none fn t bd a b d,st.ag⟩ false:=by
 have e:rb l (.out .norm I st)=List.rec (motive:=λ_=>ev) (na (st.h.get l) (λ_ _ fn t bd a b d=>st.hf l (.loop .ready none fn t bd a b d) λst=>.ret (.bool true) st false) .no) (λ_ _ _=>.no) I.di:=rfl;rw[e,cd,F];show(st.hf l (.loop .ready none fn t bd a b d) λst=>ev.ret (.bool true) st false)=_;rw[jq]
def Gc{fn:d8}{st:ao}{Q:c6->aO->ao->Prop}(h:dh call a8 fn a I st= .out .norm e4 ca)(k:W (dh call a8 fn b e4 ca) Q):W (dh call a8 fn (.seq a b) I st) Q:=by
 rw[FG,h];exact k
def aeL{fn:d8}{U:aO}{st L:ao}(h:dh call a8 fn a I st= .out .norm e4 ca)(k:dh call a8 fn b e4 ca= .out .norm U L):dh call a8 fn (.seq a b) I st= .out .norm U L:=by
 rw[FG,h];exact k
def aeM{fn:d8}{i:Nat}{st:ao}(h:dh call a8 fn a I st= .out .norm e4 ca):dh call a8 fn (.block i a) I st= .out .norm e4 ca:=by
 rw[Q4,h];rfl
def cZ.other{aX:bm}{i0:ac Nat}{ax st:ao}(h:cZ aX i0 ax H ids st)(aw:ax.ag<=r)(hs:bG):cZ aX i0 ax H ids ⟨st.h.set r hs,st.ag⟩:=⟨h.hle,h.hold,λb aa af=>by
 rw[ar.fu _ _ J];exact h.dZ b aa af,h.ag,h.jf,h.new⟩
def Sd{as:ac bv}{st:ao}{ld:bv->ao->Prop}(aI:as.length<=a7.aR)
 (h:W (dh call n f a7.body (en as) st) λe I ca=>(e= .norm\/e= .ret)/\∃v al,fS call a7.res none I ca= .ret v al false/\ld v al):
 ∃v al,iF call n f a7 as none st= .ret v al false/\ld v al:=by
 have⟨e,I,ca,Y,he,v,al,G,C⟩:=h;refine⟨v,al,?_,C⟩;rw[iF];rw[l0,aA<|by rwa [fi]];show cO.rec (motive:=λ_=>ev) _ _ (dh call n f a7.body (en as) st)=_;rw[Y];obtain rfl|rfl:=he
 .exact G
 .exact G
def aeN{X:Ctx}{aV:ar c7}(J:Good X)(o:l8 X aV)(K:d8->dT)(O:aV.get f=some a7){S:Spec}(aI:∀l as st,S.pre l as st->as.length<=a7.aR)
 (h:∀l as st,S.pre l as st->W (dh (cf aV (cm X K)<|bz+1) (bz+1) f a7.body (en as) st)
  (λe I ca=>(e= .norm\/e= .ret)/\∃v al,fS (cf aV (cm X K)<|bz+1) a7.res none I ca= .ret v al false/\S.post l as st v al)):eb X f S:=by
 intro as st ⟨l,hp⟩;have⟨v,al,Y,G⟩:=Sd (aI l as st hp)<|h l as st hp;refine⟨v,al,λE A=>?_,Kb J o O Y⟩;have⟨v2,L,cy,C⟩:=Sd (aI E as st A)<|h E as st A;rw[Y]at cy;cases cy;exact C
def aeO{t:Nat}{st:ao}(cd:I.di=[{target:=.collected r,args:= #[]}])(aN:I.cU=false)(aw:st.h.get r=some (.j3<|some [])):fS call [.tmp t] none I st= .ret (I.tmp t) ⟨st.h.set r<|.j3 none,st.ag⟩ false:=by
 have e:jJ call I.di none st=some (none,⟨st.h.set r<|.j3 none,st.ag⟩):=by
  rw[cd];simp[jJ,aw];rw[jq]
 rw[fS,e,aN];rfl
def aeP{an:e2}{K:ac dC}{own bk:ac a0}{aC:Nat}{e:bV}{p:ac bt}(k:Nat){cs:ac ai}(dP:ac ai)(aI:fy cs dP)(bE:cE an K p bk aC e)(aB:own[k]? =some (.c el cs):=by rfl)(ay:gN own k (.c el dP) some=some bk:=by rfl):cE an K p own aC e:=λH ids st I O U D=>by
 have:=hR ay;cases this;refine bE H ids st I O ⟨U.wf,U.le,by simp[U.cV],U.len,U.c2,U.lt,?_⟩ D;intro j q c A ah;by_cases E:k=j
 .subst E;rw[mq,aA o]at A;split at A<;>cases A;have⟨⟨ab,C,N⟩,h⟩:=U.own k _ c aB ah;exact⟨⟨ab,C,aI.den N⟩,λ_=>h o⟩
 .rw[mq,au E]at A;exact U.own j q c A ah
theorem aeQ{x:ce}{k z p q:Nat}{α:Type}{ak:α->ac ai}{l:ac α}{aQ af:be ce}(O:bb s.env x=some (.p k 0))(aB:s.own[k]? =some (.a el false z α ak l))(fA:fT s aQ 0 p)(Z:fT s af n q)(hp:p<=q)(aD:q<=n):fH call (.wA n z x aQ af none) s (.aL k z (if n=p then 0 else p) (q-p)<|n-p) s.own s.n:=ka λH ids st I U D=>by
 have⟨b,Y,G⟩:=D.aq O;have⟨ab,bj,dj,dp⟩:=qA U aB Y;refine⟨_,aq1,?_⟩;show tl n z x aQ af none call I st=_;unfold tl ao.gy;rw[G,lL,Sym.et,Sym.h6,bj,lf,cond_false,sT,fT.aq Z D aD,fT.aq fA D hp]
 grind [je,rB,nX]
section
variable{an:e2}{K:ac dC}{own:ac a0}{aC:Nat}{e:bV}{d:Tmp}{xs:ac bt}{x y:ce}
variable{z:Nat}
def aeR{α:Type}{ak:α->ac ai}{l:ac α}{neg:Bool}(bU:cE an K xs own aC ((d,.b neg)::e))(F:l=[]->cE an K xs own aC ((d,.b<|!neg)::e))(E:bb e x=some (.bs z α ak l):=by rfl)(N:bb e y=some .nl:=by rfl):
 g2 an K d (.eqv neg .mu x y) xs own aC e:=λH ids st I O h D=>by
 have G:=D.aq N;have C:=D.aq E;obtain⟨aj,Y⟩|⟨b,R,c,ab,el,A,aW,Y,_⟩:=C
 .have U:bD an.call (.eqv neg .mu x y) I st= .ok (.bool<|!neg) I st:=by
   have e:bD an.call (.eqv neg .mu x y) I st=bx (sq (I.aq x)<|I.aq y) (λb=>.ok (.bool<|cond neg (!b) b) I st) .no:=rfl;rw[e,Y,G];cases neg<;>rfl
  exact asX
 .have U:bD an.call (.eqv neg .mu x y) I st= .ok (.bool neg) I st:=by
   have e:bD an.call (.eqv neg .mu x y) I st=bx (sq (I.aq x)<|I.aq y) (λb=>.ok (.bool<|cond neg (!b) b) I st) .no:=rfl;rw[e,Y,G];cases neg<;>rfl
  exact aqw
def Se{g j:Nat}{bE:f5}{ab:ac bv}{D:Nat×Nat}{aW:Bool}{cs:ac ai}(F:an.aX g=some (.cells ab el D aW))(cd:∀H,cT H cs [] ab)(k:cE an K xs own aC ((d,.ip<|cs.drop<|j*z)::e))(O:bb e x=some (.v<|.pointer<|some ⟨g,0,none⟩):=by rfl)(af:bb e y=some (.i bE (j:Int)):=by rfl)(a3:j<n:=by omega):g2 an K d (.sj n z x y) xs own aC e:=
 tL (R7 O F cd af a3) k
end
def Sf{X:Ctx}{aV:ar c7}{bp:d8->dT}{g:d8}{S:da}(ah:eb X g S.spec)(J:bp g=S.spec.K){f:ce}{bJ:ac ce}{as b6 cs:ac ai}(l:S.L)(ae:bb s.env f=some (.fn (.func g) b6 cs))(bK:gM s.env bJ=some as)(fO:g0 (b6++(as++cs))=true)(he:fy (b6++(as++cs)) (S.args l))(hp:S.pre l){aX:bm}(cl:S.hp aX):
 qw aX (cf aV (cm X bp)<|n+1) (.call f bJ) s (S.res l) s.own s.n:=λH ids st I F U D=>by
 obtain⟨ab,G,Z,W,M⟩:=D.aq ae;have cd:=he.den<|pD _ fO (tH W<|tH (D.dt bK) M) [];have⟨v,al,Y,O⟩:=ah _ st ⟨(l,H),hp,S.hm F cl,U.less,cd⟩;have⟨v1,ca,cy,h⟩:=xd (K:=bp) ⟨v,al,by rwa [J],O⟩;rw[J]at h;have⟨bB,A,V,T⟩:=h (l,H) ⟨hp,S.hm F cl,U.less,cd⟩;have bj:cf aV (cm X bp) (n+1) (I.aq f) (dt I bJ) none st= .ret v1 ca false:=by
  rw[Z,nT];have e:e8 (⟨ab⟩:bi bv).toList (e8 (dt I bJ) (⟨G⟩:bi bv).toList)=ab++(dt I bJ++G):=az
  rw[e,cy];rfl
 have hle:=V.hle;refine⟨v1,ca,ids,bB,?_,?_,iU apv _ (ck.nil _) T,hle,ck.refl _,?_,V.ag,λb aa _=>V.dZ b aa az⟩
 .rw[vm];rw[bj];rfl
 .refine⟨A.wf,A.le,U.cV,U.len,U.c2,λb aa=>fG (U.lt b aa) V.ag,λk R b E aa=>?_⟩;have⟨C,N⟩:=U.own k R b E aa;have aT:=U.lt b<|fQ aa;rw[V.dZ b aT az];exact atf atf
 .exact ao0
section
variable{X:Ctx}{aV:ar c7}{bp:d8->dT}{a8 n:Nat}{fn:d8}{aX:bm}{i0:ac Nat}{ax:ao}{Q:c6->cg->Prop}{K:ac dC}{own:ac a0}{aC:Nat}{e:bV}
def vw{g:d8}{S:da}(ah:eb X g S.spec){f:ce}{bJ:ac ce}{as b6 cs:ac ai}{d:Tmp}{xs:ac bt}(l:S.L)(hp:S.pre l)(k:cE (gf X aV bp n a8 fn aX i0 ax Q) K xs own aC ((d,S.res l)::e))
 (D:bb e f=some (.fn (.func g) b6 cs):=by rfl) (bK:gM e bJ=some as:=by rfl) (he:fy (b6++(as++cs)) (S.args l):=by exact fy.refl _) (fO:g0 (b6++(as++cs))=true:=by rfl) (J:bp g=S.spec.K:=by rfl) (cl:S.hp aX:=by exact aP):
 g2 (gf X aV bp n a8 fn aX i0 ax Q) K d (.call f bJ) xs own aC e:=tL (Sf ah J l D bK fO he hp cl) k
end
section
variable{an:e2}{K:ac dC}{own bk:ac a0}{aC:Nat}{e:bV}
variable{k:Nat}{cs:ac ai}
def aeS{t:Nat}(aN:dx e t=some (.p k 0))(aB:own[k]? =some (.c el cs))(hp:g0 cs=true)
 {H:bm} {ids:ac Nat} {st:ao} {I:aO} (O:cZ an.aX an.i0 an.ax H ids st) (U:Fit H ids st own aC) (D:cY I H ids e):
 ∃bB,cZ an.aX an.i0 an.ax bB ids st/\Fit bB ids st (own.set k .x) aC/\cY I bB ids ((t,.ip cs)::e):=by
 have⟨b,cy,h⟩:=D.get t _ aN;have⟨⟨ab,bj,d⟩,_⟩:=U.own k _ b aB cy;have hle:=rJ U aB o cy;refine⟨fs H st b,O.fs U aB o cy,U.fs aB o cy,(D.mono hle aoN).pl,λj q A=>?_⟩;rw[mD]at A;cases aa:Nat.beq t j with
 |false=>exact atb
 |true=>
  rw[aa]at A;cases A;rw[<-dy aa];refine⟨b,0,ab,el,(0,0),_,h,by rw[fs];rw[aA o];exact bj,?_⟩;have W:=gr d;rw[kC,pn J];exact lM hle _ aoN<|pD _ hp d []
def Sg(t:Nat){p:ac bt}(bE:cE an K p bk aC ((t,.ip cs)::e))(aN:dx e t=some (.p k 0):=by rfl)(aB:own[k]? =some (.c el cs):=by rfl)(hp:g0 cs=true:=by rfl)(ay:gN own k .x some=some bk:=by rfl):cE an K p own aC e:=by
 cases hR ay;exactλH ids st I O U D=>let⟨bB,Y,G,C⟩:=aeS aN aB hp O U D;bE bB ids st I Y G C
end
end Go.bI
namespace Go.bI
open Sym
variable{X:Ctx}
section
variable{an:e2}{K:ac dC}{s:cg}
def Gd{d:be Tmp}{R:dm}{l:ac (bt×cz)}{bl:ac a0}{bc:bV}{a4 b3 cI:Nat}{bk:ac a0}{a:ai}
 (h:∀(H:bm) (ids:ac Nat) (st:ao) (I:aO),cZ an.aX an.i0 an.ax H ids st->Fit H ids st s.own s.n->cY I H ids s.env->∃v al F bB,bD an.call R I st= .ok v I al/\Fit bB F al bk cI/\den bB a F v/\cL H bB/\ck ids F/\cZ an.aX an.i0 an.ax bB F al/\st.ag<=al.ag)
 (k:ak an K (.d l (bl.map λ_=>.x) (qy d bc) (a4+1) cI) ⟨bk,cI,ec d a s.env⟩):ak an K (.d ((⟨d,R,none⟩,.dJ)::l) bl bc a4 b3) s:=by
 have L:∀(k:Nat) (C:a0),(bl.map λ_=>a0.x)[k]? =some C->C.live=true->False:=by
  intro k C E W;simp at E;obtain⟨_,_,rfl⟩:=E;cases W
 exact Rx (λH ids st I O U D=>let⟨v,al,F,bB,cy,A,bj,dj,dp,fa,gC⟩:=h H ids st I O U D;⟨v,al,F,bB,cy,A,bj,dj,dp,fa,gC,λk _ C E W=>(L k C E W).elim⟩) az (λk C E W=>(L k C E W).elim) k
end
end Go.bI
namespace Go.bI
open Sym
section
variable{an:e2}{K:ac dC}{own bk bl fN:ac a0}{aC a4 b3 back:Nat}{e bc:bV}{d:Tmp}{aF:ac Tmp}{xs:ac bt}{aS:ac (bt×cz)}{x y:ce}
variable{z j q m:Nat}{el:d7}{aW:Bool}{α:Type}{a:ai}{aU:ac ai}{l:ac α}{w:α}
def aeT{a5:Nat}{ak:α->ac ai}(aG:α)(a3:l[j]? =some w)(k:cE an K xs bk aC e)(O:bb e x=some (.fb a5 z j q):=by rfl)(N:bb e y=some a:=by rfl)(aB:own[a5]? =some (.a el aW z α ak l):=by rfl)(ah:sR a=some aU:=by rfl)(aI:aU.length=m:=by rfl)(Y:pE aU=true:=by rfl)
 (D:ak aG=(ak w).take q++(aU++(ak w).drop (q+aU.length)):=by rfl) (ay:gN own a5 (.a el aW z α ak<|l.set j aG) some=some bk:=by rfl) (aH:q+m<=z:=by decide):cE an K (⟨none,.store m x y,none⟩::xs) own aC e:=by
 have h:=hR ay;cases h;exact RE (KR (s:=⟨own,aC,e⟩) aG O N ah aI Y aB a3 D aH) k
def hi{a5:Nat}{ak:α->ac ai}(aG:α)(a3:l[j]? =some w)(k:dB an K aS fN bc (a4+1) aC bk aC e)(O:bb e x=some (.fb a5 z j q):=by rfl)(N:bb e y=some a:=by rfl)(aB:own[a5]? =some (.a el aW z α ak l):=by rfl)(ah:sR a=some aU:=by rfl)(aI:aU.length=m:=by rfl)(Y:pE aU=true:=by rfl)
 (D:ak aG=(ak w).take q++(aU++(ak w).drop (q+aU.length)):=by rfl) (ay:gN own a5 (.a el aW z α ak<|l.set j aG) some=some bk:=by rfl) (E:za bl (some a5) some=some fN:=by rfl) (aH:q+m<=z:=by decide):dB an K ((⟨none,.store m x y,none⟩,.dJ)::aS) bl bc a4 b3 own aC e:=by
 cases hR ay;have⟨A,cy,h,bj⟩:=F3 E;cases cy;exact vq (KR aG O N ah aI Y aB a3 D aH) h (λk R L aI=>by
  have:=bj k R L aI;simp only[g1,O];exact this)
  k
variable{c:bu}
variable{P:Prop}{b:Bool}{cd:Decidable P}
def v1(t:Nat)(h:P)(k:fz an K c own aC ((t,.b true)::e))(aI:dx e t=some (.b<|decide P):=by rfl)(ah:c.nY=false:=by rfl):fz an K c own aC e:=a9 t (.b true) aI (by rw[c9 h]) k ah
def v0(t:Nat)(h:¬P)(k:fz an K c own aC ((t,.b false)::e))(aI:dx e t=some (.b<|decide P):=by rfl)(ah:c.nY=false:=by rfl):fz an K c own aC e:=a9 t (.b false) aI (by rw[dk h]) k ah
def jv(t:Nat){a:Bool}(h:a=b)(k:fz an K c own aC ((t,.b b)::e))(aI:dx e t=some (.b a):=by rfl)(ah:c.nY=false:=by rfl):fz an K c own aC e:=a9 t (.b b) aI asO k ah
def vx(t:Nat){bE:f5}{a:Int}(b:Int)(k:fz an K c own aC ((t,.i bE b)::e))(aI:dx e t=some (.i bE a):=by rfl)(h:a=b:=by omega)(ah:c.nY=false:=by rfl):fz an K c own aC e:=a9 t (.i bE b) aI asO k ah
def b5(t:Nat){a:Int}(b:Int)(k:fz an K c own aC ((t,.i .i64 b)::e))(aI:dx e t=some (.i .i64<|IntKind.i64.wrap a):=by rfl)(h:a=b:=by omega)(aE: -9223372036854775808<=a:=by omega)(aK:a<9223372036854775808:=by omega)(ah:c.nY=false:=by rfl):fz an K c own aC e:=a9 t (.i .i64 b) aI (gg h aE aK) k ah
def fj(t:Nat)(h:P)(k:dB an K aS bl ((t,.b true)::bc) a4 b3 own aC ((t,.b true)::e))(aI:dx e t=some (.b<|decide P):=by rfl)(bS:dx bc t=some (.b<|decide P):=by rfl):dB an K aS bl bc a4 b3 own aC e:=ea t (.b true) aI bS (by rw[c9 h]) k
def dR(t:Nat)(h:¬P)(k:dB an K aS bl ((t,.b false)::bc) a4 b3 own aC ((t,.b false)::e))(aI:dx e t=some (.b<|decide P):=by rfl)(bS:dx bc t=some (.b<|decide P):=by rfl):dB an K aS bl bc a4 b3 own aC e:=ea t (.b false) aI bS (by rw[dk h]) k
def dv(t:Nat){a:Bool}(h:a=b)(k:dB an K aS bl ((t,.b b)::bc) a4 b3 own aC ((t,.b b)::e))(aI:dx e t=some (.b a):=by rfl)(bS:dx bc t=some (.b a):=by rfl):dB an K aS bl bc a4 b3 own aC e:=ea t (.b b) aI bS asO k
def aeU(t:Nat){bE:f5}{a:Int}(b:Int)(k:dB an K aS bl ((t,.i bE b)::bc) a4 b3 own aC ((t,.i bE b)::e))(aI:dx e t=some (.i bE a):=by rfl)(h:a=b:=by omega)(bS:dx bc t=some (.i bE a):=by rfl):dB an K aS bl bc a4 b3 own aC e:=ea t (.i bE b) aI bS asO k
def ww(t:Nat){a:Int}(b:Int)(k:dB an K aS bl ((t,.i .i64 b)::bc) a4 b3 own aC ((t,.i .i64 b)::e))(aI:dx e t=some (.i .i64<|IntKind.i64.wrap a):=by rfl)(h:a=b:=by omega)(aE: -9223372036854775808<=a:=by omega)(aK:a<9223372036854775808:=by omega)(bS:dx bc t=some (.i .i64<|IntKind.i64.wrap a):=by rfl):dB an K aS bl bc a4 b3 own aC e:=ea t (.i .i64 b) aI bS (gg h aE aK) k
end
end Go.bI
namespace Go.bI
open Sym
variable{X:Ctx}
def hY{p:Prop}(h:p):¬¬p:=λk=>k h
mutual
def K9(k z n:Nat)(b:ai):ai->ai
 |.aL L M R cI c=>match Nat.beq k L&&(Nat.beq z M&&(Nat.beq 0 R&&(Nat.beq n cI&&Nat.beq n c)))with
  |true=>b
  |false=>.aL L M R cI c
 |.agg cs=>.agg (xt k z n b cs)
 |.br cs=>.br (xt k z n b cs)
 |.fn f b6 cs=>.fn f b6 cs
 |.mp k=>.mp k
 |.g p=>.g p
 |.p k R=>.p k R
 |.fb k z j R=>.fb k z j R
 |.i k n=>.i k n
 |.b t=>.b t
 |.s l=>.s l
 |.nl=>.nl
 |.v x=>.v x
 |.bs z α ak l=>.bs z α ak l
 |.gq z α ak l=>.gq z α ak l
 |.b8 z α ak l=>.b8 z α ak l
 |.ip cs=>.ip cs
 |.bad=>.bad
def xt(k z n:Nat)(b:ai):ac ai->ac ai
 |[]=>[]
 |a::as=>K9 k z n b a::xt k z n b as
end
mutual
theorem aeV{H:bm}{ids:ac Nat}{k z n:Nat}{b:ai}(aa:∀v,den H (.aL k z 0 n n) ids v->den H b ids v):∀(a:ai) {v:bv},den H a ids v->den H (K9 k z n b a) ids v
 |.aL L M R cI c,v,d=>by
  unfold K9;split
  .rename_i h;simp only[cQ]at h;obtain⟨aE,aK,C,N,J⟩:=h;have:=dy aE;have:=dy aK;have:=dy C;have:=dy N;have:=dy J
   subst_vars
   exact aa v d
  .exact d
 |.agg cs,_,⟨ab,e,d⟩=>⟨ab,e,Ge aa cs d⟩
 |.br cs,_,⟨ab,e,d⟩=>⟨ab,e,Ge aa cs d⟩
 |.fn _ _ _,_,d=>d
 |.mp _,_,d=>d
 |.g _,_,d=>d
 |.p _ _,_,d=>d
 |.fb _ _ _ _,_,d=>d
 |.i _ _,_,d=>d
 |.b _,_,d=>d
 |.s _,_,d=>d
 |.nl,_,d=>d
 |.v _,_,d=>d
 |.bs _ _ _ _,_,d=>d
 |.gq _ _ _ _,_,d=>d
 |.b8 _ _ _ _,_,d=>d
 |.ip _,_,d=>d
 |.bad,_,d=>d
theorem Ge{H:bm}{ids:ac Nat}{k z n:Nat}{b:ai}(aa:∀v,den H (.aL k z 0 n n) ids v->den H b ids v):∀(a:ac ai) {v:ac bv},cT H a ids v->cT H (xt k z n b a) ids v
 |[],_,d=>d
 |a::as,_,⟨v,G,e,W,F⟩=>⟨v,G,e,aeV aa a W,Ge aa as F⟩
end
end Go.bI
namespace Go.bI
open Sym
section
variable{an:e2}{K:ac dC}{own bk fN:ac a0}{aC:Nat}{e:bV}
def aeW{p:dz}{s:cg}(h:bP.ok an ⟨.seq p::K,.R [],s⟩):bP.ok an ⟨K,.c p,s⟩:=λH ids st I O U D=>by
 obtain⟨x,A,M,cy,bB,W,J,Y,G,C,N⟩:=h H ids st I O U D;have cy:cO.out .norm I st= .out x A M:=cy;cases cy;exact N bB W st I Y G C
def La(j k:Nat){z:Nat}{el F:d7}{aW:Bool}{α:Type}{ak:α->ac ai}{l:ac α}{cs dP:ac ai}{p:ac bt}(bE:cE an K p bk aC e)(a3:own[j]? =some (.c F cs):=by rfl)(aB:own[k]? =some (.a el aW z α ak l):=by rfl)(bK:xt k z l.length (.bs z α ak l) cs=dP:=by rfl)(hp:∀x,g0 (ak x)=true:=by exactλ_=>o)
 (E:j≠k:=by decide) (M:gN own k .x some=some fN:=by rfl) (ay:gN fN j (.c F dP) some=some bk:=by rfl):cE an K p own aC e:=λH ids st I C U D=>by
 have Y:=hR M;cases Y;have G:=hR ay;cases G;have V:k<ids.length:=by rw[U.len,<-U.cV];exact(dG.1 aB).1
 obtain⟨b,cy⟩:∃b,ids[k]? =some b:=⟨_,ba V⟩;obtain⟨⟨ab,bj,dj,dp⟩,_⟩:=U.own k _ b aB cy;have hle:=rJ U aB o cy;have L:=U.fs aB o cy;refine bE (fs H st b) ids st I (C.fs U aB o cy) ⟨L.wf,L.le,by rw[qZ];exact L.cV,L.len,L.c2,L.lt,λi R c af ah=>?_⟩<|D.mono hle aoN;rw[mq]at af;by_cases N:j=i
 .subst N;rw[aA o]at af;split at af<;>cases af;have J:(own.set k .x)[j]? =some (.c F cs):=by rw[mq,au λh=>E h.symm];exact a3
  obtain⟨⟨T,W,cW⟩,A⟩:=L.own j _ c J ah;refine⟨⟨T,W,?_⟩,λ_=>A o⟩;rw[<-bK];refine Ge (λv Z=>?_) cs cW;obtain⟨a',dX,e5⟩:=Z;rw[cy]at dX;cases dX;refine .inr ⟨b,0*z,l.length,ab,el,(0,0),aW,e5,ct _,by unfold fs;rw[aA o];exact bj,λi x O=>?_⟩;rw[jC,jn];exact lM hle _ aoN<|pD _ (hp x) (dp _ x O) []
 .rw[au N]at af;exact L.own i R c af ah
end
set_option maxRecDepth 10000
inductive sV where
 |ret (a:ai)
 |aY (v:Value)
structure PP where
 L:Type
 args:L->ac ai
 pre:L->Prop
 out:L->sV
 hp:bm->Prop:=fun _=>True
 hm:∀{H bB:bm},cL H bB->hp H->hp bB:=by exact fun _ _=>trivial
def PP.spec(S:PP):xe where
 L:=S.L×bm
 pre:=λl ab st=>S.pre l.1/\S.hp l.2/\Fit l.2 [] st [] 0/\cT l.2 (S.args l.1) [] ab
 post:=λl ab st v al=>∃a bB,S.out l.1= .ret a/\Fit bB [] al [] 0/\cZ l.2 [] st bB [] al/\den bB a [] v
 Ka:=λl ab st v al=>∃bB,S.out l.1= .aY v/\Fit bB [] al [] 0/\cZ l.2 [] st bB [] al
def Lb(S:PP)(l:S.L)(res:ac gU)(x:c6)(s:cg):Prop:=
 ((x= .norm\/x= .ret)/\∃r a,Fin.kO s res=some r/\h3 r=true/\S.out l= .ret a/\bX r a)\/∃v,x= .aY v/\S.out l= .aY v
variable{s:cg}{v:bv}
def vy{S:PP}{l:S.L}{res:ac gU}{r a:ai}{e:c6}(aE:Fin.kO s res=some r)(aK:h3 r=true)(D:S.out l= .ret a)(N:bX r a)(he:e= .ret\/e= .norm:=by first|exact .inl o|exact .inr o):Lb S l res e s:=.inl ⟨he.symm,r,a,aE,aK,D,N⟩
def kQ{S:PP}{l:S.L}{res:ac gU}(h:S.out l= .aY v):Lb S l res (.aY v) s:=.inr ⟨v,o,h⟩
def Gf{call:bR}{res:ac gU}{I:aO}{st:ao}(hp:sO I):fS call res (some v) I st= .aY v st false:=by
 rw[fS,hp.di,hp.cU];rfl
section
variable{X:Ctx}{aV:ar c7}{bp:d8->dT}
def Sh{H bB:bm}{ids:ac Nat}{st al:ao}{own:ac a0}{n:Nat}(U:Fit H ids st own n)(F:Fit bB [] al [] 0)(D:cZ H [] st bB [] al):
 Fit bB ids al own n/\∀aX i0 ax,cZ aX i0 ax H ids st->cZ aX i0 ax bB ids al:=by
 have hle:=D.hle;refine⟨⟨F.wf,F.le,U.cV,U.len,U.c2,λb aa=>fG (U.lt b aa) D.ag,λk R b E aa=>?_⟩,λaX i0 ax B=>⟨B.hle.trans hle,λb aa aj=>(by rw[D.hold b (fG aa B.ag) az];exact B.hold b aa aj),λb aa aj=>(by rw[D.dZ b (fG aa B.ag) az];exact B.dZ b aa aj),cN B.ag D.ag,B.jf,B.new⟩⟩
 .obtain⟨C,N⟩:=U.own k R b E aa;have aT:=U.lt b<|fQ aa;rw[D.dZ b aT az];exact ati ati
def Lc(aX:bm)(call:bR)(R:dm)(s:cg)(v:bv):Prop:=
 ∀(H:bm) (ids:ac Nat) (st:ao) (I:aO),cL aX H->Fit H ids st s.own s.n->cY I H ids s.env->
  ∃al bB,bD call R I st= .aY v al/\Fit bB ids al s.own s.n/\cL H bB/\∀aX i0 ax,cZ aX i0 ax H ids st->cZ aX i0 ax bB ids al
variable{g:d8}{bJ:ac ce}{as:ac ai}{n:Nat}{aX:bm}
def Si{S:PP}(ah:l9 X g S.spec)(J:bp g=S.spec.K)(l:S.L)(bK:gM s.env bJ=some as)(fO:g0 as=true)(he:fy as (S.args l))(hp:S.pre l)(cl:S.hp aX)
 {H:bm} {ids:ac Nat} {st:ao} {I:aO} (F:cL aX H) (U:Fit H ids st s.own s.n) (D:cY I H ids s.env):
 ∃v al bB,Fit bB [] al [] 0/\cZ H [] st bB [] al/\((∃a,S.out l= .ret a/\den bB a [] v/\bD (cf aV (cm X bp)<|n+1) (.call (.func g) bJ) I st= .ok v I al)\/(S.out l= .aY v/\bD (cf aV (cm X bp)<|n+1) (.call (.func g) bJ) I st= .aY v al)):=by
 have E:S.spec.pre (l,H) (dt I bJ) st:=⟨hp,S.hm F cl,U.less,(he.den<|pD _ fO (D.dt bK) [])⟩;have ru:=adm (K:=bp) (by rw[J];exact ah _ st ⟨(l,H),E⟩);rw[J]at ru;have e:e8 (#[]:bi bv).toList (e8 (dt I bJ) (#[]:bi bv).toList)=dt I bJ:=az
 obtain⟨v1,ca,cy,h⟩|⟨v1,ca,cy,h⟩:=ru
 .have⟨a,bB,ay,A,V,T⟩:=h (l,H) E;have bj:cf aV (cm X bp) (n+1) (.func (.func g) #[] #[]) (dt I bJ) none st= .ret v1 ca false:=by
   rw[nT,e,cy];rfl
  refine⟨v1,ca,bB,A,V,.inl ⟨a,ay,T,?_⟩⟩;exact aoL
 .have⟨bB,ay,A,V⟩:=h (l,H) E;have bj:cf aV (cm X bp) (n+1) (.func (.func g) #[] #[]) (dt I bJ) none st= .aY v1 ca false:=by
   rw[nT,e,cy];rfl
  refine⟨v1,ca,bB,A,V,.inr ⟨ay,?_⟩⟩;exact aoL
def Sj{S:PP}(ah:l9 X g S.spec)(J:bp g=S.spec.K)(l:S.L)(bK:gM s.env bJ=some as)(fO:g0 as=true)(he:fy as (S.args l))(hp:S.pre l)(cl:S.hp aX){a:ai}(ay:S.out l= .ret a):
 qw aX (cf aV (cm X bp)<|n+1) (.call (.func g) bJ) s a s.own s.n:=λH ids st I F U D=>by
 obtain⟨v,al,bB,A,V,h⟩:=Si ah J l bK fO he hp cl F U D;obtain⟨C,N,T,o⟩|⟨N,_⟩:=h
 .rw[ay]at N;cases N;have⟨Y,G⟩:=Sh U A V;exact⟨v,al,ids,bB,o,Y,iU apv _ (ck.nil _) T,V.hle,ck.refl _,G,V.ag,λb aa _=>V.dZ b aa az⟩
 .rw[ay]at N;cases N
def Sk{S:PP}(ah:l9 X g S.spec)(J:bp g=S.spec.K)(l:S.L)(bK:gM s.env bJ=some as)(fO:g0 as=true)(he:fy as (S.args l))(hp:S.pre l)(cl:S.hp aX)(ay:S.out l= .aY v):
 Lc aX (cf aV (cm X bp)<|n+1) (.call (.func g) bJ) s v:=λH ids st I F U D=>by
 obtain⟨E,al,bB,A,V,h⟩:=Si ah J l bK fO he hp cl F U D;obtain⟨C,N,T,o⟩|⟨N,o⟩:=h
 .rw[ay]at N;cases N
 .rw[ay]at N;cases N;have⟨Y,G⟩:=Sh U A V;exact⟨al,bB,o,Y,V.hle,G⟩
end
section
variable{an:e2}{K:ac dC}{s:cg}
variable{xs:ac bt}{d:be Tmp}{x:ce}{t:d7}{aC:Nat}{e:bV}
def Sl{R:dm}(h:Lc an.aX an.call R s v)(ah:R.lE=true)(k:bP.ok an ⟨K,.x<|.aY v,s⟩):bP.ok an ⟨K,.R<|⟨d,R,none⟩::xs,s⟩:=by
 intro H ids st I O U D;have⟨al,bB,Y,G,C,N⟩:=h H ids st I O.hle U D;refine⟨.aY v,I,al,?_,bB,ids,s,N _ _ _ O,G,D.mono C aoN,k⟩;show sN (bD an.call R I st) _ (λv st=>cond R.lE (.out (.aY v) I st) .no)=_;rw[Y,ah];rfl
def aeX{w:bv}{own:ac a0}(k:fz an K (.x<|.aY<|.iface t w) own aC e)(O:bb e x=some (.v<|.iface t w):=by rfl):cE an K (⟨d,.ox x,none⟩::xs) own aC e:=
 Sl (λH ids st I F U D=>by
  refine⟨st,H,?_,U,cL.refl _,λ_ _ _ B=>B⟩;show yo (I.aq x) (λt v=>a2.aY (.iface t v) st) .no=_;rw[(D.aq O)];rfl) o k
def aeY{H:bm}{ids:ac Nat}{k:f5}{c:Int}(h:den H (.agg [.i k c]) ids v):v= .agg ⟨[.int k c]⟩:=by
 obtain⟨ab,rfl,u,C,rfl,Y,G⟩:=h;cases Y;cases G;rfl
def aeZ{d:Tmp}{a:ai}{own:ac a0}(w:bv)(k:cE an K xs own aC ((d,.v<|.iface t w)::e))(O:bb e x=some a:=by rfl)(hw:∀H ids v,den H a ids v->v=w:=by exactλ_ _ _=>aeY):g2 an K d (.Ej t x) xs own aC e:=λH ids st I h U D=>
 oM o<|k H ids st _ h U<|D.ec (some d) (show Value.iface t (I.aq x)= .iface t w by rw[hw H ids _<|D.aq O])
end
def Ci(ms:ac Nat)(n:Nat):Nat->ac (bt×cz)->be (ac<|bt×cz)
 |_,[]=>some []
 |p,(x,c)::l=>match Ci ms n (p+1) l with
  |none=>none
  |some bq=>match Nat.testBit (ms.getD p 0) n with
   |true=>match c with
    |.dJ=>some ((⟨x.d,.jF<|.const undef,none⟩,.dJ)::bq)
    |_=>some ((⟨x.d,.jF<|.const undef,none⟩,.read 0 [])::bq)
   |false=>match c with
    |.dJ=>none
    |c=>some<|(x,c)::bq
theorem Sm{T:aO}{g:be (Tmp×Bool)}{a b:cO}{o D:Bool}{e:c6}{f:aO}{s:ao}(h:hl T g a b .no= .out e f s)(bK:a= .out e f s->o=true)(aa:b= .out e f s->D=true):hl T g o D false=true:=by
 unfold hl at h⊢;cases g with
 |none=>exact bK h
 |some p=>
  rw[Sym.et]at h⊢;cases Z:T.tmp p.1<;>rw[Z]at h<;>first|(cases h;done)|skip
  .rename_i c;show cond c (cond p.2 o D) (cond p.2 D o)=true;have h:cond c (cond p.2 a b) (cond p.2 b a)=_:=h
   grind
  .exact aa h
theorem Sn{call:bR}{O:tn}{ms:ac Nat}{n:Nat}:∀{l bq:ac (bt×cz)} {p:Nat} {M:ac (ar bG)} {I:aO} {st:ao} {N:aO} {J:ao},Ci ms n p l=some bq->hn call O bq M I st= .out .norm N J->j7 call ms n l p M I st=true
 |[],_,_,_,_,_,_,_,_,_=>rfl
 |(x,c)::l,bq,p,M,I,st,N,J,D,h=>by
  unfold Ci at D;split at D
  .cases D
  rename_i A aE;have U:∀{M:ac (ar bG)} {I:aO} {st:ao},hn call O A M I st= .out .norm N J->j7 call ms n l (p+1) M I st=true:=λh=>Sn aE h;have bc:j7 call ms n ((x,c)::l) p M I st=cond (Nat.testBit (ms.getD p 0) n)
   (cz.rec (j7 call ms n l (Nat.succ p) (st.h::M) (I.put x.d undef) st) (λ_=>j7 call ms n l (Nat.succ p) M (I.put x.d undef) st) (λ_ _=>j7 call ms n l (Nat.succ p) M (I.put x.d undef) st) c)
   (cz.rec false
    (λaF=>jI I.t aF λt=>hl ⟨t,[],none,false,none⟩ x.g
     (a2.rec (λv _ al=>j7 call ms n l (Nat.succ p) M (I.put x.d v) al) (λ_ _=>false) false<|bD call x.R ⟨t,[],none,false,none⟩ st)
     (j7 call ms n l (Nat.succ p) M (I.put x.d undef) st) false)
    (λback aF=>jI I.t aF λt=>hl ⟨t,[],none,false,none⟩ x.g
     (a2.rec (λv _ _=>cond (sameAt call x.R ⟨t,[],none,false,none⟩ v st.ag (Nat.succ back) M) (j7 call ms n l (Nat.succ p) M (I.put x.d v) st) false) (λ_ _=>false) false<|bD call x.R ⟨t,[],none,false,none⟩ st)
     (j7 call ms n l (Nat.succ p) M (I.put x.d undef) st) false)
    c):=rfl
  rw[bc];split at D
  .rename_i aa;rw[aa];split at D
   .cases D;have h:eB st.ag st.ag (hn call O A (st.h::M) (aO.put ⟨I.t,I.di,I.aY,I.cU,I.b7⟩ x.d undef) st) .no=_:=h;rw[h7<|ct _]at h;exact U h
   .rename_i ah;cases D;have h:cond (sameAt call (.jF<|.const undef) ⟨.nil,[],none,false,none⟩ undef st.ag (Nat.succ 0) M) (hn call O A M (I.put x.d undef) st) .no=_:=h;cases W:sameAt call (.jF<|.const undef) ⟨.nil,[],none,false,none⟩ undef st.ag (Nat.succ 0) M with
    |false=>rw[W]at h;cases h
    |true=>
     rw[W]at h;cases c with
     |dJ=>exact absurd o ah
     |_=>exact U h
  .rename_i aa;rw[aa];split at D
   .cases D
   .rename_i ah;cases D;cases c with
    |dJ=>exact absurd o ah
    |hM aF=>
     have h:jI I.t aF (λt=>hl ⟨t,[],none,false,none⟩ x.g
      (a2.rec (λv _ al=>hn call O A M (I.put x.d v) al) (λ_ _=>.no) .no<|bD call x.R ⟨t,[],none,false,none⟩ st)
      (hn call O A M (I.put x.d undef) st) .no)=_:=h
     show jI I.t aF _=true;rw[oH]at h⊢;refine Sm h (λh=>?_) U;generalize bD call x.R _ st=r at h⊢;cases r with
     |ok v C E=>exact U h
     |_=>cases h
    |read back aF=>
     have h:jI I.t aF (λt=>hl ⟨t,[],none,false,none⟩ x.g
      (a2.rec (λv _ _=>cond (sameAt call x.R ⟨t,[],none,false,none⟩ v st.ag (Nat.succ back) M) (hn call O A M (I.put x.d v) st) .no) (λ_ _=>.no) .no<|bD call x.R ⟨t,[],none,false,none⟩ st)
      (hn call O A M (I.put x.d undef) st) .no)=_:=h
     show jI I.t aF _=true;rw[oH]at h⊢;refine Sm h (λh=>?_) U;generalize bD call x.R _ st=r at h⊢;cases r with
     |ok v C E=>
      grind
     |_=>cases h
def So(x:c6)(_:cg):Prop:=x= .norm
section
variable{an:e2}{K:ac dC}{s:cg}
theorem ae0{d:be Tmp}{R:dm}{l bq:ac (bt×cz)}{bl:ac a0}{bc:bV}{a4 b3 m:Nat}{ms:ac Nat}(h:Lc an.aX an.call R s v)(ah:R.lE=true)(D:Ci ms (m-(dK l+1)) (m-dK l) l=some bq)
 (bE:dB ⟨an.call,an.a8,an.fn,an.aX,an.i0,an.ax,So⟩ [] bq bl (qy d bc) (a4+1) s.n s.own s.n (ec d (.br []) s.env)) (k:bP.ok an ⟨K,.x<|.aY v,s⟩):ak an (.xk ms m::K) (.d ((⟨d,R,none⟩,.dJ)::l) bl bc a4 b3) s:=by
 intro A a' H ids st I V M O U C T;have⟨al,bB,Y,G,J,N⟩:=h H ids st I O.hle U C;have Z:=bE (ss an.call ms m) aP H ids st (I.put d undef) V (st.h::M) O U (C.ec d apm) ⟨by simp[T.len],T.hle,xn T.en d _,T.qx,by rw[U.len];exact c4 _,λk R b E W aa=>by
  have⟨Y,G⟩:=T.bl k R b E W aa;refine⟨Y,λh hm=>?_⟩;obtain rfl|hm:=fg.1 hm
  .rfl
  .exact G h hm,λh hm=>by
  obtain rfl|hm:=fg.1 hm
  .exactλb R aa=>U.le _ _<|T.hle _ _ aa
  .exact T.hO h hm,λh hm=>by
  simp at hm;subst hm;exact arx⟩
 have⟨x,f1,s1,cy,H1,i1,t1,_,_,_,F⟩:=Z;subst F;have bj:=Sn D cy;refine⟨.aY v,I,al,?_,bB,ids,s,N _ _ _ O,G,C.mono J aoN,k⟩;show a2.rec (motive:=λ_=>cO) (λv L al=>eB st.ag al.ag (hn an.call A l (al.h::M) (aO.put ⟨I.t,L.di,L.aY,L.cU,L.b7⟩ d v) al) .no) (λv al=>cond R.lE (cond (A l (st.h::M) (I.put d undef) st) (.out (.aY v) I al) .no) .no) .no (bD an.call R I st)=_;rw[Y,a'];show cond R.lE (cond (j7 an.call ms (Nat.sub m<|Nat.succ<|dK l) l (Nat.sub m<|dK l) (st.h::M) (I.put d undef) st) (cO.out (.aY v) I al) cO.no) cO.no=_
 grind
end
section
variable{X:Ctx}{aV:ar c7}{bp:d8->dT}{a8 n:Nat}{fn:d8}{aX:bm}{i0:ac Nat}{ax:ao}{Q:c6->cg->Prop}{K:ac dC}{own:ac a0}{aC:Nat}{e:bV}
variable{g:d8}{bJ:ac ce}{as:ac ai}{d:be Tmp}{xs:ac bt}{bl:ac a0}{bc:bV}{a4 b3:Nat}
def mH{S:PP}(ah:l9 X g S.spec)(l:S.L)(hp:S.pre l)(a:ai)(ay:S.out l= .ret a)(k:cE (gf X aV bp n a8 fn aX i0 ax Q) K xs own aC (ec d a e))
 (bK:gM e bJ=some as:=by rfl) (he:fy as (S.args l):=by exact fy.refl _) (fO:g0 as=true:=by rfl) (J:bp g=S.spec.K:=by rfl) (cl:S.hp aX:=by exact aP):
 cE (gf X aV bp n a8 fn aX i0 ax Q) K (⟨d,.call (.func g) bJ,none⟩::xs) own aC e:=tL (Sj ah J l bK fO he hp cl ay) k
def lh{S:PP}(ah:l9 X g S.spec)(l:S.L)(hp:S.pre l)(v:bv)(ay:S.out l= .aY v)(sW:fz (gf X aV bp n a8 fn aX i0 ax Q) K (.x<|.aY v) own aC e)
 (bK:gM e bJ=some as:=by rfl) (he:fy as (S.args l):=by exact fy.refl _) (fO:g0 as=true:=by rfl) (J:bp g=S.spec.K:=by rfl) (cl:S.hp aX:=by exact aP):
 cE (gf X aV bp n a8 fn aX i0 ax Q) K (⟨d,.call (.func g) bJ,none⟩::xs) own aC e:=Sl (Sk ah J l bK fO he hp cl ay) o sW
def xu{S:PP}(ah:l9 X g S.spec){d:Tmp}{xs:ac (bt×cz)}(l:S.L)(hp:S.pre l)(a:ai)(ay:S.out l= .ret a)
 (k:dB (gf X aV bp n a8 fn aX i0 ax Q) K xs bl (jt d bc) (a4+1) aC own aC ((d,a)::e))
 (bK:gM e bJ=some as:=by rfl) (he:fy as (S.args l):=by exact fy.refl _) (fO:g0 as=true:=by rfl) (J:bp g=S.spec.K:=by rfl) (cl:S.hp aX:=by exact aP):
 dB (gf X aV bp n a8 fn aX i0 ax Q) K ((⟨some d,.call (.func g) bJ,none⟩,.dJ)::xs) bl bc a4 b3 own aC e:=
 F4 (Sj ah J l bK fO he hp cl ay) o apz k
def Cj{S:PP}(ah:l9 X g S.spec){d:Tmp}{xs bq:ac (bt×cz)}{m:Nat}{ms:ac Nat}(l:S.L)(hp:S.pre l)(v:bv)(ay:S.out l= .aY v)
 (sW:fz (gf X aV bp n a8 fn aX i0 ax Q) K (.x<|.aY v) own aC e)
 (D:Ci ms (m-(dK xs+1)) (m-dK xs) xs=some bq:=by rfl)
 (bK:gM e bJ=some as:=by rfl) (he:fy as (S.args l):=by exact fy.refl _) (fO:g0 as=true:=by rfl) (J:bp g=S.spec.K:=by rfl) (cl:S.hp aX:=by exact aP)
 (bE:dB ⟨cf aV (cm X bp)<|n+1,a8,fn,aX,i0,ax,So⟩ [] bq bl (jt d bc) (a4+1) aC own aC ((d,.br [])::e):=by(repeat refine gF o ?_);exact bh o):
 dB (gf X aV bp n a8 fn aX i0 ax Q) (.xk ms m::K) ((⟨some d,.call (.func g) bJ,none⟩,.dJ)::xs) bl bc a4 b3 own aC e:=
 ae0 (Sk ah J l bK fO he hp cl ay) o D bE sW
end
def xv(cy t:Nat):c7:=⟨6,[.cell 2 false 1],.seq (.gx [⟨some 2,.alloc [.int .i64 0] t,none⟩])<|.seq (.gx [⟨some 3,.sh (.func cy) [] [.tmp 2],none⟩,⟨none,.p8 (.tmp 3) [],none⟩])<|.seq (.gx [⟨some 4,.jF<|.tmp 0,none⟩,⟨some 5,.call (.tmp 4) [],none⟩])<|.seq (.gx [⟨none,.store 1 (.tmp 2)<|.const<|.int .i64 0,none⟩]) .ret⟩
def xw(aF:Nat):c7:=⟨12,[],.seq (.gx [⟨some 4,.u1,none⟩])<|.block 0<|.seq (.gx [⟨some 6,.eqv false .Ef (.tmp 4)<|.const .nilIface,none⟩])<|.cond (.tmp 6) (.gx [⟨some 1,.jF<|.tmp 4,none⟩])<|.seq (.gx [⟨some 7,.Ek aF (.agg #[.int .i64 0]) true<|.tmp 4,none⟩,⟨some 8,.sk (.tmp 7) 1,none⟩,⟨some 9,.sk (.tmp 7) 0,none⟩])<|.cond (.tmp 8) (.seq (.gx [⟨some 2,.alloc [.int .i64 0] aF,none⟩,⟨none,.store 1 (.tmp 2)<|.tmp 9,none⟩])<|.gx [⟨some 10,.q4 0<|.tmp 2,none⟩,⟨some 11,.ix<|.tmp 10,none⟩,⟨none,.store 1 (.tmp 0)<|.tmp 11,none⟩])<|.seq (.gx [⟨some 3,.jF<|.tmp 4,none⟩])<|.gx [⟨some 5,.jF<|.tmp 3,none⟩,⟨none,.ox<|.tmp 5,none⟩]⟩
section
variable{call:bR}{I:aO}{st:ao}
variable{el:d7}{x:ce}
def Sp{z:ac bv}:bD call (.alloc z el) I st= .ok (.pointer<|some ⟨st.ag,0,none⟩) I ⟨st.h.set st.ag<|.cells z el (0,0) false,st.ag+1⟩:=by
 show st.iD (.cells z el (0,0) false) (λid st=>a2.ok (.pointer<|some ⟨id,0,none⟩) I st)=_;rw[gV]
def Ld{y:ce}{id:Nat}{hO:bv}(h:I.aq x= .pointer (some ⟨id,0,none⟩))(Z:h0 (I.aq y)=[v])(hp:hk [v]=true)(ay:st.h.get id=some (.cells [hO] el (0,0) false)):
 bD call (.store 1 x y) I st= .ok undef I ⟨st.h.set id<|.cells [v] el (0,0) false,st.ag⟩:=by
 have:bD call (.store 1 x y) I st=hN (I.aq x) (λp=>bx p (λa=>dL (dK<|h0<|I.aq y) 1 (cond (hk<|h0<|I.aq y) (st.store a (h0<|I.aq y) (λst=>a2.ok undef I st) .no) .no) .no) .no) .no:=rfl;rw[this,h,Z,lL,Sym.et,hp];unfold ao.store ao.gy;rw[ay,lf,rk,jq];rfl
def ae1{id:Nat}(h:I.aq x= .pointer (some ⟨id,0,none⟩))(ay:st.h.get id=some (.cells [v] el (0,0) false)):bD call (.ix x) I st= .ok v I st:=by
 rw[J9,h,lL,Sym.et];unfold ao.load ao.gy;rw[ay];rfl
end
variable{n:Nat}{call:bR}{f t b:Nat}{H:bm}{ids:ac Nat}
def ae2{aF:Nat}{st:ao}{c:Int}(aa:st.h.get b=some (.cells [.int .i64 0] t (0,0) false))(aT:b<st.ag):
 iF call n f (xw aF) [.pointer<|some ⟨b,0,none⟩] (some<|.iface aF<|.agg #[.int .i64 c]) st=
  .ret (.tuple #[]) ⟨((st.h.set st.ag<|.cells [.int .i64 0] aF (0,0) false).set st.ag<|.cells [.int .i64 c] aF (0,0) false).set b<|.cells [.int .i64 c] t (0,0) false,st.ag+1⟩ true:=by
 let en:aO:=⟨lF [.pointer<|some ⟨b,0,none⟩] 0 .nil,[],some<|.iface aF<|.agg #[.int .i64 c],true,none⟩
 let W:=(((en.put (some 4)<|.iface aF<|.agg #[.int .i64 c]).put (some 6)<|.bool false).put (some 7)<|.tuple #[.agg #[.int .i64 c],.bool true]).put (some 8)<|.bool true
 let e4:=W.put (some 9)<|.agg #[.int .i64 c]
 have U:dh call n f (xw aF).body ⟨lF [.pointer<|some ⟨b,0,none⟩] 0 .nil,[],some<|.iface aF<|.agg #[.int .i64 c],false,none⟩ st=
  qd 0 (A4 (e4.aq<|.tmp 8) (kF (gz call [⟨some 2,.alloc [.int .i64 0] aF,none⟩,⟨none,.store 1 (.tmp 2)<|.tmp 9,none⟩] e4 st)<|dh call n f<|.gx [⟨some 10,.q4 0<|.tmp 2,none⟩,⟨some 11,.ix<|.tmp 10,none⟩,⟨none,.store 1 (.tmp 0)<|.tmp 11,none⟩])<|dh call n f (.seq (.gx [⟨some 3,.jF<|.tmp 4,none⟩])<|.gx [⟨some 5,.jF<|.tmp 3,none⟩,⟨none,.ox<|.tmp 5,none⟩]) e4 st):=by
  show qd 0 (kF (sN (dL aF aF (a2.ok (.tuple #[.agg #[.int .i64 c],.bool true]) ((en.put (some 4)<|.iface aF<|.agg #[.int .i64 c]).put (some 6)<|.bool false) st)<|a2.ok (.tuple #[.agg #[.int .i64 0],.bool false]) ((en.put (some 4)<|.iface aF<|.agg #[.int .i64 c]).put (some 6)<|.bool false) st) (λv I st=>gz call [⟨some 8,.sk (.tmp 7) 1,none⟩,⟨some 9,.sk (.tmp 7) 0,none⟩] (I.put (some 7) v) st) λv st=>.no) _)=_;rw[(je o _ _)];rfl
 have eV:gz call [⟨some 2,.alloc [.int .i64 0] aF,none⟩,⟨none,.store 1 (.tmp 2)<|.tmp 9,none⟩] e4 st= .out .norm (e4.put (some 2)<|.pointer<|some ⟨st.ag,0,none⟩) ⟨(st.h.set st.ag<|.cells [.int .i64 0] aF (0,0) false).set st.ag<|.cells [.int .i64 c] aF (0,0) false,st.ag+1⟩:=by
  rw[tC,Sp,xc,tC,Ld o o o<|ar.nO _ _ _];rfl
 have O:b≠st.ag:=J
 have ew:gz call [⟨some 10,.q4 0<|.tmp 2,none⟩,⟨some 11,.ix<|.tmp 10,none⟩,⟨none,.store 1 (.tmp 0)<|.tmp 11,none⟩] (e4.put (some 2)<|.pointer<|some ⟨st.ag,0,none⟩) ⟨(st.h.set st.ag<|.cells [.int .i64 0] aF (0,0) false).set st.ag<|.cells [.int .i64 c] aF (0,0) false,st.ag+1⟩=
  .out .norm (((e4.put (some 2)<|.pointer<|some ⟨st.ag,0,none⟩).put (some 10)<|.pointer<|some ⟨st.ag,0,none⟩).put (some 11)<|.int .i64 c) ⟨((st.h.set st.ag<|.cells [.int .i64 0] aF (0,0) false).set st.ag<|.cells [.int .i64 c] aF (0,0) false).set b<|.cells [.int .i64 c] t (0,0) false,st.ag+1⟩:=by
  show gz call [⟨some 11,.ix<|.tmp 10,none⟩,⟨none,.store 1 (.tmp 0)<|.tmp 11,none⟩] ((e4.put (some 2)<|.pointer<|some ⟨st.ag,0,none⟩).put (some 10)<|.pointer<|some ⟨st.ag,0,none⟩) _=_;rw[tC,ae1 o<|ar.nO _ _ _,xc,tC,Ld o o o (by
   rw[ar.fu _ _ O,ar.fu _ _ O];exact aa),xc]
  rfl
 have h4:iF call n f (xw aF) [.pointer<|some ⟨b,0,none⟩] (some<|.iface aF<|.agg #[.int .i64 c]) st=cO.rec (λe I st=>c6.rec (fS call [] none I st) (λ_=>.no) (fS call [] none I st) (λv=>fS call [] (some v) I st) e) .no (dh call n f (xw aF).body ⟨lF [.pointer<|some ⟨b,0,none⟩] 0 .nil,[],some<|.iface aF<|.agg #[.int .i64 c],false,none⟩ st):=rfl;have A:A4 (e4.aq<|.tmp 8) (kF (gz call [⟨some 2,.alloc [.int .i64 0] aF,none⟩,⟨none,.store 1 (.tmp 2)<|.tmp 9,none⟩] e4 st)<|dh call n f<|.gx [⟨some 10,.q4 0<|.tmp 2,none⟩,⟨some 11,.ix<|.tmp 10,none⟩,⟨none,.store 1 (.tmp 0)<|.tmp 11,none⟩]) (dh call n f (.seq (.gx [⟨some 3,.jF<|.tmp 4,none⟩])<|.gx [⟨some 5,.jF<|.tmp 3,none⟩,⟨none,.ox<|.tmp 5,none⟩]) e4 st)=kF (gz call [⟨some 2,.alloc [.int .i64 0] aF,none⟩,⟨none,.store 1 (.tmp 2)<|.tmp 9,none⟩] e4 st) (dh call n f<|.gx [⟨some 10,.q4 0<|.tmp 2,none⟩,⟨some 11,.ix<|.tmp 10,none⟩,⟨none,.store 1 (.tmp 0)<|.tmp 11,none⟩]):=rfl;rw[h4,U,A,eV,Sym.BA,Q3,ew];rfl
def Sq{st:ao}{own:ac a0}(U:Fit H ids st own n)(R:bG):Fit H ids ⟨st.h.set st.ag R,st.ag+1⟩ own n:=by
 refine⟨λi af=>?_,λb C aa=>?_,U.cV,U.len,U.c2,λb aa=>AB<|U.lt b aa,λk C b E aa=>?_⟩
 .have af:st.ag+1<=i:=af;rw[ar.fu _ _ J];exact U.wf i J
 .show(ar.set st.h st.ag R).get b=_;have:=U.aT aa;rw[ar.fu _ _ J];exact U.le b C aa
 .have aT:=U.lt b<|fQ aa;rw[ar.fu _ _ J];exact U.own k C b E aa
theorem Le{st:ao}{own:ac a0}(U:Fit H ids st own n)(aa:b∉ids)(F:H b=none)(aT:b<st.ag)(R:bG):Fit H ids ⟨st.h.set b R,st.ag⟩ own n:=by
 refine⟨λi af=>?_,λA C L=>?_,U.cV,U.len,U.c2,U.lt,λk C A E L=>?_⟩
 .have af:st.ag<=i:=af;rw[ar.fu _ _ J];exact U.wf i af
 .show(ar.set st.h b R).get A=_;rw[ar.fu _ _ λe=>by rw[e,F]at L;cases L];exact U.le A C L
 .show oO H ids C ((ar.set st.h b R).get A)/\_;rw[ar.fu _ _ λe=>aa aoM];exact U.own k C A E L
def ae3{cy:Nat}{M:bv}{st:ao}:∃I:aO,I.di=[{target:=.fn (.func cy) #[.pointer (some ⟨st.ag,0,none⟩)],args:= #[]}]/\I.cU=false/\I.tmp 2= .pointer (some ⟨st.ag,0,none⟩)/\
 dh call n f (xv cy t).body (en [M]) st=kF (sN (lK (call M [] none ⟨st.h.set st.ag<|.cells [.int .i64 0] t (0,0) false,st.ag+1⟩) (λv st=>.ok v I st) λv st=>.aY v st) (λv I st=>.out .norm (I.put (some 5) v) st) λv st=>.out (.aY v) I st) (dh call n f<|.seq (.gx [⟨none,.store 1 (.tmp 2)<|.const<|.int .i64 0,none⟩]) .ret):=by
 refine⟨(aO.mk ((((en [M]).put (some 2)<|.pointer<|some ⟨st.ag,0,none⟩).put (some 3)<|.func (.func cy) #[] #[.pointer (some ⟨st.ag,0,none⟩)]).t) [{target:=.fn (.func cy) #[.pointer (some ⟨st.ag,0,none⟩)],args:= #[]}] none false none).put (some 4) M,o,o,o,?_⟩;have e:dh call n f (xv cy t).body (en [M]) st=kF (gz call [⟨some 2,.alloc [.int .i64 0] t,none⟩] (en [M]) st) (dh call n f<|.seq (.gx [⟨some 3,.sh (.func cy) [] [.tmp 2],none⟩,⟨none,.p8 (.tmp 3) [],none⟩])<|.seq (.gx [⟨some 4,.jF<|.tmp 0,none⟩,⟨some 5,.call (.tmp 4) [],none⟩])<|.seq (.gx [⟨none,.store 1 (.tmp 2)<|.const<|.int .i64 0,none⟩]) .ret):=rfl;rw[e,tC,Sp];rfl
section
variable{X:Ctx}{aV:ar c7}{bp:d8->dT}{a8 n:Nat}{fn:d8}{aX:bm}{i0:ac Nat}{ax:ao}{Q:c6->cg->Prop}{K:ac dC}{own:ac a0}{aC:Nat}{e:bV}
def ae4(an:e2)(K:ac dC)(xs:ac bt)(d:be Tmp)(e:bV)(aF:Nat)(x:c6)(s:cg):Prop:=
 ((x= .norm\/x= .ret)/\cE an K xs s.own s.n (ec d (.i .i64 0) e))\/∃c:Int,x= .aY (.iface aF<|.agg #[.int .i64 c])/\cE an K xs s.own s.n (ec d (.i .i64 c) e)
variable{g cy:d8}{x:ce}{rN:ac ai}{d:be Tmp}{xs:ac bt}
theorem ae5{N:Nat}(dY:N=n+3){f:d8}{aF:Nat}(a7:c7)(aQ:aV.get f=some a7)(a1:aV.get g=some (xv cy t))(av:aV.get cy=some (xw aF))
 (k:∀H ids st cs,ids.length=own.length->cL aX H->Fit H ids st own aC->cT H rN ids cs->∃(L:ao) (bB:bm) (F:ac Nat) (s:cg),cZ H ids st bB F L/\Fit bB F L s.own s.n/\
  ((iF (cf aV (cm X bp)<|n+1) (n+1) f a7 cs none st= .ret (.tuple #[]) L false/\cE ⟨cf aV (cm X bp) N,a8,fn,aX,i0,ax,Q⟩ K xs s.own s.n (ec d (.i .i64 0) e))\/
    ∃c:Int,iF (cf aV (cm X bp)<|n+1) (n+1) f a7 cs none st= .aY (.iface aF<|.agg #[.int .i64 c]) L false/\cE ⟨cf aV (cm X bp) N,a8,fn,aX,i0,ax,Q⟩ K xs s.own s.n (ec d (.i .i64 c) e)))
 (a9:bb e x=some (.fn (.func f) [] rN):=by rfl) (a6:bp f=dT.no:=by rfl) (a0:bp g=dT.no:=by rfl) (aZ:bp cy=dT.no:=by rfl):
 cE ⟨cf aV (cm X bp) N,a8,fn,aX,i0,ax,Q⟩ K (⟨d,.call (.func g) [x],none⟩::xs) own aC e:=by
 subst dY;intro H ids st I O U D;obtain⟨b6,cs,Z,a2,Y⟩:=D.aq a9;cases a2;obtain⟨L,bB,F,s,V,A,aD⟩:=k H ids _ cs (U.len.trans U.cV.symm) O.hle (Sq U<|.cells [.int .i64 0] t (0,0) false) Y;have ae:st.ag∉ids:=λh=>by have:=U.lt _ h;omega
 have aM:bB st.ag=none:=by
  rw[V.hold st.ag (nI _) ae];cases cl:H st.ag with
  |none=>rfl
  |some R=>have:=U.aT cl;omega
 have aL:st.ag∉F:=λh=>by
  rcases V.new _ h with h|h
  .exact ae h
  .have h:st.ag+1<=st.ag:=h;omega
 have T:L.h.get st.ag=some (.cells [.int .i64 0] t (0,0) false):=by
  rw[V.dZ st.ag (nI _) ae];exact ar.nO _ _ _
 have ai:st.ag<L.ag:=V.ag;have fin:∀(c:Int) E,Fit bB F E s.own s.n->L.ag<=E.ag->(∀b,b<L.ag->b≠st.ag->E.h.get b=L.h.get b)->
  bD (cf aV (cm X bp)<|n+3) (.call (.func g) [x]) I st= .ok (.int .i64 c) I E->cE ⟨cf aV (cm X bp)<|n+3,a8,fn,aX,i0,ax,Q⟩ K xs s.own s.n (ec d (.i .i64 c) e)->
  W (gz (cf aV (cm X bp)<|n+3) (⟨d,.call (.func g) [x],none⟩::xs) I st) (rH ⟨cf aV (cm X bp)<|n+3,a8,fn,aX,i0,ax,Q⟩<|Sem ⟨cf aV (cm X bp)<|n+3,a8,fn,aX,i0,ax,Q⟩ K):=λc E ak ba aB b' ah=>by
  have M:cZ H ids st bB F E:=by
   refine⟨V.hle,λb aa aj=>V.hold b (AB aa) aj,λb aa aj=>?_,J,V.jf,λb aa=>?_⟩
   .rw[aB b J J,V.dZ b (AB aa) aj];exact ar.fu _ _ J
   .rcases V.new b aa with h|h
    .exact .inl h
    .grind
  exact oM b'<|ah bB F E _ (O.trans M) ak<|(D.mono V.hle V.jf).ec d o
 have aA:bD (cf aV (cm X bp)<|n+3) (.call (.func g) [x]) I st=lK (iF (cf aV (cm X bp)<|n+2) (n+2) g (xv cy t) [I.aq x] none st) (λv st=>.ok v I st) .aY:=by
  show lK (cf aV (cm X bp) (n+3) (.func (.func g) #[] #[]) (dt I [x]) none st) _ _=_;rw[nT];have bc:e8 (#[]:bi bv).toList (e8 (dt I [x]) (#[]:bi bv).toList)=[I.aq x]:=by simp[Q2,acR]
  rw[bc,ze a0,Sym.h6,Sym.h6,a1,Sym.et]
 obtain⟨aN,aO,C,aR,aI⟩:=ae3;have aw:iF (cf aV (cm X bp)<|n+2) (n+2) g (xv cy t) [I.aq x] none st=cO.rec (λe I st=>c6.rec (fS (cf aV (cm X bp)<|n+2) [.cell 2 false 1] none I st) (λ_=>.no) (fS (cf aV (cm X bp)<|n+2) [.cell 2 false 1] none I st) (λv=>fS (cf aV (cm X bp)<|n+2) [.cell 2 false 1] (some v) I st) e) .no (dh (cf aV (cm X bp)<|n+2) (n+2) g (xv cy t).body (en [I.aq x]) st):=rfl;have aH:∀r,iF (cf aV (cm X bp)<|n+1) (n+1) f a7 cs none ⟨st.h.set st.ag<|.cells [.int .i64 0] t (0,0) false,st.ag+1⟩=r->cf aV (cm X bp) (n+2) (I.aq x) [] none ⟨st.h.set st.ag<|.cells [.int .i64 0] t (0,0) false,st.ag+1⟩=r:=λr h=>by
  rw[Z,nT];have bc:e8 (#[]:bi bv).toList (e8 ([]:ac bv) (⟨cs⟩:bi bv).toList)=cs:=az
  rw[bc,ze a6,Sym.h6,Sym.h6,aQ,Sym.et,h]
 have aG:∀(b:Nat) m st,cf aV (cm X bp) (n+2) (.func (.func cy) #[] #[.pointer (some ⟨b,0,none⟩)]) [] m st=iF (cf aV (cm X bp)<|n+1) (n+1) cy (xw aF) [.pointer<|some ⟨b,0,none⟩] m st:=λb m st=>by
  rw[nT];have bc:e8 (#[]:bi bv).toList (e8 ([]:ac bv) (#[.pointer (some ⟨b,0,none⟩)]:bi bv).toList)=[.pointer<|some ⟨b,0,none⟩]:=az
  rw[bc,ze aZ,Sym.h6];cases m with
  |none=>rw[Sym.h6,av,Sym.et]
  |some v=>rw[Sym.et,av,Sym.et]
 have G:∀(c:Int) E a',a'.tmp 2= .pointer (some ⟨st.ag,0,none⟩)->E.h.get st.ag=some (.cells [.int .i64 c] t (0,0) false)->qe a' E [.cell 2 false 1]=some [.int .i64 c]:=λc E a' aE aK=>by
  show hN (a'.tmp 2) (λp=>bx p (λch=>E.load ch 1 (λcs=>cond false (some [.agg ⟨cs⟩])<|one cs (λv=>some [v]) none) none) none) none=_;rw[aE,lL,Sym.et];unfold ao.load ao.gy;rw[aK];rfl
 rcases aD with⟨aE,ah⟩|⟨c,aE,ah⟩
 .have aK:=aH _ aE;refine fin 0 ⟨L.h.set st.ag<|.cells [.int .i64 0] t (0,0) false,L.ag⟩ (Le A aL aM ai<|.cells [.int .i64 0] t (0,0) false) (ct _) (λb aa a3=>ar.fu _ _ J) ?_ ah;rw[aA,aw,aI,aK,Q0,xc,Sym.BA,FG,Q3,tC,Ld (by rwa [BS,tB]) o o T,xc,acS,Sym.BA];show lK (fS (cf aV (cm X bp)<|n+2) [.cell 2 false 1] none ((aN.put (some 5)<|.tuple #[]).put none undef) _) _ _=_;rw[fS,acO,acP,aO,acQ];simp[jJ];rw[aG];show lK (bx (qe _ _ _) _ _) _ _=_;rw[G 0 _ _ (by rwa [tB])<|ar.nO _ _ _];rfl
 .have aK:=aH _ aE;have ak:=Le (Le (Sq A<|.cells [.int .i64 0] aF (0,0) false) (λh=>by have:=A.lt _ h;omega) (by
   cases cl:bB L.ag with
   |none=>rfl
   |some R=>have:=A.aT cl;omega) (nI _)<|.cells [.int .i64 c] aF (0,0) false) aL aM (AB ai)<|.cells [.int .i64 c] t (0,0) false
  refine fin c _ ak (kB _) (λb aa a3=>?_) ?_ ah
  .show(ar.set (ar.set (ar.set L.h L.ag _) L.ag _) st.ag _).get b=_;rw[ar.fu _ _ J,ar.fu _ _ J,ar.fu _ _ J]
  rw[aA,aw,aI,aK,Q1];show lK (fS (cf aV (cm X bp)<|n+2) [.cell 2 false 1] (some _) aN L) _ _=_;rw[fS,aO];simp[jJ];rw[aG,ae2 T ai];show lK (bx (qe _ _ _) _ _) _ _=_;rw[G c _ _ aR<|ar.nO _ _ _];rfl
def ae6{N:Nat}(dY:N=n+3){f:d8}{aF:Nat}(a7:c7)(O:aV.get f=some a7)(F:aV.get g=some (xv cy t))(E:aV.get cy=some (xw aF))
 (k:∀H1 Z M,Z.length=own.length->cL aX H1->fz ⟨cf aV (cm X bp)<|n+1,n+1,f,H1,Z,M,ae4 ⟨cf aV (cm X bp) N,a8,fn,aX,i0,ax,Q⟩ K xs d e aF⟩ [] (.c a7.body) own aC (iJ 0 rN))
 (ae:bb e x=some (.fn (.func f) [] rN):=by rfl) (aw:a7.res=[]:=by rfl) (aI:rN.length<=a7.aR:=by exact jb o) (J:bp f=dT.no:=by rfl) (D:bp g=dT.no:=by rfl) (G:bp cy=dT.no:=by rfl):
 cE ⟨cf aV (cm X bp) N,a8,fn,aX,i0,ax,Q⟩ K (⟨d,.call (.func g) [x],none⟩::xs) own aC e:=
 ae5 dY a7 O F E (λH ids st cs ag hle U Y=>by
  have⟨W,e4,L,af,bB,a',s,V,A,C,aD⟩:=k H ids st ag hle H ids st (en cs) apk U<|cY.zero Y;have aa:iF (cf aV (cm X bp)<|n+1) (n+1) f a7 cs none st=cO.rec (λe I st=>c6.rec (fS (cf aV (cm X bp)<|n+1) [] none I st) (λ_=>.no) (fS (cf aV (cm X bp)<|n+1) [] none I st) (λv=>fS (cf aV (cm X bp)<|n+1) [] (some v) I st) e) .no (.out W e4 L):=by
   rw[<-af];rw[iF,l0,aA<|by rw[fi,gr Y];exact aI,aw];rfl
  have T:fS (cf aV (cm X bp)<|n+1) [] none e4 L= .ret (.tuple #[]) L false:=by
   rw[fS,C.pl.di,C.pl.cU];rfl
  refine⟨L,bB,a',s,V,A,?_⟩;rw[aa];obtain⟨h,ah⟩|⟨c,rfl,ah⟩:=aD
  .refine .inl ⟨?_,ah⟩;obtain rfl|rfl:=h
   .exact T
   .exact T
  .exact .inr ⟨c,Gf C.pl,ah⟩) ae J D G
end
section
variable{an:e2}{K:ac dC}{own:ac a0}{aC:Nat}{e:bV}{d:Tmp}{xs:ac bt}{x y:ce}
variable{α:Type}{bw dD:Nat}{el:d7}{l:ac α}
def ae7{z:Nat}{ak:α->ac ai}{neg:Bool}(bU:cE an K xs own aC ((d,.b neg)::e))(F:l=[]->cE an K xs own aC ((d,.b<|!neg)::e))(E:bb e x=some (.b8 z α ak l):=by rfl)(N:bb e y=some .nl:=by rfl):
 g2 an K d (.eqv neg .mu x y) xs own aC e:=λH ids st I O h D=>by
 have G:=D.aq N;have C:=D.aq E;have bc:bD an.call (.eqv neg .mu x y) I st=bx (sq (I.aq x)<|I.aq y) (λb=>.ok (.bool<|cond neg (!b) b) I st) .no:=rfl;rcases C with⟨aj,Y⟩|⟨aj,Y⟩|⟨b,R,c,ab,el,A,aW,Y,_⟩
 .have U:bD an.call (.eqv neg .mu x y) I st= .ok (.bool neg) I st:=by
   rw[bc,Y,G];cases neg<;>rfl
  exact aqw
 .have U:bD an.call (.eqv neg .mu x y) I st= .ok (.bool<|!neg) I st:=by
   rw[bc,Y,G];cases neg<;>rfl
  exact asX
 .have U:bD an.call (.eqv neg .mu x y) I st= .ok (.bool neg) I st:=by
   rw[bc,Y,G];cases neg<;>rfl
  exact aqw
def ae8{ak:α->ac ai}(N:bb s.env y=some (.b8 bw α ak [])):xq call el dD s y ak bw ([]:ac α):=λH ids st I U D x p n c O=>by
 have e:bD call (.app el bw dD x y) I st=h2 (I.aq x) (λbase len L=>h2 (I.aq y) (λb n _=>bx b (λb=>st.load b (Nat.mul n bw) (λnew=>cond (hk new) (j6 I st el bw dD base len L n new) .no) .no)<|dL n 0 (j6 I st el bw dD base len L 0 []) .no)<|so (I.aq y) (j6 I st el bw dD base len L 0 [])<|h1 (I.aq y) (λs=>dL bw 1 (j6 I st el bw dD base len L (dK s.data.toList)<|nN s.data.toList) .no) .no) .no:=rfl;have C:=D.aq N;refine⟨[],xp _ _ _ _,o,?_⟩;rw[e,O,qt];rcases C with⟨_,Y⟩|⟨_,Y⟩|⟨b,R,J,ab,F,E,aW,Y,_,G,_⟩
 .have h:∀(k:be Addr->Nat->Nat->a2) z,h2 (.chan none) k z=z:=λ_ _=>o;have T:∀a z:a2,so (.chan none) a z=a:=λ_ _=>o;simp only[Y,h,T];rfl
 .rw[Y,qt,Sym.h6,je o];rfl
 .rw[Y];show st.load ⟨b,R,none⟩ (0*bw) _ _=_;unfold ao.load ao.gy;rw[Sym.h6,U.le _ _ G,lf,jC,sQ<|dg _,Ip];have A:∀a z:a2,cond (hk []) a z=a:=λ_ _=>o;simp[A]
def ae9{a5 c:Nat}{aW:Bool}{ak:α->ac ai}(k:cE an K xs own aC ((d,.aL a5 bw 0 n c)::e))(N:bb e y=some (.b8 bw α ak []):=by rfl)(O:bb e x=some (.aL a5 bw 0 n c):=by rfl)(aB:own[a5]? =some (.a el aW bw α ak l):=by rfl)
 (Z:n<=c:=by omega) (ah:c<=l.length:=by first|omega|(simp;done)|(simp;omega)) (aa:(5*n+1792)*(dD+1)<=1125899906842624:=by omega):g2 an K d (.app el bw dD x y) xs own aC e:=e6 (R1 O aB (ae8 N) Z ah aa) k
end
section
variable{an:e2}{K:ac dC}{own bk bl:ac a0}{aC a4 b3:Nat}{e bc:bV}{d:Tmp}{xs:ac (bt×cz)}{x y:ce}
variable{el:d7}{bw dD cI:Nat}{α:Type}{c:Nat}{fN:ac a0}{l:ac α}
def Sr{a5 z R:Nat}(O:bb s.env x=some (.aL a5 z R n c))(j:Nat)(cq:a0)(a3:(bl.set a5 .x)[j]? =some cq)(aI:cq.live=true):bl[j]? =some cq/\g1 s.env (.app el bw dD x y)≠some j:=by
 have E:j≠a5:=λU=>by
  subst U;rw[mq]at a3;rw[aA o]at a3;split at a3
  .cases a3;cases aI
  .cases a3
 rw[nH λU=>E U.symm]at a3;refine⟨a3,λhm=>?_⟩;have:g1 s.env (.app el bw dD x y)=some a5:=by
  unfold g1;dsimp only;rw[O]
 rw[this]at hm;cases hm;exact E o
def Lf(ak:α->ac ai)(m:ac α)(M:nZ ⟨own,aC,e⟩ y ak bw m)(bE:dB an K xs bl (jt d bc) (a4+1) cI bk cI ((d,.aL aC bw 0 m.length m.length)::e))(O:bb e x=some .nl:=by rfl)
 (ay:ma own (.a el true bw α ak m) some=some bk:=by rfl) (F:mb aC some=some cI:=by rfl) (bS:m≠[]:=by first|rfl|simp) (aa:(5*m.length+1792)*(dD+1)<=1125899906842624:=by first|omega|(simp;done)|(simp;omega)):
 dB an K ((⟨some d,.app el bw dD x y,none⟩,.dJ)::xs) bl bc a4 b3 own aC e:=by
 have Y:=mE ay;have G:=nn F;cases Y;cases G;refine vq (KV O (vs M) bS aa) o (λj C A _=>⟨A,λhm=>?_⟩) bE;have:g1 e (.app el bw dD x y)=none:=by
  unfold g1;dsimp only;rw[O]
 rw[this]at hm;cases hm
def Lg{a5:Nat}{ak:α->ac ai}{D:ac a0}(m:ac α)(M:nZ ⟨own,aC,e⟩ y ak bw m)(bE:dB an K xs D (jt d bc) (a4+1) cI bk cI ((d,.aL aC bw 0 (n+m.length)<|n+m.length)::e))(O:bb e x=some (.aL a5 bw 0 n c):=by rfl)(aB:own[a5]? =some (.a el true bw α ak l):=by rfl)
 (a':gN own a5 .x some=some fN:=by rfl) (ay:ma fN (.a el true bw α ak<|l++m) some=some bk:=by rfl) (F:mb aC some=some cI:=by rfl) (N:D=bl.set a5 .x:=by rfl) (bS:m≠[]:=by first|rfl|simp) (aj:n=l.length:=by first|omega|(simp;done)|(simp;omega)) (Z:n=c:=by omega) (aa:(5*(n+m.length)+1792)*(dD+1)<=1125899906842624:=by first|omega|(simp;done)|(simp;omega)):
 dB an K ((⟨some d,.app el bw dD x y,none⟩,.dJ)::xs) bl bc a4 b3 own aC e:=by
 have V:=hR a';cases V;have Y:=mE ay;have G:=nn F;cases Y;cases G;subst N;have:=F8 (call:=an.call) O aB (vs M) bS J J J aa;rw[aj,nG]at this;rw[aj]at bE;refine vq this az (λj C A W=>?_) bE;have E:j≠a5:=λU=>by
  subst U;rw[mq,aA o]at A;split at A
  .cases A;cases W
  .cases A
 rw[nH λU=>E U.symm]at A;refine⟨A,λhm=>?_⟩;have:g1 e (.app el bw dD x y)=some a5:=by
  unfold g1;dsimp only;rw[O]
 rw[this]at hm;cases hm;exact E o
def afa{a5:Nat}{ak:α->ac ai}(m bq:ac α)(M:nZ ⟨own,aC,e⟩ y ak bw m)(bE:dB an K xs (bl.set a5 .x) (jt d bc) (a4+1) cI bk cI ((d,.aL aC bw 0 bq.length bq.length)::e))(bS:m≠[])(E:c<n+m.length)(aI:l.take n++m=bq)(aa:(5*(n+m.length)+1792)*(dD+1)<=1125899906842624)(O:bb e x=some (.aL a5 bw 0 n c):=by rfl)(aB:own[a5]? =some (.a el false bw α ak l):=by rfl)
 (ay:ma own (.a el true bw α ak bq) some=some bk:=by rfl) (F:mb aC some=some cI:=by rfl) (Z:n<=c:=by omega) (ah:c<=l.length:=by first|omega|(simp;done)|(simp;omega)):
 dB an K ((⟨some d,.app el bw dD x y,none⟩,.dJ)::xs) bl bc a4 b3 own aC e:=by
 have Y:=mE ay;have G:=nn F;cases Y;cases G;have V:n+m.length=bq.length:=by
  rw[<-aI,k4,kD];omega
 have:=R2 (call:=an.call) (s:=⟨own,aC,e⟩) (dD:=dD) O aB (vs M) bS Z E ah aa;rw[aI,V]at this;exact arO
def afb{a5:Nat}{ak:α->ac ai}(m bq:ac α)(M:nZ ⟨own,aC,e⟩ y ak bw m)(bE:dB an K xs (bl.set a5 .x) (jt d bc) (a4+1) cI bk cI ((d,.aL aC bw 0 bq.length bq.length)::e))(bS:m≠[])(aI:l++m=bq)(aa:(5*(l.length+m.length)+1792)*(dD+1)<=1125899906842624)(O:bb e x=some (.aL a5 bw 0 l.length l.length):=by rfl)(aB:own[a5]? =some (.a el true bw α ak l):=by rfl)
 (E:gN own a5 .x some=some fN:=by rfl) (ay:ma fN (.a el true bw α ak bq) some=some bk:=by rfl) (F:mb aC some=some cI:=by rfl):
 dB an K ((⟨some d,.app el bw dD x y,none⟩,.dJ)::xs) bl bc a4 b3 own aC e:=by
 have h:=hR E;cases h;have Y:=mE ay;have G:=nn F;cases Y;cases G;have V:l.length+m.length=bq.length:=by rw[<-aI,k4]
 have:=F8 (call:=an.call) (s:=⟨own,aC,e⟩) (dD:=dD) O aB (vs M) bS (ct _) (ct _) (ct _) aa;rw[nG,aI,V]at this;exact arO
end
section
variable{X:Ctx}{aV:ar c7}{bp:d8->dT}{a8 n:Nat}{fn:d8}{aX:bm}{i0:ac Nat}{ax:ao}{Q:c6->cg->Prop}{K:ac dC}{own:ac a0}{aC:Nat}{e:bV}
def np{g:d8}{S:da}(ah:eb X g S.spec){f:ce}{bJ:ac ce}{as b6 cs:ac ai}{d:Tmp}{xs:ac (bt×cz)}{bl:ac a0}{bc:bV}{a4 b3:Nat}(l:S.L)(hp:S.pre l)(k:dB (gf X aV bp n a8 fn aX i0 ax Q) K xs bl (jt d bc) (a4+1) aC own aC ((d,S.res l)::e))
 (D:bb e f=some (.fn (.func g) b6 cs):=by rfl) (bK:gM e bJ=some as:=by rfl) (he:fy (b6++(as++cs)) (S.args l):=by exact fy.refl _) (fO:g0 (b6++(as++cs))=true:=by rfl) (J:bp g=S.spec.K:=by rfl) (cl:S.hp aX:=by exact aP):
 dB (gf X aV bp n a8 fn aX i0 ax Q) K ((⟨some d,.call f bJ,none⟩,.dJ)::xs) bl bc a4 b3 own aC e:=
 F4 (d:=some d) (s:=⟨own,aC,e⟩) (Sf ah J l D bK fO he hp cl) o apz k
end
structure vz(l:Nat)(mI:d8)(n4:ar bv)(bd:ac Tmp)(ek body:dz)(pH:Nat)(tS:bV)(aX:bm)(i0:ac Nat)(ax:ao):Prop where
 get:ax.h.get l=some (.loop .ready none mI n4 bd ek body pH)
 lt:l<ax.ag
 tA:l∉i0
 aj:aX l=none
 env:cY ⟨n4,[],none,false,some l⟩ aX i0 tS
def vz.up{l:Nat}{mI:d8}{n4:ar bv}{bd:ac Tmp}{ek body:dz}{pH:Nat}{tS:bV}{aX H1:bm}{i0 Z:ac Nat}{ax M:ao}(h:vz l mI n4 bd ek body pH tS aX i0 ax)(O:cZ aX i0 ax H1 Z M):vz l mI n4 bd ek body pH tS H1 Z M:=
 ⟨(O.dZ l h.lt h.tA).trans h.get,fG h.lt O.ag,λhm=>(O.new l hm).elim h.tA λg=>absurd h.lt<|Nat.not_lt.2 g,(O.hold l h.lt h.tA).trans h.aj,h.env.mono O.hle O.jf⟩
section
variable{X:Ctx}{aV:ar c7}{bp:d8->dT}{a8 n:Nat}{fn:d8}{aX:bm}{i0:ac Nat}{ax:ao}{Q:c6->cg->Prop}{K:ac dC}{own:ac a0}{aC:Nat}{e:bV}
variable{l pH:Nat}{mI:d8}{n4:ar bv}{bd:ac Tmp}{ek body:dz}{tS:bV}
def afc{h4:bV}{y:ce}{bJ:ac ce}{as:ac ai}{d:be Tmp}{xs:ac bt}(aG:vz l mI n4 bd ek body pH tS aX i0 ax)
 (aH:∀H1 Z M,fz ⟨cf aV (cm X bp)<|n+1,n+1,mI,H1,Z,M,λx s=>x= .norm/\s=⟨own,aC,h4⟩⟩ [] (.c ek) own aC<|K8 bd as tS)
 (aE:∀H1 Z M,Z.length=own.length->cL aX H1->fz ⟨cf aV (cm X bp)<|n+1,n+1,mI,H1,Z,M,λx s=>x= .norm/\bP.ok ⟨cf aV (cm X bp)<|n+2,a8,fn,aX,i0,ax,Q⟩ ⟨K,.R xs,⟨s.own,s.n,ec d (.b true) e⟩⟩⟩ [] (.c body) own aC h4)
 (N:bb e y=some (.v<|.func (.yield l) #[] #[]):=by rfl) (bK:gM e bJ=some as:=by rfl) (V:as.length=bd.length:=by rfl):
 cE ⟨cf aV (cm X bp)<|n+2,a8,fn,aX,i0,ax,Q⟩ K (⟨d,.call y bJ,none⟩::xs) own aC e:=by
 intro H ids st I O U D;have cd:=D.dt bK;have A:=D.aq N;have C:=aG.up O;obtain⟨W,e4,ca,cy,H1,aL,M,G,F,Y,rfl,rfl⟩:=aH H ids st H ids st ⟨pw bd (dt I bJ) n4,[],none,false,some l⟩ (cZ.refl _ _ _) U<|C.env.par cd;cases G.jf.eq (U.len.trans F.len.symm);have J:=C.up G;obtain⟨aK,aM,E,bj,ak,al,aI,T,aw,aA,rfl,aB⟩:=aE H1 ids ⟨ca.h.set l<|.loop .busy none mI n4 bd ek body pH,ca.ag⟩ (F.len.trans F.cV.symm) (O.hle.trans G.hle) H1 ids _ e4 (cZ.refl _ _ _) (F.other J.lt J.tA J.aj<|.loop .busy none mI n4 bd ek body pH) Y;have aD:=(T.dZ l J.lt J.tA).trans<|ar.nO _ _ _;have av:=(T.hold l J.lt J.tA).trans J.aj;have ae:=fG J.lt T.ag;have az:=aw.other ae (λhm=>(T.new l hm).elim J.tA λg=>absurd J.lt<|Nat.not_lt.2 g) av<|.loop .ready none mI n4 bd ek body pH;have ah:cf aV (cm X bp) (n+2) (.func (.yield l) #[] #[]) (dt I bJ) none st= .ret (.bool true) ⟨E.h.set l<|.loop .ready none mI n4 bd ek body pH,E.ag⟩ false:=by
  have bc:cf aV (cm X bp) (n+2) (.func (.yield l) #[] #[]) (dt I bJ) none st=wM (cf aV (cm X bp)<|n+1) (n+1) l (dt I bJ) st:=rfl;rw[bc];rw[wM,C.get];show dL (dK<|dt I bJ) (dK bd) _ _=_;rw[je<|by rw[fi,fi,gr cd,V],cy];show yt (cf aV (cm X bp)<|n+1) (n+1) l mI body e4 ca=_;rw[yt,J.get];show(ca.hf l (.loop .busy none mI n4 bd ek body pH) λst=>rb l<|dh (cf aV (cm X bp)<|n+1) (n+1) mI body e4 st)=_;rw[jq,bj];exact aeK aA.pl.di aD
 have hle:=G.hle.trans T.hle;refine oM ?_ (aB ak al _ _ (O.trans ?_) az<|(D.mono hle T.jf).ec d o)
 .rw[vm,A];show lK (cf aV (cm X bp) (n+2) (.func (.yield l) #[] #[]) (dt I bJ) none st) _ _=_;rw[ah];rfl
 .have a':=G.ag;refine⟨hle,λb aa af=>(T.hold b (fG aa a') af).trans<|G.hold b aa af,λb aa af=>?_,cN a' T.ag,T.jf,λb aa=>(T.new b aa).imp id λg=>cN a' g⟩;by_cases L:b=l
  .subst L;rw[ar.nO];exact C.get.symm
  .rw[ar.fu _ _ L];apply(T.dZ b (fG aa a') af).trans;simpa[ar.fu _ _ L]using G.dZ b aa af
def vz.frame{o:bV}{H1:bm}{Z:ac Nat}{M:ao}(h:vz l mI n4 bd ek body pH tS aX i0 ax)(O:cZ aX i0 ax H1 Z M)(f:ac Nat)(F:qz f o tS)(D:∀m∈f,m<Z.length):vz l mI n4 bd ek body pH o H1 (pick f Z) M:=by
 have Y:=h.up O;refine⟨Y.get,Y.lt,λhm=>?_,Y.aj,⟨Y.env.pl,λj a A=>Kj f a<|Y.env.get j _<|F.get A⟩⟩;obtain⟨k,E⟩:=se.1 hm;obtain⟨m,_,N⟩:=tQ (λi k h=>D k<|fQ h) E;exact Y.tA<|fQ N
def afd(ld:be bv->ac a0->Prop)(res:ac gU)(x:c6)(s:cg):Prop:=((x= .norm\/x= .ret)/\(∃r,Fin.kO s res=some r)/\ld none s.own)\/∃v,x= .aY v/\ld (some v) s.own
theorem afe{st:ao}{I:aO}(a6:I.b7=none)(U:Fit H ids st own aC)(D:cY I H ids e){f:ce}{g:d8}{a7:c7}{rN:ac ai}(ld:be bv->ac a0->Prop)(O:aV.get g=some a7)(a3:bb e f=some (.fn (.func g) [] rN))(a1:bp g=dT.no)(bg:rN.length+1<=a7.aR)
 (aH:∀(M:ao) (l:Nat),ids.length=own.length->vz l fn I.t bd ek body st.ag e H ids M->
  fz ⟨cf aV (cm X bp)<|n+2,n+2,g,H,ids,M,afd ld a7.res⟩ [] (.c a7.body) own aC (iJ 0<|.v (.func (.yield l) #[] #[])::rN)):
 ∃(R:be bv) (al:ao) (bB:bm) (F:ac Nat) (bk:ac a0),dh (cf aV (cm X bp)<|n+3) a8 fn (.u3 f bd ek body) I st= .out (match R with|none=>.norm|some v=>.aY v) ⟨I.t,{target:=.collected st.ag,args:= #[]}::I.di,I.aY,I.cU,I.b7⟩ al/\
  cZ H ids st bB F al/\Fit bB F al bk bk.length/\ld R bk/\al.h.get st.ag=some (.j3<|some [])/\st.ag<al.ag/\bB st.ag=none/\st.ag∉F:=by
 obtain⟨ab,G,Z,W,a2⟩:=D.aq a3;subst W;have aj:∀b,st.ag<=b->H b=none:=λb aa=>by
  cases h:H b with
  |none=>rfl
  |some R=>have:=U.aT h;omega
 have aN:=(U.extra<|.j3<|some []).extra<|.loop .ready none fn I.t bd ek body st.ag;have ae:∀b,st.ag<=b->b∉ids:=λb aa hm=>by have:=U.lt _ hm;omega
 generalize T:(⟨(ar.set st.h st.ag<|.j3<|some []).set (st.ag+1)<|.loop .ready none fn I.t bd ek body st.ag,st.ag+1+1⟩:ao)=M at *;have aB:M.h.get (st.ag+1)=some (.loop .ready none fn I.t bd ek body st.ag):=by rw[<-T];show(ar.set _ (st.ag+1) _).get (st.ag+1)=_;exact ar.nO _ _ _
 have aM:M.h.get st.ag=some (.j3<|some []):=by
  rw[<-T,ar.fu _ _ J,ar.nO]
 have aL:∀b,b<st.ag->M.h.get b=st.h.get b:=λb aa=>by
  rw[<-T,ar.fu _ _ J,ar.fu _ _ J]
 have b':M.ag=st.ag+2:=by rw[<-T]
 have aZ:=aH M (st.ag+1) (U.len.trans U.cV.symm) ⟨aB,J,ae _<|kB _,aj _<|kB _,⟨sA,D.get⟩⟩;have aA:cT H (.v (.func (.yield<|st.ag+1) #[] #[])::rN) ids (.func (.yield<|st.ag+1) #[] #[]::G):=⟨_,G,o,o,a2⟩;have fin:∀(R:be bv) E bB F (s:cg) r,iF (cf aV (cm X bp)<|n+2) (n+2) g a7 (.func (.yield<|st.ag+1) #[] #[]::G) none M=r->cZ H ids M bB F E->Fit bB F E s.own s.n->ld R s.own->
  (∃v,(R=none/\r= .ret v E false)\/(R=some v/\r= .aY v E false))->∃(R:be bv) (al:ao) (bB:bm) (F:ac Nat) (bk:ac a0),dh (cf aV (cm X bp)<|n+3) a8 fn (.u3 f bd ek body) I st= .out (match R with|none=>.norm|some v=>.aY v) ⟨I.t,{target:=.collected st.ag,args:= #[]}::I.di,I.aY,I.cU,I.b7⟩ al/\
  cZ H ids st bB F al/\Fit bB F al bk bk.length/\ld R bk/\al.h.get st.ag=some (.j3<|some [])/\st.ag<al.ag/\bB st.ag=none/\st.ag∉F:=by
  intro R E bB F s r aw a' ah hp ay;have bf:=a'.ag;have ah:Fit bB F E s.own s.own.length:=by rwa [ah.cV]
  have aG:st.ag∉F:=λhm=>(a'.new _ hm).elim (ae _<|ct _) λg=>J
  have a9:=(a'.dZ _ J<|ae _<|kB _).trans aB;have ak:=(a'.dZ _ J<|ae _<|ct _).trans aM;have aK:=(a'.hold _ J<|ae _<|kB _).trans<|aj _<|kB _;have au:=(a'.hold _ J<|ae _<|ct _).trans<|aj _<|ct _;have aE:cZ H ids st bB F E:=⟨a'.hle,λb aa af=>a'.hold b J af,λb aa af=>(a'.dZ b J af).trans<|aL b aa,J,a'.jf,λb aa=>(a'.new b aa).imp id λg=>J⟩;have L:dh (cf aV (cm X bp)<|n+3) a8 fn (.u3 f bd ek body) I st=O5 (st.ag+1) ⟨I.t,{target:=.collected st.ag,args:= #[]}::I.di,I.aY,I.cU,I.b7⟩ r:=by
   show A5 (cf aV (cm X bp)<|n+3) fn f bd ek body I st=_;unfold A5;rw[a6,Sym.h6,gV,gV,Z,nT];have bc:e8 (#[]:bi bv).toList (e8 [Value.func (.yield<|st.ag+1) #[] #[]] (⟨G⟩:bi bv).toList)=Value.func (.yield<|st.ag+1) #[] #[]::G:=az
   rw[bc,ze a1,Sym.h6,Sym.h6,O,Sym.et];rw[T,aw]
  obtain⟨v,⟨rfl,rfl⟩|⟨rfl,rfl⟩⟩:=ay
  .refine⟨none,⟨E.h.set (st.ag+1)<|.loop .exhausted none fn I.t bd ek body st.ag,E.ag⟩,bB,F,s.own,?_,aE.other J _,ah.other J (λhm=>(a'.new _ hm).elim (ae _<|kB _) λg=>J) aK _,hp,?_,by show st.ag<E.ag;omega,au,aG⟩
   .rw[L];show na (E.h.get<|st.ag+1) _ _=_;rw[a9];show(E.hf (st.ag+1) (.loop .exhausted none fn I.t bd ek body st.ag) λal=>bx none (λe=>cO.out e _ al)<|cO.out .norm _ al)=_;rw[jq];rfl
   .show(ar.set E.h (st.ag+1) _).get st.ag=_;rw[ar.fu _ _ J];exact ak
  .exact⟨some v,E,bB,F,s.own,L,aE,ah,hp,ak,J,au,aG⟩
 rcases FI (ld:=λv al=>∃(bB:bm) (F:ac Nat) (s:cg),cZ H ids M bB F al/\Fit bB F al s.own s.n/\ld none s.own)
  (Kd:=λv al=>∃(bB:bm) (F:ac Nat) (s:cg),cZ H ids M bB F al/\Fit bB F al s.own s.n/\ld (some v) s.own)
  (by rwa [gr aA]) ((aZ H ids M (en _) (cZ.refl _ _ _) aN<|cY.zero aA).mono (by
   rintro x e4 ca ⟨bB,F,s,V,A,C,⟨O,⟨r,aw⟩,hp⟩|⟨v,rfl,hp⟩⟩
   .obtain⟨v,N,bh⟩:=rK (call:=cf aV (cm X bp)<|n+2) A C aw
    grind
   .exact .inr ⟨v,o,Gf C.pl,bB,F,s,V,A,hp⟩))with⟨v,E,Y,bB,F,s,V,A,hp⟩|⟨v,E,Y,bB,F,s,V,A,hp⟩
 .exact fin none E bB F s _ Y V A hp ⟨v,.inl e9⟩
 .exact fin (some v) E bB F s _ Y V A hp ⟨v,.inr e9⟩
end
variable{I:aO}{a8:Nat}{ops:ac bt}
def Gg:dm->Bool
 |.jF _=>true
 |.alloc _ _=>true
 |.call _ _=>true
 |.ix _=>true
 |_=>false
def aff{a:ce}{st:ao}:bD call (.ix a) I st= .no\/∃v,bD call (.ix a) I st= .ok v I st:=by
 rw[J9];cases I.aq a<;>first|exact .inl o|skip
 rename_i p;cases p with
 |none=>exact .inl o
 |some ch=>
  have⟨b,R,sp⟩:=ch;cases sp with
  |some _=>exact .inl o
  |none=>
   show yr (st.h.get b) _ _=_\/∃v,yr (st.h.get b) _ _=_;cases st.h.get b with
   |none=>exact .inl o
   |some q=>
    cases q<;>first|exact .inl o|skip
    rename_i cs _ _ _;show hX cs R 1 _ _=_\/∃v,hX cs R 1 _ _=_;rw[hX];cases Eo 1 (Ep R cs)with
    |none=>exact .inl o
    |some ab=>
     cases ab with
     |nil=>exact .inl o
     |cons v ab=>
      cases ab with
      |nil=>exact .inr ⟨v,o⟩
      |cons _ _=>exact .inl o
def afg{R:dm}{D:aO}{st al:ao}(ay:Gg R=true)(h:bD call R I st= .ok v D al):D=I:=by
 cases R<;>first|cases ay|skip
 .cases h;rfl
 .exact ao9
 .rename_i a;obtain g|⟨v1,g⟩:=aff
  .rw[g]at h;cases h
  .rw[g]at h;cases h;rfl
 .rename_i f as;rw[vm]at h;cases ah:call (I.aq f) (dt I as) none st with
  |ret v1 ca O=>rw[ah]at h;cases h;rfl
  |_=>rw[ah]at h;cases h
theorem Ss{call:bR}:∀{ops:ac bt} {I L:aO} {st al:ao} {e:c6},(ops.all λx=>x.g.isNone&&Gg x.R)=true->gz call ops I st= .out e L al->L.b7=I.b7
 |[],_,_,_,_,_,_,h=>by cases h;rfl
 |⟨d,R,g⟩::ops,I,L,st,al,e,bK,h=>by
  rw[x7,cQ,cQ]at bK;obtain⟨⟨F,ay⟩,bK⟩:=bK;cases g with
  |some p=>cases F
  |none=>
   have h:sN (bD call R I st) (λv I st=>gz call ops (I.put d v) st) (λv st=>cond R.lE (.out (.aY v) I st) .no)= .out e L al:=h;cases J:bD call R I st with
   |ok v e4 ca=>
    cases afg ay J;rw[J]at h;simpa[Ss bK h]using(re _ _ _).2.2.2
   |aY v ca=>
    rw[J,QZ]at h
    grind
   |no=>rw[J]at h;cases h
def afh{fn:d8}{st:ao}(Q:c6->cg->Prop)(hp:(ops.all λx=>x.g.isNone&&Gg x.R)=true)(h:∀H1 Z M,Z.length=s.own.length->cL H H1->bP.ok ⟨call,a8,fn,H1,Z,M,Q⟩ ⟨[],.R ops,s⟩)
 (U:Fit H ids st s.own s.n) (D:cY I H ids s.env):∃x L al bB F J,dh call a8 fn (.gx ops) I st= .out x L al/\cZ H ids st bB F al/\Fit bB F al J.own J.n/\cY L bB F J.env/\L.b7=I.b7/\Q x J:=by
 have⟨e,L,al,Y,bB,F,J,O,A,C,aD⟩:=h H ids st (U.len.trans U.cV.symm) apv H ids st I apk U D;exact⟨e,L,al,bB,F,J,Y,O,A,C,Ss hp Y,aD⟩
theorem Lh{fn:d8}{t:cg}{st:ao}(hp:(ops.all λx=>x.g.isNone&&Gg x.R)=true)(h:∀H1 Z M,Z.length=s.own.length->cL H H1->bP.ok ⟨call,a8,fn,H1,Z,M,λx J=>x= .norm/\J=t⟩ ⟨[],.R ops,s⟩)
 (U:Fit H ids st s.own s.n) (D:cY I H ids s.env):∃L al bB F,dh call a8 fn (.gx ops) I st= .out .norm L al/\cZ H ids st bB F al/\Fit bB F al t.own t.n/\cY L bB F t.env/\L.b7=I.b7:=by
 obtain⟨_,L,al,bB,F,_,Y,G,C,N,A,rfl,rfl⟩:=afh _ hp h U D
 grind
def cb{own os:ac a0}{p aR:Nat}{f:ac Nat}{e U:bV}(hp:pinned p f 0=true:=by rfl)(aE:sS f own f os:=by repeat first|exact aP|refine⟨fJ,?_⟩|refine⟨jU,?_⟩|refine⟨⟨_,o,aP⟩,?_⟩)(aK:qz f U e:=by repeat first|exact aP|refine⟨o,?_⟩)(cd:f.Nodup:=by decide)(aI:aR=f.length:=by rfl):Sub p f ⟨own,n,e⟩ ⟨os,aR,U⟩:=⟨cd,aI,aE,aK,hp⟩
section
variable{an:e2}{K:ac dC}{own bl:ac a0}{aC a4 b3 back:Nat}{e bc:bV}{d:Tmp}{aF:ac Tmp}{xs:ac (bt×cz)}{x:ce}
theorem ed{a5 z j q m:Nat}{el:d7}{aW:Bool}{α:Type}{ak:α->ac ai}{l:ac α}(w:α){cs:ac ai}(a3:l[j]? =some w)(k:dB an K xs bl ((d,.agg cs)::bc) a4 b3 own aC ((d,.agg cs)::e))(O:bb (eF aF bc) x=some (.fb a5 z j q):=by rfl)(aB:bl[a5]? =some (.a el aW z α ak l):=by rfl)(aD:rF (ak w) q m (λl=>some l)=some cs:=by rfl)(aa:back<a4:=by decide):dB an K ((⟨some d,.m9 m x,none⟩,.read back aF)::xs) bl bc a4 b3 own aC e:=
 mF aa (λH ids st I D W ay=>by
  obtain⟨b,Y,G⟩:=D.aq O;obtain⟨ab,C,N,h⟩:=ay a5 _ b aB o Y;have cd:=h j w a3;obtain⟨ah,A⟩:=xi aD;cases A;have T:=sP m<|nW q cd;have W:=gr cd;rw[kD]at W;rw[m5]at ah;have e:((List.take z<|List.drop (j*z) ab).drop q).take m=(ab.drop<|j*z+q).take m:=by
   rw[Az,uO,DE,kh J]
  rw[e]at T;exact⟨_,⟨_,o,T⟩,λL _ M=>B2 G ((M a5 _ b aB o Y).trans C) aoM⟩) k
end
section
variable{X:Ctx}{aV:ar c7}{bp:d8->dT}{a8 n:Nat}{fn:d8}{aX:bm}{i0:ac Nat}{ax:ao}{Q:c6->cg->Prop}{K:ac dC}{own bk:ac a0}{aC:Nat}{e:bV}
theorem afi{g:d8}{S:da}(ah:eb X g S.spec){bJ:ac ce}{as:ac ai}{d:Tmp}{xs:ac (bt×cz)}{bl:ac a0}{bc:bV}{a4 b3 z m c:Nat}{el:d7}{cs:ac ai}{α:Type}(ak:α->ac ai)(t a5:Nat)(G:ac α)(l:S.L)(hp:S.pre l)
 (k:dB (gf X aV bp n a8 fn aX i0 ax Q) K xs (bl.map λ_=>.x) (jt d bc) (a4+1) aC bk aC ((d,S.res l)::e))
 (aN:dx e t=some (.aL a5 z 0 m c):=by rfl) (aB:own[a5]? =some (.c el cs):=by rfl) (Y:cs=G.flatMap ak:=by rfl) (hm:G.length=m:=by rfl) (M:m<=c:=by exact ct _) (aH:∀w,(ak w).length=z:=by exactλ_=>o) (a':∀x,g0 (ak x)=true:=by exactλ_=>o) (ay:gN own a5 .x some=some bk:=by rfl)
 (bK:gM ((t,.bs z α ak G)::e) bJ=some as:=by rfl) (he:fy as (S.args l):=by exact fy.refl _) (fO:g0 as=true:=by rfl) (N:bp g=S.spec.K:=by rfl) (cl:S.hp aX:=by first|exact aP|assumption):
 dB (gf X aV bp n a8 fn aX i0 ax Q) K ((⟨some d,.call (.func g) bJ,none⟩,.dJ)::xs) bl bc a4 b3 own aC e:=by
 have V:=hR ay;cases V;refine Gd (d:=some d) (s:=⟨own,aC,e⟩) (λH ids st I O U D=>?_) k;have aT:=(dG.1 aB).1;obtain⟨H1,Z,W,cy,hle⟩:=RO (an:=(gf X aV bp n a8 fn aX i0 ax Q)) (aW:=false) (l:=G) G aN (AD aT) (by rw[kC,pn J]) hm M a' O (RR G aB Y aH U) D;rw[List.set_set]at W;obtain⟨v,al,F,bB,T,cW,A,C,h,E,tT,_⟩:=KZ (s:=⟨own.set a5 .x,aC,(t,.bs z α ak G)::e⟩) (n:=n) ah N l bK fO he hp cl H1 ids st I Z.hle W cy;exact⟨v,al,F,bB,T,cW,A,hle.trans C,h,E _ _ _ Z,tT⟩
end
section
variable{an:e2}{K:ac dC}{own bk:ac a0}{aC:Nat}{e:bV}
def Li(a5:Nat){z:Nat}{el:d7}{aW:Bool}{α F:Type}{ak:α->ac ai}{l:ac α}(S:F->ac ai)(m:ac F){p:ac bt}(bE:cE an K p bk aC e)(aI:m.length=l.length)(hle:∀(i:Nat) (x:α) (y:F),l[i]? =some x->m[i]? =some y->fy (ak x) (S y))
 (aB:own[a5]? =some (.a el aW z α ak l):=by rfl) (ay:gN own a5 (.a el aW z F S m) some=some bk:=by rfl):cE an K p own aC e:=λH ids st I O U D=>by
 have Y:=hR ay;cases Y;refine bE H ids st I O ⟨U.wf,U.le,by simp[U.cV],U.len,U.c2,U.lt,?_⟩ D;intro j q c A ah;rw[mq]at A;by_cases E:a5=j
 .subst E;rw[aA o]at A;split at A<;>cases A;obtain⟨⟨ab,C,h,J⟩,G⟩:=U.own a5 _ c aB ah;refine⟨⟨ab,C,by rw[aI];exact h,λi y N=>?_⟩,λ_=>G o⟩;have af:i<l.length:=by rw[<-aI];exact(dG.1 N).1
  exact(hle i l[i] y (ba af) N).den<|J i l[i]<|ba af
 .rw[au E]at A;exact U.own j q c A ah
end
section
variable{X:Ctx}{aV:ar c7}{bp:d8->dT}{a8 n:Nat}{fn:d8}{aX:bm}{i0:ac Nat}{ax:ao}{Q:c6->cg->Prop}{K:ac dC}{own:ac a0}{aC:Nat}{e:bV}
def afj{g:d8}(a7:c7)(O:aV.get g=some a7){f:ce}{bJ:ac ce}{as b6 cs:ac ai}{d:be Tmp}{xs:ac bt}
 (k:∀H1 Z M,Z.length=own.length->cL aX H1->fz ⟨cf aV (cm X bp)<|n+1,n+1,g,H1,Z,M,R8 ⟨cf aV (cm X bp)<|n+2,a8,fn,aX,i0,ax,Q⟩ K xs d e a7.res⟩ [] (.c a7.body) own aC (iJ 0<|b6++(as++cs)))
 (D:bb e f=some (.fn (.func g) b6 cs):=by rfl) (bK:gM e bJ=some as:=by rfl) (aI:(b6++(as++cs)).length<=a7.aR:=by exact jb o) (J:bp g=dT.no:=by rfl):cE ⟨cf aV (cm X bp)<|n+2,a8,fn,aX,i0,ax,Q⟩ K (⟨d,.call f bJ,none⟩::xs) own aC e:=by
 intro H ids st I h U C;have af:den H (.fn (.func g) b6 cs) ids (I.aq f):=C.aq D;obtain⟨ab,G,a',W,aa⟩:=af;have cd:=tH W<|tH (C.dt bK) aa;have ae:=k H ids st (U.len.trans U.cV.symm) h.hle H ids st (en<|ab++(dt I bJ++G)) apk U<|cY.zero cd;obtain⟨v,al,Y,r,bB,F,s,V,A,T,E⟩:=FH (n:=n+1) (f:=g) (ld:=λv al=>∃(r:ai) (bB:bm) (F:ac Nat) (s:cg),cZ H ids st bB F al/\Fit bB F al s.own s.n/\den bB r F v/\cE ⟨cf aV (cm X bp)<|n+2,a8,fn,aX,i0,ax,Q⟩ K xs s.own s.n (ec d r e))
  (by rw[gr cd];exact aI) (ae.mono (by
   rintro x e4 ca ⟨bB,F,s,V,A,C,O,r,aw,E⟩;obtain⟨v,L,N⟩:=rK (call:=cf aV (cm X bp)<|n+1) A C aw;exact⟨O,v,N,r,bB,F,s,V,A,L,E⟩))
 refine oM (v:=v) (al:=al) ?_ (E bB F al _ (h.trans V) A<|(C.mono V.hle V.jf).ec d T);rw[vm,a'];show lK (cf aV (cm X bp) (n+2) (.func (.func g) ⟨ab⟩ ⟨G⟩) (dt I bJ) none st) _ _=_;rw[nT];have bc:e8 (⟨ab⟩:bi bv).toList (e8 (dt I bJ) (⟨G⟩:bi bv).toList)=ab++(dt I bJ++G):=az
 rw[bc,ze J,Sym.h6,Sym.h6,O,Sym.et,Y];rfl
end
variable{bk:ac a0}
def Ck(f:ac Nat)(bk:ac a0):ac Nat->ac a0->Prop
 |[],[]=>True
 |k::cn,R::os=>(∃cq,bk[k]? =some cq/\n3 f R cq)/\Ck f bk cn os
 |_,_=>False
def Ck.get{f:ac Nat}:∀{cn:ac Nat} {os:ac a0},Ck f bk cn os->∀{i k:Nat} {cq:a0},cn[i]? =some k->bk[k]? =some cq->∃R,os[i]? =some R/\n3 f R cq
 |[],[],_,i,_,_,h,_=>by simp at h
 |[],_::_,h,_,_,_,_,_=>h.elim
 |_::_,[],h,_,_,_,_,_=>h.elim
 |k::cn,R::os,⟨⟨q,aE,aK⟩,_⟩,0,_,_,h,D=>by
  cases h;rw[aE]at D;cases D;exact⟨R,o,aK⟩
 |k::cn,R::os,⟨_,C⟩,i+1,_,_,h,D=>Ck.get C apA D
def afk{f:ac Nat}{own os:ac a0}(aE:∀j,j<own.length->j∉f->bk[j]? =own[j]?)(aK:Ck f bk f os:=by repeat first|exact aP|refine⟨fJ,?_⟩|refine⟨jU,?_⟩)(aI:bk.length=own.length:=by rfl):vt f own bk os:=by
 refine⟨aI,λj A=>?_,λi k C h D=>aK.get h D⟩;by_cases aT:j<own.length
 .exact aE j aT A
 .rw[td J,td J]
section
variable{X:Ctx}{aV:ar c7}{bp:d8->dT}{a8 n:Nat}{fn:d8}{aX:bm}{i0:ac Nat}{ax:ao}{Q:c6->cg->Prop}{K:ac dC}{own bk:ac a0}{aC:Nat}{e:bV}{g:d8}{S:gh}
variable{zf:ce}{bJ:ac ce}{as b6 cs:ac ai}
def afl(ah:eb X g S.spec)(f:ac Nat)(l:S.L)(hp:S.pre l)(cl:S.hp aX)
 (M:Sub 0 f ⟨own,aC,e⟩ ⟨S.own l,(S.own l).length,[]⟩) (aa:vt f own bk (S.bk l)) (a3:bb e zf=some (.fn (.func g) b6 cs))
 (bK:gM e bJ=some as) (he:b6++(as++cs)=kM f (S.args l)) (J:bp g=S.spec.K) {H:bm} {ids:ac Nat} {st:ao} {I:aO} (O:cZ aX i0 ax H ids st) (U:Fit H ids st own aC) (D:cY I H ids e):
 ∃v al F bB,bD (cf aV (cm X bp)<|n+1) (.call zf bJ) I st= .ok v I al/\Fit bB F al bk aC/\den bB (jQ f<|S.res l) F v/\cL H bB/\ck ids F/\cZ aX i0 ax bB F al/\st.ag<=al.ag:=by
 have aE:=M.fit U;have a5:den H (.fn (.func g) b6 cs) ids (I.aq zf):=D.aq a3;obtain⟨ab,aH,Z,aY,aZ⟩:=a5;have ak:=tH aY<|tH (D.dt bK) aZ;rw[he]at ak;have cd:=tE f _ ak;obtain⟨v,al,Y,G⟩:=ah _ st ⟨(l,H,pick f ids),hp,S.hm O.hle cl,aE,cd⟩;obtain⟨v1,ca,cy,av⟩:=xd (X:=X) (K:=bp) (f:=g) ⟨v,al,by rw[J];exact Y,G⟩;rw[J]at av;obtain⟨bB,a',V,aA⟩:=av (l,H,pick f ids) ⟨hp,S.hm O.hle cl,aE,cd⟩;simp only at a' V aA;have aT:∀k m:Nat,f[k]? =some m->m<ids.length:=λk m E=>by
  have W:(S.own l).length=f.length:=M.own.len;have Y:=(dG.1 E).1;obtain⟨a9,b',G,C,_⟩:=M.own.get<|ba (show k<(S.own l).length by omega);exact arG
 have aL:∀(j b:Nat),j∉f->ids[j]? =some b->b∉pick f ids:=λj b A aa hm=>by
  obtain⟨k,E⟩:=se.1 hm;obtain⟨m,C,N⟩:=tQ aT E;have aw:=dG.1 aa;have T:=dG.1 N;have:=(uP (h₀:=aw.1) (h₁:=T.1) U.c2).1<|aw.2.trans T.2.symm;exact A<|this▸fQ C
 have bj:cf aV (cm X bp) (n+1) (I.aq zf) (dt I bJ) none st= .ret v1 ca false:=by
  rw[Z,nT];have e:e8 (⟨ab⟩:bi bv).toList (e8 (dt I bJ) (⟨aH⟩:bi bv).toList)=ab++(dt I bJ++aH):=az
  rw[e,cy];rfl
 have hle:cL H bB:=V.hle;refine⟨v1,ca,ids,bB,?_,?_,K2 aT _ aA,hle,ck.refl _,?_,V.ag⟩
 .rw[vm,bj];rfl
 .obtain⟨a1,a0,aP⟩:=aa;refine⟨a'.wf,a'.le,by rw[a1];exact U.cV,U.len,U.c2,λb aa=>fG (U.lt b aa) V.ag,λj R b A ae=>?_⟩;by_cases ai:j∈f
  .obtain⟨i,af⟩:=se.1 ai;obtain⟨qC,aN,a2⟩:=aP i j R af A;have aM:=tD af ae;obtain⟨C,N⟩:=a'.own i qC b aN aM;obtain⟨aQ,aR⟩:=a2.den aT C;exact⟨aQ,λW=>N<|by rw[<-aR];exact W⟩
  .have A:bk[j]? =some R:=A;rw[a0 j ai]at A;obtain⟨C,N⟩:=U.own j R b A ae;have aG:=U.lt b<|fQ ae;have aK:=aL j b ai ae;rw[V.dZ b aG aK];exact ath ath
 .have a6:∀b,b∈pick f ids->b∈ids:=λb aa=>by
   exact aqY
  have aB:∀b,b<ax.ag->b∉i0->b∉pick f ids:=λb aa aj hm=>by
   rcases O.new b (a6 b hm)with h|h
   .exact aj h
   .have h:ax.ag<=b:=h;omega
  refine⟨O.hle.trans hle,λb aa aj=>?_,λb aa aj=>?_,cN O.ag V.ag,O.jf,O.new⟩
  .rw[V.hold b arz<|aB b aa aj];exact O.hold b aa aj
  .rw[V.dZ b arz<|aB b aa aj];exact O.dZ b aa aj
theorem afm(ah:eb X g S.spec){d:be Tmp}{xs:ac bt}(f:ac Nat)(l:S.L)(hp:S.pre l)
 (k:cE (gf X aV bp n a8 fn aX i0 ax Q) K xs bk aC (ec d (jQ f<|S.res l) e)) (M:Sub 0 f ⟨own,aC,e⟩ ⟨S.own l,(S.own l).length,[]⟩) (aa:vt f own bk (S.bk l)) (o:bb e zf=some (.fn (.func g) b6 cs):=by rfl)
 (bK:gM e bJ=some as:=by rfl) (he:b6++(as++cs)=kM f (S.args l):=by rfl) (J:bp g=S.spec.K:=by rfl) (cl:S.hp aX:=by first|exact aP|assumption):
 cE (gf X aV bp n a8 fn aX i0 ax Q) K (⟨d,.call zf bJ,none⟩::xs) own aC e:=λH ids st I O U D=>by
 obtain⟨v,al,F,bB,W,cW,A,C,h,E,_⟩:=afl (n:=n) ah f l hp cl M aa o bK he J O U D;exact oM W<|k bB F al _ E cW<|(D.mono C h).ec d A
end
end Go.bI
namespace Go.bI
variable{X:Ctx}
variable{b g:Nat}{gs:ac (Nat×bG)}{p:Nat×bG}
def oQ(g n:Nat):bN:=λi=>if i<g then some ⟨i,0,0,eU⟩else if n<=i/\i<2*n then some ⟨i-n,0,0,eU⟩else none
def sX(W:d9)(b:Nat):Bool:=match W.heap[b]? with
 |some (.cells _ _ _)=>true
 |_=>false
theorem St{W:d9}(h:sX W b=true):∃C el D,W.heap[b]? =some (.cells C el D):=by
 rw[sX]at h
 grind
def jV(W:d9):bv->bv
 |.bool b=>.bool b
 |.int k m=>.int k m
 |.string s=>.string s
 |.slice none l c=>.slice none l c
 |.slice (some a) l c=>if sX W a.block=true/\a.spot=none then .slice (some ⟨W.heap.size+a.block,a.off,none⟩) l c else(match l with|0=>.chan none|_=>jG)
 |.pointer none=>.pointer none
 |.pointer (some a)=>if a.block<W.heap.size/\a.spot=none then .pointer (some ⟨W.heap.size+a.block,a.off,none⟩)else jG
 |_=>jG
theorem Lj{n:Nat}(F:g<=n)(aa:b<n):oQ g n (n+b)=some ⟨b,0,0,eU⟩:=by
 rw[oQ]
 grind
def Lk{W:d9}(F:g<=W.heap.size)(v:bv):bo (oQ g W.heap.size) (jV W v) v:=by
 cases v with
 |slice a l c=>
  cases a with
  |none=>exact .kl _ _
  |some a=>
   show bo _ (if sX W a.block=true/\a.spot=none then Value.slice (some ⟨W.heap.size+a.block,a.off,none⟩) l c else(match l with|0=>.chan none|_=>jG)) _;split
   .rename_i h;have⟨b,R,sp⟩:=a;have⟨Y,G⟩:=h;subst G;have⟨_,_,_,C⟩:=St Y;have:=bo.fv ⟨W.heap.size+b,R,none⟩ ⟨b,0,0,eU⟩ R l c (Lj F (uK.1 C).1) o<|.inl az;exact this
   .split
    .exact .emp _ _
    .exact .top _
 |pointer a=>
  cases a with
  |none=>exact .lG
  |some a=>
   show bo _ (if a.block<W.heap.size/\a.spot=none then Value.pointer (some ⟨W.heap.size+a.block,a.off,none⟩)else jG) _;split
   .rename_i h;have⟨b,R,sp⟩:=a;have⟨Y,G⟩:=h;subst G;have:=bo.ptr ⟨W.heap.size+b,R,none⟩ ⟨b,0,0,eU⟩ (Lj F Y) o;exact aoX
   .exact .top _
 |bool b=>exact .bool b
 |int k m=>exact .int k m
 |string s=>exact .string s
 |_=>exact .top _
theorem Su{g:Nat}{W:d9}(F:g<=W.heap.size):∀ab:ac bv,bO (oQ g W.heap.size) (ab.map<|jV W) ab
 |[]=>.nil _
 |v::ab=>.cons (Lk F v)<|Su F ab
theorem Ll:∀(us:ac (Nat×bG)) (h:ar bG) (k:Nat),(∀p∈us,p.1≠k)->(lb us h).get k=h.get k
 |[],_,_,_=>rfl
 |u::us,h,k,aj=>by
  rw[Fz,Ll us _ k λp hp=>aj p<|e3 _ hp,ar.eP,au λe=>aj u gT e.symm]
theorem Sv:∀(us:ac (Nat×bG)) (h:ar bG) (k:Nat) (R:bG),(us.map (·.1)).Nodup->(k,R)∈us->(lb us h).get k=some R
 |u::us,h,k,R,cd,hm=>by
  rw[j2,uQ]at cd;rw[Fz];obtain rfl|hm:=fg.1 hm
  .rw[Ll us _ k λp hp e=>cd.1<|e▸db.2 ast,ar.eP,aA o]
  .exact Sv us _ k R cd.2 hm
def xx(W:d9)(b:Nat):be Obj->be (Nat×bG)
 |some (.cells C el _)=>some (W.heap.size+b,.cells (C.toList.map<|jV W) el (0,C.size+1) false)
 |_=>none
def Cl(W:d9):ac (Nat×bG):=(List.range W.heap.size).filterMap λb=>xx W b W.heap[b]?
def jW(gs:ac (Nat×bG))(W:d9):ar bG:=lb (Cl W)<|lb gs .nil
theorem Gh{W:d9}:p∈Cl W↔∃b,b<W.heap.size/\xx W b W.heap[b]? =some p:=by
 rw[Cl]
 grind
def Cm{W:d9}{R:be Obj}(h:xx W b R=some p):p.1=W.heap.size+b:=by
 unfold xx at h;split at h
 .cases h;rfl
 .cases h
def afn(W:d9):((Cl W).map (·.1)).Nodup:=by
 rw[Cl,List.map_filterMap];refine List.Pairwise.filterMap _ ?_ List.nodup_range;intro a b F x O y N e;obtain⟨p,Y,rfl⟩:=ot.1 O;obtain⟨q,G,rfl⟩:=ot.1 N;rw[Cm Y,Cm G]at e;omega
def afo{W:d9}(h:g<W.heap.size):(jW gs W).get g=(lb gs .nil).get g:=
 Ll _ _ _ λp hp=>by
  have⟨b,_,e⟩:=Gh.1 hp;rw[Cm e];omega
theorem afp{W:d9}(a':X.a6<=W.heap.size)(h:∀p∈gs,yW X.a6 W p):bZ X (oQ X.a6 W.heap.size) ⟨jW gs W,2*W.heap.size⟩ W:=by
 have hle:(FB X.a6).le (oQ X.a6 W.heap.size):=λi l G=>by
  unfold FB at G;unfold oQ
  grind
 have Z:∀i l,oQ X.a6 W.heap.size i=some l->l.bM=eU/\l.cA<W.heap.size/\i<2*W.heap.size:=by
  intro i l G;unfold oQ at G
  grind
 have N:∀i R,(jW gs W).get i=some R->yW X.a6 W (i,R)\/∃b,b<W.heap.size/\i=W.heap.size+b/\xx W b W.heap[b]? =some (i,R):=by
  intro i R ay;rcases yU _ _ _ _ ay with hm|hm
  .obtain⟨b,aa,e⟩:=Gh.1 hm;exact .inr ⟨b,aa,Cm e,e⟩
  .rcases yU _ _ _ _ hm with hm|hm
   .exact .inl<|h _ hm
   .simp at hm
 refine⟨λi R ay cd=>?_,λi j R p l m af _ A _ G hm M e=>?_,λi af=>?_,λi l G=>(Z i l G).2.1,λg F=>?_,?_,λi l R G _ ay _=>?_⟩
 .rcases N i R ay with⟨aT,cs,el,m,C,D,U,T,O,Y⟩|⟨b,aa,rfl,e⟩
  .simp only at aT U O;refine⟨⟨i,0,0,eU⟩,by unfold oQ;rw[aA aT],?_⟩;subst U;have V:cs.length=C.size:=by rw[Y.1];simp
   refine⟨C,D,⟨_,O,λ_=>o⟩,by simp[V],λ_=>by simp[V],λk E=>?_,λae=>?_,λ_=>⟨o,o,V.symm⟩⟩
   .have ag:k<C.size:=by omega
    refine⟨C[k],az,?_⟩;have:=(Y.mono hle).2 k E J
    rwa [lW]at this
   .omega
  .refine⟨⟨b,0,0,eU⟩,Lj a' aa,?_⟩;unfold xx at e;split at e
   .rename_i C el D L;cases e;refine⟨C,D,⟨_,L,λ_=>o⟩,az,λ_=>az,λk E=>?_,λae=>?_,λ_=>⟨o,o,az⟩⟩
    .have ag:k<C.size:=by grind
     refine⟨C[k],az,?_⟩;have:=(Su a' C.toList).2 k E J
     rwa [lW]at this
    .omega
   .cases e
 .grind
 .have af:2*W.heap.size<=i:=af;refine⟨?_,?_⟩
  .cases e:oQ X.a6 W.heap.size i with
   |none=>rfl
   |some l=>have:=(Z i l e).2.2;omega
  .cases e:(jW gs W).get i with
   |none=>rfl
   |some R=>
    rcases N i R e with h|⟨b,aa,rfl,_⟩
    .have:=h.1;omega
    .omega
 .exact hle _ _<|by unfold FB;rw[aA F]
 .show X.a6<=2*W.heap.size;omega
 .rcases N i R ay with⟨_,cs,el,m,C,D,U,T,_,_⟩|⟨b,aa,rfl,e⟩
  .simp only at U;subst U;exact T
  .unfold xx at e;split at e
   .cases e;exact x8 _
   .cases e
def afq{W:d9}(h:∀p∈gs,p.1<W.heap.size)(b:Nat)(aa:2*W.heap.size<=b):(jW gs W).get b=none:=by
 cases e:(jW gs W).get b with
 |none=>rfl
 |some R=>
  obtain hm|hm:=yU _ _ _ _ e
  .have⟨c,ah,e⟩:=Gh.1 hm;have:=Cm e;omega
  .obtain hm|hm:=yU _ _ _ _ hm
   .have:=h _ hm;omega
   .simp at hm
inductive tU
 |i (k:IntKind)
 |b
 |s
 |aL (z w:Nat) (cs:List tU)
mutual
def Lm(B:Nat)(W:d9):tU->bv->Prop
 |.i k,v=>∃m,v= .int k m/\(Lit.int k m).wf=true
 |.b,v=>∃t,v= .bool t
 |.s,v=>∃s:f8,v= .string s/\s.data.toList.length<=B
 |.aL z w cs,v=>v= .slice none 0 0\/∃(a:Addr) (n c:Nat),v= .slice (some a) n c/\n<=c/\c<=B/\c*w<=B/\∀i,i<n->∃ab,W.cells? 0 (a.add<|i*z) z=some ab/\n5 B W cs ab
def n5(B:Nat)(W:d9):ac tU->ac bv->Prop
 |[],ab=>ab=[]
 |c::cs,ab=>∃v G,ab=v::G/\Lm B W c v/\n5 B W cs G
end
theorem Sw{B:Nat}{W:d9}:∀{cs aU:ac tU} {ab G:ac bv},n5 B W cs ab->n5 B W aU G->n5 B W (cs++aU) (ab++G)
 |[],aU,ab,G,h,D=>by
  subst h;exact D
 |c::cs,aU,ab,G,⟨v,us,e,aE,aK⟩,D=>by
  subst e;exact⟨v,us++G,o,aE,Sw aK D⟩
theorem Sx{B:Nat}{W:d9}{α:Type}{xa:α->ac bv}{O:α->be (ac tU)}:∀(as:ac α) (tV:ac (ac tU)),as.mapM O=some tV->(∀a∈as,∀cs,O a=some cs->n5 B W cs (xa a))->n5 B W tV.flatten (as.map xa).flatten
 |[],tV,h,_=>by
  simp at h;subst h;exact o
 |a::as,tV,h,aB=>by
  rw[List.mapM_cons]at h;have⟨cs,A,h⟩:=sb.1 h;have⟨aS,N,h⟩:=sb.1 h;cases h;exact Sw (aB a gT cs A)<|Sx as aS N λa D=>aB a<|e3 _ D
def Sy(W:d9)(v:bv):Prop:=∀a l c,v= .slice (some a) l c->a.spot=none/\∃C el D,W.heap[a.block]? =some (.cells C el D)
variable{z:Nat}{α:Type}{a:Addr}{ab:ac bv}{B w:Nat}{tV:ac tU}{v:bv}{Q:α->Prop}
theorem afr{W:d9}{C:bi bv}{el:d7}{D:Nat×Nat}{R:Nat}(M:a=⟨b,R,none⟩)(h:W.cells? 0 a z=some ab)(E:W.heap[b]? =some (.cells C el D)):ab=(C.toList.drop R).take z:=by
 have A:=mapM_some_length h;have F:∀i,i<z->C[R+i]? =ab[i]? :=λi af=>by
  have:=mapM_some_get h i i (by simp[af]);unfold World.cell? at this;rw[M,nX]at this;simp[E]at this;exact this
 apply pf
 grind
theorem afs{W:d9}(aH:0<z)(h:W.cells? 0 (a.add<|0*z) z=some ab):sX W a.block=true/\a.spot=none:=by
 have o:=mapM_some_length h;rw[List.length_range]at o;have T:=mapM_some_get h 0 0 (by simp[aH]);have e:(a.add<|0*z).add 0=a:=by simp[Addr.add]
 rw[(qV J),e]at T;unfold World.cell? at T;split at T
 .rename_i c el D ah;split at T
  .cases T
  .rename_i M;refine⟨by rw[sX];rw[ah],?_⟩
   simp_all
 .cases T
theorem aft{n:Nat}{p:Nat->α->Prop}(h:∀i,i<n->∃x,p i x):∃l:ac α,l.length=n/\∀(i:Nat) (x:α),l[i]? =some x->p i x:=by
 induction n with
 |zero=>exact⟨[],o,λi x O=>by simp at O⟩
 |succ n U=>
  have⟨l,Y,G⟩:=U λi af=>h i J;have⟨y,N⟩:=h n J;refine⟨l++[y],by simp[Y],λi x O=>?_⟩
  grind
def afu{W:d9}{ak:α->ac ai}(F:∀ab,n5 B W tV ab->∃x:α,cT (λb=>(jW gs W).get b) (ak x) [] (ab.map<|jV W)/\Q x)
 (h:Lm B W (.aL z w tV) v) (cl:Sy W v):∃l:ac α,l.length<=B/\l.length*w<=B/\(∀x∈l,Q x)/\den (λb=>(jW gs W).get b) (.bs z α ak l) [] (jV W v):=by
 obtain rfl|⟨a,n,c,rfl,Y,G,hw,L⟩:=h
 .exact as1 as1
 .have⟨cy,C,el,D,E⟩:=cl a n c o;have⟨b,R,sp⟩:=a;subst cy;obtain⟨l,U,T⟩:=aft (p:=λi x=>cT (λb=>(jW gs W).get b) (ak x) [] ((((C.toList.map<|jV W).drop<|R+i*z).take z))/\Q x) (λi af=>by
   have⟨ab,M,cW⟩:=L i af;have⟨x,A,N⟩:=F ab cW;have:=afr (nX b R<|i*z) M E;rw[this]at A;refine⟨x,?_,N⟩;simpa[<-List.map_drop,<-List.map_take]using A)
  refine⟨l,J,cN (iZ _ J) hw,λx O=>?_,.inr ⟨W.heap.size+b,R,c,C.toList.map<|jV W,el,(0,C.size+1),false,?_,J,(Sv _ _ _ _ (afn W)<|Gh.2 ⟨b,(uK.1 E).1,by rw[E];rfl⟩),λi x O=>(T i x O).1⟩⟩
  .have⟨i,af⟩:=se.1 O;exact(T i x af).2
  .show(if sX W b=true/\none=none then Value.slice (some ⟨W.heap.size+b,R,none⟩) n c else _)=_;rw[aA ⟨by rw[sX];rw[E],o⟩,U]
def Ln{W:d9}{ak:α->ac ai}(aH:0<z)(F:∀ab,n5 B W tV ab->∃x:α,cT (λb=>(jW gs W).get b) (ak x) [] (ab.map<|jV W)/\Q x)
 (h:Lm B W (.aL z w tV) v):∃l:ac α,l.length*w<=B/\(∀x∈l,Q x)/\den (λb=>(jW gs W).get b) (.b8 z α ak l) [] (jV W v):=by
 by_cases V:Sy W v
 .have⟨l,_,Y,G,d⟩:=afu F h V;exact⟨l,Y,G,.inr d⟩
 .obtain rfl|⟨a,n,c,rfl,Y,G,_,C⟩:=h
  .exact absurd (λa l c e=>by cases e) V
  .refine⟨[],az,(λx O=>by cases O),.inl ⟨o,?_⟩⟩;have aa:¬(sX W a.block=true/\a.spot=none):=λ⟨N,A⟩=>V λD E L e=>by
    cases e;exact⟨A,St N⟩
   cases n with
   |zero=>
    show(if sX W a.block=true/\a.spot=none then Value.slice (some ⟨W.heap.size+a.block,a.off,none⟩) 0 c else .chan none)=_;rw[au aa]
   |succ n=>
    have⟨ab,M,_⟩:=C 0 J;exact absurd (afs aH J) aa
end Go.bI
namespace Go.bI
open Sym
def n6(L:ac cO)(Q:c6->aO->ao->Prop):Prop:=∀r∈L,W r Q
variable{Q:c6->aO->ao->Prop}
def n6.mono{L:ac cO}{o:c6->aO->ao->Prop}(h:n6 L Q)(k:∀x I st,Q x I st->o x I st):n6 L o:=λr aw=>(h r aw).mono k
theorem n6.one{r:cO}(h:W r Q):n6 [r] Q:=λq aD=>by
 grind
def n6.then{L:ac cO}{g:aO->ao->ac cO}(h:n6 L λx I st=>match x with|.norm=>n6 (g I st) Q|x=>Q x I st):n6 (L.flatMap<|pA g) Q:=by
 intro r aw;have⟨q,aD,aw⟩:=tc.1 aw;obtain⟨x,I,st,rfl,O⟩:=h q aD;cases x with
 |norm=>exact O r aw
 |exit i=>have aw:r∈[cO.out (.exit i) I st]:=aw
          exact ap1
 |ret=>have aw:r∈[cO.out .ret I st]:=aw
       exact ap1
 |aY v=>have aw:r∈[cO.out (.aY v) I st]:=aw
        exact ap1
def pI:dz->Bool
 |.gx (⟨_,.ext<|.sg _,none⟩::_)=>false
 |.seq a b=>pI a&&pI b
 |.cond _ a b=>pI a&&pI b
 |.block _ a=>pI a
 |.loop a=>pI a
 |.scope a=>pI a
 |_=>true
def Sz(g:aO->ao->cO)(r:cO):pA (λI st=>[g I st]) r=[kF r g]:=by
 cases r with
 |no=>rfl
 |out x I st=>cases x<;>rfl
def afv{call:bR}{a8:Nat}{fn:d8}:∀(c:dz),pI c=true->∀I st,eg call a8 fn c I st=[dh call a8 fn c I st]:=by
 intro c
 induction c with
 |gx ops=>
  intro h I st;unfold eg;split
  .rename_i W;cases W;cases h
  all_goals first|rfl|(rename_i W;cases W)
 |seq a b J V=>
  intro h I st;have h:(pI a&&pI b)=true:=h;rw[cQ]at h;show(eg call a8 fn a I st).flatMap (pA<|eg call a8 fn b)=[kF (dh call a8 fn a I st)<|dh call a8 fn b];rw[J h.1,show eg call a8 fn b=λI st=>[dh call a8 fn b I st]from funext λI=>funext λst=>V h.2 I st];simp[Aw,List.flatMap_nil,wi,Sz]
 |cond x a b J V=>
  intro h I st;have h:(pI a&&pI b)=true:=h;rw[cQ]at h;show kj (I.aq x) (λt=>_root_.cond t (eg call a8 fn a I st)<|eg call a8 fn b I st) [.no]=[A4 (I.aq x) (dh call a8 fn a I st)<|dh call a8 fn b I st];rw[J h.1,V h.2];cases I.aq x with
  |bool t=>cases t<;>rfl
  |_=>rfl
 |block i a U=>
  intro h I st;show(eg call a8 fn a I st).map (qd i)=[qd i<|dh call a8 fn a I st];rw[U h];rfl
 |loop a U=>
  intro h I st;have key:∀n I st,tx (eg call a8 fn a) n I st=[BU call a8 fn a n I st]:=by
   intro n
   induction n with
   |zero=>intro I st;rfl
   |succ n M=>
    intro I st;show(eg call a8 fn a I st).flatMap (pA<|tx (eg call a8 fn a) n)=_;rw[show tx (eg call a8 fn a) n=λI st=>[BU call a8 fn a n I st]from funext λI=>funext λst=>M I st,U h];simp[Aw,Sz];rfl
  exact key a8 I st
 |scope a U=>intro h I st;exact U h I st
 |_=>intro h I st;rfl
def jg(an:e2)(c:dz)(s:cg):Prop:=∀H ids st I,cZ an.aX an.i0 an.ax H ids st->Fit H ids st s.own s.n->cY I H ids s.env->n6 (eg an.call an.a8 an.fn c I st) (rH an an.Q)
section
variable{call:bR}{a8:Nat}{fn:d8}{aX:bm}{i0:ac Nat}{ax:ao}{Q:c6->cg->Prop}{s:cg}
variable{a b c:dz}
def gO(k:bP.ok ⟨call,a8,fn,aX,i0,ax,Q⟩ ⟨[],.c c,s⟩)(h:pI c=true:=by rfl):jg ⟨call,a8,fn,aX,i0,ax,Q⟩ c s:=λH ids st I O U D=>by
 rw[afv c h];exact n6.one<|k H ids st I O U D
def ik(h:jg ⟨call,a8,fn,aX,i0,ax,λx s=>match x with|.norm=>jg ⟨call,a8,fn,aX,i0,ax,Q⟩ b s|x=>Q x s⟩ a s):jg ⟨call,a8,fn,aX,i0,ax,Q⟩ (.seq a b) s:=λH ids st I O U D=>by
 refine n6.then<|(h H ids st I O U D).mono ?_;rintro x L al ⟨bB,F,J,V,A,C,aD⟩;cases x with
 |norm=>exact aD bB F al L V A C
 |_=>exact⟨bB,F,J,V,A,C,aD⟩
def SA{t:cg}(f:ac Nat)(h:Sub i0.length f s t)(k:jg ⟨call,a8,fn,aX,i0,ax,Q⟩ c t):jg ⟨call,a8,fn,aX,i0,ax,Q⟩ c s:=λH ids st I O U D=>k H _ st I (h.bH U O) (h.fit U)<|h.Cc D
def zg{L:Type _}(P:L->Prop)(T:L->cg)(aE:jg ⟨call,a8,fn,aX,i0,ax,λx s=>match x with|.norm=>kN i0.length P T s|x=>Q x s⟩ a s)(aK:∀l,P l->jg ⟨call,a8,fn,aX,i0,ax,Q⟩ b (T l)):jg ⟨call,a8,fn,aX,i0,ax,Q⟩ (.seq a b) s:=by
 refine ik λH ids st I O U D=>(aE H ids st I O U D).mono ?_;rintro x h al ⟨bB,F,J,V,A,C,aD⟩;refine⟨bB,F,J,V,A,C,?_⟩;cases x with
 |norm=>have⟨f,l,hp,M⟩:=aD;exact SA f M (aK l hp)
 |_=>exact aD
def vA{i:Nat}(h:jg ⟨call,a8,fn,aX,i0,ax,λx s=>match x with|.exit j=>if j=i then Q .norm s else Q (.exit j) s|x=>Q x s⟩ a s):jg ⟨call,a8,fn,aX,i0,ax,Q⟩ (.block i a) s:=λH ids st I E U D=>by
 intro r aw;obtain⟨q,aD,rfl⟩:=db.1 aw;obtain⟨x,L,al,rfl,bB,F,J,V,A,C,O⟩:=h H ids st I E U D q aD;cases x with
 |norm=>exact⟨_,_,_,o,bB,F,J,V,A,C,O⟩
 |exit j=>
  have e:qd i (.out (.exit j) L al)=if j=i then .out .norm L al else .out (.exit j) L al:=mx _ _ _ _;rw[e];have O:if j=i then Q .norm J else Q (.exit j) J:=O;split
  .rename_i h;rw[aA h]at O;exact⟨_,_,_,o,bB,F,J,V,A,C,O⟩
  .rename_i h;rw[au h]at O;exact⟨_,_,_,o,bB,F,J,V,A,C,O⟩
 |_=>exact⟨_,_,_,o,bB,F,J,V,A,C,O⟩
def xy{L:Type _}(P:L->Prop)(T:L->cg)(cP:L->Nat)(f0:ac Nat)(E:L)(Y:P E)(hm:cP E<a8)(bS:Sub i0.length f0 s (T E))
 (h:∀l,P l->jg ⟨call,a8,fn,aX,i0,ax,λx s=>match x with|.norm=>kN i0.length (λbq=>cP bq<cP l/\P bq) T s|x=>Q x s⟩ b (T l)):jg ⟨call,a8,fn,aX,i0,ax,Q⟩ (.loop b) s:=by
 have key:∀n l,cP l<n->P l->∀H ids st I,cZ aX i0 ax H ids st->Fit H ids st (T l).own (T l).n->cY I H ids (T l).env->n6 (tx (eg call a8 fn b) n I st) (rH ⟨call,a8,fn,aX,i0,ax,Q⟩ Q):=by
  intro n
  induction n with
  |zero=>omega
  |succ n G=>
   intro l W hp H ids st I O U D;refine n6.then<|(h l hp H ids st I O U D).mono ?_;rintro x o al ⟨bB,F,N,V,A,C,aD⟩;cases x with
   |norm=>
    have⟨f,bq,⟨a',Z⟩,M⟩:=aD;exact G bq J Z bB _ al o (M.bH A V) (M.fit A) (M.Cc C)
   |_=>exact⟨bB,F,N,V,A,C,aD⟩
 exact SA f0 bS λH ids st I O U D=>key a8 E hm Y H ids st I O U D
def mJ(r clock:Nat)(seen:ac Nat):Ky:=⟨λ_ J=>J=some (.nK (some r) clock seen clock),λ_ _ h=>h⟩
theorem vB{d:Tmp}{G:ce}{ops:ac bt}{k r clock:Nat}{seen:ac Nat}{es:ac f6}{own:ac a0}{n:Nat}{e:bV}
 (aB:own[k]? =some (.g<|mJ r clock seen)) (ru:bb e G=some (.p k 0)) (aw:aX r=some (.map es clock)) (M:∀s∈seen,s<clock)
 (aE:∀m∈es,m.born∉seen->cE ⟨call,a8,fn,aX,i0,ax,Q⟩ [] ops (own.set k<|.g<|mJ r clock<|seen++[m.born]) n ((d,.br [.b true,.v m.key,.v m.val])::e))
 (aK:(∀m∈es,m.born∈seen)->cE ⟨call,a8,fn,aX,i0,ax,Q⟩ [] ops own n ((d,.br [.b false])::e)):jg ⟨call,a8,fn,aX,i0,ax,Q⟩ (.gx<|⟨some d,.ext<|.sg G,none⟩::ops) ⟨own,n,e⟩:=λH ids st I O U D=>by
 have⟨b,aa,Z⟩:=D.aq ru;have⟨N,_⟩:=U.own k _ b aB aa;have N:st.h.get b=some (.nK (some r) clock seen clock):=N;have J:(seen.all λs=>Nat.ble (Nat.succ s) clock)=true:=by
  rw[ja];intro s h;exact lZ.2<|M s h
 have e:oI I st G=w4 I st b r clock seen (es.filter λe=> !seen.any (Nat.beq e.born)):=by
  unfold oI;rw[Z,lL,Sym.et];simp[je,N];show jH (st.h.get r) _ _=_;rw[(U.le _ _<|O.hle _ _ aw)];show dL clock clock (dL clock clock (cond (seen.all λs=>Nat.ble (Nat.succ s) clock) _ _) _) _=_;rw[je o,je o,J];rfl
 have C:∀m:f6,(!seen.any (Nat.beq m.born))=true↔m.born∉seen:=by
  intro m;rw[Bool.not_eq_true',List.any_eq_false];constructor
  .intro h hm;exact h _ hm<|kA _
  .intro h s M aa;rw[<-dy aa]at M;exact h M
 show n6 ((oI I st G).map<|Fl call (some d) ops) _;rw[e];intro q aD;obtain⟨R,ay,rfl⟩:=db.1 aD;unfold w4 at ay;cases W:es.filter (λe=> !seen.any (Nat.beq e.born))with
 |nil=>
  rw[W,fX]at ay;subst ay;refine aK (λm hm=>?_) H ids st _ O U (D.put d ⟨[.bool false],o,_,_,o,o,o⟩)
  simp_all
 |cons x xs=>
  rw[W]at ay;have ay:R∈(x::xs).map (λe=>a2.ok (.tuple #[.bool true,e.key,e.val]) I ⟨st.h.set b<|.nK (some r) clock (seen++[e.born]) clock,st.ag⟩):=ay;rw[<-W]at ay;obtain⟨m,hm,rfl⟩:=db.1 ay;have⟨A,V⟩:=sc.1 hm;exact aE m A ((C m).1 V) H ids _ _ (O.fl (fQ aa) _) (U.fl aB o aa o)<|D.put d ⟨_,o,_,_,o,o,_,_,o,o,_,_,o,o,o⟩
end
end Go.bI
namespace Go.bI
open Sym
variable{X:Ctx}
variable{cp:Nat}{H:bm}
def lP(cp:Nat)(H:bm):bm:=λb=>cond (Nat.ble cp b) (H b) none
def mK{b:Nat}{R:bG}:lP cp H b=some R↔cp<=b/\H b=some R:=by
 rw[lP];by_cases h:cp<=b
 .rw[lZ.2 h];simp[h]
 .have:Nat.ble cp b=false:=by
   cases e:Nat.ble cp b with
   |false=>rfl
   |true=>exact absurd (lZ.1 e) h
  rw[this];simp[h]
def SB:cL (lP cp H) H:=λ_ _ h=>(mK.1 h).2
def afw{bB:bm}(h:cL H bB):cL (lP cp H) (lP cp bB):=λb R e=>mK.2 ⟨(mK.1 e).1,h b R (mK.1 e).2⟩
def SC{hD:Nat}(h:cp<=hD):cL (lP hD H) (lP cp H):=λ_ _ e=>mK.2 ⟨cN h (mK.1 e).1,(mK.1 e).2⟩
def afx(cp:Nat)(a:ai):BZ:=⟨λH v=>den (lP cp H) a [] v,λh _ d=>iU (afw h) a aoN d,rD a,λh _ _ d=>FL h d⟩
def g4(cp:Nat)(a:ai):ai:=.g<|afx cp a
def bX.oR{a:ai}:bX (g4 cp a) a:=λ_ _ _ d=>iU SB a (ck.nil _) d
def bX.Lo{t:Bool}:bX (.b t) (g4 cp<|.b t):=λ_ _ _ d=>d
theorem SD{cp:Nat}{H:bm}{ids:ac Nat}:∀{as:ac ai} {ab:ac bv},cT (lP cp H) as [] ab->cT H (as.map<|g4 cp) ids ab
 |[],_,d=>d
 |_::_,_,⟨v,G,e,W,F⟩=>⟨v,G,e,W,SD F⟩
theorem Lp{cp:Nat}{H:bm}{ids:ac Nat}:∀{as:ac ai} {ab:ac bv},cT H (as.map<|g4 cp) ids ab->cT (lP cp H) as [] ab
 |[],_,d=>d
 |_::_,_,⟨v,G,e,W,F⟩=>⟨v,G,e,W,Lp F⟩
def bX.afy{as:ac ai}:bX (g4 cp<|.agg as) (.agg<|as.map<|g4 cp):=λ_ _ _ ⟨ab,e,d⟩=>⟨ab,e,SD d⟩
def bX.afz{cp:Nat}{as:ac ai}:bX (.agg<|as.map<|g4 cp) (g4 cp<|.agg as):=λ_ _ _ ⟨ab,e,d⟩=>⟨ab,e,Lp d⟩
def da.jT(S:da):Spec where
 L:=S.L×bm
 pre:=S.spec.pre
 post:=λl ab st v al=>∃bB,Fit bB [] al [] 0/\cZ l.2 [] st bB [] al/\den (lP st.ag bB) (S.res l.1) [] v
def eb.SE{f:d8}{S:da}(h:eb X f S.jT):eb X f S.spec:=λas st hp=>by
 have⟨v,al,Y,G⟩:=h as st hp;exact⟨v,al,λl W=>let⟨bB,cy,o,bj⟩:=Y l W;⟨bB,cy,o,iU SB _ aoN bj⟩,G⟩
def SF(S:da)(l:S.L)(cp:Nat)(res:ac gU)(x:c6)(s:cg):Prop:=(x= .norm\/x= .ret)/\∃r,Fin.kO s res=some r/\bX r (g4 cp<|S.res l)
variable{s:cg}{bp:d8->dT}{g:d8}{a8 n:Nat}{aX:bm}{i0:ac Nat}{ax:ao}{Q:c6->cg->Prop}{bJ:ac ce}{as:ac ai}
def Gi{S:da}{l:S.L}{res:ac gU}{r:ai}{e:c6}(aE:Fin.kO s res=some r)(D:bX r (g4 cp<|S.res l))(he:e= .ret\/e= .norm:=by first|exact .inl o|exact .inr o):SF S l cp res e s:=⟨he.symm,r,aE,D⟩
def SG{aV:ar c7}{S:da}(ah:eb X g S.spec)(J:bp g=S.spec.K){fn:d8}(l:S.L)
 (bK:gM s.env bJ=some as) (he:fy as ((S.args l).map<|g4 ax.ag)) (hp:S.pre l) (cl:∀H,S.hp H):
 Cb (gf X aV bp n a8 fn aX i0 ax Q) (.call (.func g) bJ) s (g4 ax.ag<|S.res l) s.own s.n:=λH ids st I O U D=>by
 have cd:=Lp<|he.den<|D.dt bK;have h:Fit (lP ax.ag H) [] st [] 0:=⟨U.wf,λb R e=>U.le b R (mK.1 e).2,o,o,pk,λb aa=>by simp at aa,λk R b E=>by simp at E⟩;have⟨v,al,Y,G⟩:=ah _ st ⟨(l,lP ax.ag H),hp,cl _,h,cd⟩;have⟨v1,ca,cy,Z⟩:=xd (K:=bp) ⟨v,al,by rwa [J],G⟩;rw[J]at Z;have⟨bB,A,V,ak⟩:=Z (l,lP ax.ag H) ⟨hp,cl _,h,cd⟩;have bj:cf aV (cm X bp) (n+1) (.func (.func g) #[] #[]) (dt I bJ) none st= .ret v1 ca false:=by
  rw[nT];have e:e8 (#[]:bi bv).toList (e8 (dt I bJ) (#[]:bi bv).toList)=dt I bJ:=az
  rw[e,cy];rfl
 obtain⟨M,F⟩:∃M:bm,∀b,M b=if b<st.ag then H b else bB b:=⟨_,λ_=>o⟩;have hle:cL H M:=λb R e=>by rw[F,aA<|U.aT e];exact e
 have a':cL bB (lP ax.ag M):=λb R e=>by
  by_cases aa:b<st.ag
  .have T:=e;rw[(λb aa=>V.hold b aa az) b aa]at T;have⟨ae,ai⟩:=mK.1 T;exact mK.2 ⟨ae,hle _ _ ai⟩
  .exact mK.2 ⟨by have aq:ax.ag<=st.ag:=O.ag;omega,by rwa [F,au aa]⟩
 refine⟨v1,ca,ids,M,?_,?_,iU a' (S.res l) aoN ak,hle,ck.refl _,?_,V.ag,λb aa _=>V.dZ b aa az⟩
 .show bD (cf aV (cm X bp)<|n+1) _ _ _=_;exact aoL
 .refine⟨A.wf,λb R e=>?_,U.cV,U.len,U.c2,λb aa=>fG (U.lt b aa) V.ag,λk R b E aa=>?_⟩
  .rw[F]at e;split at e
   .rename_i aa;rw[V.dZ b aa az];exact U.le _ _ e
   .exact A.le _ _ e
  .have⟨C,N⟩:=U.own k R b E aa;have aT:=U.lt b<|fQ aa;simpa[V.dZ b aT az]using⟨rG hle aoN C,λW=>by rw[F,aA aT];exact N W⟩
 .exact⟨O.hle.trans hle,λb aa aj=>(by rw[F,aA arz];exact O.hold b aa aj),λb aa aj=>atl,cN O.ag V.ag,O.jf,O.new⟩
def afA{aV:ar c7}{S:da}(ah:eb X g S.jT)(J:bp g=S.jT.K){fn:d8}(l:S.L)
 (bK:gM s.env bJ=some as) (fO:g0 as=true) (he:fy as (S.args l)) (hp:S.pre l) (cl:S.hp aX):
 Cb (gf X aV bp n a8 fn aX i0 ax Q) (.call (.func g) bJ) s (g4 ax.ag<|S.res l) s.own s.n:=λH ids st I O U D=>by
 have cd:=he.den<|pD _ fO (D.dt bK) [];have h:=O.hle;have⟨v,al,Y,G⟩:=ah _ st ⟨(l,H),hp,S.hm h cl,U.less,cd⟩;have⟨v1,ca,cy,F⟩:=xd (K:=bp) ⟨v,al,by rwa [J],G⟩;rw[J]at F;have⟨bB,A,V,T⟩:=F (l,H) ⟨hp,S.hm h cl,U.less,cd⟩;have bj:cf aV (cm X bp) (n+1) (.func (.func g) #[] #[]) (dt I bJ) none st= .ret v1 ca false:=by
  rw[nT];have e:e8 (#[]:bi bv).toList (e8 (dt I bJ) (#[]:bi bv).toList)=dt I bJ:=az
  rw[e,cy];rfl
 have hle:=V.hle;refine⟨v1,ca,ids,bB,?_,?_,iU (SC O.ag) (S.res l) aoN T,hle,ck.refl _,?_,V.ag,λb aa _=>V.dZ b aa az⟩
 .show bD (cf aV (cm X bp)<|n+1) _ _ _=_;exact aoL
 .refine⟨A.wf,A.le,U.cV,U.len,U.c2,λb aa=>fG (U.lt b aa) V.ag,λk R b E aa=>?_⟩;have⟨C,N⟩:=U.own k R b E aa;have aT:=U.lt b<|fQ aa;rw[V.dZ b aT az];exact atg atg
 .exact⟨O.hle.trans hle,λb aa aj=>(by rw[V.hold b arz az];exact O.hold b aa aj),λb aa aj=>atl,cN O.ag V.ag,O.jf,O.new⟩
section
variable{aV:ar c7}{bp:d8->dT}{a8 n:Nat}{fn:d8}{aX:bm}{i0:ac Nat}{ax:ao}{Q:c6->cg->Prop}{K:ac dC}{own bk:ac a0}{aC:Nat}{e:bV}
variable{d:Tmp}{xs:ac (bt×cz)}{bl:ac a0}{bc:bV}{a4 b3:Nat}
def afB{S:da}(ah:eb X g S.spec){xs:ac bt}(l:S.L)(hp:S.pre l)(k:cE (gf X aV bp n a8 fn aX i0 ax Q) K xs own aC ((d,g4 ax.ag<|S.res l)::e))
 (bK:gM e bJ=some as:=by rfl) (he:fy as ((S.args l).map<|g4 ax.ag):=by exact fy.refl _) (J:bp g=S.spec.K:=by rfl) (cl:∀H,S.hp H:=by exactλ_=>trivial):
 g2 (gf X aV bp n a8 fn aX i0 ax Q) K d (.call (.func g) bJ) xs own aC e:=Ru (SG ah J l bK he hp cl) k
def zh{S:da}(ah:eb X g S.spec)(l:S.L)(hp:S.pre l)(k:dB (gf X aV bp n a8 fn aX i0 ax Q) K xs bl (jt d bc) (a4+1) aC own aC ((d,g4 ax.ag<|S.res l)::e))
 (bK:gM e bJ=some as:=by rfl) (he:fy as ((S.args l).map<|g4 ax.ag):=by exact fy.refl _) (J:bp g=S.spec.K:=by rfl) (cl:∀H,S.hp H:=by exactλ_=>trivial):
 dB (gf X aV bp n a8 fn aX i0 ax Q) K ((⟨some d,.call (.func g) bJ,none⟩,.dJ)::xs) bl bc a4 b3 own aC e:=
 KM (SG ah J l bK he hp cl) o apz k
def Gj{S:da}(ah:eb X g S.jT)(l:S.L)(hp:S.pre l)(k:dB (gf X aV bp n a8 fn aX i0 ax Q) K xs bl (jt d bc) (a4+1) aC own aC ((d,g4 ax.ag<|S.res l)::e))
 (bK:gM e bJ=some as:=by rfl) (he:fy as (S.args l):=by exact fy.refl _) (fO:g0 as=true:=by rfl) (J:bp g=S.jT.K:=by rfl) (cl:S.hp aX:=by exact aP):
 dB (gf X aV bp n a8 fn aX i0 ax Q) K ((⟨some d,.call (.func g) bJ,none⟩,.dJ)::xs) bl bc a4 b3 own aC e:=
 KM (afA ah J l bK fO he hp cl) o apz k
end
section
variable{call:bR}{a8:Nat}{fn:d8}{aX:bm}{ax:ao}{Q:c6->cg->Prop}{K:ac dC}{own bk:ac a0}{aC:Nat}{e:bV}{xs:ac bt}
theorem afC{a5 z c:Nat}(t:Nat){el:d7}{aW:Bool}{α:Type}{ak:α->ac ai}{l:ac α}(k:cE ⟨call,a8,fn,aX,[],ax,Q⟩ K xs bk aC ((t,g4 ax.ag<|.bs z α ak l)::e))(aN:dx e t=some (.aL a5 z 0 n c):=by rfl)(aB:own[a5]? =some (.a el aW z α ak l):=by rfl)
 (hp:∀x H ids ab,cT H (ak x) ids ab->∀bB,cT bB (ak x) [] ab:=by exactλ_ _ _ _ d _=>d) (aj:l.length=n:=by first|rfl|omega) (ah:n<=c:=by first|exact ct _|omega) (ay:gN own a5 .x some=some bk:=by rfl):cE ⟨call,a8,fn,aX,[],ax,Q⟩ K xs own aC e:=by
 cases hR ay;intro H ids st I O U D;have⟨b,cy,C⟩:=D.get t _ aN;have⟨⟨ab,bj,dj,dp⟩,_⟩:=U.own a5 _ b aB cy;have hle:=rJ U aB o cy;have L:ax.ag<=b:=by
  obtain h|h:=O.new b<|fQ cy
  .simp at h
  .exact h
 refine k (fs H st b) ids st I (O.fs U aB o cy) (U.fs aB o cy) ⟨(D.mono hle aoN).pl,λj q A=>?_⟩;rw[mD]at A;cases E:Nat.beq t j with
 |false=>exact ata
 |true=>
  rw[E]at A;cases A;rw[<-dy E];refine .inr ⟨b,0,c,ab,el,(0,0),aW,by rw[C,aj,jC],J,mK.2 ⟨L,by rw[fs];rw[aA o];exact bj⟩,λi x F=>?_⟩
  grind
end
end Go.bI
namespace Go.bI
open Sym
structure hE(H:bm)(es:ac f6)(clock:Nat)(ms:ac (bv×ai)):Prop where
 born:∀e∈es,e.born<clock
 jM:es.Pairwise (fun a b=>a.born≠b.born)
 keys:es.Pairwise (fun a b=>a.key≠b.key)
 c2:(ms.map (·.1)).Nodup
 jw:∀e∈es,∃a,(e.key,a)∈ms∧den H a [] e.val
 to:∀p∈ms,∃e∈es,e.key=p.1
 len:es.length=ms.length
variable{ms:ac (bv×ai)}{k:bv}{a:ai}
def hE.mono{H bB:bm}(hle:cL H bB){es:ac f6}{clock:Nat}(h:hE H es clock ms):hE bB es clock ms:=
 ⟨h.born,h.jM,h.keys,h.c2,λe A=>let⟨a,Y,G⟩:=h.jw e A;⟨a,Y,iU hle a aoN G⟩,h.to,h.len⟩
def h8(ms:ac (bv×ai)):Ky:=⟨λH J=>∃es clock,J=some (.map es clock)/\hE H es clock ms,λh _ ⟨es,c,e,d⟩=>⟨es,c,e,d.mono h⟩⟩
def fU(ms:ac (bv×ai)):BZ:=⟨λH v=>∃r es clock,v= .map (some r)/\H r=some (.map es clock)/\hE H es clock ms,λh _ ⟨r,es,c,e,T,d⟩=>⟨r,es,c,e,h _ _ T,d.mono h⟩,true,λ_ H v ⟨_,_,_,e,_⟩=>by rw[e];rfl⟩
def iV:ac (bv×ai)->bv->be ai
 |[],_=>none
 |p::l,k=>cond (dE k p.1) (some p.2)<|iV l k
theorem Lq(h:(ms.map (·.1)).Nodup){b:ai}(bK:(k,a)∈ms)(aa:(k,b)∈ms):a=b:=by
 induction ms with
 |nil=>cases bK
 |cons p l U=>
  grind
def xz(h:iV ms k=some a):(k,a)∈ms:=by
 induction ms with
 |nil=>cases h
 |cons p l U=>
  rw[iV]at h;cases aa:dE k p.1 with
  |true=>rw[aa]at h;cases h;rw[j4 _ _ aa];exact gT
  |false=>rw[aa]at h;exact e3 _<|U h
def Cn(h:iV ms k=none):∀p∈ms,p.1≠k:=by
 induction ms with
 |nil=>intro p hp;cases hp
 |cons p l U=>
  rw[iV]at h;cases aa:dE k p.1 with
  |true=>rw[aa]at h;cases h
  |false=>
   rw[aa]at h;intro q aD;obtain rfl|aD:=fg.1 aD
   .intro e;rw[<-e,pt]at aa;cases aa
   .exact U h q aD
def SH(aj:(ms.map (·.1)).Nodup)(h:(k,a)∈ms):iV ms k=some a:=by
 cases e:iV ms k with
 |none=>exact absurd o (Cn e _ h)
 |some b=>rw[Lq aj h<|xz e]
section
variable{H:bm}{es:ac f6}{clock:Nat}{ms il:ac (bv×ai)}{k:bv}
def hE.find(h:hE H es clock ms):(∃e a,iy k es=some e/\iV ms k=some a/\e∈es/\e.key=k/\den H a [] e.val)\/(iy k es=none/\iV ms k=none):=by
 cases D:iy k es with
 |some e=>
  have⟨ey,eW⟩:=yF D;have⟨a,Y,G⟩:=h.jw e ey;rw[eW]at Y;exact .inl ⟨e,a,o,SH h.c2 Y,ey,eW,G⟩
 |none=>
  refine .inr ⟨o,?_⟩;cases W:iV ms k with
  |none=>rfl
  |some a=>
   have⟨e,he,E⟩:=h.to _<|xz W;exact absurd E<|Bt D e he
theorem hE.lD(h:hE H es clock ms){cn:fR}(aB:∀p∈ms,cn.ok p.1=true):lD cn es=true:=ja.2 λe A=>let⟨_,Y,_⟩:=h.jw e A;aB _ Y
structure xA(ms:ac (bv×ai))(k:bv)(a:ai)(il:ac (bv×ai)):Prop where
 c2:(il.map (·.1)).Nodup
 new:(k,a)∈il
 hO:∀p∈ms,p.1≠k->p∈il
 jw:∀p∈il,p=(k,a)∨p∈ms∧p.1≠k
 len:il.length=match iV ms k with|some _=>ms.length|none=>ms.length+1
structure Lr(ms:ac (bv×ai))(k:bv)(il:ac (bv×ai)):Prop where
 c2:(il.map (·.1)).Nodup
 hO:∀p∈ms,p.1≠k->p∈il
 jw:∀p∈il,p∈ms∧p.1≠k
 len:il.length=match iV ms k with|some _=>ms.length-1|none=>ms.length
variable{v:bv}
def hE.put(h:hE H es clock ms)(D:xA ms k a il)(Z:den H a [] v){b:ai}(aI:iV ms k=some b):hE H (wK k v es) clock il:=by
 have E:∀e:f6,(cond (dE k e.key) (⟨e.key,v,e.born⟩:f6) e).key=e.key/\(cond (dE k e.key) (⟨e.key,v,e.born⟩:f6) e).born=e.born:=λe=>by
  cases dE k e.key<;>exact e9
 refine⟨λe A=>?_,pj.2 (h.jM.imp λ{a b} F=>by rw[(E a).2,(E b).2];exact F),pj.2 (h.keys.imp λ{a b} F=>by rw[(E a).1,(E b).1];exact F),D.c2,λe A=>?_,λp hp=>?_,?_⟩
 .obtain⟨q,aD,rfl⟩:=db.1 A;rw[(E q).2];exact h.born q aD
 .obtain⟨q,aD,rfl⟩:=db.1 A;cases aa:dE k q.key with
  |true=>exact⟨a,by rw[<-j4 _ _ aa];exact D.new,Z⟩
  |false=>
   obtain⟨c,Y,G⟩:=h.jw q aD;have O:q.key≠k:=λe=>by
    rw[<-e,pt]at aa;cases aa
   exact⟨c,D.hO (q.key,c) Y O,G⟩
 .have hm:p.1=k\/p∈ms:=(D.jw p hp).imp (λe=>by rw[e]) (·.1);have key:∃e∈es,e.key=p.1:=by
   rcases hm with e|hm
   .obtain⟨q,aD,J⟩:=h.to _<|xz aI;exact⟨q,aD,J.trans e.symm⟩
   .exact h.to p hm
  obtain⟨q,aD,J⟩:=key;exact⟨_,db.2 ⟨q,aD,o⟩,(E q).1.trans J⟩
 .have:=D.len;rw[aI]at this;show(es.map _).length=_;rw[hV,h.len,this]
theorem hE.push(h:hE H es clock ms)(E:xA ms k a il)(Z:den H a [] v)(aI:iV ms k=none):hE H (es++[⟨k,v,clock⟩]) (clock+1) il:=by
 have O:∀e∈es,e.key≠k:=λe A o=>by
  have⟨a,Y,_⟩:=h.jw e A;exact Cn aI _ Y o
 refine⟨λe A=>?_,?_,?_,E.c2,λe A=>?_,λp hp=>?_,?_⟩
 .obtain A|A:=ie.1 A
  .have:=h.born e A;omega
  .grind
 .refine Dx.2 ⟨h.jM,DI _ _,λa D b aa=>?_⟩;rw[fX]at aa;subst aa;exact Nat.ne_of_lt<|h.born a D
 .exact Dx.2 ⟨h.keys,DI _ _,λa D b aa=>aoM⟩
 .obtain A|A:=ie.1 A
  .have⟨c,Y,G⟩:=h.jw e A;exact⟨c,E.hO _ Y<|O e A,G⟩
  .rw[fX]at A;subst A;exact⟨a,E.new,Z⟩
 .obtain e|⟨hm,_⟩:=E.jw p hp
  .simp_all
  .have⟨q,aD,J⟩:=h.to p hm;exact⟨q,p5 _ aD,J⟩
 .have:=E.len;rw[aI]at this;simp[h.len,this]
def filter_one(aj:es.Pairwise λa b=>a.key≠b.key){e:f6}(he:e∈es):(q8 e.key es).length+1=es.length:=by
 induction es with
 |nil=>cases he
 |cons x xs U=>
  rw[nE]at aj;unfold q8 at U⊢;rw[wb];obtain rfl|he:=fg.1 he
  .rw[pt];have:xs.filter (λy=> !dE e.key y.key)=xs:=Ar.2 λy N=>by
    cases aa:dE e.key y.key with
    |false=>rfl
    |true=>exact absurd (j4 _ _ aa)<|aj.1 y N
   simp[this]
  .have:dE e.key x.key=false:=by
    cases aa:dE e.key x.key with
    |false=>rfl
    |true=>exact absurd (j4 _ _ aa).symm<|aj.1 e he
   rw[this];simp[U aj.2 he]
theorem hE.del(h:hE H es clock ms)(cd:Lr ms k il):hE H (q8 k es) clock il:=by
 have hm:∀e,e∈q8 k es↔e∈es/\e.key≠k:=λe=>by
  rw[q8,sc];refine and_congr_right λ_=>?_;constructor
  .intro aa A;rw[A,pt]at aa;cases aa
  .intro O;cases aa:dE k e.key with
   |false=>rfl
   |true=>exact absurd (j4 _ _ aa).symm O
 refine⟨λe A=>h.born e ((hm e).1 A).1,h.jM.sublist DJ,h.keys.sublist DJ,cd.c2,λe A=>?_,λp hp=>?_,?_⟩
 .have⟨Y,G⟩:=(hm e).1 A;have⟨a,C,N⟩:=h.jw e Y;exact⟨a,cd.hO _ C G,N⟩
 .have⟨Y,G⟩:=cd.jw p hp;have⟨q,aD,J⟩:=h.to p Y
  grind
 .have W:=cd.len;cases D:iV ms k with
  |none=>
   rw[D]at W;rw[W,<-h.len];rw[q8,Ar.2];intro e A;have⟨a,Y,_⟩:=h.jw e A;cases aa:dE k e.key with
   |false=>rfl
   |true=>exact absurd (j4 _ _ aa).symm (Cn D _ Y)
  |some a=>
   have⟨e,A,L⟩:=h.to _<|xz D;have:=filter_one h.keys A;have G:=h.len
   grind
end
def vC(aX:bm)(own:ac a0)(a:ai)(ms:ac (bv×ai)):Prop:=
 ∀(H:bm) (ids:ac Nat) (st:ao) (v:bv),cL aX H->(∀(k:Nat) (R:a0) (b:Nat),own[k]? =some R->R.live=true->ids[k]? =some b->oO H ids R (st.h.get b))->den H a ids v->
  ∃r es clock,v= .map (some r)/\hE H es clock ms/\∀L:ao,(∀b R,H b=some R->L.h.get b=some R)->(∀(k:Nat) (R:a0) (b:Nat),own[k]? =some R->R.live=true->ids[k]? =some b->L.h.get b=st.h.get b)->L.h.get r=some (.map es clock)
variable{aX:bm}
def afD{own:ac a0}{k:Nat}(aB:own[k]? =some (.g<|h8 ms)):vC aX own (.mp k) ms:=λH ids st v _ ay ⟨b,aa,Z⟩=>by
 have⟨es,clock,Y,G⟩:=ay k _ b aB o aa;exact⟨b,es,clock,Z,G,λL _ h=>(h k _ b aB o aa).trans Y⟩
def SI{own:ac a0}:vC aX own (.g<|fU ms) ms:=λH ids st v _ _ ⟨r,es,c,Z,Y,G⟩=>⟨r,es,c,Z,G,λ_ h _=>h _ _ Y⟩
def SJ{own:ac a0}{r clock:Nat}{es:ac f6}(aw:aX r=some (.map es clock))(cd:hE aX es clock ms):vC aX own (.v<|.map<|some r) ms:=λH ids st v T _ Z=>⟨r,es,clock,Z,cd.mono T,λ_ h _=>h _ _<|T _ _ aw⟩
def vC.now{H:bm}{own:ac a0}(h:vC aX own a ms){ids:ac Nat}{st:ao}{n:Nat}(bS:cL aX H)(U:Fit H ids st own n){v:bv}(Z:den H a ids v):∃r es clock,v= .map (some r)/\st.h.get r=some (.map es clock)/\hE H es clock ms:=
 let⟨r,es,clock,e,d,k⟩:=h H ids st v bS (λk R b E _ aa=>(U.own k R b E aa).1) Z
 ⟨r,es,clock,e,k st U.le λ_ _ _ _ _ _=>o,d⟩
section
variable{call:bR}{aX:bm}{s:cg}
def vD(a:ai)(k:bv):Prop:=∀H ids v,den H a ids v->v=k
variable{m:ce}{cn:fR}{iK:bv}{clock:Nat}{es:ac f6}{j:Nat}{rO:ai}{il:ac (bv×ai)}
theorem zi{k:f5}:∀{l:ac Int} {H:bm} {ids:ac Nat} {ab:ac bv},cT H (l.map<|ai.i k) ids ab->ab=l.map (Value.int k)
 |[],_,_,_,d=>d
 |n::l,_,_,_,⟨v,G,e,W,F⟩=>by rw[e,zi F,show v=Value.int k n from W];rfl
def afE(k:f5)(l:ac Int):vD (.agg<|l.map<|ai.i k) (.agg ⟨l.map<|Value.int k⟩):=λ_ _ _ ⟨ab,e,d⟩=>by rw[e,zi d]
def SK(H:bm):hE H [] 0 []:=⟨(λe A=>by cases A),.nil,.nil,pk,(λe A=>by cases A),ao7,o⟩
def afF:fH call .p6 s (.mp s.n) (s.own++[.g<|h8 []]) (s.n+1):=λH ids st I U D=>by
 refine⟨.map<|some st.ag,_,ids++[st.ag],H,?_,(U.add ⟨[],0,o,SK _⟩),aqa,cL.refl _,ck.app _ _,λ_ _ _ B=>B.add _,kB _,λb aa _=>tJ aa⟩;have e:bD call .p6 I st=st.iD (.map [] 0) λid st=>.ok (.map<|some id) I st:=rfl;rw[e,gV]
def afG{z:bv}{ok:Bool}{k:ce}{H:bm}{I:aO}{id:Nat}(Z:I.aq m= .map (some id))(M:I.aq k=iK)(cd:hE H es clock ms)(jx:cn.ok iK=true)(D:∀p∈ms,cn.ok p.1=true)(r:ai)
 (aw:match iV ms iK with|some a=>r=a|none=>∀H ids,den H r ids z) (fO:h3 r=true) (ids:ac Nat):
 ∃v,den H (cond ok (.br [r,.b (iV ms iK).isSome]) r) ids v/\∀st:ao,st.h.get id=some (.map es clock)->bD call (.ext<|.look cn z ok m k) I st= .ok v I st:=by
 have e:∀st:ao,st.h.get id=some (.map es clock)->bD call (.ext<|.look cn z ok m k) I st=bx (iy iK es) (λe=>a2.ok (cond ok (.tuple #[e.val,.bool true]) e.val) I st) (.ok (cond ok (.tuple #[z,.bool false]) z) I st):=λst F=>by
  show cond (cn.ok<|I.aq k) (pv (I.aq m) (λr=>bx r (λid=>jH (st.h.get id) (λes _=>cond (lD cn es) (bx (iy (I.aq k) es) (λe=>a2.ok (cond ok (.tuple #[e.val,.bool true]) e.val) I st)<|.ok (cond ok (.tuple #[z,.bool false]) z) I st) .no) .no) _) .no) .no=_;rw[M,jx,Z];show jH (st.h.get id) (λes _=>cond (lD cn es) (bx (iy iK es) (λe=>a2.ok (cond ok (.tuple #[e.val,.bool true]) e.val) I st)<|.ok (cond ok (.tuple #[z,.bool false]) z) I st) .no) .no=_;rw[F];show cond (lD cn es) _ _=_;rw[cd.lD D];rfl
 have fin:∀(t:Bool) v,(∃A,den H r A v)->den H (cond ok (.br [r,.b t]) r) ids (cond ok (.tuple #[v,.bool t]) v):=λt v ⟨A,Z⟩=>by
  have Z:=tF r fO Z ids;cases ok
  .exact Z
  .exact⟨_,o,_,_,o,Z,_,_,o,o,o⟩
 obtain⟨U,a,Y,G,C,N,J⟩|⟨Y,G⟩:=cd.find
 .rw[G]at aw⊢;subst aw;exact arR arR
 .rw[G]at aw⊢;exact arC arC
def afH{J:ai}(hm:bb s.env m=some J)(N:vC aX s.own J ms):qw aX call (.ext<|.wx m) s (.i .i64 (ms.length:Nat)) s.own s.n:=λH ids st I T U D=>by
 have⟨id,es,clock,Z,F,cd⟩:=N.now T U<|D.aq hm;refine⟨.int .i64 ms.length,st,ids,H,?_,U,o,cL.refl _,ck.refl _,λ_ _ _ B=>B,ct _,λ_ _ _=>o⟩;show pv (I.aq m) (λr=>bx r (λid=>jH (st.h.get id) (λes _=>hd (dK es) λn=>a2.ok (.int .i64<|.ofNat n) I st) .no) _) .no=_;rw[Z];show jH (st.h.get id) (λes _=>hd (dK es) λn=>a2.ok (.int .i64<|.ofNat n) I st) .no=_;rw[F];show hd (dK es) (λn=>a2.ok (.int .i64<|.ofNat n) I st)=_;rw[wO,fi,cd.len];rfl
def SL{k v:ce}(hm:bb s.env m=some (.mp j))(a3:s.own[j]? =some (.g<|h8 ms))(aB:bb s.env k=some rO)(M:vD rO iK)(Z:bb s.env v=some a)(fO:h3 a=true)(jx:cn.ok iK=true)(J:∀p∈ms,cn.ok p.1=true)
 (E:xA ms iK a il):fH call (.ext<|.fl cn m k v) s (.br []) (s.own.set j<|.g<|h8 il) s.n:=λH ids st I U D=>by
 obtain⟨b,aa,V⟩:=D.aq hm;obtain⟨⟨es,clock,ah,cd⟩,_⟩:=U.own j _ b a3 aa;have A:=tF a fO (D.aq Z) [];have W:g1 s.env (.ext<|.fl cn m k v)=some j:=by simp[g1,hm]
 have e:bD call (.ext<|.fl cn m k v) I st=bx (iy iK es) (λ_=>st.hf b (.map (wK iK (I.aq v) es) clock) λst=>.ok undef I st) (st.hf b (.map (es++[⟨iK,I.aq v,clock⟩])<|Nat.succ clock) λst=>.ok undef I st):=by
  show cond (cn.ok<|I.aq k) (pv (I.aq m) (λr=>bx r (λid=>jH (st.h.get id) (λes clock=>cond (lD cn es)
   (bx (iy (I.aq k) es) (λ_=>st.hf id (.map (wK (I.aq k) (I.aq v) es) clock) λst=>a2.ok undef I st)
    (st.hf id (.map (es++[⟨I.aq k,I.aq v,clock⟩])<|Nat.succ clock) λst=>.ok undef I st)) .no) .no) .no) .no) .no=_
  rw[(M _ _ _<|D.aq aB),jx,V];show jH (st.h.get b) _ _=_;rw[ah];show cond (lD cn es) _ _=_;rw[cd.lD J];rfl
 have fin:∀(eY:ac f6) a',hE H eY a' il->bD call (.ext<|.fl cn m k v) I st= .ok undef I ⟨st.h.set b<|.map eY a',st.ag⟩->
  ∃ae al F bB,bD call (.ext<|.fl cn m k v) I st= .ok ae I al/\Fit bB F al (s.own.set j<|.g<|h8 il) s.n/\den bB (.br []) F ae/\cL H bB/\ck ids F/\(∀aX i0 ax,cZ aX i0 ax H ids st->cZ aX i0 ax bB F al)/\
  st.ag<=al.ag/\∀b,b<st.ag->(∀L,g1 s.env (.ext<|.fl cn m k v)=some L->ids[L]? ≠some b)->al.h.get b=st.h.get b:=λeY a' T ai=>
  ⟨undef,_,ids,H,ai,U.fl a3 o aa ⟨eY,a',o,T⟩,apm,cL.refl _,ck.refl _,λ_ _ _ B=>B.fl (fQ aa) _,ct _,λc _ O=>ar.fu _ _ λe=>O j W<|e▸aa⟩
 rcases cd.find with⟨ak,c,Y,G,C,N,aj⟩|⟨Y,G⟩
 .refine fin _ _ (cd.put E A G) ?_;rw[e,Y,Sym.et,jq]
 .refine fin _ _ (cd.push E A G) ?_;rw[e,Y,Sym.h6,jq]
def afI{k:ce}(hm:bb s.env m=some (.mp j))(a3:s.own[j]? =some (.g<|h8 ms))(aB:bb s.env k=some rO)(M:vD rO iK)(jx:cn.ok iK=true)(J:∀p∈ms,cn.ok p.1=true)
 (E:Lr ms iK il):fH call (.ext<|.del cn m k) s (.br []) (s.own.set j<|.g<|h8 il) s.n:=λH ids st I U D=>by
 have⟨b,aa,V⟩:=D.aq hm;have⟨⟨es,clock,F,cd⟩,_⟩:=U.own j _ b a3 aa;have W:g1 s.env (.ext<|.del cn m k)=some j:=by simp[g1,hm]
 have e:bD call (.ext<|.del cn m k) I st=st.hf b (.map (q8 iK es) clock) λst=>.ok undef I st:=by
  show cond (cn.ok<|I.aq k) (pv (I.aq m) (λr=>bx r (λid=>jH (st.h.get id) (λes clock=>cond (lD cn es) (st.hf id (.map (q8 (I.aq k) es) clock) λst=>a2.ok undef I st) .no) .no) .no) .no) .no=_;rw[(M _ _ _<|D.aq aB),jx,V];show jH (st.h.get b) _ _=_;rw[F];show cond (lD cn es) _ _=_;rw[cd.lD J];rfl
 rw[jq]at e;exact apc apc
def afJ{r:Nat}(hm:bb s.env m=some (.v<|.map<|some r))(aw:aX r=some (.map es clock)):qw aX call (.ext<|.uW m) s (.p s.n 0) (s.own++[.g<|mJ r clock []]) (s.n+1):=λH ids st I T U D=>by
 have Z:=D.aq hm;have F:=U.le _ _<|T _ _ aw;refine⟨.pointer<|some ⟨st.ag,0,none⟩,_,ids++[st.ag],H,?_,(U.add o),aqa,cL.refl _,ck.app _ _,λ_ _ _ B=>B.add _,kB _,λb aa _=>tJ aa⟩;show pv (I.aq m) (λr=>bx r (λid=>jH (st.h.get id) (λ_ clock=>st.iD (.nK (some id) clock [] clock) λid st=>a2.ok (.pointer<|some ⟨id,0,none⟩) I st) .no) _) .no=_;rw[Z];show jH (st.h.get r) (λ_ clock=>st.iD (.nK (some r) clock [] clock) λid st=>a2.ok (.pointer<|some ⟨id,0,none⟩) I st) .no=_;rw[F];show st.iD (.nK (some r) clock [] clock) (λid st=>a2.ok (.pointer<|some ⟨id,0,none⟩) I st)=_;rw[gV]
end
section
variable{an:e2}{K:ac dC}{own bk:ac a0}{aC:Nat}{e:bV}{xs:ac bt}
def Ls(t:Nat){k:Nat}(bE:cE an K xs bk aC ((t,.g<|fU ms)::e))(aN:dx e t=some (.mp k):=by rfl)(aB:own[k]? =some (.g<|h8 ms):=by rfl)(ay:gN own k .x some=some bk:=by rfl):cE an K xs own aC e:=by
 cases hR ay;intro H ids st I O U D;have⟨b,cy,h⟩:=D.get t _ aN;have⟨⟨es,clock,bj,d⟩,_⟩:=U.own k _ b aB cy;have hle:=rJ U aB o cy;refine bE (fs H st b) ids st I (O.fs U aB o cy) (U.fs aB o cy) ⟨(D.mono hle aoN).pl,λj q A=>?_⟩;rw[mD]at A;cases E:Nat.beq t j with
 |false=>exact ata
 |true=>
  rw[E]at A;cases A;rw[<-dy E];exact⟨b,es,clock,h,by rw[fs];rw[aA o];exact bj,d.mono hle⟩
def afK(t:Nat)(b:ai){c:bu}(h:dx e t=some a)(F:∀H,cL an.aX H->∀ids v,den H a ids v->den H b ids v)(bE:fz an K c own aC ((t,b)::e))(ah:c.nY=false:=by rfl):fz an K c own aC e:=by
 have key:∀{H ids st I},cZ an.aX an.i0 an.ax H ids st->cY I H ids e->cY I H ids ((t,b)::e):=λ{H ids st I} O G=>⟨G.pl,λj q A=>by
  rw[mD]at A;cases E:Nat.beq t j with
  |true=>rw[E]at A;cases A;rw[<-dy E];exact F _ O.hle _ _ (G.get t _ h)
  |false=>rw[E]at A;exact G.get j q A⟩
 cases c with
 |c c=>exactλH ids st I O U D=>bE H ids st I O U (key O D)
 |R l=>exactλH ids st I O U D=>bE H ids st I O U (key O D)
 |x e=>cases ah
 |d l bl bc a4 b3=>exactλJ C H ids st I V M O U D T=>bE J C H ids st I V M O U (key O D) T
end
end Go.bI
namespace Go.bI
open Sym
variable{X:Ctx}
variable{ad:bN}{w:d9}{cP:bN}{l:Loc}{R:bG}
def rf.back(hle:ad.le cP){f F g:Fn}(bS:rf ad f F)(h:rf cP f g):rf ad f g:=by
 obtain h|⟨l,b,Y,G,C⟩:=h
 .exact .inl h
 .obtain⟨_,aj⟩|⟨E,A,cy,o,bj⟩:=bS
  .exact absurd Y<|aj l
  .rw[Y]at cy;cases cy;have:=hle _ _ bj;rw[C]at this;cases this;exact .inr ⟨l,b,Y,G,bj⟩
def bo.back(hle:ad.le cP){v c:bv}(h:bo cP v c):∀{O:bv},bo ad v O->bo ad v c:=by
 have up:∀{i:Nat} {l E:Loc},ad i=some l->cP i=some E->E=l:=λY G=>by
  have:=hle _ _ Y;rw[G]at this;exact Option.some.inj this
 induction h with
 |bool b=>exactλ_=>.bool b
 |int k n=>exactλ_=>.int k n
 |float k n=>exactλ_=>.float k n
 |string s=>exactλ_=>.string s
 |lG=>exactλ_=>.lG
 |ptr a l h M=>intro O T;cases T with|ptr _ E D W=>cases up D h;exact .ptr a l D M
 |kl n c=>exactλ_=>.kl n c
 |fv a l R n c h M ay=>intro O T;cases T with|fv _ E ak _ _ D W N=>cases up D h;exact .fv a l R n c D M ay
 |nb=>exactλ_=>.nb
 |map r b bM h=>intro O T;cases T with|map _ aj ai D=>cases up D h;exact .map r b bM D
 |func f g xs aS ag ab ae Y _ C _ af A=>
  intro O T;cases T with
  |func _ F _ aa _ ah V bU a' Z L=>exact .func f g xs aS ag ab (rf.back hle V ae) Y (λi a b=>af i a b<|a' i a J) C (λi a b=>A i a b<|L i a J)
 |nilFunc=>exactλ_=>.nilFunc
 |iface t v w _ U=>intro O T;cases T with|iface _ _ dR k=>exact .iface t v w (U k)
 |nilIface=>exactλ_=>.nilIface
 |agg xs aS Y _ U=>intro O T;cases T with|agg _ aa bU a'=>exact .agg xs aS Y λi a b=>U i a b (a' i a J)
 |tuple xs aS Y _ U=>intro O T;cases T with|tuple _ aa bU a'=>exact .tuple xs aS Y λi a b=>U i a b (a' i a J)
 |iG c m h=>exactλ_=>.iG c m h
 |emp p c=>exactλ_=>.emp p c
 |top c=>exactλ_=>.top c
theorem hA.back(hle:ad.le cP){dR:d9}(bS:hA X ad dR R l)(h:hA X cP w R l):hA X ad w R l:=by
 cases R with
 |cells cs aw D aW=>
  have⟨F,f0,g⟩:=bS;have⟨C,f,h⟩:=h;exact⟨C,f,h.there,h.kH,h.room,λi af=>let⟨c,eV,ew⟩:=h.cell i af;let⟨_,_,ah⟩:=g.cell i af;⟨c,eV,ew.back hle ah⟩,h.vb,h.plain⟩
 |map es clock=>
  have⟨_,_,F,az,_,g⟩:=bS;have⟨ey,eW,C,c,G,h⟩:=h;have⟨V,ak,cp,kH⟩:=g.same;have⟨L,p,n,r⟩:=h.same;refine⟨ey,eW,C,c,G,h.jr,h.nd,h.born,h.keys,h.jM,L,p,n,λi a b=>?_⟩;have⟨j,A,E⟩:=mo<|ak.mem_iff.2<|p.mem_iff.1<|eO a;have k:=kH j A J;rw[E]at k;exact⟨(r i a b).1.back hle k.1,(r i a b).2.1.back hle k.2.1,(r i a b).2.2⟩
 |IG s pos=>exact h
 |nK m aD aB aA=>
  have⟨_,_,Z,ax,cp,t0,_,g⟩:=bS;have⟨ey,eW,O,ae,cI,vE,G,h⟩:=h;refine⟨ey,eW,O,ae,cI,vE,G,?_⟩;obtain h|⟨r,b,bM,U,T,av,ay⟩:=h
  .exact .inl h
  .obtain⟨cy,_⟩|⟨kH,ar,ao,cy,aq,bj,dj⟩:=g
   .rw[U]at cy;cases cy
   .cases cy;have:=hle _ _ bj
    grind
 |loop s gA fn t bd ek body d=>
  have⟨_,_,V,_,_,_,_,dp,_,_,_,oD,_⟩:=bS;have⟨ey,eW,L,Y,ai,a',N,aa,ag,M,aj,W,al⟩:=h;refine⟨ey,eW,L,Y,ai,a',N,λn=>(aa n).back hle<|dp n,ag,M,aj,?_,al⟩;have:=hle _ _ oD;rw[W]at this;simp[oD,this.symm]
 |_=>exact h
theorem bZ.back{st ca:ao}{dR:d9}(hle:ad.le cP)(bS:bZ X ad st dR)(h:bZ X cP ca w)(aB:∀b,b<st.ag->ca.h.get b=st.h.get b):bZ X ad st w:=by
 have lt:∀{i:Nat} {R:bG},st.h.get i=some R->i<st.ag:=λ{i R} af=>by
  obtain h|h:=fW i st.ag
  .exact h
  .rw[(bS.fresh i h).2]at af;cases af
 refine⟨λi R ay cd=>?_,λi j R p l m af Y A C D G F e=>(h.inj i j R p l m aoM Y aoM C (hle _ _ D) (hle _ _ G) F e),bS.fresh,λi l W=>h.fY i l<|hle _ _ W,bS.k8,bS.nP,bS.k9⟩
 .obtain⟨l,W,hm⟩:=bS.eJ i R ay cd;obtain⟨E,J,L⟩:=h.eJ i R aoM cd;rw[hle _ _ W]at J;cases J;exact⟨l,W,hA.back hle hm L⟩
theorem bZ.name{st:ao}(hw:bZ X ad st w)(ay:hA X (gK ad st.ag l) w R l)(aa:l.cA<w.heap.size)(O:∀i p m,st.h.get i=some p->p≠.dead->ad i=some m->(m.bM≠eU\/l.bM≠eU)->m.cA≠l.cA)(aj:l.bM=eU->R.tq):
 bZ X (gK ad st.ag l) ⟨st.h.set st.ag R,st.ag+1⟩ w/\ad.le (gK ad st.ag l):=by
 have hle:ad.le (gK ad st.ag l):=by
  intro id E W;show(if id=st.ag then some l else ad id)=some E;exact aqD
 have N:gK ad st.ag l st.ag=some l:=aA o;have V:∀id,id≠st.ag->gK ad st.ag l id=ad id:=λid h=>au h;refine⟨⟨λid p hp cd=>?_,λi j p q ae Z af Y A C D G F e=>?_,λid ai=>?_,λid E a'=>?_,λg F=>hle _ _<|hw.k8 g F,uJ hw.nP,λi ae p ah M hp cd=>?_⟩,hle⟩
 .rw[ar.eP]at hp;by_cases e:id=st.ag
  .grind
  .rw[au e]at hp;obtain⟨E,a',hm⟩:=hw.eJ id p hp cd;exact⟨E,hle _ _ a',hA.mono X hm hle o⟩
 .rw[ar.eP]at af A;by_cases U:i=st.ag
  .grind
  .by_cases T:j=st.ag
   .grind
   .rw[au U]at af;rw[au T]at A;rw[V i U]at D;rw[V j T]at G;exact hw.inj i j p q ae Z af Y A C D G F e
 .have L:st.ag+1<=id:=ai;refine⟨?_,?_⟩
  .rw[V id J];exact(hw.fresh id J).1
  .exact aqt
 .by_cases e:id=st.ag
  .grind
  .rw[V id e]at a';exact hw.fY id E a'
 .rw[ar.eP]at hp;by_cases e:i=st.ag
  .grind
  .rw[au e]at hp;rw[V i e]at ah;exact hw.k9 i ae p ah M hp cd
theorem bZ.skip{st:ao}(hw:bZ X ad st w):bZ X ad ⟨st.h,st.ag+1⟩ w:=
 ⟨hw.eJ,hw.inj,λi af=>hw.fresh i aoM,hw.fY,hw.k8,uJ hw.nP,hw.k9⟩
def ei.name{aJ:bN}{aG:d9}(h:ei ad aJ w aG){i:Nat}(af:ad i=none)(aI:w.heap.size<=l.cA\/∃j m,ad j=some m/\m.bM≠eU/\m.cA=l.cA):ei ad (gK aJ i l) w aG:=by
 refine⟨λj m A=>?_,h.size,h.kept,λj m A=>?_,h.fZ⟩
 .show(if j=i then some l else aJ j)=some m;rw[au];exact h.le j m A;intro e;subst e;rw[af]at A;cases A
 .have A:(if j=i then some l else aJ j)=some m:=A;by_cases e:j=i
  .rw[aA e]at A;cases A;exact .inr aI
  .rw[au e]at A;exact h.new j m A
def Gk(d:Nat):ac ai:=[.i .u32 (d:Int)]
def qE(t:Bool)(aU es:ac Nat):ai:=.agg [.b t,.bs 1 Nat Gk aU,.gq 1 Nat Gk es]
inductive fK where
 |lit (k u:Value)
 |num (k:Value) (t:Bool) (aU es:List Nat)
variable{b:Nat}
def fK.key:fK->bv
 |.lit k _=>k
 |.num k _ _ _=>k
def l6(aU:ac Nat):ac bv:=aU.map λ(d:Nat)=>.int .u32 (d:Int)
def zj(aU:ac Nat):bG:=.cells (l6 aU) 0 (0,aU.length) true
def fK.val(n:Nat):fK->bv
 |.lit _ u=>u
 |.num _ t aU es=>.agg ⟨[.bool t,.slice (some ⟨n,0,none⟩) aU.length aU.length,match es with|[]=>.slice none 0 0|_::_=>.slice (some ⟨n+1,0,none⟩) es.length es.length]⟩
def ao.new(st:ao)(R:bG):ao:=⟨st.h.set st.ag R,st.ag+1⟩
def ao.one(st:ao)(aU:ac Nat):ao:=match aU with
 |[]=>⟨st.h,st.ag+1⟩
 |aU=>st.new<|zj aU
def fK.st(st:ao):fK->ao
 |.lit _ _=>st
 |.num _ _ aU es=>(st.one aU).one es
def fB:ac fK->ao->Nat->ac f6×ao
 |[],st,_=>([],st)
 |e::l,st,i=>(⟨e.key,e.val st.ag,i⟩::(fB l (e.st st)<|i+1).1,(fB l (e.st st)<|i+1).2)
theorem Lt:∀(l:ac fK) (st:ao) (i:Nat),(fB l st i).1.length=l.length
 |[],_,_=>rfl
 |_::l,st,i=>by simp[fB,Lt l]
theorem rP:∀(l:ac fK) (st:ao) (i j:Nat) (h:j<(fB l st i).1.length) (D:j<l.length),((fB l st i).1[j]).key=(l[j]).key/\((fB l st i).1[j]).born=i+j
 |[],_,_,_,_,D=>by simp at D
 |e::l,st,i,0,_,_=>e9
 |e::l,st,i,j+1,h,D=>by
  have:=rP l (e.st st) (i+1) j art ar7;exact arA arA
def rQ(st:ao)(aU:ac Nat):(st.one aU).ag=st.ag+1:=by cases aU<;>rfl
def Gl(st:ao)(aU:ac Nat)(aa:b≠st.ag):(st.one aU).h.get b=st.h.get b:=by
 cases aU with
 |nil=>rfl
 |cons d aU=>exact ar.fu _ _ aa
def SM(st:ao){aU:ac Nat}(h:aU≠[]):(st.one aU).h.get st.ag=some (zj aU):=by
 cases aU with
 |nil=>exact absurd o h
 |cons d aU=>exact ar.nO _ _ _
def Lu(st:ao)(e:fK):st.ag<=(e.st st).ag:=by
 cases e with
 |lit=>exact ct _
 |num k t aU es=>show _<=((st.one aU).one es).ag;rw[rQ,rQ];omega
def afL(st:ao)(e:fK)(aa:b<st.ag):(e.st st).h.get b=st.h.get b:=by
 cases e with
 |lit=>rfl
 |num k t aU es=>
  show((st.one aU).one es).h.get b=_;rw[Gl _ _<|by rw[rQ];omega,Gl _ _ J]
theorem SN:∀(l:ac fK) (st:ao) (i:Nat),st.ag<=(fB l st i).2.ag
 |[],_,_=>ct _
 |e::l,st,i=>cN (Lu st e)<|SN l (e.st st)<|i+1
theorem Gm:∀(l:ac fK) (st:ao) (i:Nat) {b:Nat},b<st.ag->(fB l st i).2.h.get b=st.h.get b
 |[],_,_,_,_=>rfl
 |e::l,st,i,b,aa=>by
  show(fB l (e.st st)<|i+1).2.h.get b=_;rw[Gm l (e.st st) (i+1)<|fG aa<|Lu st e,afL st e aa]
def digits{H:bm}{b R c:Nat}{ab:ac bv}{l:ac Nat}(cd:∀i x,l[i]? =some x->cT H (Gk x) [] ((ab.drop<|R+i*1).take 1)):∀i (h:i<l.length),ab[R+i]? =some (.int .u32 ((l[i]:Nat):Int)):=λi h=>by
 have⟨v,ws,e,Y,G⟩:=cd i _<|ba h;subst Y G;have:=congrArg (λl=>l[0]?) e;exact aoX
structure Way(X:Ctx)(ad:bN)(st ca:ao)(cP:bN)(dR w:d9)(hS:ao)(aJ:bN):Prop where
 wr:bZ X aJ hS w
 sW:ei ad aJ dR w
 ag:st.ag<=hS.ag
 obj:∀i p m,hS.h.get i=some p->p≠.dead->aJ i=some m->(i<st.ag∧ad i=some m∧st.h.get i=some p)∨(m.bM=eU∧∃b ab el b1 aW l,ca.h.get b=some (.cells ab el b1 aW)∧cP b=some l∧m.cA=l.cA)
section
variable{ad cP aJ:bN}{st ca hS:ao}{dR w:d9}
variable{aU:ac Nat}
def Way.skip(h:Way X ad st ca cP dR w hS aJ):Way X ad st ca cP dR w ⟨hS.h,hS.ag+1⟩ aJ:=⟨h.wr.skip,h.sW,uJ h.ag,h.obj⟩
theorem Way.hB(G:ei ad cP dR w)(M:bZ X cP ca w)(D:∀i,st.ag<=i->ad i=none)(hold:∀b,b<st.ag->ca.h.get b=st.h.get b)(h:Way X ad st ca cP dR w hS aJ){R c:Nat}(O:aU≠[])(aa:st.ag<=b){ab:ac bv}{el:d7}{aq:Nat×Nat}{aW:Bool}(F:ca.h.get b=some (.cells ab el aq aW))
 (cd:∀i (h:i<aU.length),ab[R+i]? =some (.int .u32 ((aU[i]:Nat):Int))) (ah:aU.length<=c):
 ∃a',Way X ad st ca cP dR w (hS.one aU) a'/\aJ.le a'/\∀u,bo cP (.slice (some ⟨b,R,none⟩) aU.length c) u->bo a' (.slice (some ⟨hS.ag,0,none⟩) aU.length aU.length) u:=by
 obtain⟨l,W,C,aB,L⟩:=M.eJ _ _ F az;have V:0<aU.length:=by
  grind
 have aK:R+aU.length<=ab.length:=by
  have:=cd (aU.length-1) J
  grind
 have aO:=L.kH;have aG:∀i p m,hS.h.get i=some p->p≠.dead->aJ i=some m->(m.bM≠eU\/eU≠eU)->m.cA≠l.cA:=λi p m hp T hm ae e=>by
  have ae:=ae.elim id λh=>absurd o h;rcases h.obj i p m hp T hm with⟨Y,aD,aI⟩|⟨Y,_⟩
  .have:=M.inj i b p _ m l (by rwa [hold i Y]) T F az (G.le _ _ aD) W (.inl ae) e;omega
  .exact ae Y
 have A:∀a':bN,hA X a' w (zj aU) ⟨l.cA,l.de+R,c+l.ex-aU.length,eU⟩:=λa'=>by
  have ai:¬((0,aU.length).2<=(0,aU.length).1\/true=false):=λh=>by
   grind
  obtain⟨U,Y,_⟩:=L.there;refine⟨C,aB,⟨U,Y,λh=>absurd h ai⟩,?_,λh=>absurd h ai,λi af=>?_,λh=>absurd (.inl h) ai,λh=>by cases h⟩
  .show l.de+R+(l6 aU).length<=_;simp[l6];omega
  .have aL:i<aU.length:=by simpa[l6]using af
   obtain⟨u,aM,ak⟩:=L.cell (R+i) J;have Z:ab[R+i]'J= .int .u32 ↑(aU[i]):=by
    grind
   rw[Z]at ak;refine⟨u,by grind,?_⟩
   .cases ak;simp[l6,uL];exact .int _ _
 obtain⟨bU,av⟩:=bZ.name h.wr (A _) (M.fY b l W) aG λ_=>V;have aw:hS.one aU=⟨hS.h.set hS.ag<|zj aU,hS.ag+1⟩:=by cases aU<;>first|exact absurd o O|rfl
 have al:=D _ aa;rw[aw];refine⟨_,⟨bU,h.sW.name (D _ h.ag) ?_,uJ h.ag,λi p m hp T hm=>?_⟩,av,λu E=>?_⟩
 .rcases G.new b l W with q|q|q
  .rw[al]at q;cases q
  .exact .inl q
  .exact .inr q
 .rw[ar.eP]at hp;have hm:(if i=hS.ag then some _ else aJ i)=some m:=hm;by_cases e:i=hS.ag
  .grind
  .rw[au e]at hp hm;exact h.obj i p m hp T hm
 .cases E with
  |fv _ aN N _ _ aj aH ay=>
   rw[W]at aj;cases aj;cases ay.elim id λh=>J
   have e:c+l.ex=aU.length+(c+l.ex-aU.length):=J
   have q:bo (gK aJ hS.ag ⟨l.cA,l.de+R,c+l.ex-aU.length,eU⟩) (.slice (some ⟨hS.ag,0,none⟩) aU.length aU.length) (.slice (some ⟨l.cA,l.de+R,none⟩) aU.length<|aU.length+(c+l.ex-aU.length)):=
    .fv ⟨hS.ag,0,none⟩ ⟨l.cA,l.de+R,c+l.ex-aU.length,eU⟩ (l.de+R) _ _ (aA o) o nQ
   rwa [<-e]at q
def Way.num(G:ei ad cP dR w)(M:bZ X cP ca w)(D:∀i,st.ag<=i->ad i=none)(hold:∀b,b<st.ag->ca.h.get b=st.h.get b)(h:Way X ad st ca cP dR w hS aJ){H:bm}(F:∀b R,H b=some R->ca.h.get b=some R){k:bv}{t:Bool}{es:ac Nat}(O:aU≠[]){v:bv}(Z:den (lP st.ag H) (qE t aU es) [] v):
 ∃J,Way X ad st ca cP dR w ((fK.num k t aU es).st hS) J/\aJ.le J/\∀u,bo cP v u->bo J ((fK.num k t aU es).val hS.ag) u:=by
 obtain⟨a2,rfl,v1,V,rfl,az,a1,aZ,rfl,aA,U,aG,rfl,C,N⟩:=Z;subst az N;obtain⟨e,_⟩|⟨b,R,c,ab,el,aI,aW,rfl,ah,aa,cd⟩:=aA
 .exact absurd e O
 have⟨au,aq⟩:=mK.1 aa;have⟨Y,cy,a',bj⟩:=Way.hB G M D hold h O au (F _ _ aq) (digits (b:=b) (c:=c) cd) ah;have mk:∀{J:bN} {v0:bv},Y.le J->(∀u,bo cP U u->bo J v0 u)->∀u,bo cP (.agg ⟨[.bool t,.slice (some ⟨b,R,none⟩) aU.length c,U]⟩) u->bo J (.agg ⟨[.bool t,.slice (some ⟨hS.ag,0,none⟩) aU.length aU.length,v0]⟩) u:=λ{J v0} hle ay u E=>by
  cases E with
  |agg xs aS bU al=>
   have⟨aS⟩:=aS;have aw:=bO.va bU al;obtain⟨aO,aM,rfl,W,aw⟩:=aw.cons_inv;obtain⟨aH,aK,rfl,cW,aw⟩:=aw.cons_inv;obtain⟨aL,aN,rfl,ao,aw⟩:=aw.cons_inv;have:=aw.rh;subst this;cases W;exact bo.sv<|bO.cons (.bool _)<|bO.cons ((bj _ cW).mono hle)<|bO.cons (ay _ ao)<|bO.nil _
 obtain⟨rfl,rfl⟩|⟨aj,A,aT,ak,aQ,a0,aP,aY,rfl,aD,L,T⟩:=C
 .exact⟨Y,cy.skip,a',mk (bN.le.refl _) λu E=>by cases E;exact .kl _ _⟩
 .have⟨ae,ai⟩:=mK.1 L;have⟨aB,f1,f2,f3⟩:=Way.hB G M D hold cy aj ae (F _ _ ai) (digits (b:=A) (c:=ak) T) aD;rw[rQ]at f3;refine⟨aB,f1,a'.trans f2,λu E=>?_⟩;have:=mk f2 f3 u E;cases es with
  |nil=>exact absurd o aj
  |cons x xs=>exact this
end
def afM(I:aO)(st:ao)(G:ce):oI I st G≠[]:=by
 intro e;rw[oI]at e;generalize I.aq G=v at e;cases v<;>first|cases e|skip
 rename_i p;cases p with
 |none=>cases e
 |some a=>
  have e:bx a.spot (λ_=>[a2.no]) (dL a.off 0 (A0 (st.h.get a.block) (λm U A o=>bx m (λid=>jH (st.h.get id) (λes clock=>dL U clock (dL o clock (cond (A.all λs=>Nat.ble (Nat.succ s) clock)
   (w4 I st a.block id U A<|es.filter λe=> !A.any (Nat.beq e.born)) [.no]) [.no]) [.no]) [.no]) [.ok (.tuple #[.bool false]) I st]) [.no]) [.no])=[]:=e
  cases M:a.spot with
  |some s=>rw[M]at e;cases e
  |none=>
   rw[M,mx]at e;split at e
   .generalize st.h.get a.block=J at e;cases J with
    |none=>cases e
    |some J=>
     cases J<;>first|cases e|skip
     rename_i m U A o;cases m with
     |none=>cases e
     |some id=>
      have e:jH (st.h.get id) (λes clock=>dL U clock (dL o clock (cond (A.all λs=>Nat.ble (Nat.succ s) clock) (w4 I st a.block id U A<|es.filter λe=> !A.any (Nat.beq e.born)) [.no]) [.no]) [.no]) [.no]=[]:=e;generalize st.h.get id=J at e;cases J with
      |none=>cases e
      |some J=>
       cases J<;>first|cases e|skip
       rename_i es clock;have e:dL U clock (dL o clock (cond (A.all λs=>Nat.ble (Nat.succ s) clock) (w4 I st a.block id U A<|es.filter λe=> !A.any (Nat.beq e.born)) [.no]) [.no]) [.no]=[]:=e;rw[mx]at e;split at e
       .rw[mx]at e;split at e
        .cases aa:A.all (λs=>Nat.ble (Nat.succ s) clock)with
         |false=>rw[aa]at e;cases e
         |true=>
          rw[aa]at e;generalize es.filter (λe=> !A.any (Nat.beq e.born))=L at e;cases L with
          |_=>cases e
        .cases e
       .cases e
   .cases e
def Lv{call:bR}{a8:Nat}{fn:d8}:∀(c:dz) (I:aO) (st:ao),eg call a8 fn c I st≠[]:=by
 have h:∀{L:ac cO} {g:aO->ao->ac cO},L≠[]->(∀I st,g I st≠[])->L.flatMap (pA g)≠[]:=λ{L g} A F=>by
  cases L with
  |nil=>exact absurd o A
  |cons r L=>
   intro e;have e:=(List.append_eq_nil_iff.1 e).1;cases r with
   |no=>cases e
   |out x I st=>cases x<;>first|exact F _ _ e|cases e
 intro c
 induction c with
 |gx ops=>
  intro I st;unfold eg;split
  .rename_i d G T W;exactλe=>afM _ _ _<|wj.1 e
  all_goals first
   |exactλe=>by cases e
   |(rename_i W;cases W)
 |seq a b J V=>exactλI st=>h (J I st) V
 |cond x a b J V=>
  intro I st;show kj (I.aq x) (λt=>_root_.cond t (eg call a8 fn a I st)<|eg call a8 fn b I st) [.no]≠[];cases I.aq x with
  |bool t=>cases t<;>first|exact J I st|exact V I st
  |_=>exactλe=>by cases e
 |block i a U=>exactλI st e=>U I st (wj.1 e)
 |loop a U=>
  have key:∀n I st,tx (eg call a8 fn a) n I st≠[]:=by
   intro n
   induction n with
   |zero=>intro I st e;cases e
   |succ n M=>exactλI st=>h (U I st) M
  exactλI st=>key a8 I st
 |scope a U=>exact U
 |_=>exactλI st e=>by cases e
def fK.km(cp:Nat):fK->ai
 |.lit _ u=>.v u
 |.num _ t aU es=>g4 cp<|qE t aU es
def Co(H:bm)(e:fK)(a:ai):Prop:=∃t aU es,a=qE t aU es/\aU≠[]/\match e with
 |.lit _ u=>den H (qE t aU es) [] u
 |.num _ vE vF eY=>vE=t/\vF=aU/\eY=es
variable{H:bm}
def nq(H:bm):ac fK->ac (bv×ai)->Prop
 |[],[]=>True
 |e::cH,p::ms=>e.key=p.1/\Co H e p.2/\nq H cH ms
 |_,_=>False
def nq.len:∀{cH:ac fK} {ms:ac (bv×ai)},nq H cH ms->cH.length=ms.length
 |[],[],_=>rfl
 |_::_,_::_,h=>by simp[nq.len h.2.2]
 |[],_::_,h=>h.elim
 |_::_,[],h=>h.elim
def nq.keys:∀{cH:ac fK} {ms:ac (bv×ai)},nq H cH ms->cH.map fK.key=ms.map (·.1)
 |[],[],_=>rfl
 |_::_,_::_,h=>by rw[j2,j2,h.1,nq.keys h.2.2]
 |[],_::_,h=>h.elim
 |_::_,[],h=>h.elim
def nq.get:∀{cH:ac fK} {ms:ac (bv×ai)},nq H cH ms->∀{e:fK},e∈cH->∃p∈ms,e.key=p.1/\Co H e p.2
 |[],_,_,_,he=>by cases he
 |e::cH,p::ms,h,U,he=>by
  obtain rfl|he:=fg.1 he
  .exact⟨p,gT,h.1,h.2.1⟩
  .have⟨q,Y,G⟩:=nq.get h.2.2 he;exact⟨q,e3 _ Y,G⟩
 |_::_,[],h,_,_=>h.elim
def qF:ac (bv×ai)->ac (bv×ai)->Prop
 |[],[]=>True
 |p::l,q::m=>p.1=q.1/\bX p.2 q.2/\qF l m
 |_,_=>False
def qF.keys:∀{l m:ac (bv×ai)},qF l m->l.map (·.1)=m.map (·.1)
 |[],[],_=>rfl
 |_::_,_::_,h=>by rw[j2,j2,h.1,qF.keys h.2.2]
 |[],_::_,h=>h.elim
 |_::_,[],h=>h.elim
def qF.mem:∀{l m:ac (bv×ai)},qF l m->∀p∈l,∃q∈m,p.1=q.1/\bX p.2 q.2
 |[],_,_,_,hp=>by cases hp
 |p::l,q::m,h,A,hp=>by
  obtain rfl|hp:=fg.1 hp
  .exact⟨q,gT,h.1,h.2.1⟩
  .have⟨o,Y,G⟩:=qF.mem h.2.2 A hp;exact⟨o,e3 _ Y,G⟩
 |_::_,[],h,_,_=>h.elim
def hE.SO{es:ac f6}{clock:Nat}{ms il:ac (bv×ai)}(h:hE H es clock ms)(aI:qF ms il):hE H es clock il:=by
 refine⟨h.born,h.jM,h.keys,by rw[<-aI.keys];exact h.c2,λe A=>?_,λp hp=>?_,?_⟩
 .have⟨a,Y,G⟩:=h.jw e A;have⟨q,cy,C,bj⟩:=aI.mem _ Y;have C:e.key=q.1:=C;exact⟨q.2,by rwa [C],bj _ _ _ G⟩
 .have:p.1∈ms.map (·.1):=by rw[aI.keys];exact db.2 ast
  have⟨q,aD,V⟩:=db.1 this;have⟨e,A,L⟩:=h.to q aD;exact⟨e,A,L.trans V⟩
 .have:=congrArg List.length aI.keys;simp at this;rw[h.len,this]
def Lw(cH:ac fK)(cp:Nat)(res:ac gU)(x:c6)(s:cg):Prop:=(x= .norm\/x= .ret)/\∃k,Fin.kO s res=some (.mp k)/\∃W J,s.own[k]? =some (.g<|h8 W)/\qF W J/\J.Perm (cH.map λe=>(e.key,e.km cp))
variable{aU:ac Nat}{t:Bool}{es:ac Nat}{v:bv}{bB:bm}{vE:Bool}{vF eY:ac Nat}
def hE.perm{es:ac f6}{clock:Nat}{ms il:ac (bv×ai)}(h:hE H es clock ms)(hp:ms.Perm il):hE H es clock il:=
 ⟨h.born,h.jM,h.keys,(hp.map _).nodup_iff.1 h.c2,λe A=>let⟨a,Y,G⟩:=h.jw e A;⟨a,hp.mem_iff.1 Y,G⟩,λp aD=>h.to p<|hp.mem_iff.2 aD,h.len.trans hp.length_eq⟩
def num_inv(Z:den H (qE t aU es) [] v)(O:aU≠[]):
 ∃b R c ab el D aW x,v= .agg ⟨[.bool t,.slice (some ⟨b,R,none⟩) aU.length c,x]⟩/\H b=some (.cells ab el D aW)/\aU.length<=c/\(∀i (h:i<aU.length),ab[R+i]? =some (.int .u32 ((aU[i]:Nat):Int)))/\
  ((es=[]/\x= .slice none 0 0)\/es≠[]/\∃A cq E W F M J,x= .slice (some ⟨A,cq,none⟩) es.length E/\H A=some (.cells W F M J)/\es.length<=E/\∀i (h:i<es.length),W[cq+i]? =some (.int .u32 ((es[i]:Nat):Int))):=by
 obtain⟨ai,rfl,v1,V,rfl,Y,ag,af,rfl,G,U,ae,rfl,C,N⟩:=Z;subst Y N;obtain⟨e,_⟩|⟨b,R,c,ab,el,D,aW,rfl,ah,aa,cd⟩:=G
 .exact absurd e O
 refine⟨b,R,c,ab,el,D,aW,U,o,aa,ah,digits (b:=b) (c:=c) cd,?_⟩;obtain⟨rfl,rfl⟩|⟨aj,A,cq,E,W,F,M,J,rfl,a',L,T⟩:=C
 .exact .inl e9
 .exact .inr ⟨aj,A,cq,E,W,F,M,J,o,L,a',digits (b:=A) (c:=E) T⟩
theorem xB{ab:ac bv}{R:Nat}{l m:ac Nat}(aI:l.length=m.length)(h:∀i (h:i<l.length),ab[R+i]? =some (.int .u32 ((l[i]:Nat):Int)))(D:∀i (h:i<m.length),ab[R+i]? =some (.int .u32 ((m[i]:Nat):Int))):l=m:=by
 refine As aI λi a b=>?_
 grind
theorem afN{g:Nat->be bG}(F:∀b R,H b=some R->g b=some R)(N:∀b R,bB b=some R->g b=some R)(O:aU≠[])(M:vF≠[])(h:den H (qE t aU es) [] v)(D:den bB (qE vE vF eY) [] v):t=vE/\aU=vF/\es=eY:=by
 obtain⟨b,R,c,ab,el,ag,aW,x,rfl,Y,_,G,C⟩:=num_inv h O;have⟨A,az,ao,W,aA,aq,J,aw,e,bU,_,aa,Z⟩:=num_inv D M;simp at e;obtain⟨rfl,⟨⟨rfl,rfl⟩,U,rfl⟩,rfl⟩:=e;obtain⟨rfl,_⟩:=(F _ _ Y).symm.trans<|N _ _ bU;refine⟨o,xB U G aa,?_⟩;obtain⟨rfl,rfl⟩|⟨aj,ar,g3,av,T,ai,ak,al,rfl,f1,_,f2⟩:=C
 .grind
 .obtain⟨_,e⟩|⟨ay,au,eX,E,ah,L,af,V,e,cy,_,a'⟩:=Z
  .cases e
  .simp at e;obtain⟨⟨rfl,rfl⟩,ae,rfl⟩:=e;obtain⟨rfl,_⟩:=(F _ _ f1).symm.trans<|N _ _ cy;exact xB ae f2 a'
def SP{n:Nat}(aT:∀b R,H b=some R->b<n)(O:aU≠[])(M:vF≠[])(h:den H (qE t aU es) [] v)(D:den (lP n bB) (qE vE vF eY) [] v):False:=by
 obtain⟨b,R,c,ab,el,E,aW,x,rfl,Y,_⟩:=num_inv h O;have⟨A,C,G,W,F,L,J,N,e,bU,_⟩:=num_inv D M;simp at e;have:=aT _ _ Y;have:=(mK.1 bU).1;omega
def SQ{g:bm}(h:g b=some (zj aU)):den g (.bs 1 Nat Gk aU) [] (.slice (some ⟨b,0,none⟩) aU.length aU.length):=by
 refine .inr ⟨b,0,aU.length,l6 aU,0,(0,aU.length),true,o,ct _,h,λi x O=>?_⟩;have af:=(dG.1 O).1;have W:(l6 aU).length=aU.length:=by simp[l6]
 have e:((l6 aU).drop<|0+i*1).take 1=[.int .u32 (x:Int)]:=by
  rw[show 0+i*1=i by omega,hL J];simp[List.take_succ_cons,Ip,l6,uL,((dG.1 O).2)]
 rw[e];exact arn arn
theorem SR:∀(l:ac fK) (st:ao) (i j:Nat) (h:j<(fB l st i).1.length) (D:j<l.length) {k:bv} {t:Bool} {aU es:ac Nat},l[j]= .num k t aU es->aU≠[]->∀{g:bm},(∀b R,st.ag<=b->(fB l st i).2.h.get b=some R->g b=some R)->den g (qE t aU es) [] ((fB l st i).1[j]).val
 |[],_,_,_,_,D,_,_,_,_,_,_,_,_=>by simp at D
 |e::l,st,i,0,h,_,k,t,aU,es,he,O,g,F=>by
  subst he;have aE:=F _ _ (ct _) (by
   show(fB l _<|i+1).2.h.get st.ag=_;rw[Gm _ _ _<|by show st.ag<((st.one aU).one es).ag;rw[rQ,rQ];omega];show((st.one aU).one es).h.get st.ag=_;rw[Gl _ _<|by rw[rQ];omega,SM _ O])
  refine⟨_,o,_,_,o,o,_,_,o,SQ aE,?_⟩;cases L:es with
  |nil=>exact⟨_,_,o,.inl e9,o⟩
  |cons x xs=>
   have aj:es≠[]:=by grind
   have G:g (st.ag+1)=some (zj es):=F _ _ J (by
    show(fB l _<|i+1).2.h.get (st.ag+1)=_;rw[Gm _ _ _<|by show st.ag+1<((st.one aU).one es).ag;rw[rQ,rQ];omega];show((st.one aU).one es).h.get (st.ag+1)=_;rw[<-rQ st aU,SM _ aj])
   rw[L]at G;refine⟨_,_,o,?_,o⟩;obtain h|h:=SQ G
   .cases h.1
   .exact .inr ⟨az,h⟩
 |e::l,st,i,j+1,h,D,k,t,aU,es,he,O,g,F=>by
  have:=SR l (e.st st) (i+1) j art ar7 (by simpa using he) O λb R aa ay=>F b R (cN (Lu st e) aa) ay;exact this
theorem SS:∀(l:ac fK) (st:ao) (i j:Nat) (h:j<(fB l st i).1.length) (D:j<l.length) {k u:bv},l[j]= .lit k u->((fB l st i).1[j]).val=u
 |[],_,_,_,_,D,_,_,_=>by simp at D
 |e::l,st,i,0,h,_,k,u,he=>by
  subst he;rfl
 |e::l,st,i,j+1,h,D,k,u,he=>SS l (e.st st) (i+1) j art ar7<|by simpa using he
def SU{st:ao}(h:∀i,st.ag<=i->st.h.get i=none):∀i,(st.one aU).ag<=i->(st.one aU).h.get i=none:=λi af=>by
 rw[rQ]at af;rw[Gl _ _ J];exact h i J
theorem Lx:∀(l:ac fK) (st:ao) (i:Nat),(∀b,st.ag<=b->st.h.get b=none)->∀b,(fB l st i).2.ag<=b->(fB l st i).2.h.get b=none
 |[],_,_,h=>h
 |e::l,st,i,h=>Lx l (e.st st) (i+1) (by
  cases e with
  |lit=>exact h
  |num k t aU es=>exact SU<|SU h)
structure Out(st:ao)(H:bm)(cH:ac fK)(v:bv)(ca:ao)(r:Nat)(es:ac f6)(clock:Nat)(H1:bm):Prop where
 val:v= .map (some r)
 new:st.ag<=r
 obj:ca.h.get r=some (.map es clock)
 md:hE H1 es clock (cH.map fun e=>(e.key,e.km st.ag))
 le:∀b R,H1 b=some R->ca.h.get b=some R
 hle:cL H H1
 dZ:∀b,b<st.ag->ca.h.get b=st.h.get b
 ag:st.ag<=ca.ag
variable{ca:ao}{H1:bm}{cH:ac fK}{clock:Nat}{k u:bv}{r:Nat}
def Cp{n:Nat}(h:den H ((fK.num k t aU es).km n) [] v):den (lP n H) (qE t aU es) [] v:=h
def afO{aJ:bN}{cn:fR}(aB:cn.ok k=true)(h:bo ad k u):bo aJ k u:=by
 have:=fR.same aB h;subst this;cases cn with
 |int V=>obtain⟨L,n,rfl,_⟩:=oA aB av;exact .int _ _
 |str=>obtain⟨s,rfl,_⟩:=yu aB av;exact .string _
 |arr V n=>
  obtain⟨xs,rfl,G⟩:=A8 aB av;rw[cQ,ja]at G;refine .agg xs xs o λi a b=>?_;have⟨L,m,he,_⟩:=oA (G.2 xs[i] az) av;rw[he];exact .int _ _
def afP{st:ao}(hw:bZ X ad st w)(F:∀b R,H b=some R->st.h.get b=some R)(O:aU≠[])(E:den H (qE t aU es) [] u):∃c,bo ad u c:=by
 obtain⟨b,R,c,ab,el,D,aW,x,rfl,Y,_,_,C⟩:=num_inv E O;have⟨l,W,_⟩:=hw.eJ _ _ (F _ _ Y) az;have M:bo ad (.slice (some ⟨b,R,none⟩) aU.length c) (.slice (some ⟨l.cA,l.de+R,none⟩) aU.length<|c+l.ex):=.fv ⟨b,R,none⟩ l _ _ _ W o nQ;obtain⟨_,rfl⟩|⟨_,A,N,T,V,Z,U,J,rfl,bU,_⟩:=C
 .exact aqd aqd
 .have⟨L,G,_⟩:=hw.eJ _ _ (F _ _ bU) az;exact apy apy
def Way.all{st:ao}{dR:d9}(a':bZ X ad st dR)(G:ei ad cP dR w)(M:bZ X cP ca w)(hold:∀b,b<st.ag->ca.h.get b=st.h.get b)(F:∀b R,H b=some R->st.h.get b=some R)(aa:∀b R,H1 b=some R->ca.h.get b=some R):
 ∀(cH:ac fK) (ab:ac bv) (i:Nat) {hS:ao} {aJ:bN},Way X ad st ca cP dR w hS aJ->(∀e∈cH,∃a,Co H e a)->cT H1 (cH.map<|fK.km st.ag) [] ab->∃J,Way X ad st ca cP dR w (fB cH hS i).2 J/\aJ.le J/\
  ∀(j:Nat) (h:j<(fB cH hS i).1.length) (D:j<ab.length),∀u,bo cP ab[j] u->bo J ((fB cH hS i).1[j]).val u
 |[],_,i,hS,aJ,h,_,_=>⟨aJ,h,bN.le.refl _,λj aE _=>by simp[fB]at aE⟩
 |e::cH,_,i,hS,aJ,h,U,⟨v,ab,W,Z,N⟩=>by
  subst W;obtain⟨a,t,aU,es,_,O,V⟩:=U e gT;have one:∃Y,Way X ad st ca cP dR w (e.st hS) Y/\aJ.le Y/\∀u,bo cP v u->bo Y (e.val hS.ag) u:=by
   cases e with
   |lit k L=>
    obtain⟨ah,T⟩:=afP a' F O V;subst Z;exact⟨aJ,h,bN.le.refl _,λu E=>(E.back G.le T).mono h.sW.le⟩
   |num k vE vF eY=>
    obtain⟨rfl,rfl,rfl⟩:=V;exact Way.num G M (λi af=>(a'.fresh i af).1) hold h aa O<|Cp Z
  have⟨Y,cy,C,bj⟩:=one;have⟨ae,f1,f2,f3⟩:=Way.all a' G M hold F aa cH ab (i+1) cy (λe A=>U e<|e3 _ A) N;refine⟨ae,f1,C.trans f2,λj h D u E=>?_⟩;cases j with
  |zero=>exact(bj u E).mono f2
  |succ j=>exact f3 j art ar7 u E
theorem Out.afQ{st:ao}{es:ac f6}(h:Out st H cH v ca r es clock H1):∃l:ac f6,l.length=cH.length/\(∀(j:Nat) (a3:j<l.length) (E:j<cH.length),l[j]∈es/\l[j].key=cH[j].key)/\cT H1 (cH.map<|fK.km st.ag) [] (l.map (·.val)):=by
 have key:∀V:ac fK,(∀e∈V,e∈cH)->∃l:ac f6,l.length=V.length/\(∀(j:Nat) a3 (E:j<V.length),l[j]∈es/\l[j].key=V[j].key)/\cT H1 (V.map<|fK.km st.ag) [] (l.map (·.val)):=by
  intro V
  induction V with
  |nil=>exactλ_=>⟨[],o,λj a3=>by simp at a3,o⟩
  |cons e V U=>
   intro hm;obtain⟨l,Y,G,C⟩:=U λe A=>hm e<|e3 _ A;have J:(e.key,e.km st.ag)∈cH.map λe=>(e.key,e.km st.ag):=db.2 ⟨e,hm e gT,o⟩;obtain⟨x,O,L⟩:=h.md.to _ J;obtain⟨a,D,cd⟩:=h.md.jw x O;rw[L]at D;have:=Lq h.md.c2 D J;subst this;refine⟨x::l,by simp[Y],λj a3 E=>?_,⟨_,_,o,cd,C⟩⟩
   grind
 exact key cH λ_ h=>h
def Ly(cH:ac fK)(st:ao):bv:=.map<|some (fB cH st 0).2.ag
def vG(cH:ac fK)(st:ao):ao:=(fB cH st 0).2.new<|.map (fB cH st 0).1 cH.length
theorem Lz{st:ao}(h:b≠(fB cH st 0).2.ag):(vG cH st).h.get b=(fB cH st 0).2.h.get b:=ar.fu _ _ h
def SV{bM:Nat->Nat}(h:I3 bM clock):bM≠eU:=by
 intro e;have Y:=h.up 1;rw[e]at Y;simp[eU]at Y
theorem Out.can{st:ao}{b:dQ}{bu:Bool->ac Frame}{s:Machine}{es:ac f6}(h:Out st H cH v ca r es clock H1)(a':bZ X ad st w)(aL:∀b R,H b=some R->st.h.get b=some R)
 (aZ:∀e∈cH,∃a,Co H e a) (jx:∀e∈cH,∃cn:fR,cn.ok e.key=true) (aD:hP X ad w b bu s (.ret v ca false)):hP X ad w b bu s (.ret (Ly cH st) (vG cH st) false):=by
 obtain⟨cP,bf,a0,F,aO,M,G,N,aI,aK,aM⟩:=aD;obtain⟨l,bb,aN,ay⟩:=h.afQ;have aT:∀{i:Nat} {p:bG},st.h.get i=some p->i<st.ag:=λ{i p} hp=>by
  rcases fW i st.ag with q|q
  .exact q
  .rw[(a'.fresh i q).2]at hp;cases hp
 obtain⟨aJ,cy,a5,bj⟩:=Way.all a' G M h.dZ aL h.le cH _ 0 apu aZ ay;cases h.val;cases aO with
 |map _ cx bM aw=>
  obtain⟨aY,Y,a2,ey,C,jr,aP,D⟩:=M.eJ _ _ h.obj az;rw[aw]at Y;cases Y;have aR:=Lt cH st 0;have ar:(fB cH st 0).1.Pairwise (λa b=>a.key≠b.key):=by
   rw[lA];intro i j af A O e;have ae:=h.md.c2;rw[qW]at ae;have ae:=pj.1 ae;rw[lA]at ae
   grind [rP]
  have ak:=SV D.nd;have aq:=Qn (aJ:=gK aJ (fB cH st 0).2.ag ⟨cx,0,0,sG bM (fB cH st 0).1 cH.length es clock⟩) aR.symm (λi af=>by
   have:=(rP cH st 0 i af J).2;omega) ar (λe ai=>by
   obtain⟨j,A,rfl⟩:=mo ai;have aj:j<cH.length:=J
   have V:j<l.length:=J
   obtain⟨W,cW⟩:=aN j V aj;have E:=(rP cH st 0 j A aj).1;obtain⟨cn,aG⟩:=jx cH[j]<|eO aj;refine⟨l[j],W,cW.trans E.symm,Fp D.keys W<|cW.trans E.symm,λu aa=>?_,λu aa=>?_⟩
   .rw[cW]at aa;simpa[E]using afO aG aa
   .have hle:aJ.le (gK aJ (fB cH st 0).2.ag ⟨cx,0,0,sG bM (fB cH st 0).1 cH.length es clock⟩):=by
     intro i aY af;show(if i=_ then _ else aJ i)=_;rw[au];exact af;intro e;subst e;rw[(cy.wr.fresh _<|ct _).1]at af;cases af
    refine(bj j A (by simpa using V) u ?_).mono hle;simpa using aa) (λU aB=>by
   obtain⟨a,aQ,_⟩:=h.md.jw U aB;obtain⟨e,ai,L⟩:=db.1 aQ;obtain⟨j,A,rfl⟩:=mo ai;have E:=(rP cH st 0 j J A).1;rw[Fp ar (eO J)<|E.trans<|congrArg Prod.fst L];rfl) D
  have aH:=SV aq.nd;obtain⟨bU,ba⟩:=bZ.name cy.wr (R:=.map (fB cH st 0).1 cH.length) (l:=⟨cx,0,0,sG bM (fB cH st 0).1 cH.length es clock⟩) ⟨o,o,C,jr,aP,aq⟩ aoM (λi p m hp T hm _ e=>by
   rcases cy.obj i p m hp T hm with⟨W,cW,ah⟩|⟨_,Z,a3,a6,a9,b',a1,W,cW,ah⟩
   .have:=M.inj i r p _ m _ (by rw[h.dZ i W];exact ah) T h.obj az (G.le _ _ cW) aw (.inr ak) e;have:=h.new;omega
   .have:=M.inj Z r _ _ a1 _ W az h.obj az cW aw (.inr ak) (by rw[<-ah];exact e);subst this;rw[h.obj]at W;cases W) λe=>absurd e aH
  refine⟨_,.map<|some cx,a0,F,.map _ cx _<|aA o,bU,cy.sW.name ((a'.fresh _ cy.ag).1) ?_,N,aI,aK,aM⟩;rcases G.new r _ aw with q|q|q
  .rw[(a'.fresh _ h.new).1]at q;cases q
  .exact .inl q
  .exact .inr q
