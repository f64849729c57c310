/- Rules for what a function computes on abstract states (part 2); no condition. -/
import Derived.Carry
import Derived.Test.YtnbgimpdclpgbaaGreatDoorS1
import Derived.Test.YtnbgimpdclpgbaaGreatDoorM2
noncomputable section
set_option linter.all false
namespace Go.bA
open Sym
set_option maxRecDepth 10000
def BS{X:Ctx}{K:d7->dL}{f:d7}(h:K f=dL.no)(as:ac bv)(st:aj):cj X K f as st=none:=by
 unfold cj;rw[h,dif_neg λ⟨p,j,_⟩=>j,dif_neg λ⟨p,j,_⟩=>j]
def cQ.trans{a5 H bC:bh}{i0 ids E:ac Nat}{au st ak:aj}(h:cQ a5 i0 au H ids st)(D:cQ H ids st bC E ak):cQ a5 i0 au bC E ak:=by
 have ah:∀b,b<au.ae->b∉i0->b<st.ae/\b∉ids:=λb j af=>⟨eR j h.ae,λhm=>(h.new b hm).elim af λh=>R⟩;refine⟨h.hle.trans D.hle,λb j af=>?_,λb j af=>?_,cC h.ae D.ae,λk b C=>D.jy k b<|h.jy k b C,λb j=>?_⟩
 ·obtain⟨q,A⟩:=ah b j af;rw[D.hold b q A,h.hold b j af]
 ·obtain⟨q,A⟩:=ah b j af;rw[D.eF b q A,h.eF b j af]
 ·rcases D.new b j with q|q
  ·exact h.new b q
  ·exact .inr<|cC h.ae q
section
variable{X:Ctx}{aI:ao cJ}{bk:d7->dL}{bb n:Nat}{fn:d7}{a5:bh}{i0:ac Nat}{au:aj}{Q:c1->cl->Prop}{K:ac dH}{own:ac a4}{aB:Nat}{e:bU}
def ae9(aq:eX)(K:ac dH)(xs:ac bm)(d:be Tmp)(e:bU)(res:ac gU)(x:c1)(s:cl):Prop:=(x= .norm\/x= .ret)/\∃r,Fin.m5 s res=some r/\cI aq K xs s.own s.n (dU d r e)
def wL{g:d7}(aZ:cJ)(D:aI.get g=some aZ){bP:ac ce}{as:ac ag}{d:be Tmp}{xs:ac bm}
 (k:∀H1 I Y,I.length=own.length->cF a5 H1->eQ ⟨b7 aI (cj X bk)<|n+1,n+1,g,H1,I,Y,ae9 ⟨b7 aI (cj X bk)<|n+2,bb,fn,a5,i0,au,Q⟩ K xs d e aZ.res⟩ [] (.c aZ.body) own aB (hJ 0 as))
 (M:ha e bP=some as:=by rfl) (aD:as.length<=aZ.aM:=by exact hP j) (R:bk g=dL.no:=by rfl):cI ⟨b7 aI (cj X bk)<|n+2,bb,fn,a5,i0,au,Q⟩ K (⟨d,.call (.func g) bP,none⟩::xs) own aB e:=by
 intro H ids st o F C G;have bV:=G.dJ M;have T:=k H ids st (C.len.trans C.cV.symm) F.hle H ids st (dT<|dJ o bP) (cQ.refl _ _ _) C<|cN.zero bV;obtain⟨v,ak,W,r,bC,h,s,q,A,V,E⟩:=J0 (k0:=λv ak=>∃(r:ag) (bC:bh) (h:ac Nat) (s:cl),cQ H ids st bC h ak/\Fit bC h ak s.own s.n/\den bC r h v/\cI ⟨b7 aI (cj X bk)<|n+2,bb,fn,a5,i0,au,Q⟩ K xs s.own s.n (dU d r e))
  (by rw[gd bV];exact aD) (T.mono (by
   rintro x eU b4 ⟨bC,h,s,q,A,S,D,r,O,E⟩;obtain⟨v,N,L⟩:=r2 A S O;exact⟨D,v,L,r,bC,h,s,q,A,N,E⟩))
 refine pw ?_ (E bC h ak _ (F.trans q) A<|(G.mono q.hle q.jy).dU d V);show lv (b7 aI (cj X bk) (n+2) (.func (.func g) #[] #[]) (dJ o bP) none st) _ _=_;rw[ox];have a7:fe (#[]:bi bv).toList (fe (dJ o bP) (#[]:bi bv).toList)=dJ o bP:=av
 rw[a7,BS R,D,Sym.eg,W];rfl
end
theorem KU{H:bh}{ids:ac Nat}{α:Type}{ai:α->ac ag}{z:Nat}(D:∀w,(ai w).length=z):∀{l:ac α} {ad:ac bv},ja H ids ai z l ad->cB H (l.flatMap ai) ids ad
 |[],ad,h=>by
  have:=nr (by rw[h.1];simp);exact this
 |w::l,ad,h=>by
  rw[<-ob z ad];have j:=h.2 0 w av;rw[jk]at j;have q:=y2 h 1;rw[vv]at q;exact yR j<|KU D q
section
variable{aq:eX}{K:ac dH}{own bo:ac a4}{aB cR:Nat}{e:bU}{d:Tmp}{xs:ac bm}{x y i:ce}
variable{el:co}{dE:Nat}{l:ac ci}{n z:Nat}{α:Type}{p:ac bm}{aU:Bool}{J:Nat}
def Rx(k:Nat){ai:α->ac ag}{l:ac α}(bG:cI aq K p bo aB e)(ax:own[k]? =some (.a el false z α ai l):=by rfl)(F:∀w,(ai w).length=z:=by exactλ_=>j)(M:hn own k (.c el<|l.flatMap ai) some=some bo:=by rfl):cI aq K p own aB e:=λH ids st o G h I=>by
 have:=ih M;cases this;refine bG H ids st o G ⟨h.wf,h.le,by simp[h.cV],h.len,h.cT,h.lt,?_⟩ I;intro J q c A C;by_cases D:k=J
 ·subst D;rw[o0,aE j]at A;split at A<;>cases A;obtain⟨⟨ad,L,E,N⟩,O⟩:=h.own k _ c ax C;exact⟨⟨ad,L,KU F ⟨E,N⟩⟩,λ_=>O j⟩
 ·rw[o0,aw D]at A;exact h.own J q c A C
def afa(t:Nat){k:Nat}{ai:α->ac ag}{l:ac α}(bG:cI aq K p bo aB ((t,.ip<|l.flatMap ai)::e))(M:dp e t=some (.p k 0):=by rfl)(ax:own[k]? =some (.a el aU z α ai l):=by rfl)(hp:∀x,g9 (ai x)=true:=by exactλ_=>j)(F:∀w,(ai w).length=z:=by exactλ_=>j)(N:hn own k .x some=some bo:=by rfl):cI aq K p own aB e:=λH ids st o I A C=>by
 have:=ih N;cases this;obtain⟨b,cE,G⟩:=C.get t _ M;obtain⟨⟨ad,a2,cD,cX⟩,_⟩:=A.own k _ b ax cE;have hle:=r1 A ax j cE;refine bG (fA H st b) ids st o (I.fA A ax j cE) (A.fA ax j cE) ⟨(C.mono hle<|cf.refl _).pl,λJ q h=>?_⟩;rw[lW]at h;cases D:Nat.beq t J with
 |false=>rw[D]at h;exact(C.mono hle<|cf.refl _).get J q h
 |true=>
  rw[D]at h;cases h;rw[<-dM D];have L:ja H [] ai z l ad:=⟨cD,λi x E=>px _ (hp x) (cX i x E) []⟩;have bV:=KU F L;have O:=gd bV;refine⟨b,0,ad,el,(0,0),aU,G,by unfold fA;rw[aE j];exact a2,?_⟩;rw[iQ,<-O,o1];exact lx hle _ (cf.refl _) bV
def Ry{call:bM}{s:cl}(D:a6 s.env y=some (.s l)):uv call el dE s y iy 1 l:=λH ids st o G A x p n c q=>by
 have E:=A.ar D;obtain⟨F,C⟩:=Rv H ids l;refine⟨mW l,F,C,?_⟩;have e:bw call (.app el 1 dE x y) o st=hE (o.ar x) (λbase len h=>hE (o.ar y) (λb n _=>bn b (λb=>st.load b (Nat.mul n 1) (λnew=>cond (gV new) (jn o st el 1 dE base len h n new) .no) .no)<|dz n 0 (jn o st el 1 dE base len h 0 []) .no)<|rr (o.ar y) (jn o st el 1 dE base len h 0 [])<|hD (o.ar y) (λs=>dz 1 1 (jn o st el 1 dE base len h (du s.data.toList)<|mW s.data.toList) .no) .no) .no:=rfl;rw[e,q,E];show dz 1 1 (jn o st el 1 dE p n c (du l)<|mW l) .no=_;rw[ig j,eP]
def afb(k:cI aq K xs bo cR ((d,.aK aB 1 0 l.length l.length)::e))(j:a6 e x=some .nl:=by rfl)(D:a6 e y=some (.s l):=by rfl)
 (E:mE own (.a el true 1 ci iy l) some=some bo:=by rfl) (F:mF aB some=some cR:=by rfl) (bX:l≠[]:=by first|rfl|simp) (aA:(5*l.length+1792)*(dE+1)<=1125899906842624:=by first|omega|(simp;done)|(simp;omega)):gx aq K d (.app el 1 dE x y) xs own aB e:=by
 have h:=m2 E;have q:=nN F;cases h;cases q;exact eL (KH j (Ry D) bX aA) k
def afc{a9 c:Nat}{m:ac ci}{gy:ac a4}(k:cI aq K xs bo cR ((d,.aK aB 1 0 (n+m.length)<|n+m.length)::e))(j:a6 e x=some (.aK a9 1 0 n c):=by rfl)(D:a6 e y=some (.s m):=by rfl)(ax:own[a9]? =some (.a el true 1 ci iy l):=by rfl)
 (F:hn own a9 .x some=some gy:=by rfl) (E:mE gy (.a el true 1 ci iy<|l++m) some=some bo:=by rfl) (G:mF aB some=some cR:=by rfl) (bX:m≠[]:=by first|rfl|simp) (ah:n=l.length:=by first|omega|(simp;done)|(simp;omega)) (I:n=c:=by omega) (aA:(5*(n+m.length)+1792)*(dE+1)<=1125899906842624:=by first|omega|(simp;done)|(simp;omega)):gx aq K d (.app el 1 dE x y) xs own aB e:=by
 have A:=ih F;cases A;have h:=m2 E;have q:=nN G;cases h;cases q;have:=KI (call:=aq.call) (s:=⟨own,aB,e⟩) j ax (Ry D) bX R R R aA;rw[ah,o1]at this;rw[ah]at k;exact eL this k
def FD{a9:Nat}{bG:f6}(k:cI aq K xs own aB ((d,.fk a9 1 J 0)::e))(D:a6 e x=some (.p a9 0):=by rfl)(af:a6 e i=some (.i bG (J:Int)):=by rfl)(ba:J<n:=by omega):gx aq K d (.rl n 1 x i) xs own aB e:=
 eL (λH ids st o C q=>let⟨v,ak,E,bC,F,G,A,h⟩:=sQ D af ba H ids st o C q;⟨v,ak,E,bC,F,G,ae3 R _ _ _ A,h⟩) k
def afd{g:Nat}{bG:f6}{ad:ac bv}{F:Nat×Nat}{cs:ac ag}(E:aq.a5 g=some (.cells ad el F aU))(bV:∀H,cB H cs [] ad)(k:cI aq K xs own aB ((d,.ip<|cs.drop J)::e))(D:a6 e x=some (.v<|.pointer<|some ⟨g,0,none⟩):=by rfl)(af:a6 e i=some (.i bG (J:Int)):=by rfl)(ba:J<n:=by omega):gx aq K d (.rl n 1 x i) xs own aB e:=by
 have:=Rw (call:=aq.call) (s:=⟨own,aB,e⟩) (z:=1) D E bV af ba;rw[n8]at this;exact sP this k
end
section
variable{call:bM}{s:cl}{x y:ce}
variable{neg:Bool}
def Rz{c:Bool}{t:p9}{o:aJ}{st:aj}(aS:jY 8 t (o.ar x) (o.ar y)=some c):bw call (.eqv neg t x y) o st= .ok (.bool<|mC neg c) o st:=by
 show bn (jY 8 t (o.ar x)<|o.ar y) (λb=>a1.ok (.bool<|cond neg (!b) b) o st) .no=_;rw[aS];rfl
def afe(D:a6 s.env x=some (.v<|.pointer none))(E:a6 s.env y=some (.v<|.pointer none)):fj call (.eqv neg .ptr x y) s (.b<|mC neg true) s.own s.n:=jM λH ids st o q h=>
 ⟨_,j,Rz<|by rw[show o.ar x=_ from h.ar D,show o.ar y=_ from h.ar E];simp[jY,vP]⟩
def aff{k U:Nat}(D:a6 s.env x=some (.p k U))(E:a6 s.env y=some (.p k U)):fj call (.eqv neg .ptr x y) s (.b<|mC neg true) s.own s.n:=jM λH ids st o G h=>by
 obtain⟨b,C,F⟩:=h.ar D;obtain⟨I,q,A⟩:=h.ar E;rw[C]at q;cases q;exact⟨_,j,Rz<|by rw[F,A];simp[jY,vP]⟩
end
section
variable{aq:eX}{K:ac dH}{own bo bf gy:ac a4}{aB aX b0 back:Nat}{e a7:bU}{d:Tmp}{ay:ac Tmp}{xs:ac (bm×cr)}{x y i:ce}
variable{n:Nat}
def afg{a9 z c:Nat}(k:dy aq K xs bf ((d,.p a9 0)::a7) aX b0 own aB ((d,.p a9 0)::e))(D:a6 (dZ ay a7) x=some (.aK a9 z 0 n c):=by rfl)(aS:c≠0:=by omega)(aA:back<aX:=by decide):dy aq K ((⟨some d,.DK x,none⟩,.read back ay)::xs) bf a7 aX b0 own aB e:=
 k2 aA (λH ids st o h _ _=>by
  obtain⟨b,A,C⟩:=h.ar D;refine⟨_,⟨b,A,j⟩,λq _ _=>?_⟩;show IG x aq.call o q=_;unfold IG;rw[C,ps,jk,Sym.eg,pt aS]) k
def afh{a9:Nat}{el:co}{aU:Bool}{l:ac ci}{bG:f6}{D:bU}(k:dy aq K xs gy D (aX+1) aB bo aB ((d,.s l)::e))(j:a6 e x=some (.p a9 0):=by rfl)(E:a6 e y=some (.i bG (n:Int)):=by rfl)(ax:own[a9]? =some (.a el aU 1 ci iy l):=by rfl)(F:hn own a9 .x some=some bo:=by rfl)(G:yZ bf (some a9) some=some gy:=by rfl)(I:j6 d a7=D:=by rfl)
 (ah:n=l.length:=by first|rfl|omega|(simp;done)) (bX:n≠0:=by omega) (aA:n<=1099511627776:=by omega):dy aq K ((⟨some d,.tN el x y,none⟩,.dF)::xs) bf a7 aX b0 own aB e:=by
 have h:=ih F;cases h;obtain⟨L,cE,q,a2⟩:=Fo G;cases cE;subst I;exact y1 (ae7 j E ax ah bX aA) q (λk U C A=>by
  have:=a2 k U C A;simp only[g0,j];exact this) k
end
variable{call:bM}{o:aJ}{H:bh}{ids:ac Nat}{bb n:Nat}{a b:dk}{eU:aJ}{b4:aj}{s:cl}{l r:Nat}{f:d7}{aZ:cJ}{el:co}
def plainO:c7->Bool
 |.jl _=>true
 |.alloc _ _=>true
 |.call _ _=>true
 |_=>false
def afi{U:c7}{D:aJ}{st ak:aj}{v:bv}(E:plainO U=true)(h:bw call U o st= .ok v D ak):D=o:=by
 cases U<;>first|cases E|skip
 ·cases h;rfl
 ·rename_i z el;have e:bw call (.alloc z el) o st=st.ib (.cells z el (0,0) false) λid st=>.ok (.pointer<|some ⟨id,0,none⟩) o st:=rfl;rw[e,gF]at h;cases h;rfl
 ·rename_i f as;rw[yO]at h;cases j:call (o.ar f) (dJ o as) none st with
  |ret v1 b4 q=>rw[j,Qx]at h;cases h;rfl
  |aR v1 b4 q=>rw[j,Qy]at h;cases h
  |no=>rw[j]at h;cases h
theorem RA{call:bM}:∀{ops:ac bm} {o q:aJ} {st ak:aj} {e:c1},(ops.all λx=>x.g.isNone&&plainO x.U)=true->fV call ops o st= .out e q ak->q.b1=o.b1
 |[],_,_,_,_,_,_,h=>by cases h;rfl
 |⟨d,U,g⟩::ops,o,q,st,ak,e,j,h=>by
  rw[xO,cO,cO]at j;obtain⟨⟨E,C⟩,j⟩:=j;cases g with
  |some p=>cases E
  |none=>
   have h:rU (bw call U o st) (λv o st=>fV call ops (o.put d v) st) (λv st=>cond U.kU (.out (.aR v) o st) .no)= .out e q ak:=h;have C:plainO U=true:=C;cases A:bw call U o st with
   |ok v eU b4=>
    have D:=afi C A;subst D;rw[A,wu]at h;rw[RA j h];exact(qj _ _ _).2.2.2
   |aR v b4=>
    rw[A,Qw]at h;cases hp:U.kU with
    |true=>rw[hp,cond_true]at h;cases h;rfl
    |false=>rw[hp,cond_false]at h;cases h
   |no=>rw[A,ac4]at h;cases h
def yL{fn:d7}{ops:ac bm}{t:cl}{st:aj}(hp:(ops.all λx=>x.g.isNone&&plainO x.U)=true)(h:∀H1 E M,E.length=s.own.length->cF H H1->b5.ok ⟨call,bb,fn,H1,E,M,λx A=>x= .norm/\A=t⟩ ⟨[],.U ops,s⟩)
 (D:Fit H ids st s.own s.n) (G:cN o H ids s.env):∃q ak bC j,cZ call bb fn (.fU ops) o st= .out .norm q ak/\cQ H ids st bC j ak/\Fit bC j ak t.own t.n/\cN q bC j t.env/\q.b1=o.b1:=by
 obtain⟨e,q,ak,C,bC,j,A,F,I,L,rfl,rfl⟩:=h H ids st (D.len.trans D.cV.symm) (cF.refl _) H ids st o (cQ.refl _ _ _) D G;exact⟨q,ak,bC,j,C,F,I,L,RA hp C⟩
def Fit.extra{st:aj}{own:ac a4}(h:Fit H ids st own n)(gg:bz):Fit H ids ⟨st.h.set st.ae gg,st.ae+1⟩ own n:=by
 have q:∀b,b<st.ae->(ao.set st.h st.ae gg).get b=st.h.get b:=λb j=>ao.fa _ _ R;refine⟨λi af=>?_,λb U j=>?_,h.cV,h.len,h.cT,λb j=>Ac<|h.lt b j,λk U b A j=>?_⟩
 ·show(ao.set st.h st.ae gg).get i=none;have af:st.ae+1<=i:=af;rw[ao.fa _ _ R];exact h.wf i R
 ·show(ao.set st.h st.ae gg).get b=some U;rw[q b<|h.aT j];exact h.le b U j
 ·show mD H ids U ((ao.set st.h st.ae gg).get b)/\_;rw[q b<|h.lt b<|hg j];exact h.own k U b A j
theorem Fit.other{st:aj}{own:ac a4}(h:Fit H ids st own n)(aD:l<st.ae)(af:l∉ids)(D:H l=none)(gg:bz):Fit H ids ⟨st.h.set l gg,st.ae⟩ own n:=by
 refine⟨λi q=>?_,λb U j=>?_,h.cV,h.len,h.cT,h.lt,λk U b A j=>?_⟩
 ·show(ao.set st.h l gg).get i=none;have q:st.ae<=i:=q;rw[ao.fa _ _ R];exact h.wf i q
 ·show(ao.set st.h l gg).get b=some U;rw[ao.fa _ _ λe=>by rw[e,D]at j;cases j];exact h.le b U j
 ·show mD H ids U ((ao.set st.h l gg).get b)/\_;rw[ao.fa _ _<|by grind];exact h.own k U b A j
theorem cf.eq{i J:ac Nat}(h:cf i J)(aD:i.length=J.length):i=J:=by
 apply p0;intro k;by_cases q:k<i.length
 ·rw[a0 q,h k _<|a0 q]
 ·grind
def KV:ac Tmp->ac ag->bU->bU
 |t::ay,a::as,e=>KV ay as ((t,a)::e)
 |_,_,e=>e
def cN.par{c4:ac Deferred}{aR:be bv}{D:Bool}{j:be Nat}:∀{ay:ac Tmp} {as:ac ag} {ad:ac bv} {t:ao bv} {e:bU},cB H as ids ad->cN ⟨t,c4,aR,D,j⟩ H ids e->cN ⟨oo ay ad t,c4,aR,D,j⟩ H ids (KV ay as e)
 |[],[],_,_,_,_,h=>h
 |[],_::_,_,_,_,_,h=>h
 |_::_,[],ad,t,e,d,h=>by cases d;exact h
 |p::ay,a::as,_,t,e,⟨v,ws,rfl,A,C⟩,h=>by
  have aF:=h.put p A;have q:(⟨t,c4,aR,D,j⟩:aJ).put (some p) v=⟨t.set p v,c4,aR,D,j⟩:=by
   rw[II]
  rw[q]at aF;have:=cN.par (ay:=ay) C aF;have E:oo (p::ay) (v::ws) t=oo ay ws (t.set p v):=by
   show ao.im (Nat.succ p) t p v (λm=>oo ay ws m)=_;rw[ao.vV]
  rw[E];exact this
def afj{st:aj}(bV:o.c4=[]){s:LoopState}{fW:be c1}{fn:d7}{t:ao bv}{a8:ac Tmp}{d:Nat}(j:st.h.get l=some (.loop s fW fn t a8 a b d)):qh l (.out .norm o st)= .ret (.bool true) ⟨st.h.set l<|.loop .ready none fn t a8 a b d,st.ae⟩ false:=by
 have e:qh l (.out .norm o st)=List.rec (motive:=λ_=>dQ) (mm (st.h.get l) (λ_ _ fn t a8 a b d=>st.gO l (.loop .ready none fn t a8 a b d) λst=>.ret (.bool true) st false) .no) (λ_ _ _=>.no) o.c4:=rfl;rw[e,bV,j];show(st.gO l (.loop .ready none fn t a8 a b d) λst=>dQ.ret (.bool true) st false)=_;rw[iH]
def FE{fn:d7}{st:aj}{Q:c1->aJ->aj->Prop}(h:cZ call bb fn a o st= .out .norm eU b4)(k:W (cZ call bb fn b eU b4) Q):W (cZ call bb fn (.seq a b) o st) Q:=by
 rw[E3,h];exact k
def afk{fn:d7}{D:aJ}{st j:aj}(h:cZ call bb fn a o st= .out .norm eU b4)(k:cZ call bb fn b eU b4= .out .norm D j):cZ call bb fn (.seq a b) o st= .out .norm D j:=by
 rw[E3,h];exact k
def afl{fn:d7}{i:Nat}{st:aj}(h:cZ call bb fn a o st= .out .norm eU b4):cZ call bb fn (.block i a) o st= .out .norm eU b4:=by
 rw[QA,h];rfl
def cQ.other{a5:bh}{i0:ac Nat}{au st:aj}(h:cQ a5 i0 au H ids st)(D:au.ae<=r)(gg:bz):cQ a5 i0 au H ids ⟨st.h.set r gg,st.ae⟩:=⟨h.hle,h.hold,λb j af=>by
 rw[ao.fa _ _ R];exact h.eF b j af,h.ae,h.jy,h.new⟩
def RB{as:ac bv}{st:aj}{k0:bv->aj->Prop}(aD:as.length<=aZ.aM)
 (h:W (cZ call n f aZ.body (dT as) st) λe o b4=>(e= .norm\/e= .ret)/\∃v ak,fv call aZ.res none o b4= .ret v ak false/\k0 v ak):
 ∃v ak,ie call n f aZ as none st= .ret v ak false/\k0 v ak:=by
 obtain⟨e,o,b4,A,C,v,ak,j,q⟩:=h;refine⟨v,ak,?_,q⟩;unfold ie;rw[lg,aE<|by rw[eP];exact aD];show cH.rec (motive:=λ_=>dQ) _ _ (cZ call n f aZ.body (dT as) st)=_;rw[A];rcases C with rfl|rfl
 ·exact j
 ·exact j
def afm{X:Ctx}{aI:ao cJ}(E:Good X)(F:iZ X aI)(K:d7->dL)(D:aI.get f=some aZ){S:Spec}(aD:∀l as st,S.pre l as st->as.length<=aZ.aM)
 (h:∀l as st,S.pre l as st->W (cZ (b7 aI (cj X K)<|bx+1) (bx+1) f aZ.body (dT as) st)
  (λe o b4=>(e= .norm\/e= .ret)/\∃v ak,fv (b7 aI (cj X K)<|bx+1) aZ.res none o b4= .ret v ak false/\S.post l as st v ak)):dY X f S:=by
 intro as st ⟨l,hp⟩;obtain⟨v,ak,j,I⟩:=RB (aD l as st hp)<|h l as st hp;refine⟨v,ak,λA q=>?_,JZ E F D j⟩;obtain⟨L,G,cE,C⟩:=RB (aD A as st q)<|h A as st q;rw[j]at cE;cases cE;exact C
def afn{t:Nat}{st:aj}(bV:o.c4=[{target:=.collected r,args:= #[]}])(j:o.cL=false)(q:st.h.get r=some (.jm<|some [])):fv call [.tmp t] none o st= .ret (o.tmp t) ⟨st.h.set r<|.jm none,st.ae⟩ false:=by
 have e:jr call o.c4 none st=some (none,⟨st.h.set r<|.jm none,st.ae⟩):=by
  rw[bV];simp[jr,q];rw[iH]
 unfold fv;rw[e,j];rfl
def afo{aq:eX}{K:ac dH}{own bo:ac a4}{aB:Nat}{e:bU}{p:ac bm}(k:Nat){cs:ac ag}(D:ac ag)(aD:gf cs D)(bG:cI aq K p bo aB e)(ax:own[k]? =some (.c el cs):=by rfl)(M:hn own k (.c el D) some=some bo:=by rfl):cI aq K p own aB e:=λH ids st o G h I=>by
 have:=ih M;cases this;refine bG H ids st o G ⟨h.wf,h.le,by simp[h.cV],h.len,h.cT,h.lt,?_⟩ I;intro J q c A C;by_cases E:k=J
 ·subst E;rw[o0,aE j]at A;split at A<;>cases A;obtain⟨⟨ad,L,F⟩,N⟩:=h.own k _ c ax C;exact⟨⟨ad,L,aD.den F⟩,λ_=>N j⟩
 ·rw[o0,aw E]at A;exact h.own J q c A C
def afp{x:ce}{k z p q:Nat}{α:Type}{ai:α->ac ag}{l:ac α}{bg af:be ce}(D:a6 s.env x=some (.p k 0))(ax:s.own[k]? =some (.a el false z α ai l))(G:fl s bg 0 p)(F:fl s af n q)(hp:p<=q)(cz:q<=n):fj call (.vJ n z x bg af none) s (.aK k z (if n=p then 0 else p) (q-p)<|n-p) s.own s.n:=jM λH ids st o E h=>by
 obtain⟨b,C,I⟩:=h.ar D;obtain⟨ad,a2,cD,cX⟩:=oD E ax C;refine⟨_,⟨b,C,j⟩,?_⟩;show sv n z x bg af none call o st=_;unfold sv aj.fM;rw[I,kZ,Sym.eg,Sym.hU,a2,kl,cond_false,r0,fl.ar F h cz,fl.ar G h hp];congr 2;by_cases A:n=p
 ·subst A;rw[ig j,aE j,jk]
 ·rw[pt A,m1,iE,aw A];rfl
section
variable{aq:eX}{K:ac dH}{own:ac a4}{aB:Nat}{e:bU}{d:Tmp}{xs:ac bm}{x y:ce}
variable{z:Nat}
def afq{α:Type}{ai:α->ac ag}{l:ac α}{neg:Bool}(bH:cI aq K xs own aB ((d,.b neg)::e))(M:l=[]->cI aq K xs own aB ((d,.b<|!neg)::e))(F:a6 e x=some (.cU z α ai l):=by rfl)(G:a6 e y=some .nl:=by rfl):
 gx aq K d (.eqv neg .lL x y) xs own aB e:=λH ids st o C D h=>by
 have E:=h.ar G;have I:=h.ar F;rcases I with⟨ah,A⟩|⟨b,U,c,ad,el,L,aU,A,_⟩
 ·have q:bw aq.call (.eqv neg .lL x y) o st= .ok (.bool<|!neg) o st:=by
   have e:bw aq.call (.eqv neg .lL x y) o st=bn (ru (o.ar x)<|o.ar y) (λb=>.ok (.bool<|cond neg (!b) b) o st) .no:=rfl;rw[e,A,E];cases neg<;>rfl
  exact pw q<|M ah H ids st _ C D<|h.dU (some d) j
 ·have q:bw aq.call (.eqv neg .lL x y) o st= .ok (.bool neg) o st:=by
   have e:bw aq.call (.eqv neg .lL x y) o st=bn (ru (o.ar x)<|o.ar y) (λb=>.ok (.bool<|cond neg (!b) b) o st) .no:=rfl;rw[e,A,E];cases neg<;>rfl
  exact pw q<|bH H ids st _ C D<|h.dU (some d) j
def RC{g J:Nat}{bG:f6}{ad:ac bv}{F:Nat×Nat}{aU:Bool}{cs:ac ag}(E:aq.a5 g=some (.cells ad el F aU))(bV:∀H,cB H cs [] ad)(k:cI aq K xs own aB ((d,.ip<|cs.drop<|J*z)::e))(D:a6 e x=some (.v<|.pointer<|some ⟨g,0,none⟩):=by rfl)(af:a6 e y=some (.i bG (J:Int)):=by rfl)(ba:J<n:=by omega):gx aq K d (.rl n z x y) xs own aB e:=
 sP (Rw D E bV af ba) k
end
def RD{X:Ctx}{aI:ao cJ}{bk:d7->dL}{g:d7}{S:bl}(aS:dY X g S.spec)(E:bk g=S.spec.K){f:ce}{bP:ac ce}{as bO cs:ac ag}(l:S.L)(I:a6 s.env f=some (.fn (.func g) bO cs))(N:ha s.env bP=some as)(fH:g9 (bO++(as++cs))=true)(he:gf (bO++(as++cs)) (S.args l))(hp:S.pre l){a5:bh}(cA:S.hp a5):
 pA a5 (b7 aI (cj X bk)<|n+1) (.call f bP) s (S.res l) s.own s.n:=λH ids st o F q C=>by
 have af:=C.ar I;obtain⟨ad,G,R,T,V⟩:=af;have bV:=he.den<|px _ fH (yR T<|yR (C.dJ N) V) [];obtain⟨v,ak,Y,Z⟩:=aS _ st ⟨(l,H),hp,S.hm F cA,q.less,bV⟩;obtain⟨v1,b4,cE,A⟩:=yP (K:=bk) ⟨v,ak,by rw[E];exact Y,Z⟩;rw[E]at A;obtain⟨bC,D,j,W⟩:=A (l,H) ⟨hp,S.hm F cA,q.less,bV⟩;have a2:b7 aI (cj X bk) (n+1) (o.ar f) (dJ o bP) none st= .ret v1 b4 false:=by
  rw[R,ox];have e:fe (⟨ad⟩:bi bv).toList (fe (dJ o bP) (⟨G⟩:bi bv).toList)=ad++(dJ o bP++G):=av
  rw[e,cE];rfl
 have hle:=j.hle;refine⟨v1,b4,ids,bC,?_,?_,iw (cF.refl _) _ (cf.nil _) W,hle,cf.refl _,?_,j.ae,λb h _=>j.eF b h av⟩
 ·rw[yO];rw[a2];rfl
 ·refine⟨D.wf,D.le,q.cV,q.len,q.cT,λb h=>eR (q.lt b h) j.ae,λk U b a' h=>?_⟩;obtain⟨O,M⟩:=q.own k U b a' h;have aT:=q.lt b<|hg h;rw[j.eF b aT av];exact⟨rX hle (cf.refl _) O,λaa=>by rw[j.hold b aT av];exact M aa⟩
 ·intro a5 i0 au B;refine⟨B.hle.trans hle,λb h ah=>?_,λb h ah=>?_,cC B.ae j.ae,B.jy,B.new⟩
  ·rw[j.hold b (eR h B.ae) av];exact B.hold b h ah
  ·rw[j.eF b (eR h B.ae) av];exact B.eF b h ah
section
variable{X:Ctx}{aI:ao cJ}{bk:d7->dL}{bb n:Nat}{fn:d7}{a5:bh}{i0:ac Nat}{au:aj}{Q:c1->cl->Prop}{K:ac dH}{own:ac a4}{aB:Nat}{e:bU}
def BU{g:d7}{S:bl}(aS:dY X g S.spec){f:ce}{bP:ac ce}{as bO cs:ac ag}{d:Tmp}{xs:ac bm}(l:S.L)(hp:S.pre l)(k:cI (gP X aI bk n bb fn a5 i0 au Q) K xs own aB ((d,S.res l)::e))
 (D:a6 e f=some (.fn (.func g) bO cs):=by rfl) (j:ha e bP=some as:=by rfl) (he:gf (bO++(as++cs)) (S.args l):=by exact gf.refl _) (fH:g9 (bO++(as++cs))=true:=by rfl) (E:bk g=S.spec.K:=by rfl) (cA:S.hp a5:=by exact aC):
 gx (gP X aI bk n bb fn a5 i0 au Q) K d (.call f bP) xs own aB e:=sP (RD aS E l D j fH he hp cA) k
end
section
variable{aq:eX}{K:ac dH}{own bo:ac a4}{aB:Nat}{e:bU}
variable{k:Nat}{cs:ac ag}
def afr{t:Nat}(G:dp e t=some (.p k 0))(ax:own[k]? =some (.c el cs))(hp:g9 cs=true)
 {H:bh} {ids:ac Nat} {st:aj} {o:aJ} (F:cQ aq.a5 aq.i0 aq.au H ids st) (D:Fit H ids st own aB) (E:cN o H ids e):
 ∃bC,cQ aq.a5 aq.i0 aq.au bC ids st/\Fit bC ids st (own.set k .x) aB/\cN o bC ids ((t,.ip cs)::e):=by
 obtain⟨b,cE,C⟩:=E.get t _ G;obtain⟨⟨ad,a2,d⟩,_⟩:=D.own k _ b ax cE;have hle:=r1 D ax j cE;refine⟨fA H st b,F.fA D ax j cE,D.fA ax j cE,(E.mono hle<|cf.refl _).pl,λJ q h=>?_⟩;rw[lW]at h;cases A:Nat.beq t J with
 |false=>rw[A]at h;exact(E.mono hle<|cf.refl _).get J q h
 |true=>
  rw[A]at h;cases h;rw[<-dM A];refine⟨b,0,ad,el,(0,0),_,C,by unfold fA;rw[aE j];exact a2,?_⟩;have I:=gd d;rw[iQ,iG R];exact lx hle _ (cf.refl _)<|px _ hp d []
def RE(t:Nat){p:ac bm}(bG:cI aq K p bo aB ((t,.ip cs)::e))(D:dp e t=some (.p k 0):=by rfl)(ax:own[k]? =some (.c el cs):=by rfl)(hp:g9 cs=true:=by rfl)(E:hn own k .x some=some bo:=by rfl):cI aq K p own aB e:=by
 have h:=ih E;cases h;exactλH ids st o j C q=>let⟨bC,h,F,A⟩:=afr D ax hp j C q;bG bC ids st o h F A
end
end Go.bA
namespace Go.bA
open Sym
variable{X:Ctx}
section
variable{aq:eX}{K:ac dH}{s:cl}
def KW{d:be Tmp}{U:c7}{l:ac (bm×cr)}{bf:ac a4}{a7:bU}{aX b0 cR:Nat}{bo:ac a4}{a:ag}
 (h:∀(H:bh) (ids:ac Nat) (st:aj) (o:aJ),cQ aq.a5 aq.i0 aq.au H ids st->Fit H ids st s.own s.n->cN o H ids s.env->∃v ak q bC,bw aq.call U o st= .ok v o ak/\Fit bC q ak bo cR/\den bC a q v/\cF H bC/\cf ids q/\cQ aq.a5 aq.i0 aq.au bC q ak/\st.ae<=ak.ae)
 (k:ai aq K (.d l (bf.map λ_=>.x) (pC d a7) (aX+1) cR) ⟨bo,cR,dU d a s.env⟩):ai aq K (.d ((⟨d,U,none⟩,.dF)::l) bf a7 aX b0) s:=by
 have D:∀(k:Nat) (j:a4),(bf.map λ_=>a4.x)[k]? =some j->j.live=true->False:=by
  intro k j A C;simp at A;obtain⟨_,_,rfl⟩:=A;cases C
 exact Q0 (λH ids st o F I G=>let⟨v,ak,q,bC,cE,E,a2,cD,cX,et,fs⟩:=h H ids st o F I G;⟨v,ak,q,bC,cE,E,a2,cD,cX,et,fs,λk _ j A C=>(D k j A C).elim⟩) av (λk j A C=>(D k j A C).elim) k
end
end Go.bA
namespace Go.bA
open Sym
section
variable{aq:eX}{K:ac dH}{own bo bf gy:ac a4}{aB aX b0 back:Nat}{e a7:bU}{d:Tmp}{ay:ac Tmp}{xs:ac bm}{aQ:ac (bm×cr)}{x y:ce}
def hW{a9 z J q m:Nat}{el:co}{aU:Bool}{α:Type}{ai:α->ac ag}{l:ac α}{a:ag}{w:α}(w':α){aN:ac ag}(ba:l[J]? =some w)(k:dy aq K aQ gy a7 (aX+1) aB bo aB e)(D:a6 e x=some (.fk a9 z J q):=by rfl)(F:a6 e y=some a:=by rfl)(ax:own[a9]? =some (.a el aU z α ai l):=by rfl)(aS:sN a=some aN:=by rfl)(aD:aN.length=m:=by rfl)(M:py aN=true:=by rfl)
 (I:ai w'=(ai w).take q++(aN++(ai w).drop (q+aN.length)):=by rfl) (G:hn own a9 (.a el aU z α ai<|l.set J w') some=some bo:=by rfl) (N:yZ bf (some a9) some=some gy:=by rfl) (E:q+m<=z:=by decide):dy aq K ((⟨none,.store m x y,none⟩,.dF)::aQ) bf a7 aX b0 own aB e:=by
 have h:=ih G;cases h;obtain⟨L,cE,A,a2⟩:=Fo N;cases cE;exact y1 (Q8 w' D F aS aD M ax ba I E) A (λk U C aD=>by
  have:=a2 k U C aD;simp only[g0,D];exact this)
  k
variable{c:bd}
variable{P:Prop}{a:Int}{b:Bool}{bV:Decidable P}
def v1(t:Nat)(h:P)(k:eQ aq K c own aB ((t,.b true)::e))(aD:dp e t=some (.b<|decide P):=by rfl)(aS:c.m3=false:=by rfl):eQ aq K c own aB e:=aP t (.b true) aD (by rw[ck h]) k aS
def v0(t:Nat)(h:¬P)(k:eQ aq K c own aB ((t,.b false)::e))(aD:dp e t=some (.b<|decide P):=by rfl)(aS:c.m3=false:=by rfl):eQ aq K c own aB e:=aP t (.b false) aD (by rw[cq h]) k aS
def m6(t:Nat){a:Bool}(h:a=b)(k:eQ aq K c own aB ((t,.b b)::e))(aD:dp e t=some (.b a):=by rfl)(aS:c.m3=false:=by rfl):eQ aq K c own aB e:=aP t (.b b) aD (by rw[h]) k aS
def FF(t:Nat){bG:f6}(b:Int)(k:eQ aq K c own aB ((t,.i bG b)::e))(aD:dp e t=some (.i bG a):=by rfl)(h:a=b:=by omega)(aS:c.m3=false:=by rfl):eQ aq K c own aB e:=aP t (.i bG b) aD (by rw[h]) k aS
def cd(t:Nat)(b:Int)(k:eQ aq K c own aB ((t,.i .i64 b)::e))(aD:dp e t=some (.i .i64<|IntKind.i64.wrap a):=by rfl)(h:a=b:=by omega)(aF: -9223372036854775808<=a:=by omega)(aL:a<9223372036854775808:=by omega)(aS:c.m3=false:=by rfl):eQ aq K c own aB e:=aP t (.i .i64 b) aD (eM h aF aL) k aS
def eE(t:Nat)(h:P)(k:dy aq K aQ bf ((t,.b true)::a7) aX b0 own aB ((t,.b true)::e))(aD:dp e t=some (.b<|decide P):=by rfl)(bX:dp a7 t=some (.b<|decide P):=by rfl):dy aq K aQ bf a7 aX b0 own aB e:=dD t (.b true) aD bX (by rw[ck h]) k
def dG(t:Nat)(h:¬P)(k:dy aq K aQ bf ((t,.b false)::a7) aX b0 own aB ((t,.b false)::e))(aD:dp e t=some (.b<|decide P):=by rfl)(bX:dp a7 t=some (.b<|decide P):=by rfl):dy aq K aQ bf a7 aX b0 own aB e:=dD t (.b false) aD bX (by rw[cq h]) k
def de(t:Nat){a:Bool}(h:a=b)(k:dy aq K aQ bf ((t,.b b)::a7) aX b0 own aB ((t,.b b)::e))(aD:dp e t=some (.b a):=by rfl)(bX:dp a7 t=some (.b a):=by rfl):dy aq K aQ bf a7 aX b0 own aB e:=dD t (.b b) aD bX (by rw[h]) k
def ww(t:Nat)(b:Int)(k:dy aq K aQ bf ((t,.i .i64 b)::a7) aX b0 own aB ((t,.i .i64 b)::e))(aD:dp e t=some (.i .i64<|IntKind.i64.wrap a):=by rfl)(h:a=b:=by omega)(aF: -9223372036854775808<=a:=by omega)(aL:a<9223372036854775808:=by omega)(bX:dp a7 t=some (.i .i64<|IntKind.i64.wrap a):=by rfl):dy aq K aQ bf a7 aX b0 own aB e:=dD t (.i .i64 b) aD bX (eM h aF aL) k
end
end Go.bA
namespace Go.bA
open Sym
variable{X:Ctx}
def hk{p:Prop}(h:p):¬¬p:=λk=>k h
end Go.bA
namespace Go.bA
open Sym
set_option maxRecDepth 10000
inductive qE where
 |ret (a:ag)
 |aR (v:Value)
structure PP where
 L:Type
 args:L->ac ag
 pre:L->Prop
 out:L->qE
 hp:bh->Prop:=fun _=>True
 hm:∀{H bC:bh},cF H bC->hp H->hp bC:=by exact fun _ _=>trivial
def PP.spec(S:PP):wv where
 L:=S.L×bh
 pre:=λl ad st=>S.pre l.1/\S.hp l.2/\Fit l.2 [] st [] 0/\cB l.2 (S.args l.1) [] ad
 post:=λl ad st v ak=>∃a bC,S.out l.1= .ret a/\Fit bC [] ak [] 0/\cQ l.2 [] st bC [] ak/\den bC a [] v
 JY:=λl ad st v ak=>∃bC,S.out l.1= .aR v/\Fit bC [] ak [] 0/\cQ l.2 [] st bC [] ak
def FG(S:PP)(l:S.L)(res:ac gU)(x:c1)(s:cl):Prop:=
 ((x= .norm\/x= .ret)/\∃r a,Fin.m5 s res=some r/\iV r=true/\S.out l= .ret a/\bJ r a)\/∃v,x= .aR v/\S.out l= .aR v
variable{s:cl}{v:bv}
def sR{S:PP}{l:S.L}{res:ac gU}{r a:ag}{e:c1}(aF:Fin.m5 s res=some r)(aL:iV r=true)(E:S.out l= .ret a)(D:bJ r a)(he:e= .ret\/e= .norm:=by first|exact .inl j|exact .inr j):FG S l res e s:=.inl ⟨he.symm,r,a,aF,aL,E,D⟩
def jz{S:PP}{l:S.L}{res:ac gU}(h:S.out l= .aR v):FG S l res (.aR v) s:=.inr ⟨v,j,h⟩
def FH{call:bM}{res:ac gU}{o:aJ}{st:aj}(hp:um o):fv call res (some v) o st= .aR v st false:=by
 unfold fv;rw[hp.c4,hp.cL];rfl
section
variable{X:Ctx}{aI:ao cJ}{bk:d7->dL}
def afs(M:Good X)(N:iZ X aI)(bk:d7->dL){f:d7}{aZ:cJ}(D:aI.get f=some aZ){S:PP}(aD:∀l,(S.args l).length<=aZ.aM)
 (h:∀l,S.pre l->∀H au,S.hp H->eQ ⟨b7 aI (cj X bk)<|bx+1,bx+1,f,H,[],au,FG S l aZ.res⟩ [] (.c aZ.body) [] 0 (hJ 0<|S.args l)):kD X f S.spec:=by
 refine adM M N bk D (λl ad st ⟨_,_,_,d⟩=>by rw[gd d];exact aD l.1) ?_;rintro⟨l,H⟩ ad st ⟨hp,R,I,d⟩;refine(h l hp H st R H [] st (dT ad) (cQ.refl _ _ _) I<|cN.zero d).mono ?_;rintro x o ak ⟨bC,ids,s,C,A,E,D⟩;rcases D with⟨D,r,a,L,O,q,hle⟩|⟨v,rfl,q⟩
 ·obtain⟨v,G,F⟩:=r2 A E L;exact .inl ⟨D,v,F,a,bC,q,A.less,C.less,hle _ _ _<|sK _ O G _⟩
 ·exact .inr ⟨v,j,FH E.pl,bC,q,A.less,C.less⟩
def RF{H bC:bh}{ids:ac Nat}{st ak:aj}{own:ac a4}{n:Nat}(D:Fit H ids st own n)(E:Fit bC [] ak [] 0)(j:cQ H [] st bC [] ak):
 Fit bC ids ak own n/\∀a5 i0 au,cQ a5 i0 au H ids st->cQ a5 i0 au bC ids ak:=by
 have hle:=j.hle;refine⟨⟨E.wf,E.le,D.cV,D.len,D.cT,λb h=>eR (D.lt b h) j.ae,λk U b C h=>?_⟩,λa5 i0 au B=>⟨B.hle.trans hle,λb h ah=>?_,λb h ah=>?_,cC B.ae j.ae,B.jy,B.new⟩⟩
 ·obtain⟨A,q⟩:=D.own k U b C h;have aT:=D.lt b<|hg h;rw[j.eF b aT av];exact⟨rX hle (cf.refl _) A,λF=>by rw[j.hold b aT av];exact q F⟩
 ·rw[j.hold b (eR h B.ae) av];exact B.hold b h ah
 ·rw[j.eF b (eR h B.ae) av];exact B.eF b h ah
def KX(a5:bh)(call:bM)(U:c7)(s:cl)(v:bv):Prop:=
 ∀(H:bh) (ids:ac Nat) (st:aj) (o:aJ),cF a5 H->Fit H ids st s.own s.n->cN o H ids s.env->
  ∃ak bC,bw call U o st= .aR v ak/\Fit bC ids ak s.own s.n/\cF H bC/\∀a5 i0 au,cQ a5 i0 au H ids st->cQ a5 i0 au bC ids ak
variable{g:d7}{bP:ac ce}{as:ac ag}{n:Nat}{a5:bh}
def RG{S:PP}(aS:kD X g S.spec)(D:bk g=S.spec.K)(l:S.L)(E:ha s.env bP=some as)(fH:g9 as=true)(he:gf as (S.args l))(hp:S.pre l)(cA:S.hp a5)
 {H:bh} {ids:ac Nat} {st:aj} {o:aJ} (I:cF a5 H) (G:Fit H ids st s.own s.n) (F:cN o H ids s.env):
 ∃v ak bC,Fit bC [] ak [] 0/\cQ H [] st bC [] ak/\((∃a,S.out l= .ret a/\den bC a [] v/\bw (b7 aI (cj X bk)<|n+1) (.call (.func g) bP) o st= .ok v o ak)\/(S.out l= .aR v/\bw (b7 aI (cj X bk)<|n+1) (.call (.func g) bP) o st= .aR v ak)):=by
 have bV:=he.den<|px _ fH (F.dJ E) [];have C:S.spec.pre (l,H) (dJ o bP) st:=⟨hp,S.hm I cA,G.less,bV⟩;have oy:=adK (K:=bk) (by rw[D];exact aS _ st ⟨(l,H),C⟩);rw[D]at oy;have e:fe (#[]:bi bv).toList (fe (dJ o bP) (#[]:bi bv).toList)=dJ o bP:=av
 rcases oy with⟨v1,b4,cE,h⟩|⟨v1,b4,cE,h⟩
 ·obtain⟨a,bC,j,q,A,M⟩:=h (l,H) C;have a2:b7 aI (cj X bk) (n+1) (.func (.func g) #[] #[]) (dJ o bP) none st= .ret v1 b4 false:=by
   rw[ox,e,cE];rfl
  refine⟨v1,b4,bC,q,A,.inl ⟨a,j,M,?_⟩⟩;show lv (b7 aI (cj X bk) (n+1) (.func (.func g) #[] #[]) (dJ o bP) none st) _ _=_;rw[a2];rfl
 ·obtain⟨bC,j,q,A⟩:=h (l,H) C;have a2:b7 aI (cj X bk) (n+1) (.func (.func g) #[] #[]) (dJ o bP) none st= .aR v1 b4 false:=by
   rw[ox,e,cE];rfl
  refine⟨v1,b4,bC,q,A,.inr ⟨j,?_⟩⟩;show lv (b7 aI (cj X bk) (n+1) (.func (.func g) #[] #[]) (dJ o bP) none st) _ _=_;rw[a2];rfl
def RH{S:PP}(aS:kD X g S.spec)(G:bk g=S.spec.K)(l:S.L)(E:ha s.env bP=some as)(fH:g9 as=true)(he:gf as (S.args l))(hp:S.pre l)(cA:S.hp a5){a:ag}(D:S.out l= .ret a):
 pA a5 (b7 aI (cj X bk)<|n+1) (.call (.func g) bP) s a s.own s.n:=λH ids st o I A C=>by
 obtain⟨v,ak,bC,F,q,h⟩:=RG aS G l E fH he hp cA I A C;rcases h with⟨V,j,M,T⟩|⟨j,_⟩
 ·rw[D]at j;cases j;obtain⟨N,O⟩:=RF A F q;exact⟨v,ak,ids,bC,T,N,iw (cF.refl _) _ (cf.nil _) M,q.hle,cf.refl _,O,q.ae,λb R _=>q.eF b R av⟩
 ·rw[D]at j;cases j
def RI{S:PP}(aS:kD X g S.spec)(I:bk g=S.spec.K)(l:S.L)(E:ha s.env bP=some as)(fH:g9 as=true)(he:gf as (S.args l))(hp:S.pre l)(cA:S.hp a5)(D:S.out l= .aR v):
 KX a5 (b7 aI (cj X bk)<|n+1) (.call (.func g) bP) s v:=λH ids st o M q F=>by
 obtain⟨V,ak,bC,G,A,h⟩:=RG aS I l E fH he hp cA M q F;rcases h with⟨R,j,T,C⟩|⟨j,C⟩
 ·rw[D]at j;cases j
 ·rw[D]at j;cases j;obtain⟨N,O⟩:=RF q G A;exact⟨ak,bC,C,N,A.hle,O⟩
end
section
variable{aq:eX}{K:ac dH}{s:cl}
variable{xs:ac bm}{d:be Tmp}{x:ce}{t:co}{aB:Nat}{e:bU}
def RJ{U:c7}(h:KX aq.a5 aq.call U s v)(aS:U.kU=true)(k:b5.ok aq ⟨K,.x<|.aR v,s⟩):b5.ok aq ⟨K,.U<|⟨d,U,none⟩::xs,s⟩:=by
 intro H ids st o j D q;obtain⟨ak,bC,E,F,C,A⟩:=h H ids st o j.hle D q;refine⟨.aR v,o,ak,?_,bC,ids,s,A _ _ _ j,F,q.mono C<|cf.refl _,k⟩;show rU (bw aq.call U o st) _ (λv st=>cond U.kU (.out (.aR v) o st) .no)=_;rw[E];rw[aS];rfl
def aft{w:bv}{own:ac a4}(k:eQ aq K (.x<|.aR<|.iface t w) own aB e)(D:a6 e x=some (.v<|.iface t w):=by rfl):cI aq K (⟨d,.nz x,none⟩::xs) own aB e:=
 RJ (λH ids st o C q h=>by
  have A:=h.ar D;refine⟨st,H,?_,q,cF.refl _,λ_ _ _ B=>B⟩;show x8 (o.ar x) (λt v=>a1.aR (.iface t v) st) .no=_;rw[A];rfl) j k
def afu{H:bh}{ids:ac Nat}{k:f6}{c:Int}(h:den H (.agg [.i k c]) ids v):v= .agg ⟨[.int k c]⟩:=by
 obtain⟨ad,rfl,u,A,rfl,j,q⟩:=h;cases j;cases q;rfl
def afv{d:Tmp}{a:ag}{own:ac a4}(w:bv)(k:cI aq K xs own aB ((d,.v<|.iface t w)::e))(D:a6 e x=some a:=by rfl)(E:∀H ids v,den H a ids v->v=w:=by exactλ_ _ _=>afu):gx aq K d (.DG t x) xs own aB e:=λH ids st o q A h=>
 pw j<|k H ids st _ q A<|h.dU (some d) (show Value.iface t (o.ar x)= .iface t w by rw[E H ids _<|h.ar D])
end
def BV(ms:ac Nat)(n:Nat):Nat->ac (bm×cr)->be (ac<|bm×cr)
 |_,[]=>some []
 |p,(x,c)::l=>match BV ms n (p+1) l with
  |none=>none
  |some bp=>match Nat.testBit (ms.getD p 0) n with
   |true=>match c with
    |.dF=>some ((⟨x.d,.jl<|.const undef,none⟩,.dF)::bp)
    |_=>some ((⟨x.d,.jl<|.const undef,none⟩,.read 0 [])::bp)
   |false=>match c with
    |.dF=>none
    |c=>some<|(x,c)::bp
theorem RK{T:aJ}{g:be (Tmp×Bool)}{a b:cH}{j D:Bool}{e:c1}{f:aJ}{s:aj}(h:gW T g a b .no= .out e f s)(E:a= .out e f s->j=true)(aA:b= .out e f s->D=true):gW T g j D false=true:=by
 unfold gW at h⊢;cases g with
 |none=>exact E h
 |some p=>
  rw[Sym.eg]at h⊢;cases q:T.tmp p.1<;>rw[q]at h<;>first|(cases h;done)|skip
  ·rename_i c;show cond c (cond p.2 j D) (cond p.2 D j)=true;have h:cond c (cond p.2 a b) (cond p.2 b a)=_:=h
   grind
  ·exact aA h
theorem RL{call:bM}{E:sx}{ms:ac Nat}{n:Nat}:∀{l bp:ac (bm×cr)} {p:Nat} {D:ac (ao bz)} {o:aJ} {st:aj} {M:aJ} {F:aj},BV ms n p l=some bp->gX call E bp D o st= .out .norm M F->jJ call ms n l p D o st=true
 |[],_,_,_,_,_,_,_,_,_=>rfl
 |(x,c)::l,bp,p,D,o,st,M,F,q,h=>by
  unfold BV at q;split at q
  ·cases q
  rename_i A aF;have C:∀{D:ac (ao bz)} {o:aJ} {st:aj},gX call E A D o st= .out .norm M F->jJ call ms n l (p+1) D o st=true:=λh=>RL aF h;have a7:jJ call ms n ((x,c)::l) p D o st=cond (Nat.testBit (ms.getD p 0) n)
   (cr.rec (jJ call ms n l (Nat.succ p) (st.h::D) (o.put x.d undef) st) (λ_=>jJ call ms n l (Nat.succ p) D (o.put x.d undef) st) (λ_ _=>jJ call ms n l (Nat.succ p) D (o.put x.d undef) st) c)
   (cr.rec false
    (λay=>jq o.t ay λt=>gW ⟨t,[],none,false,none⟩ x.g
     (a1.rec (λv _ ak=>jJ call ms n l (Nat.succ p) D (o.put x.d v) ak) (λ_ _=>false) false<|bw call x.U ⟨t,[],none,false,none⟩ st)
     (jJ call ms n l (Nat.succ p) D (o.put x.d undef) st) false)
    (λback ay=>jq o.t ay λt=>gW ⟨t,[],none,false,none⟩ x.g
     (a1.rec (λv _ _=>cond (sameAt call x.U ⟨t,[],none,false,none⟩ v st.ae (Nat.succ back) D) (jJ call ms n l (Nat.succ p) D (o.put x.d v) st) false) (λ_ _=>false) false<|bw call x.U ⟨t,[],none,false,none⟩ st)
     (jJ call ms n l (Nat.succ p) D (o.put x.d undef) st) false)
    c):=rfl
  rw[a7];split at q
  ·rename_i G;rw[G];split at q
   ·cases q;have h:ek st.ae st.ae (gX call E A (st.h::D) (aJ.put ⟨o.t,o.c4,o.aR,o.cL,o.b1⟩ x.d undef) st) .no=_:=h;rw[ga<|dt _]at h;exact C h
   ·rename_i I;cases q;have h:cond (sameAt call (.jl<|.const undef) ⟨.nil,[],none,false,none⟩ undef st.ae (Nat.succ 0) D) (gX call E A D (o.put x.d undef) st) .no=_:=h;cases N:sameAt call (.jl<|.const undef) ⟨.nil,[],none,false,none⟩ undef st.ae (Nat.succ 0) D with
    |false=>rw[N]at h;cases h
    |true=>
     rw[N]at h;cases c with
     |dF=>exact absurd j I
     |gq ay=>exact C h
     |read b ay=>exact C h
  ·rename_i G;rw[G];split at q
   ·cases q
   ·rename_i I;cases q;cases c with
    |dF=>exact absurd j I
    |gq ay=>
     have h:jq o.t ay (λt=>gW ⟨t,[],none,false,none⟩ x.g
      (a1.rec (λv _ ak=>gX call E A D (o.put x.d v) ak) (λ_ _=>.no) .no<|bw call x.U ⟨t,[],none,false,none⟩ st)
      (gX call E A D (o.put x.d undef) st) .no)=_:=h
     show jq o.t ay _=true;rw[nI]at h⊢;refine RK h (λh=>?_) λh=>C h;generalize bw call x.U _ st=r at h⊢;cases r with
     |ok v O L=>exact C h
     |aR v L=>cases h
     |no=>cases h
    |read back ay=>
     have h:jq o.t ay (λt=>gW ⟨t,[],none,false,none⟩ x.g
      (a1.rec (λv _ _=>cond (sameAt call x.U ⟨t,[],none,false,none⟩ v st.ae (Nat.succ back) D) (gX call E A D (o.put x.d v) st) .no) (λ_ _=>.no) .no<|bw call x.U ⟨t,[],none,false,none⟩ st)
      (gX call E A D (o.put x.d undef) st) .no)=_:=h
     show jq o.t ay _=true;rw[nI]at h⊢;refine RK h (λh=>?_) λh=>C h;generalize bw call x.U _ st=r at h⊢;cases r with
     |ok v O L=>
      grind
     |aR v L=>cases h
     |no=>cases h
def RM(x:c1)(_:cl):Prop:=x= .norm
section
variable{aq:eX}{K:ac dH}{s:cl}
theorem afw{d:be Tmp}{U:c7}{l bp:ac (bm×cr)}{bf:ac a4}{a7:bU}{aX b0 m:Nat}{ms:ac Nat}(h:KX aq.a5 aq.call U s v)(aS:U.kU=true)(S:BV ms (m-(du l+1)) (m-du l) l=some bp)
 (bG:dy ⟨aq.call,aq.bb,aq.fn,aq.a5,aq.i0,aq.au,RM⟩ [] bp bf (pC d a7) (aX+1) s.n s.own s.n (dU d (.bq []) s.env)) (k:b5.ok aq ⟨K,.x<|.aR v,s⟩):ai aq (.wB ms m::K) (.d ((⟨d,U,none⟩,.dF)::l) bf a7 aX b0) s:=by
 intro M a' H ids st o W C E A F q;obtain⟨ak,bC,G,I,T,N⟩:=h H ids st o E.hle A F;have V:=bG (ry aq.call ms m) aC H ids st (o.put d undef) W (st.h::C) E A (F.dU d ⟨[],j,j⟩) ⟨by simp[q.len],q.hle,wE q.dT d _,q.pB,by rw[A.len];exact cn _,λk U b Y Z L=>by
  obtain⟨G,I⟩:=q.bf k U b Y Z L;refine⟨G,λh hm=>?_⟩;rcases e1.1 hm with rfl|hm
  ·rfl
  ·exact I h hm,λh hm=>by
  rcases e1.1 hm with rfl|hm
  ·exactλb U L=>A.le _ _<|q.hle _ _ L
  ·exact q.hj h hm,λh hm=>by
  simp at hm;subst hm;exact⟨A.le,λ_ _ _ _=>j⟩⟩
 obtain⟨x,aa,ag,cE,H1,af,ah,_,_,_,O⟩:=V;subst O;have a2:=RL S cE;refine⟨.aR v,o,ak,?_,bC,ids,s,N _ _ _ E,I,F.mono T<|cf.refl _,k⟩;show a1.rec (motive:=λ_=>cH) (λv D ak=>ek st.ae ak.ae (gX aq.call M l (ak.h::C) (aJ.put ⟨o.t,D.c4,D.aR,D.cL,D.b1⟩ d v) ak) .no) (λv ak=>cond U.kU (cond (M l (st.h::C) (o.put d undef) st) (.out (.aR v) o ak) .no) .no) .no (bw aq.call U o st)=_;rw[G,a'];show cond U.kU (cond (jJ aq.call ms (Nat.sub m<|Nat.succ<|du l) l (Nat.sub m<|du l) (st.h::C) (o.put d undef) st) (cH.out (.aR v) o ak) cH.no) cH.no=_
 grind
end
section
variable{X:Ctx}{aI:ao cJ}{bk:d7->dL}{bb n:Nat}{fn:d7}{a5:bh}{i0:ac Nat}{au:aj}{Q:c1->cl->Prop}{K:ac dH}{own:ac a4}{aB:Nat}{e:bU}
variable{g:d7}{bP:ac ce}{as:ac ag}{d:be Tmp}{xs:ac bm}{bf:ac a4}{a7:bU}{b0:Nat}
def lz{S:PP}(aS:kD X g S.spec)(l:S.L)(hp:S.pre l)(a:ag)(D:S.out l= .ret a)(k:cI (gP X aI bk n bb fn a5 i0 au Q) K xs own aB (dU d a e))
 (j:ha e bP=some as:=by rfl) (he:gf as (S.args l):=by exact gf.refl _) (fH:g9 as=true:=by rfl) (E:bk g=S.spec.K:=by rfl) (cA:S.hp a5:=by exact aC):
 cI (gP X aI bk n bb fn a5 i0 au Q) K (⟨d,.call (.func g) bP,none⟩::xs) own aB e:=sP (RH aS E l j fH he hp cA D) k
def kp{S:PP}(aS:kD X g S.spec)(l:S.L)(hp:S.pre l)(v:bv)(E:S.out l= .aR v)(r5:eQ (gP X aI bk n bb fn a5 i0 au Q) K (.x<|.aR v) own aB e)
 (D:ha e bP=some as:=by rfl) (he:gf as (S.args l):=by exact gf.refl _) (fH:g9 as=true:=by rfl) (F:bk g=S.spec.K:=by rfl) (cA:S.hp a5:=by exact aC):
 cI (gP X aI bk n bb fn a5 i0 au Q) K (⟨d,.call (.func g) bP,none⟩::xs) own aB e:=RJ (RI aS F l D fH he hp cA E) j r5
def wM{S:PP}(aS:kD X g S.spec){d:Tmp}{xs:ac (bm×cr)}{aX:Nat}(l:S.L)(hp:S.pre l)(a:ag)(E:S.out l= .ret a)
 (k:dy (gP X aI bk n bb fn a5 i0 au Q) K xs bf (j6 d a7) (aX+1) aB own aB ((d,a)::e))
 (D:ha e bP=some as:=by rfl) (he:gf as (S.args l):=by exact gf.refl _) (fH:g9 as=true:=by rfl) (F:bk g=S.spec.K:=by rfl) (cA:S.hp a5:=by exact aC):
 dy (gP X aI bk n bb fn a5 i0 au Q) K ((⟨some d,.call (.func g) bP,none⟩,.dF)::xs) bf a7 aX b0 own aB e:=
 Fp (RH aS F l D fH he hp cA E) j (λ_ _ h _=>⟨h,by simp[g0]⟩) k
def wN{S:PP}(aS:kD X g S.spec){d:Tmp}{xs bp:ac (bm×cr)}{aX m:Nat}{ms:ac Nat}(l:S.L)(hp:S.pre l)(v:bv)(F:S.out l= .aR v)
 (r5:eQ (gP X aI bk n bb fn a5 i0 au Q) K (.x<|.aR v) own aB e)
 (E:BV ms (m-(du xs+1)) (m-du xs) xs=some bp:=by rfl)
 (D:ha e bP=some as:=by rfl) (he:gf as (S.args l):=by exact gf.refl _) (fH:g9 as=true:=by rfl) (G:bk g=S.spec.K:=by rfl) (cA:S.hp a5:=by exact aC)
 (bG:dy ⟨b7 aI (cj X bk)<|n+1,bb,fn,a5,i0,au,RM⟩ [] bp bf (j6 d a7) (aX+1) aB own aB ((d,.bq [])::e):=by(repeat refine fz j ?_);exact an j):
 dy (gP X aI bk n bb fn a5 i0 au Q) (.wB ms m::K) ((⟨some d,.call (.func g) bP,none⟩,.dF)::xs) bf a7 aX b0 own aB e:=
 afw (RI aS G l D fH he hp cA F) j E bG r5
end
def wO(cE t:Nat):cJ:=⟨6,[.cell 2 false 1],.seq (.fU [⟨some 2,.alloc [.int .i64 0] t,none⟩])<|.seq (.fU [⟨some 3,.rj (.func cE) [] [.tmp 2],none⟩,⟨none,.o7 (.tmp 3) [],none⟩])<|.seq (.fU [⟨some 4,.jl<|.tmp 0,none⟩,⟨some 5,.call (.tmp 4) [],none⟩])<|.seq (.fU [⟨none,.store 1 (.tmp 2)<|.const<|.int .i64 0,none⟩]) .ret⟩
def wP(ay:Nat):cJ:=⟨12,[],.seq (.fU [⟨some 4,.tM,none⟩])<|.block 0<|.seq (.fU [⟨some 6,.eqv false .DC (.tmp 4)<|.const .nilIface,none⟩])<|.cond (.tmp 6) (.fU [⟨some 1,.jl<|.tmp 4,none⟩])<|.seq (.fU [⟨some 7,.DH ay (.agg #[.int .i64 0]) true<|.tmp 4,none⟩,⟨some 8,.rm (.tmp 7) 1,none⟩,⟨some 9,.rm (.tmp 7) 0,none⟩])<|.cond (.tmp 8) (.seq (.fU [⟨some 2,.alloc [.int .i64 0] ay,none⟩,⟨none,.store 1 (.tmp 2)<|.tmp 9,none⟩])<|.fU [⟨some 10,.qb 0<|.tmp 2,none⟩,⟨some 11,.h2<|.tmp 10,none⟩,⟨none,.store 1 (.tmp 0)<|.tmp 11,none⟩])<|.seq (.fU [⟨some 3,.jl<|.tmp 4,none⟩])<|.fU [⟨some 5,.jl<|.tmp 3,none⟩,⟨none,.nz<|.tmp 5,none⟩]⟩
section
variable{call:bM}{o:aJ}{st:aj}
variable{el:co}{x:ce}
def RN{z:ac bv}:bw call (.alloc z el) o st= .ok (.pointer<|some ⟨st.ae,0,none⟩) o ⟨st.h.set st.ae<|.cells z el (0,0) false,st.ae+1⟩:=by
 show st.ib (.cells z el (0,0) false) (λid st=>a1.ok (.pointer<|some ⟨id,0,none⟩) o st)=_;rw[gF]
def KY{y:ce}{id:Nat}{hj:bv}(h:o.ar x= .pointer (some ⟨id,0,none⟩))(D:hB (o.ar y)=[v])(hp:gV [v]=true)(j:st.h.get id=some (.cells [hj] el (0,0) false)):
 bw call (.store 1 x y) o st= .ok undef o ⟨st.h.set id<|.cells [v] el (0,0) false,st.ae⟩:=by
 have:bw call (.store 1 x y) o st=hi (o.ar x) (λp=>bn p (λa=>dz (du<|hB<|o.ar y) 1 (cond (gV<|hB<|o.ar y) (st.store a (hB<|o.ar y) (λst=>a1.ok undef o st) .no) .no) .no) .no) .no:=rfl;rw[this,h,D,kZ,Sym.eg,hp];unfold aj.store aj.fM;rw[j,kl,pf,iH];rfl
def afx{id:Nat}(h:o.ar x= .pointer (some ⟨id,0,none⟩))(j:st.h.get id=some (.cells [v] el (0,0) false)):bw call (.h2 x) o st= .ok v o st:=by
 rw[JX,h,kZ,Sym.eg];unfold aj.load aj.fM;rw[j];rfl
end
variable{n:Nat}{call:bM}{f t b:Nat}{H:bh}{ids:ac Nat}
def afy{ay:Nat}{st:aj}{c:Int}(aA:st.h.get b=some (.cells [.int .i64 0] t (0,0) false))(aT:b<st.ae):
 ie call n f (wP ay) [.pointer<|some ⟨b,0,none⟩] (some<|.iface ay<|.agg #[.int .i64 c]) st=
  .ret (.tuple #[]) ⟨((st.h.set st.ae<|.cells [.int .i64 0] ay (0,0) false).set st.ae<|.cells [.int .i64 c] ay (0,0) false).set b<|.cells [.int .i64 c] t (0,0) false,st.ae+1⟩ true:=by
 let dT:aJ:=⟨ld [.pointer<|some ⟨b,0,none⟩] 0 .nil,[],some<|.iface ay<|.agg #[.int .i64 c],true,none⟩
 let F:=(((dT.put (some 4)<|.iface ay<|.agg #[.int .i64 c]).put (some 6)<|.bool false).put (some 7)<|.tuple #[.agg #[.int .i64 c],.bool true]).put (some 8)<|.bool true
 let eU:=F.put (some 9)<|.agg #[.int .i64 c]
 have C:cZ call n f (wP ay).body ⟨ld [.pointer<|some ⟨b,0,none⟩] 0 .nil,[],some<|.iface ay<|.agg #[.int .i64 c],false,none⟩ st=
  pc 0 (AI (eU.ar<|.tmp 8) (kf (fV call [⟨some 2,.alloc [.int .i64 0] ay,none⟩,⟨none,.store 1 (.tmp 2)<|.tmp 9,none⟩] eU st)<|cZ call n f<|.fU [⟨some 10,.qb 0<|.tmp 2,none⟩,⟨some 11,.h2<|.tmp 10,none⟩,⟨none,.store 1 (.tmp 0)<|.tmp 11,none⟩])<|cZ call n f (.seq (.fU [⟨some 3,.jl<|.tmp 4,none⟩])<|.fU [⟨some 5,.jl<|.tmp 3,none⟩,⟨none,.nz<|.tmp 5,none⟩]) eU st):=by
  have A:dz ay ay (a1.ok (.tuple #[.agg #[.int .i64 c],.bool true]) ((dT.put (some 4)<|.iface ay<|.agg #[.int .i64 c]).put (some 6)<|.bool false) st) (a1.ok (.tuple #[.agg #[.int .i64 0],.bool false]) ((dT.put (some 4)<|.iface ay<|.agg #[.int .i64 c]).put (some 6)<|.bool false) st)=a1.ok (.tuple #[.agg #[.int .i64 c],.bool true]) ((dT.put (some 4)<|.iface ay<|.agg #[.int .i64 c]).put (some 6)<|.bool false) st:=ig j _ _;show pc 0 (kf (rU (dz ay ay (a1.ok (.tuple #[.agg #[.int .i64 c],.bool true]) ((dT.put (some 4)<|.iface ay<|.agg #[.int .i64 c]).put (some 6)<|.bool false) st)<|a1.ok (.tuple #[.agg #[.int .i64 0],.bool false]) ((dT.put (some 4)<|.iface ay<|.agg #[.int .i64 c]).put (some 6)<|.bool false) st) (λv o st=>fV call [⟨some 8,.rm (.tmp 7) 1,none⟩,⟨some 9,.rm (.tmp 7) 0,none⟩] (o.put (some 7) v) st) λv st=>.no) _)=_;rw[A];rfl
 have G:fV call [⟨some 2,.alloc [.int .i64 0] ay,none⟩,⟨none,.store 1 (.tmp 2)<|.tmp 9,none⟩] eU st= .out .norm (eU.put (some 2)<|.pointer<|some ⟨st.ae,0,none⟩) ⟨(st.h.set st.ae<|.cells [.int .i64 0] ay (0,0) false).set st.ae<|.cells [.int .i64 c] ay (0,0) false,st.ae+1⟩:=by
  rw[sJ,RN,wu,sJ,KY j j j<|ao.mn _ _ _];rfl
 have q:b≠st.ae:=R
 have E:fV call [⟨some 10,.qb 0<|.tmp 2,none⟩,⟨some 11,.h2<|.tmp 10,none⟩,⟨none,.store 1 (.tmp 0)<|.tmp 11,none⟩] (eU.put (some 2)<|.pointer<|some ⟨st.ae,0,none⟩) ⟨(st.h.set st.ae<|.cells [.int .i64 0] ay (0,0) false).set st.ae<|.cells [.int .i64 c] ay (0,0) false,st.ae+1⟩=
  .out .norm (((eU.put (some 2)<|.pointer<|some ⟨st.ae,0,none⟩).put (some 10)<|.pointer<|some ⟨st.ae,0,none⟩).put (some 11)<|.int .i64 c) ⟨((st.h.set st.ae<|.cells [.int .i64 0] ay (0,0) false).set st.ae<|.cells [.int .i64 c] ay (0,0) false).set b<|.cells [.int .i64 c] t (0,0) false,st.ae+1⟩:=by
  show fV call [⟨some 11,.h2<|.tmp 10,none⟩,⟨none,.store 1 (.tmp 0)<|.tmp 11,none⟩] ((eU.put (some 2)<|.pointer<|some ⟨st.ae,0,none⟩).put (some 10)<|.pointer<|some ⟨st.ae,0,none⟩) _=_;rw[sJ,afx j<|ao.mn _ _ _,wu,sJ,KY j j j (by
   rw[ao.fa _ _ q,ao.fa _ _ q];exact aA),wu]
  rfl
 have iW:ie call n f (wP ay) [.pointer<|some ⟨b,0,none⟩] (some<|.iface ay<|.agg #[.int .i64 c]) st=cH.rec (λe o st=>c1.rec (fv call [] none o st) (λ_=>.no) (fv call [] none o st) (λv=>fv call [] (some v) o st) e) .no (cZ call n f (wP ay).body ⟨ld [.pointer<|some ⟨b,0,none⟩] 0 .nil,[],some<|.iface ay<|.agg #[.int .i64 c],false,none⟩ st):=rfl;have D:AI (eU.ar<|.tmp 8) (kf (fV call [⟨some 2,.alloc [.int .i64 0] ay,none⟩,⟨none,.store 1 (.tmp 2)<|.tmp 9,none⟩] eU st)<|cZ call n f<|.fU [⟨some 10,.qb 0<|.tmp 2,none⟩,⟨some 11,.h2<|.tmp 10,none⟩,⟨none,.store 1 (.tmp 0)<|.tmp 11,none⟩]) (cZ call n f (.seq (.fU [⟨some 3,.jl<|.tmp 4,none⟩])<|.fU [⟨some 5,.jl<|.tmp 3,none⟩,⟨none,.nz<|.tmp 5,none⟩]) eU st)=kf (fV call [⟨some 2,.alloc [.int .i64 0] ay,none⟩,⟨none,.store 1 (.tmp 2)<|.tmp 9,none⟩] eU st) (cZ call n f<|.fU [⟨some 10,.qb 0<|.tmp 2,none⟩,⟨some 11,.h2<|.tmp 10,none⟩,⟨none,.store 1 (.tmp 0)<|.tmp 11,none⟩]):=rfl;rw[iW,C,D,G,Sym.Bf,Qz,E];rfl
def RO{st:aj}{own:ac a4}(j:Fit H ids st own n)(U:bz):Fit H ids ⟨st.h.set st.ae U,st.ae+1⟩ own n:=by
 refine⟨λi af=>?_,λb A q=>?_,j.cV,j.len,j.cT,λb q=>Ac<|j.lt b q,λk A b C q=>?_⟩
 ·have af:st.ae+1<=i:=af;rw[ao.fa _ _ R];exact j.wf i R
 ·show(ao.set st.h st.ae U).get b=_;have:=j.aT q;rw[ao.fa _ _ R];exact j.le b A q
 ·have aT:=j.lt b<|hg q;rw[ao.fa _ _ R];exact j.own k A b C q
theorem KZ{st:aj}{own:ac a4}(j:Fit H ids st own n)(aA:b∉ids)(D:H b=none)(aT:b<st.ae)(U:bz):Fit H ids ⟨st.h.set b U,st.ae⟩ own n:=by
 refine⟨λi af=>?_,λq C A=>?_,j.cV,j.len,j.cT,j.lt,λk C q E A=>?_⟩
 ·have af:st.ae<=i:=af;rw[ao.fa _ _ R];exact j.wf i af
 ·show(ao.set st.h b U).get q=_;rw[ao.fa _ _ λe=>by rw[e,D]at A;cases A];exact j.le q C A
 ·show mD H ids C ((ao.set st.h b U).get q)/\_;rw[ao.fa _ _ λe=>aA<|by grind];exact j.own k C q E A
def afz{cE:Nat}{D:bv}{st:aj}:∃o:aJ,o.c4=[{target:=.fn (.func cE) #[.pointer (some ⟨st.ae,0,none⟩)],args:= #[]}]/\o.cL=false/\o.tmp 2= .pointer (some ⟨st.ae,0,none⟩)/\
 cZ call n f (wO cE t).body (dT [D]) st=kf (rU (lv (call D [] none ⟨st.h.set st.ae<|.cells [.int .i64 0] t (0,0) false,st.ae+1⟩) (λv st=>.ok v o st) λv st=>.aR v st) (λv o st=>.out .norm (o.put (some 5) v) st) λv st=>.out (.aR v) o st) (cZ call n f<|.seq (.fU [⟨none,.store 1 (.tmp 2)<|.const<|.int .i64 0,none⟩]) .ret):=by
 refine⟨(aJ.mk ((((dT [D]).put (some 2)<|.pointer<|some ⟨st.ae,0,none⟩).put (some 3)<|.func (.func cE) #[] #[.pointer (some ⟨st.ae,0,none⟩)]).t) [{target:=.fn (.func cE) #[.pointer (some ⟨st.ae,0,none⟩)],args:= #[]}] none false none).put (some 4) D,j,j,j,?_⟩;have e:cZ call n f (wO cE t).body (dT [D]) st=kf (fV call [⟨some 2,.alloc [.int .i64 0] t,none⟩] (dT [D]) st) (cZ call n f<|.seq (.fU [⟨some 3,.rj (.func cE) [] [.tmp 2],none⟩,⟨none,.o7 (.tmp 3) [],none⟩])<|.seq (.fU [⟨some 4,.jl<|.tmp 0,none⟩,⟨some 5,.call (.tmp 4) [],none⟩])<|.seq (.fU [⟨none,.store 1 (.tmp 2)<|.const<|.int .i64 0,none⟩]) .ret):=rfl;rw[e,sJ,RN];rfl
section
variable{X:Ctx}{aI:ao cJ}{bk:d7->dL}{bb n:Nat}{fn:d7}{a5:bh}{i0:ac Nat}{au:aj}{Q:c1->cl->Prop}{K:ac dH}{own:ac a4}{aB:Nat}{e:bU}
def afA(aq:eX)(K:ac dH)(xs:ac bm)(d:be Tmp)(e:bU)(ay:Nat)(x:c1)(s:cl):Prop:=
 ((x= .norm\/x= .ret)/\cI aq K xs s.own s.n (dU d (.i .i64 0) e))\/∃c:Int,x= .aR (.iface ay<|.agg #[.int .i64 c])/\cI aq K xs s.own s.n (dU d (.i .i64 c) e)
variable{g cE:d7}{x:ce}{qF:ac ag}{d:be Tmp}{xs:ac bm}
theorem afB{N:Nat}(a1:N=n+3){f:d7}{ay:Nat}(aZ:cJ)(aE:aI.get f=some aZ)(aK:aI.get g=some (wO cE t))(S:aI.get cE=some (wP ay))
 (k:∀H ids st cs,ids.length=own.length->cF a5 H->Fit H ids st own aB->cB H qF ids cs->∃(q:aj) (bC:bh) (D:ac Nat) (s:cl),cQ H ids st bC D q/\Fit bC D q s.own s.n/\
  ((ie (b7 aI (cj X bk)<|n+1) (n+1) f aZ cs none st= .ret (.tuple #[]) q false/\cI ⟨b7 aI (cj X bk) N,bb,fn,a5,i0,au,Q⟩ K xs s.own s.n (dU d (.i .i64 0) e))\/
    ∃c:Int,ie (b7 aI (cj X bk)<|n+1) (n+1) f aZ cs none st= .aR (.iface ay<|.agg #[.int .i64 c]) q false/\cI ⟨b7 aI (cj X bk) N,bb,fn,a5,i0,au,Q⟩ K xs s.own s.n (dU d (.i .i64 c) e)))
 (a2:a6 e x=some (.fn (.func f) [] qF):=by rfl) (aW:bk f=dL.no:=by rfl) (aJ:bk g=dL.no:=by rfl) (aH:bk cE=dL.no:=by rfl):
 cI ⟨b7 aI (cj X bk) N,bb,fn,a5,i0,au,Q⟩ K (⟨d,.call (.func g) [x],none⟩::xs) own aB e:=by
 subst a1;intro H ids st o a' E aa;obtain⟨bO,cs,aO,aM,aY⟩:=aa.ar a2;cases aM;have a9:=RO E<|.cells [.int .i64 0] t (0,0) false;obtain⟨q,bC,D,s,C,G,cz⟩:=k H ids _ cs (E.len.trans E.cV.symm) a'.hle a9 aY;have M:st.ae∉ids:=λh=>by have:=E.lt _ h;omega
 have ai:bC st.ae=none:=by
  rw[C.hold st.ae (vw _) M];cases cA:H st.ae with
  |none=>rfl
  |some U=>have:=E.aT cA;omega
 have ag:st.ae∉D:=λh=>by
  rcases C.new _ h with h|h
  ·exact M h
  ·have h:st.ae+1<=st.ae:=h;omega
 have al:q.h.get st.ae=some (.cells [.int .i64 0] t (0,0) false):=by
  rw[C.eF st.ae (vw _) M];exact ao.mn _ _ _
 have O:st.ae<q.ae:=C.ae;have fin:∀(c:Int) A,Fit bC D A s.own s.n->q.ae<=A.ae->(∀b,b<q.ae->b≠st.ae->A.h.get b=q.h.get b)->
  bw (b7 aI (cj X bk)<|n+3) (.call (.func g) [x]) o st= .ok (.int .i64 c) o A->cI ⟨b7 aI (cj X bk)<|n+3,bb,fn,a5,i0,au,Q⟩ K xs s.own s.n (dU d (.i .i64 c) e)->
  W (fV (b7 aI (cj X bk)<|n+3) (⟨d,.call (.func g) [x],none⟩::xs) o st) (qC ⟨b7 aI (cj X bk)<|n+3,bb,fn,a5,i0,au,Q⟩<|Sem ⟨b7 aI (cj X bk)<|n+3,bb,fn,a5,i0,au,Q⟩ K):=λc A F ba ax a3 aS=>by
  have b':cQ H ids st bC D A:=by
   refine⟨C.hle,λb aA ah=>C.hold b (Ac aA) ah,λb aA ah=>?_,R,C.jy,λb aA=>?_⟩
   ·rw[ax b R R,C.eF b (Ac aA) ah];exact ao.fa _ _ R
   ·rcases C.new b aA with h|h
    ·exact .inl h
    ·grind
  exact pw a3<|aS bC D A _ (a'.trans b') F<|(aa.mono C.hle C.jy).dU d j
 have V:bw (b7 aI (cj X bk)<|n+3) (.call (.func g) [x]) o st=lv (ie (b7 aI (cj X bk)<|n+2) (n+2) g (wO cE t) [o.ar x] none st) (λv st=>.ok v o st) (λv st=>.aR v st):=by
  show lv (b7 aI (cj X bk) (n+3) (.func (.func g) #[] #[]) (dJ o [x]) none st) _ _=_;rw[ox];have a7:fe (#[]:bi bv).toList (fe (dJ o [x]) (#[]:bi bv).toList)=[o.ar x]:=by simp[adf,ade]
  rw[a7,BS aJ,Sym.hU,Sym.hU,aK,Sym.eg]
 obtain⟨an,az,bd,L,af⟩:=afz;have T:ie (b7 aI (cj X bk)<|n+2) (n+2) g (wO cE t) [o.ar x] none st=cH.rec (λe o st=>c1.rec (fv (b7 aI (cj X bk)<|n+2) [.cell 2 false 1] none o st) (λ_=>.no) (fv (b7 aI (cj X bk)<|n+2) [.cell 2 false 1] none o st) (λv=>fv (b7 aI (cj X bk)<|n+2) [.cell 2 false 1] (some v) o st) e) .no (cZ (b7 aI (cj X bk)<|n+2) (n+2) g (wO cE t).body (dT [o.ar x]) st):=rfl;have Z:∀r,ie (b7 aI (cj X bk)<|n+1) (n+1) f aZ cs none ⟨st.h.set st.ae<|.cells [.int .i64 0] t (0,0) false,st.ae+1⟩=r->b7 aI (cj X bk) (n+2) (o.ar x) [] none ⟨st.h.set st.ae<|.cells [.int .i64 0] t (0,0) false,st.ae+1⟩=r:=λr h=>by
  rw[aO,ox];have a7:fe (#[]:bi bv).toList (fe ([]:ac bv) (⟨cs⟩:bi bv).toList)=cs:=av
  rw[a7,BS aW,Sym.hU,Sym.hU,aE,Sym.eg,h]
 have Y:∀(b:Nat) m st,b7 aI (cj X bk) (n+2) (.func (.func cE) #[] #[.pointer (some ⟨b,0,none⟩)]) [] m st=ie (b7 aI (cj X bk)<|n+1) (n+1) cE (wP ay) [.pointer<|some ⟨b,0,none⟩] m st:=λb m st=>by
  rw[ox];have a7:fe (#[]:bi bv).toList (fe ([]:ac bv) (#[.pointer (some ⟨b,0,none⟩)]:bi bv).toList)=[.pointer<|some ⟨b,0,none⟩]:=av
  rw[a7,BS aH,Sym.hU];cases m with
  |none=>rw[Sym.hU,S,Sym.eg]
  |some v=>rw[Sym.eg,S,Sym.eg]
 have aD:∀(c:Int) A I,I.tmp 2= .pointer (some ⟨st.ae,0,none⟩)->A.h.get st.ae=some (.cells [.int .i64 c] t (0,0) false)->pd I A [.cell 2 false 1]=some [.int .i64 c]:=λc A I aF aL=>by
  show hi (I.tmp 2) (λp=>bn p (λca=>A.load ca 1 (λcs=>cond false (some [.agg ⟨cs⟩])<|one cs (λv=>some [v]) none) none) none) none=_;rw[aF,kZ,Sym.eg];unfold aj.load aj.fM;rw[aL];rfl
 rcases cz with⟨aF,aS⟩|⟨c,aF,aS⟩
 ·have aL:=Z _ aF;have F:=KZ G ag ai O<|.cells [.int .i64 0] t (0,0) false;refine fin 0 ⟨q.h.set st.ae<|.cells [.int .i64 0] t (0,0) false,q.ae⟩ F (dt _) (λb aA aV=>ao.fa _ _ R) ?_ aS;rw[V,T,af,aL,Qx,wu,Sym.Bf,E3,Qz,sJ,KY (by rw[Bv,uj];exact L) j j al,wu,adg,Sym.Bf];show lv (fv (b7 aI (cj X bk)<|n+2) [.cell 2 false 1] none ((an.put (some 5)<|.tuple #[]).put none undef) _) _ _=_;unfold fv;rw[ac9,ada,az,adb];simp[jr];rw[Y];show lv (bn (pd _ _ _) _ _) _ _=_;rw[aD 0 _ _ (by rw[uj];exact L)<|ao.mn _ _ _];rfl
 ·have aL:=Z _ aF;have F:=KZ (KZ (RO G<|.cells [.int .i64 0] ay (0,0) false) (λh=>by have:=G.lt _ h;omega) (by
   cases cA:bC q.ae with
   |none=>rfl
   |some U=>have:=G.aT cA;omega) (vw _)<|.cells [.int .i64 c] ay (0,0) false) ag ai (Ac O)<|.cells [.int .i64 c] t (0,0) false
  refine fin c _ F (k9 _) (λb aA aV=>?_) ?_ aS
  ·show(ao.set (ao.set (ao.set q.h q.ae _) q.ae _) st.ae _).get b=_;rw[ao.fa _ _ R,ao.fa _ _ R,ao.fa _ _ R]
  rw[V,T,af,aL,Qy];show lv (fv (b7 aI (cj X bk)<|n+2) [.cell 2 false 1] (some _) an q) _ _=_;unfold fv;rw[az];simp[jr];rw[Y,afy al O];show lv (bn (pd _ _ _) _ _) _ _=_;rw[aD c _ _ L<|ao.mn _ _ _];rfl
def afC{N:Nat}(Z:N=n+3){f:d7}{ay:Nat}(aZ:cJ)(G:aI.get f=some aZ)(O:aI.get g=some (wO cE t))(F:aI.get cE=some (wP ay))
 (k:∀H1 E ai,E.length=own.length->cF a5 H1->eQ ⟨b7 aI (cj X bk)<|n+1,n+1,f,H1,E,ai,afA ⟨b7 aI (cj X bk) N,bb,fn,a5,i0,au,Q⟩ K xs d e ay⟩ [] (.c aZ.body) own aB (hJ 0 qF))
 (aa:a6 e x=some (.fn (.func f) [] qF):=by rfl) (S:aZ.res=[]:=by rfl) (aD:qF.length<=aZ.aM:=by exact hP j) (Y:bk f=dL.no:=by rfl) (M:bk g=dL.no:=by rfl) (I:bk cE=dL.no:=by rfl):
 cI ⟨b7 aI (cj X bk) N,bb,fn,a5,i0,au,Q⟩ K (⟨d,.call (.func g) [x],none⟩::xs) own aB e:=
 afB Z aZ G O F (λH ids st cs af hle R C=>by
  obtain⟨a',eU,h,ah,bC,T,s,W,V,q,ag⟩:=k H ids st af hle H ids st (dT cs) (cQ.refl _ _ _) R<|cN.zero C;have ae:ie (b7 aI (cj X bk)<|n+1) (n+1) f aZ cs none st=cH.rec (λe o st=>c1.rec (fv (b7 aI (cj X bk)<|n+1) [] none o st) (λ_=>.no) (fv (b7 aI (cj X bk)<|n+1) [] none o st) (λv=>fv (b7 aI (cj X bk)<|n+1) [] (some v) o st) e) .no (.out a' eU h):=by
   rw[<-ah];unfold ie;rw[lg,aE<|by rw[eP,gd C];exact aD,S];rfl
  have D:fv (b7 aI (cj X bk)<|n+1) [] none eU h= .ret (.tuple #[]) h false:=by
   unfold fv;rw[q.pl.c4,q.pl.cL];rfl
  refine⟨h,bC,T,s,W,V,?_⟩;rw[ae];rcases ag with⟨L,A⟩|⟨c,rfl,A⟩
  ·refine .inl ⟨?_,A⟩;rcases L with rfl|rfl
   ·exact D
   ·exact D
  ·exact .inr ⟨c,FH q.pl,A⟩) aa Y M I
end
section
variable{aq:eX}{K:ac dH}{own:ac a4}{aB:Nat}{e:bU}{d:Tmp}{xs:ac bm}{x y:ce}
variable{α:Type}{b2 dE:Nat}{el:co}{l:ac α}
def afD{z:Nat}{ai:α->ac ag}{neg:Bool}(bH:cI aq K xs own aB ((d,.b neg)::e))(M:l=[]->cI aq K xs own aB ((d,.b<|!neg)::e))(F:a6 e x=some (.c6 z α ai l):=by rfl)(G:a6 e y=some .nl:=by rfl):
 gx aq K d (.eqv neg .lL x y) xs own aB e:=λH ids st o C D q=>by
 have E:=q.ar G;have I:=q.ar F;have a7:bw aq.call (.eqv neg .lL x y) o st=bn (ru (o.ar x)<|o.ar y) (λb=>.ok (.bool<|cond neg (!b) b) o st) .no:=rfl;rcases I with⟨ah,A⟩|⟨ah,A⟩|⟨b,U,c,ad,el,L,aU,A,_⟩
 ·have h:bw aq.call (.eqv neg .lL x y) o st= .ok (.bool neg) o st:=by
   rw[a7,A,E];cases neg<;>rfl
  exact pw h<|bH H ids st _ C D<|q.dU (some d) j
 ·have h:bw aq.call (.eqv neg .lL x y) o st= .ok (.bool<|!neg) o st:=by
   rw[a7,A,E];cases neg<;>rfl
  exact pw h<|M ah H ids st _ C D<|q.dU (some d) j
 ·have h:bw aq.call (.eqv neg .lL x y) o st= .ok (.bool neg) o st:=by
   rw[a7,A,E];cases neg<;>rfl
  exact pw h<|bH H ids st _ C D<|q.dU (some d) j
def afE{ai:α->ac ag}(D:a6 s.env y=some (.c6 b2 α ai [])):uv call el dE s y ai b2 ([]:ac α):=λH ids st o G E x p n c A=>by
 have e:bw call (.app el b2 dE x y) o st=hE (o.ar x) (λbase len q=>hE (o.ar y) (λb n _=>bn b (λb=>st.load b (Nat.mul n b2) (λnew=>cond (gV new) (jn o st el b2 dE base len q n new) .no) .no)<|dz n 0 (jn o st el b2 dE base len q 0 []) .no)<|rr (o.ar y) (jn o st el b2 dE base len q 0 [])<|hD (o.ar y) (λs=>dz b2 1 (jn o st el b2 dE base len q (du s.data.toList)<|mW s.data.toList) .no) .no) .no:=rfl;have F:=E.ar D;refine⟨[],wH _ _ _ _,j,?_⟩;rw[e,A,ps];rcases F with⟨_,h⟩|⟨_,h⟩|⟨b,U,N,ad,S,O,aU,h,_,M,_⟩
 ·have C:∀(k:be Addr->Nat->Nat->a1) z,hE (.chan none) k z=z:=λ_ _=>j;have L:∀a z:a1,rr (.chan none) a z=a:=λ_ _=>j;simp only[h,C,L];rfl
 ·rw[h,ps,Sym.hU,ig j];rfl
 ·rw[h];show st.load ⟨b,U,none⟩ (0*b2) _ _=_;unfold aj.load aj.fM;rw[Sym.hU,G.le _ _ M,kl,jk,rW<|dw _,HZ];have I:∀a z:a1,cond (gV []) a z=a:=λ_ _=>j;simp[I]
def afF{a9 c:Nat}{aU:Bool}{ai:α->ac ag}(k:cI aq K xs own aB ((d,.aK a9 b2 0 n c)::e))(D:a6 e y=some (.c6 b2 α ai []):=by rfl)(j:a6 e x=some (.aK a9 b2 0 n c):=by rfl)(ax:own[a9]? =some (.a el aU b2 α ai l):=by rfl)
 (E:n<=c:=by omega) (aS:c<=l.length:=by first|omega|(simp;done)|(simp;omega)) (aA:(5*n+1792)*(dE+1)<=1125899906842624:=by omega):gx aq K d (.app el b2 dE x y) xs own aB e:=eL (Rr j ax (afE D) E aS aA) k
end
section
variable{aq:eX}{K:ac dH}{own bo bf:ac a4}{aB aX b0:Nat}{e a7:bU}{d:Tmp}{xs:ac (bm×cr)}{x y:ce}
variable{cR b2 dE:Nat}{el:co}{α:Type}
def K0(ai:α->ac ag)(m:ac α)(E:nO ⟨own,aB,e⟩ y ai b2 m)(bG:dy aq K xs bf (j6 d a7) (aX+1) cR bo cR ((d,.aK aB b2 0 m.length m.length)::e))(D:a6 e x=some .nl:=by rfl)
 (F:mE own (.a el true b2 α ai m) some=some bo:=by rfl) (G:mF aB some=some cR:=by rfl) (bX:m≠[]:=by first|rfl|simp) (aA:(5*m.length+1792)*(dE+1)<=1125899906842624:=by first|omega|(simp;done)|(simp;omega)):
 dy aq K ((⟨some d,.app el b2 dE x y,none⟩,.dF)::xs) bf a7 aX b0 own aB e:=by
 have h:=m2 F;have q:=nN G;cases h;cases q;refine y1 (KH D (wI E) bX aA) j (λJ C A _=>⟨A,λhm=>?_⟩) bG;have:g0 e (.app el b2 dE x y)=none:=by
  unfold g0;dsimp only;rw[D]
 rw[this]at hm;cases hm
def K1{a9 c:Nat}{ai:α->ac ag}{l:ac α}{gy D:ac a4}(m:ac α)(F:nO ⟨own,aB,e⟩ y ai b2 m)(bG:dy aq K xs D (j6 d a7) (aX+1) cR bo cR ((d,.aK aB b2 0 (n+m.length)<|n+m.length)::e))(E:a6 e x=some (.aK a9 b2 0 n c):=by rfl)(ax:own[a9]? =some (.a el true b2 α ai l):=by rfl)
 (M:hn own a9 .x some=some gy:=by rfl) (G:mE gy (.a el true b2 α ai<|l++m) some=some bo:=by rfl) (N:mF aB some=some cR:=by rfl) (S:D=bf.set a9 .x:=by rfl) (bX:m≠[]:=by first|rfl|simp) (ah:n=l.length:=by first|omega|(simp;done)|(simp;omega)) (T:n=c:=by omega) (aA:(5*(n+m.length)+1792)*(dE+1)<=1125899906842624:=by first|omega|(simp;done)|(simp;omega)):
 dy aq K ((⟨some d,.app el b2 dE x y,none⟩,.dF)::xs) bf a7 aX b0 own aB e:=by
 have O:=ih M;cases O;have C:=m2 G;have I:=nN N;cases C;cases I;subst S;have:=KI (call:=aq.call) E ax (wI F) bX R R R aA;rw[ah,o1]at this;rw[ah]at bG;refine y1 this av (λJ V h L=>?_) bG;have A:J≠a9:=λq=>by
  subst q;rw[o0]at h;rw[aE j]at h;split at h
  ·cases h;cases L
  ·cases h
 rw[mU λq=>A q.symm]at h;refine⟨h,λhm=>?_⟩;have:g0 e (.app el b2 dE x y)=some a9:=by
  unfold g0;dsimp only;rw[E]
 rw[this]at hm;cases hm;exact A j
end
section
variable{X:Ctx}{aI:ao cJ}{bk:d7->dL}{bb n:Nat}{fn:d7}{a5:bh}{i0:ac Nat}{au:aj}{Q:c1->cl->Prop}{K:ac dH}{own:ac a4}{aB:Nat}{e:bU}
def nT{g:d7}{S:bl}(aS:dY X g S.spec){f:ce}{bP:ac ce}{as bO cs:ac ag}{d:Tmp}{xs:ac (bm×cr)}{bf:ac a4}{a7:bU}{aX b0:Nat}(l:S.L)(hp:S.pre l)(k:dy (gP X aI bk n bb fn a5 i0 au Q) K xs bf (j6 d a7) (aX+1) aB own aB ((d,S.res l)::e))
 (E:a6 e f=some (.fn (.func g) bO cs):=by rfl) (D:ha e bP=some as:=by rfl) (he:gf (bO++(as++cs)) (S.args l):=by exact gf.refl _) (fH:g9 (bO++(as++cs))=true:=by rfl) (F:bk g=S.spec.K:=by rfl) (cA:S.hp a5:=by exact aC):
 dy (gP X aI bk n bb fn a5 i0 au Q) K ((⟨some d,.call f bP,none⟩,.dF)::xs) bf a7 aX b0 own aB e:=
 Fp (d:=some d) (s:=⟨own,aB,e⟩) (RD aS F l E D fH he hp cA) j (λ_ _ h _=>⟨h,by simp[g0]⟩) k
end
structure ux(l:Nat)(lX:d7)(m7:ao bv)(a8:ac Tmp)(dV body:dk)(oG:Nat)(sS:bU)(a5:bh)(i0:ac Nat)(au:aj):Prop where
 get:au.h.get l=some (.loop .ready none lX m7 a8 dV body oG)
 lt:l<au.ae
 sI:l∉i0
 ah:a5 l=none
 env:cN ⟨m7,[],none,false,some l⟩ a5 i0 sS
def ux.up{l:Nat}{lX:d7}{m7:ao bv}{a8:ac Tmp}{dV body:dk}{oG:Nat}{sS:bU}{a5 H1:bh}{i0 D:ac Nat}{au E:aj}(h:ux l lX m7 a8 dV body oG sS a5 i0 au)(j:cQ a5 i0 au H1 D E):ux l lX m7 a8 dV body oG sS H1 D E:=
 ⟨(j.eF l h.lt h.sI).trans h.get,eR h.lt j.ae,λhm=>(j.new l hm).elim h.sI λg=>absurd h.lt<|Dc.2 g,(j.hold l h.lt h.sI).trans h.ah,h.env.mono j.hle j.jy⟩
section
variable{X:Ctx}{aI:ao cJ}{bk:d7->dL}{bb n:Nat}{fn:d7}{a5:bh}{i0:ac Nat}{au:aj}{Q:c1->cl->Prop}{K:ac dH}{own:ac a4}{aB:Nat}{e:bU}
variable{l oG:Nat}{lX:d7}{m7:ao bv}{a8:ac Tmp}{dV body:dk}{sS:bU}
def afG{iW:bU}{y:ce}{bP:ac ce}{as:ac ag}{d:be Tmp}{xs:ac bm}(aE:ux l lX m7 a8 dV body oG sS a5 i0 au)
 (aK:∀H1 E G,eQ ⟨b7 aI (cj X bk)<|n+1,n+1,lX,H1,E,G,λx s=>x= .norm/\s=⟨own,aB,iW⟩⟩ [] (.c dV) own aB<|KV a8 as sS)
 (aD:∀H1 E G,E.length=own.length->cF a5 H1->eQ ⟨b7 aI (cj X bk)<|n+1,n+1,lX,H1,E,G,λx s=>x= .norm/\b5.ok ⟨b7 aI (cj X bk)<|n+2,bb,fn,a5,i0,au,Q⟩ ⟨K,.U xs,⟨s.own,s.n,dU d (.b true) e⟩⟩⟩ [] (.c body) own aB iW)
 (a':a6 e y=some (.v<|.func (.yield l) #[] #[]):=by rfl) (Z:ha e bP=some as:=by rfl) (aF:as.length=a8.length:=by rfl):
 cI ⟨b7 aI (cj X bk)<|n+2,bb,fn,a5,i0,au,Q⟩ K (⟨d,.call y bP,none⟩::xs) own aB e:=by
 intro H ids st o L R M;have bV:=M.dJ Z;have aJ:=M.ar a';have I:=aE.up L;obtain⟨aS,eU,b4,cE,H1,aR,G,C,F,aL,rfl,rfl⟩:=aK H ids st H ids st ⟨oo a8 (dJ o bP) m7,[],none,false,some l⟩ (cQ.refl _ _ _) R<|I.env.par bV;have Y:=C.jy.eq<|R.len.trans F.len.symm;subst Y;have q:=I.up C;have aH:=F.other q.lt q.sI q.ah<|.loop .busy none lX m7 a8 dV body oG;obtain⟨aO,aT,S,a2,W,O,aM,A,ai,an,rfl,ax⟩:=aD H1 ids ⟨b4.h.set l<|.loop .busy none lX m7 a8 dV body oG,b4.ae⟩ (F.len.trans F.cV.symm) (L.hle.trans C.hle) H1 ids _ eU (cQ.refl _ _ _) aH aL;have az:=(A.eF l q.lt q.sI).trans<|ao.mn _ _ _;have ak:=(A.hold l q.lt q.sI).trans q.ah;have T:=eR q.lt A.ae;have al:l∉O:=λhm=>(A.new l hm).elim q.sI λg=>absurd q.lt<|Dc.2 g;have aj:=ai.other T al ak<|.loop .ready none lX m7 a8 dV body oG;have V:b7 aI (cj X bk) (n+2) (.func (.yield l) #[] #[]) (dJ o bP) none st= .ret (.bool true) ⟨S.h.set l<|.loop .ready none lX m7 a8 dV body oG,S.ae⟩ false:=by
  have a7:b7 aI (cj X bk) (n+2) (.func (.yield l) #[] #[]) (dJ o bP) none st=vU (b7 aI (cj X bk)<|n+1) (n+1) l (dJ o bP) st:=rfl;rw[a7];unfold vU;rw[I.get];show dz (du<|dJ o bP) (du a8) _ _=_;rw[ig<|by rw[eP,eP,gd bV,aF],cE];show yd (b7 aI (cj X bk)<|n+1) (n+1) l lX body eU b4=_;unfold yd;rw[q.get];show(b4.gO l (.loop .busy none lX m7 a8 dV body oG) λst=>qh l<|cZ (b7 aI (cj X bk)<|n+1) (n+1) lX body eU st)=_;rw[iH,a2];exact afj an.pl.c4 az
 have hle:=C.hle.trans A.hle;refine pw ?_ (ax W O _ _ (L.trans ?_) aj<|(M.mono hle A.jy).dU d j)
 ·rw[yO,aJ];show lv (b7 aI (cj X bk) (n+2) (.func (.yield l) #[] #[]) (dJ o bP) none st) _ _=_;rw[V];rfl
 ·have D:=C.ae;have aa:=A.ae;refine⟨hle,λb aA af=>(A.hold b (eR aA D) af).trans<|C.hold b aA af,λb aA af=>?_,cC D aa,A.jy,λb aA=>(A.new b aA).imp id λg=>cC D g⟩;by_cases N:b=l
  ·subst N;rw[ao.mn];exact I.get.symm
  ·rw[ao.fa _ _ N];refine(A.eF b (eR aA D) af).trans ?_;rw[ao.fa _ _ N];exact C.eF b aA af
def ux.frame{E:bU}{H1:bh}{D:ac Nat}{F:aj}(h:ux l lX m7 a8 dV body oG sS a5 i0 au)(G:cQ a5 i0 au H1 D F)(f:ac Nat)(M:pE f E sS)(I:∀m∈f,m<D.length):ux l lX m7 a8 dV body oG E H1 (pick f D) F:=by
 have q:=h.up G;refine⟨q.get,q.lt,λhm=>?_,q.ah,⟨q.env.pl,λJ a C=>J5 f a<|q.env.get J _<|M.get C⟩⟩;obtain⟨k,L⟩:=vt.1 hm;obtain⟨m,_,A⟩:=wJ (λi k h=>I k<|hg h) L;exact q.sI<|hg A
def afH(k0:be bv->ac a4->Prop)(res:ac gU)(x:c1)(s:cl):Prop:=((x= .norm\/x= .ret)/\(∃r,Fin.m5 s res=some r)/\k0 none s.own)\/∃v,x= .aR v/\k0 (some v) s.own
theorem afI{st:aj}{o:aJ}(bc:o.b1=none)(I:Fit H ids st own aB)(Z:cN o H ids e){f:ce}{g:d7}{aZ:cJ}{qF:ac ag}(k0:be bv->ac a4->Prop)(Y:aI.get g=some aZ)(b':a6 e f=some (.fn (.func g) [] qF))(a1:bk g=dL.no)(aE:qF.length+1<=aZ.aM)
 (aD:∀(C:aj) (l:Nat),ids.length=own.length->ux l fn o.t a8 dV body st.ae e H ids C->
  eQ ⟨b7 aI (cj X bk)<|n+2,n+2,g,H,ids,C,afH k0 aZ.res⟩ [] (.c aZ.body) own aB (hJ 0<|.v (.func (.yield l) #[] #[])::qF)):
 ∃(U:be bv) (ak:aj) (bC:bh) (q:ac Nat) (bo:ac a4),cZ (b7 aI (cj X bk)<|n+3) bb fn (.tO f a8 dV body) o st= .out (match U with|none=>.norm|some v=>.aR v) ⟨o.t,{target:=.collected st.ae,args:= #[]}::o.c4,o.aR,o.cL,o.b1⟩ ak/\
  cQ H ids st bC q ak/\Fit bC q ak bo bo.length/\k0 U bo/\ak.h.get st.ae=some (.jm<|some [])/\st.ae<ak.ae/\bC st.ae=none/\st.ae∉q:=by
 obtain⟨ad,O,aY,a2,a9⟩:=Z.ar b';subst a2;have aT:=I.lt;have S:∀b,st.ae<=b->H b=none:=λb E=>by
  cases h:H b with
  |none=>rfl
  |some U=>have:=I.aT h;omega
 have aK:=(I.extra<|.jm<|some []).extra<|.loop .ready none fn o.t a8 dV body st.ae;have F:∀b,st.ae<=b->b∉ids:=λb E hm=>by have:=aT _ hm;omega
 generalize M:(⟨(ao.set st.h st.ae<|.jm<|some []).set (st.ae+1)<|.loop .ready none fn o.t a8 dV body st.ae,st.ae+1+1⟩:aj)=C at *;have aa:C.h.get (st.ae+1)=some (.loop .ready none fn o.t a8 dV body st.ae):=by rw[<-M];show(ao.set _ (st.ae+1) _).get (st.ae+1)=_;exact ao.mn _ _ _
 have aH:C.h.get st.ae=some (.jm<|some []):=by
  rw[<-M];rw[ao.fa _ _ R,ao.mn]
 have aF:∀b,b<st.ae->C.h.get b=st.h.get b:=λb E=>by
  rw[<-M];rw[ao.fa _ _ R,ao.fa _ _ R]
 have bg:C.ae=st.ae+2:=by rw[<-M]
 have aS:=aD C (st.ae+1) (I.len.trans I.cV.symm) ⟨aa,R,F _<|k9 _,S _<|k9 _,⟨rD,Z.get⟩⟩;have aw:cB H (.v (.func (.yield<|st.ae+1) #[] #[])::qF) ids (.func (.yield<|st.ae+1) #[] #[]::O):=⟨_,O,j,j,a9⟩;have fin:∀(U:be bv) A bC q (s:cl) r,ie (b7 aI (cj X bk)<|n+2) (n+2) g aZ (.func (.yield<|st.ae+1) #[] #[]::O) none C=r->cQ H ids C bC q A->Fit bC q A s.own s.n->k0 U s.own->
  (∃v,(U=none/\r= .ret v A false)\/(U=some v/\r= .aR v A false))->∃(U:be bv) (ak:aj) (bC:bh) (q:ac Nat) (bo:ac a4),cZ (b7 aI (cj X bk)<|n+3) bb fn (.tO f a8 dV body) o st= .out (match U with|none=>.norm|some v=>.aR v) ⟨o.t,{target:=.collected st.ae,args:= #[]}::o.c4,o.aR,o.cL,o.b1⟩ ak/\
  cQ H ids st bC q ak/\Fit bC q ak bo bo.length/\k0 U bo/\ak.h.get st.ae=some (.jm<|some [])/\st.ae<ak.ae/\bC st.ae=none/\st.ae∉q:=by
  intro U A bC q s r T D N hp aW;have bj:=D.ae;have N:Fit bC q A s.own s.own.length:=by rw[N.cV];exact N
  have ba:st.ae+1∉q:=λhm=>(D.new _ hm).elim (F _<|k9 _) λg=>R
  have a':st.ae∉q:=λhm=>(D.new _ hm).elim (F _<|dt _) λg=>R
  have aA:=(D.eF _ R<|F _<|k9 _).trans aa;have W:=(D.eF _ R<|F _<|dt _).trans aH;have aL:=(D.hold _ R<|F _<|k9 _).trans<|S _<|k9 _;have an:=(D.hold _ R<|F _<|dt _).trans<|S _<|dt _;have ai:cQ H ids st bC q A:=⟨D.hle,λb E af=>D.hold b R af,λb E af=>(D.eF b R af).trans<|aF b E,R,D.jy,λb E=>(D.new b E).imp id λg=>R⟩;have az:cZ (b7 aI (cj X bk)<|n+3) bb fn (.tO f a8 dV body) o st=Oy (st.ae+1) ⟨o.t,{target:=.collected st.ae,args:= #[]}::o.c4,o.aR,o.cL,o.b1⟩ r:=by
   show AJ (b7 aI (cj X bk)<|n+3) fn f a8 dV body o st=_;unfold AJ;rw[bc,Sym.hU,gF,gF,aY,ox];have a7:fe (#[]:bi bv).toList (fe [Value.func (.yield<|st.ae+1) #[] #[]] (⟨O⟩:bi bv).toList)=Value.func (.yield<|st.ae+1) #[] #[]::O:=av
   rw[a7,BS a1,Sym.hU,Sym.hU,Y,Sym.eg];rw[M,T]
  obtain⟨v,⟨rfl,rfl⟩|⟨rfl,rfl⟩⟩:=aW
  ·refine⟨none,⟨A.h.set (st.ae+1)<|.loop .exhausted none fn o.t a8 dV body st.ae,A.ae⟩,bC,q,s.own,?_,ai.other R _,N.other R ba aL _,hp,?_,by show st.ae<A.ae;omega,an,a'⟩
   ·rw[az];show mm (A.h.get<|st.ae+1) _ _=_;rw[aA];show(A.gO (st.ae+1) (.loop .exhausted none fn o.t a8 dV body st.ae) λak=>bn none (λe=>cH.out e _ ak)<|cH.out .norm _ ak)=_;rw[iH];rfl
   ·show(ao.set A.h (st.ae+1) _).get st.ae=_;rw[ao.fa _ _ R];exact W
  ·exact⟨some v,A,bC,q,s.own,az,ai,N,hp,W,R,an,a'⟩
 rcases E4 (k0:=λv ak=>∃(bC:bh) (q:ac Nat) (s:cl),cQ H ids C bC q ak/\Fit bC q ak s.own s.n/\k0 none s.own)
  (J2:=λv ak=>∃(bC:bh) (q:ac Nat) (s:cl),cQ H ids C bC q ak/\Fit bC q ak s.own s.n/\k0 (some v) s.own)
  (by rw[gd aw];exact aE) ((aS H ids C (dT _) (cQ.refl _ _ _) aK<|cN.zero aw).mono (by
   rintro x eU b4 ⟨bC,q,s,L,G,ax,⟨Y,⟨r,T⟩,hp⟩|⟨v,rfl,hp⟩⟩
   ·obtain⟨v,bd,bp⟩:=r2 (call:=b7 aI (cj X bk)<|n+2) G ax T
    grind
   ·exact .inr ⟨v,j,FH ax.pl,bC,q,s,L,G,hp⟩))with⟨v,A,V,bC,q,s,L,G,hp⟩|⟨v,A,V,bC,q,s,L,G,hp⟩
 ·exact fin none A bC q s _ V L G hp ⟨v,.inl eT⟩
 ·exact fin (some v) A bC q s _ V L G hp ⟨v,.inr eT⟩
end
variable{o:aJ}{bb:Nat}{ops:ac bm}
def FI:c7->Bool
 |.jl _=>true
 |.alloc _ _=>true
 |.call _ _=>true
 |.h2 _=>true
 |_=>false
def afJ{a:ce}{st:aj}:bw call (.h2 a) o st= .no\/∃v,bw call (.h2 a) o st= .ok v o st:=by
 rw[JX];cases o.ar a<;>first|exact .inl j|skip
 rename_i p;cases p with
 |none=>exact .inl j
 |some ca=>
  obtain⟨b,U,sp⟩:=ca;cases sp with
  |some _=>exact .inl j
  |none=>
   show yb (st.h.get b) _ _=_\/∃v,yb (st.h.get b) _ _=_;cases st.h.get b with
   |none=>exact .inl j
   |some q=>
    cases q<;>first|exact .inl j|skip
    rename_i cs _ _ _;show hQ cs U 1 _ _=_\/∃v,hQ cs U 1 _ _=_;unfold hQ;cases DL 1 (DM U cs)with
    |none=>exact .inl j
    |some ad=>
     cases ad with
     |nil=>exact .inl j
     |cons v ad=>
      cases ad with
      |nil=>exact .inr ⟨v,j⟩
      |cons _ _=>exact .inl j
def afK{U:c7}{D:aJ}{st ak:aj}(E:FI U=true)(h:bw call U o st= .ok v D ak):D=o:=by
 cases U<;>first|cases E|skip
 ·cases h;rfl
 ·rename_i z el;have e:bw call (.alloc z el) o st=st.ib (.cells z el (0,0) false) λid st=>.ok (.pointer<|some ⟨id,0,none⟩) o st:=rfl;rw[e,gF]at h;cases h;rfl
 ·rename_i a;rcases afJ with g|⟨v1,g⟩
  ·rw[g]at h;cases h
  ·rw[g]at h;cases h;rfl
 ·rename_i f as;rw[yO]at h;cases j:call (o.ar f) (dJ o as) none st with
  |ret v1 b4 q=>rw[j]at h;cases h;rfl
  |aR v1 b4 q=>rw[j]at h;cases h
  |no=>rw[j]at h;cases h
theorem RP{call:bM}:∀{ops:ac bm} {o q:aJ} {st ak:aj} {e:c1},(ops.all λx=>x.g.isNone&&FI x.U)=true->fV call ops o st= .out e q ak->q.b1=o.b1
 |[],_,_,_,_,_,_,h=>by cases h;rfl
 |⟨d,U,g⟩::ops,o,q,st,ak,e,j,h=>by
  rw[xO,cO,cO]at j;obtain⟨⟨D,E⟩,j⟩:=j;cases g with
  |some p=>cases D
  |none=>
   have h:rU (bw call U o st) (λv o st=>fV call ops (o.put d v) st) (λv st=>cond U.kU (.out (.aR v) o st) .no)= .out e q ak:=h;cases A:bw call U o st with
   |ok v eU b4=>
    have C:=afK E A;subst C;rw[A]at h;rw[RP j h];exact(qj _ _ _).2.2.2
   |aR v b4=>
    rw[A,Qw]at h
    grind
   |no=>rw[A]at h;cases h
def afL{fn:d7}{st:aj}(Q:c1->cl->Prop)(hp:(ops.all λx=>x.g.isNone&&FI x.U)=true)(h:∀H1 E N,E.length=s.own.length->cF H H1->b5.ok ⟨call,bb,fn,H1,E,N,Q⟩ ⟨[],.U ops,s⟩)
 (D:Fit H ids st s.own s.n) (G:cN o H ids s.env):∃x A ak bC q j,cZ call bb fn (.fU ops) o st= .out x A ak/\cQ H ids st bC q ak/\Fit bC q ak j.own j.n/\cN A bC q j.env/\A.b1=o.b1/\Q x j:=by
 obtain⟨e,A,ak,C,bC,q,j,F,I,L,M⟩:=h H ids st (D.len.trans D.cV.symm) (cF.refl _) H ids st o (cQ.refl _ _ _) D G;exact⟨e,A,ak,bC,q,j,C,F,I,L,RP hp C,M⟩
theorem K2{fn:d7}{t:cl}{st:aj}(hp:(ops.all λx=>x.g.isNone&&FI x.U)=true)(h:∀H1 A F,A.length=s.own.length->cF H H1->b5.ok ⟨call,bb,fn,H1,A,F,λx C=>x= .norm/\C=t⟩ ⟨[],.U ops,s⟩)
 (E:Fit H ids st s.own s.n) (D:cN o H ids s.env):∃q ak bC j,cZ call bb fn (.fU ops) o st= .out .norm q ak/\cQ H ids st bC j ak/\Fit bC j ak t.own t.n/\cN q bC j t.env/\q.b1=o.b1:=by
 obtain⟨_,q,ak,bC,j,_,M,N,I,G,L,rfl,rfl⟩:=afL _ hp h E D
 grind
def g1{own os:ac a4}{p aM:Nat}{f:ac Nat}{e D:bU}(hp:pinned p f 0=true:=by rfl)(aF:rY f own f os:=by repeat first|exact aC|refine⟨gj,?_⟩|refine⟨jN,?_⟩|refine⟨⟨_,j,aC⟩,?_⟩)(aL:pE f D e:=by repeat first|exact aC|refine⟨j,?_⟩)(bV:f.Nodup:=by decide)(aD:aM=f.length:=by rfl):Sub p f ⟨own,n,e⟩ ⟨os,aM,D⟩:=⟨bV,aD,aF,aL,hp⟩
section
variable{aq:eX}{K:ac dH}{own bf:ac a4}{aB aX b0 back:Nat}{e a7:bU}{d:Tmp}{ay:ac Tmp}{xs:ac (bm×cr)}{x:ce}
theorem en{a9 z J q m:Nat}{el:co}{aU:Bool}{α:Type}{ai:α->ac ag}{l:ac α}(w:α){cs:ac ag}(ba:l[J]? =some w)(k:dy aq K xs bf ((d,.agg cs)::a7) aX b0 own aB ((d,.agg cs)::e))(D:a6 (dZ ay a7) x=some (.fk a9 z J q):=by rfl)(ax:bf[a9]? =some (.a el aU z α ai l):=by rfl)(cz:qB (ai w) q m (λl=>some l)=some cs:=by rfl)(aA:back<aX:=by decide):dy aq K ((⟨some d,.mi m x,none⟩,.read back ay)::xs) bf a7 aX b0 own aB e:=
 k2 aA (λH ids st o E C I=>by
  obtain⟨b,A,M⟩:=E.ar D;obtain⟨ad,G,S,L⟩:=I a9 _ b ax j A;have bV:=L J w ba;obtain⟨N,O⟩:=wz cz;cases O;have h:=rV m<|m0 q bV;have C:=gd bV;rw[iF]at C;rw[k7]at N;have e:((List.take z<|List.drop (J*z) ad).drop q).take m=(ad.drop<|J*z+q).take m:=by
   rw[z8,p3,xR,jF R]
  rw[e]at h;exact⟨_,⟨_,j,h⟩,λT _ F=>BG M ((F a9 _ b ax j A).trans G)<|by grind⟩) k
end
end Go.bA
namespace Go.bA
variable{X:Ctx}
variable{b:Nat}{gs:ac (Nat×bz)}{g:Nat}{p:Nat×bz}
def nU(g n:Nat):bF:=λi=>if i<g then some ⟨i,0,0,eH⟩else if n<=i/\i<2*n then some ⟨i-n,0,0,eH⟩else none
def r6(W:f5)(b:Nat):Bool:=match W.heap[b]? with
 |some (.cells _ _ _)=>true
 |_=>false
theorem RQ{W:f5}(h:r6 W b=true):∃C el j,W.heap[b]? =some (.cells C el j):=by
 unfold r6 at h
 grind
def hK(W:f5):bv->bv
 |.bool b=>.bool b
 |.int k m=>.int k m
 |.string s=>.string s
 |.slice none l c=>.slice none l c
 |.slice (some a) l c=>if r6 W a.block=true/\a.spot=none then .slice (some ⟨W.heap.size+a.block,a.off,none⟩) l c else(match l with|0=>.chan none|_=>iR)
 |.pointer none=>.pointer none
 |.pointer (some a)=>if a.block<W.heap.size/\a.spot=none then .pointer (some ⟨W.heap.size+a.block,a.off,none⟩)else iR
 |_=>iR
theorem K3{n:Nat}(j:g<=n)(aA:b<n):nU g n (n+b)=some ⟨b,0,0,eH⟩:=by
 unfold nU
 grind
def K4{W:f5}(D:g<=W.heap.size)(v:bv):bc (nU g W.heap.size) (hK W v) v:=by
 cases v with
 |slice a l c=>
  cases a with
  |none=>exact .jZ _ _
  |some a=>
   show bc _ (if r6 W a.block=true/\a.spot=none then Value.slice (some ⟨W.heap.size+a.block,a.off,none⟩) l c else(match l with|0=>.chan none|_=>iR)) _;split
   ·rename_i h;obtain⟨b,U,sp⟩:=a;obtain⟨q,A⟩:=h;subst A;obtain⟨_,_,_,C⟩:=RQ q;have:=bc.fg ⟨W.heap.size+b,U,none⟩ ⟨b,0,0,eH⟩ U l c (K3 D (tu.1 C).1) j<|.inl av;exact this
   ·split
    ·exact .emp _ _
    ·exact .top _
 |pointer a=>
  cases a with
  |none=>exact .kV
  |some a=>
   show bc _ (if a.block<W.heap.size/\a.spot=none then Value.pointer (some ⟨W.heap.size+a.block,a.off,none⟩)else iR) _;split
   ·rename_i h;obtain⟨b,U,sp⟩:=a;obtain⟨q,A⟩:=h;subst A;have:=bc.ptr ⟨W.heap.size+b,U,none⟩ ⟨b,0,0,eH⟩ (K3 D q) j;simpa using this
   ·exact .top _
 |bool b=>exact .bool b
 |int k m=>exact .int k m
 |string s=>exact .string s
 |_=>exact .top _
theorem RR{g:Nat}{W:f5}(j:g<=W.heap.size):∀ad:ac bv,bI (nU g W.heap.size) (ad.map<|hK W) ad
 |[]=>.nil _
 |v::ad=>.cons (K4 j v)<|RR j ad
theorem K5:∀(us:ac (Nat×bz)) (h:ao bz) (k:Nat),(∀p∈us,p.1≠k)->(j5 us h).get k=h.get k
 |[],_,_,_=>rfl
 |u::us,h,k,ah=>by
  rw[EV,K5 us _ k λp hp=>ah p<|e5 _ hp,ao.ee,aw λe=>ah u g5 e.symm]
theorem RS:∀(us:ac (Nat×bz)) (h:ao bz) (k:Nat) (U:bz),(us.map (·.1)).Nodup->(k,U)∈us->(j5 us h).get k=some U
 |u::us,h,k,U,bV,hm=>by
  rw[jj,tz]at bV;rw[EV];rcases e1.1 hm with rfl|hm
  ·rw[K5 us _ k λp hp e=>bV.1<|e▸cW.2 ⟨p,hp,j⟩,ao.ee,aE j]
  ·exact RS us _ k U bV.2 hm
def wQ(W:f5)(b:Nat):be Obj->be (Nat×bz)
 |some (.cells C el _)=>some (W.heap.size+b,.cells (C.toList.map<|hK W) el (0,C.size+1) false)
 |_=>none
def BW(W:f5):ac (Nat×bz):=(List.range W.heap.size).filterMap λb=>wQ W b W.heap[b]?
def hL(gs:ac (Nat×bz))(W:f5):ao bz:=j5 (BW W)<|j5 gs .nil
theorem FJ{W:f5}:p∈BW W↔∃b,b<W.heap.size/\wQ W b W.heap[b]? =some p:=by
 unfold BW
 grind
def BX{W:f5}{U:be Obj}(h:wQ W b U=some p):p.1=W.heap.size+b:=by
 unfold wQ at h;split at h
 ·cases h;rfl
 ·cases h
def afM(W:f5):((BW W).map (·.1)).Nodup:=by
 unfold BW;rw[List.map_filterMap];have A:(List.range W.heap.size).Nodup:=List.nodup_range;refine List.Pairwise.filterMap _ ?_ A;intro a b E x h y j e;obtain⟨p,C,rfl⟩:=nt.1 h;obtain⟨q,D,rfl⟩:=nt.1 j;rw[BX C,BX D]at e;omega
def afN{W:f5}{C:bi bv}{el:co}{j:Nat×Nat}(h:W.heap[b]? =some (.cells C el j)):(hL gs W).get (W.heap.size+b)=some (.cells (C.toList.map<|hK W) el (0,C.size+1) false):=
 RS _ _ _ _ (afM W)<|FJ.2 ⟨b,(tu.1 h).1,by rw[h];rfl⟩
def afO{W:f5}(h:g<W.heap.size):(hL gs W).get g=(j5 gs .nil).get g:=
 K5 _ _ _ λp hp=>by
  obtain⟨b,_,e⟩:=FJ.1 hp;rw[BX e];omega
theorem afP{W:f5}(S:X.a3<=W.heap.size)(h:∀p∈gs,ui X.a3 W p):bN X (nU X.a3 W.heap.size) ⟨hL gs W,2*W.heap.size⟩ W:=by
 have hle:(EY X.a3).le (nU X.a3 W.heap.size):=λi l q=>by
  unfold EY at q;unfold nU
  grind
 have T:∀i l,nU X.a3 W.heap.size i=some l->l.bu=eH/\l.ct<W.heap.size/\i<2*W.heap.size:=by
  intro i l q;unfold nU at q
  grind
 have M:∀i U,(hL gs W).get i=some U->ui X.a3 W (i,U)\/∃b,b<W.heap.size/\i=W.heap.size+b/\wQ W b W.heap[b]? =some (i,U):=by
  intro i U D;rcases yG _ _ _ _ D with hm|hm
  ·obtain⟨b,E,e⟩:=FJ.1 hm;exact .inr ⟨b,E,BX e,e⟩
  ·rcases yG _ _ _ _ hm with hm|hm
   ·exact .inl<|h _ hm
   ·simp at hm
 refine⟨λi U D bV=>?_,λi J U p l m af _ ah _ q hm ae e=>?_,λi af=>?_,λi l q=>(T i l q).2.1,λg V=>?_,?_,λi l U q _ D _=>?_⟩
 ·rcases M i U D with⟨aT,cs,el,m,C,F,A,O,N,G⟩|⟨b,E,rfl,e⟩
  ·simp only at aT A N;refine⟨⟨i,0,0,eH⟩,by unfold nU;rw[aE aT],?_⟩;subst A;have L:cs.length=C.size:=by rw[G.1];simp
   have G:=G.mono hle;refine⟨C,F,⟨_,N,λ_=>j⟩,by simp[L],λ_=>by simp[L],λk I=>?_,λY=>?_,λ_=>⟨j,j,L.symm⟩⟩
   ·have aa:k<C.size:=by omega
    refine⟨C[k],av,?_⟩;have:=G.2 k I R
    rwa [ky]at this
   ·omega
  ·refine⟨⟨b,0,0,eH⟩,K3 S E,?_⟩;unfold wQ at e;split at e
   ·rename_i C el F a';cases e;have Z:=RR S C.toList;refine⟨C,F,⟨_,a',λ_=>j⟩,av,λ_=>av,λk I=>?_,λY=>?_,λ_=>⟨j,j,av⟩⟩
    ·have aa:k<C.size:=by grind
     refine⟨C[k],av,?_⟩;have:=Z.2 k I R
     rwa [ky]at this
    ·omega
   ·cases e
 ·grind
 ·have af:2*W.heap.size<=i:=af;refine⟨?_,?_⟩
  ·cases e:nU X.a3 W.heap.size i with
   |none=>rfl
   |some l=>have:=(T i l e).2.2;omega
  ·cases e:(hL gs W).get i with
   |none=>rfl
   |some U=>
    rcases M i U e with h|⟨b,E,rfl,_⟩
    ·have:=h.1;omega
    ·omega
 ·exact hle _ _<|by unfold EY;rw[aE V]
 ·show X.a3<=2*W.heap.size;omega
 ·rcases M i U D with⟨_,cs,el,m,C,F,A,O,_,_⟩|⟨b,E,rfl,e⟩
  ·simp only at A;subst A;exact O
  ·unfold wQ at e;split at e
   ·cases e;exact Nat.succ_pos _
   ·cases e
def afQ{W:f5}(h:∀p∈gs,p.1<W.heap.size)(b:Nat)(aA:2*W.heap.size<=b):(hL gs W).get b=none:=by
 cases e:(hL gs W).get b with
 |none=>rfl
 |some U=>
  rcases yG _ _ _ _ e with hm|hm
  ·obtain⟨c,j,e⟩:=FJ.1 hm;have:=BX e;omega
  ·rcases yG _ _ _ _ hm with hm|hm
   ·have:=h _ hm;omega
   ·simp at hm
inductive oH
 |i (k:IntKind)
 |b
 |s
 |aK (z w:Nat) (cs:List oH)
mutual
def K6(B:Nat)(W:f5):oH->bv->Prop
 |.i k,v=>∃m,v= .int k m/\(Lit.int k m).wf=true
 |.b,v=>∃t,v= .bool t
 |.s,v=>∃s:f9,v= .string s/\s.data.toList.length<=B
 |.aK z w cs,v=>v= .slice none 0 0\/∃(a:Addr) (n c:Nat),v= .slice (some a) n c/\n<=c/\c<=B/\c*w<=B/\∀i,i<n->∃ad,W.cells? 0 (a.add<|i*z) z=some ad/\kq B W cs ad
def kq(B:Nat)(W:f5):ac oH->ac bv->Prop
 |[],ad=>ad=[]
 |c::cs,ad=>∃v ws,ad=v::ws/\K6 B W c v/\kq B W cs ws
end
theorem RT{B:Nat}{W:f5}:∀{cs aN:ac oH} {ad ws:ac bv},kq B W cs ad->kq B W aN ws->kq B W (cs++aN) (ad++ws)
 |[],aN,ad,ws,h,q=>by
  subst h;exact q
 |c::cs,aN,ad,ws,⟨v,us,e,aF,aL⟩,q=>by
  subst e;exact⟨v,us++ws,j,aF,RT aL q⟩
def y9(P:f8):Nat->co->be (ac oH)
 |0,_=>none
 |n+1,t=>
  match P.underlying t with
  |some .bool=>some [.b]
  |some (.int k)=>some [.i k]
  |some .string=>some [.s]
  |some (.slice e)=>if P.bytesOf e=0 then none else(y9 P n e).map λcs=>[.aK (P.cellsOf e) (P.bytesOf e) cs]
  |some (.struct bO)=>if yJ 0 (bO.toList.map λf=>(f.offset,P.cellsOf f.type)) (P.cellsOf t)then(bO.toList.mapM λ(f:Field)=>y9 P n f.type).map List.flatten else none
  |_=>none
theorem RU{H:Type}{P:f8}{e:co}{x:Nat}:∀{l:ac (DataW H)} {d:DataW H},d∈l->x∈d.weights P e->x∈DataW.weightsAll P e l
 |y::l,d,bV,j=>by
  rcases e1.1 bV with rfl|bV
  ·exact nu _ j
  ·exact H0 _<|RU bV j
theorem FK{H:Type}{P:f8}{x:Nat}:∀{ay:ac co} {l:ac (DataW H)} {i:Nat} {t:co} {d:DataW H},ay[i]? =some t->l[i]? =some d->x∈d.weights P t->x∈DataW.weightsEach P ay l
 |[],_,_,_,_,h,_,_=>by simp at h
 |_::_,[],_,_,_,_,h,_=>by simp at h
 |u::ay,y::l,0,t,d,h,j,q=>by
  simp at h j;subst h;subst j;exact nu _ q
 |u::ay,y::l,i+1,t,d,h,j,q=>by
  exact H0 _<|FK (by simpa using h) (by simpa using j) q
theorem RV{B:Nat}{W:f5}{α:Type}{yL:α->ac bv}{D:α->be (ac oH)}:∀(as:ac α) (lA:ac (ac oH)),as.mapM D=some lA->(∀a∈as,∀cs,D a=some cs->kq B W cs (yL a))->kq B W lA.flatten (as.map yL).flatten
 |[],lA,h,_=>by
  simp at h;subst h;exact j
 |a::as,lA,h,ax=>by
  rw[List.mapM_cons]at h;obtain⟨cs,q,h⟩:=q8.1 h;obtain⟨aQ,C,h⟩:=q8.1 h;cases h;exact RT (ax a g5 cs q)<|RV as aQ C λa A=>ax a<|e5 _ A
theorem FL{H:Type}{enc:co×bv->H}{P:f8}{W:f5}{B:Nat}:∀(n E:Nat) (t:co) (cs:ac bv) (d:DataW H) (p:ac MemPlace) (lA:ac oH),
 DataW.trod enc P W 0 (λ_=>true) true E t cs=some (d,p)->y9 P n t=some lA->(∀x∈d.weights P t,x<=B)->kq B W lA cs
 |0,_,_,_,_,_,_,_,h,_=>by cases h
 |n+1,E,t,cs,d,p,lA,h,aS,I=>by
  unfold y9 at aS;cases E with
  |zero=>simp[DataW.trod]at h
  |succ E=>
  split at aS
  ·rename_i q;cases aS;simp[DataW.trod,q]at h;split at h<;>first|(rename_i cz;cases cz)|skip
   all_goals first|(exact⟨_,_,j,dC,j⟩)|(simp at h)
  ·rename_i k q;cases aS;simp[DataW.trod,q]at h;split at h<;>first|(rename_i cz;cases cz)|skip
   all_goals first
    |(split at h
      ·rename_i aS;exact⟨_,_,j,⟨_,by rw[aS.1],aS.2⟩,j⟩
      ·cases h)
    |(simp at h)
  ·rename_i q;cases aS;simp[DataW.trod,q]at h;split at h<;>first|(rename_i cz;cases cz)|skip
   all_goals first
    |(split at h
      ·cases h;exact⟨_,_,j,⟨_,j,I _<|by exact g5⟩,j⟩
      ·cases h)
    |(simp at h)
  ·rename_i e q;split at aS
   ·cases aS
   obtain⟨a',ae,rfl⟩:=nt.1 aS;rcases DataW.trod_slice q h with⟨rfl,_⟩|⟨a,len,aj,C,G,m,V,rfl,L,_,ao,aC,ax,D,ah,_⟩
   ·exact⟨_,_,j,.inl j,j⟩
   ·have bV:=congrArg Prod.fst L;subst bV;have O:∀x,x∈(C.length+G.length)*P.bytesOf e::(DataW.weightsAll P e (C.map (·.1))++DataW.weightsAll P e (G.map (·.1)))->x<=B:=λx A=>I x (by
     unfold DataW.weights;rw[q];simp only[hz];exact A)
    have Z:=O _ g5;have aD:(C.length+G.length)*1<=(C.length+G.length)*P.bytesOf e:=q6 _ R;have az:=(ah j).1;refine⟨_,_,j,.inr ⟨a,len,aj,j,ao,R,cC (lI _ R) Z,λi af=>?_⟩,j⟩;have D:=D i af;have N:i<C.length:=R
    rw[nq N]at D;obtain⟨ad,ai,cw⟩:=q8.1 D;refine⟨ad,ai,FL n m e ad _ _ a' cw ae λx A=>O x<|e5 _<|nu _<|RU (cW.2 ⟨_,kc N,j⟩) A⟩
  ·rename_i bO q;split at aS
   ·rename_i M;obtain⟨aa,hm,rfl⟩:=nt.1 aS;obtain⟨xs,m,V,L,ak,aA,F⟩:=DataW.trod_struct q h;have bV:=congrArg Prod.fst L;subst bV;rw[<-ak]at M;have T:=E0 cs _ 0 M;rw[iQ,pZ]at T;rw[T];refine RV bO.toList aa hm λf Y al aw=>?_;obtain⟨i,af,rfl⟩:=List.mem_iff_getElem.1 Y;have an:i<bO.size:=by omega
    have F:=F i bO.toList[i] av;have S:i<xs.length:=R
    rw[nq S]at F;exact FL n m _ _ _ _ al F aw (λx A=>I x (by
     unfold DataW.weights;rw[q];exact FK (i:=i) (by simp[an]) (by simp[S]) A))
   ·cases aS
  ·cases aS
def za(W:f5)(v:bv):Prop:=∀a l c,v= .slice (some a) l c->a.spot=none/\∃C el h,W.heap[a.block]? =some (.cells C el h)
variable{z:Nat}{v:bv}{α:Type}{a:Addr}{ad:ac bv}{B w:Nat}{Q:α->Prop}
theorem wR{P:f8}{W:f5}{u e:co}(D:P.underlying u=some (.slice e))(h:Cell.okWide P W .any 0 u v):za W v:=by
 intro a l c j;subst j;unfold Cell.okWide at h;simp[Cell.ok,D]at h;obtain⟨_,_,_,q,row,cells,A,_⟩:=h;refine⟨q,?_⟩;unfold World.shape? at A
 grind
theorem afR{W:f5}{C:bi bv}{el:co}{D:Nat×Nat}{U:Nat}(j:a=⟨b,U,none⟩)(h:W.cells? 0 a z=some ad)(E:W.heap[b]? =some (.cells C el D)):ad=(C.toList.drop U).take z:=by
 have A:=mapM_some_length h;have q:∀i,i<z->C[U+i]? =ad[i]? :=λi af=>by
  have:=mapM_some_get h i i (by simp[af]);unfold World.cell? at this;rw[j,m1]at this;simp[E]at this;exact this
 apply p0
 grind
theorem afS{W:f5}(D:0<z)(h:W.cells? 0 (a.add<|0*z) z=some ad):r6 W a.block=true/\a.spot=none:=by
 have C:=mapM_some_length h;rw[H2]at C;have j:=mapM_some_get h 0 0 (by simp[D]);have q:ad[0]? =some (ad[0]'R):=nq R;have e:(a.add<|0*z).add 0=a:=by simp[Addr.add]
 rw[q,e]at j;unfold World.cell? at j;split at j
 ·rename_i c el F A;split at j
  ·cases j
  ·rename_i E;refine⟨by unfold r6;rw[A],?_⟩
   simp_all
 ·cases j
theorem afT{n:Nat}{p:Nat->α->Prop}(h:∀i,i<n->∃x,p i x):∃l:ac α,l.length=n/\∀(i:Nat) (x:α),l[i]? =some x->p i x:=by
 induction n with
 |zero=>exact⟨[],j,λi x q=>by simp at q⟩
 |succ n A=>
  obtain⟨l,C,E⟩:=A λi af=>h i R;obtain⟨y,D⟩:=h n R;refine⟨l++[y],by simp[C],λi x q=>?_⟩
  grind
def zb{W:f5}{lA:ac oH}{ai:α->ac ag}(M:∀ad,kq B W lA ad->∃x:α,cB (λb=>(hL gs W).get b) (ai x) [] (ad.map<|hK W)/\Q x)
 (h:K6 B W (.aK z w lA) v) (cA:za W v):∃l:ac α,l.length<=B/\l.length*w<=B/\(∀x∈l,Q x)/\den (λb=>(hL gs W).get b) (.cU z α ai l) [] (hK W v):=by
 rcases h with rfl|⟨a,n,c,rfl,N,O,I,F⟩
 ·exact⟨[],dw _,av,(λx q=>by cases q),.inl eT⟩
 ·obtain⟨cE,C,el,L,A⟩:=cA a n c j;obtain⟨b,U,sp⟩:=a;subst cE;obtain⟨l,E,D⟩:=afT (p:=λi x=>cB (λb=>(hL gs W).get b) (ai x) [] ((((C.toList.map<|hK W).drop<|U+i*z).take z))/\Q x) (λi af=>by
   obtain⟨ad,G,cw⟩:=F i af;obtain⟨x,dg,fY⟩:=M ad cw;have:=afR (m1 b U<|i*z) G A;rw[this]at dg;refine⟨x,?_,fY⟩;rw[<-H3,<-List.map_take];exact dg)
  refine⟨l,R,cC (lI _ R) I,λx q=>?_,.inr ⟨W.heap.size+b,U,c,C.toList.map<|hK W,el,(0,C.size+1),false,?_,R,afN A,λi x q=>(D i x q).1⟩⟩
  ·obtain⟨i,af⟩:=vt.1 q;exact(D i x af).2
  ·show(if r6 W b=true/\none=none then Value.slice (some ⟨W.heap.size+b,U,none⟩) n c else _)=_;rw[aE ⟨by unfold r6;rw[A],j⟩,E]
def FM{W:f5}{lA:ac oH}{ai:α->ac ag}(G:0<z)(M:∀ad,kq B W lA ad->∃x:α,cB (λb=>(hL gs W).get b) (ai x) [] (ad.map<|hK W)/\Q x)
 (h:K6 B W (.aK z w lA) v):∃l:ac α,l.length*w<=B/\(∀x∈l,Q x)/\den (λb=>(hL gs W).get b) (.c6 z α ai l) [] (hK W v):=by
 by_cases q:za W v
 ·obtain⟨l,_,A,C,d⟩:=zb M h q;exact⟨l,A,C,.inr d⟩
 ·rcases h with rfl|⟨a,n,c,rfl,A,C,_,I⟩
  ·exact absurd (λa l c e=>by cases e) q
  ·refine⟨[],av,(λx E=>by cases E),.inl ⟨j,?_⟩⟩;have D:¬(r6 W a.block=true/\a.spot=none):=λ⟨F,L⟩=>q λN T O e=>by
    cases e;exact⟨L,RQ F⟩
   cases n with
   |zero=>
    show(if r6 W a.block=true/\a.spot=none then Value.slice (some ⟨W.heap.size+a.block,a.off,none⟩) 0 c else .chan none)=_;rw[aw D]
   |succ n=>
    obtain⟨ad,S,_⟩:=I 0 R;exact absurd (afS G R) D
end Go.bA
namespace Go.bA
open Sym
def m8(L:ac cH)(Q:c1->aJ->aj->Prop):Prop:=∀r∈L,W r Q
variable{Q:c1->aJ->aj->Prop}
def m8.mono{L:ac cH}{j:c1->aJ->aj->Prop}(h:m8 L Q)(k:∀x o st,Q x o st->j x o st):m8 L j:=λr q=>(h r q).mono k
theorem m8.one{r:cH}(h:W r Q):m8 [r] Q:=λq j=>by
 grind
def m8.then{L:ac cH}{g:aJ->aj->ac cH}(h:m8 L λx o st=>match x with|.norm=>m8 (g o st) Q|x=>Q x o st):m8 (L.flatMap<|oz g) Q:=by
 intro r A;obtain⟨q,D,A⟩:=sl.1 A;obtain⟨x,o,st,rfl,C⟩:=h q D;cases x with
 |norm=>exact C r A
 |exit i=>have A:r∈[cH.out (.exit i) o st]:=A
          rw[hh]at A;subst A;exact⟨_,_,_,j,C⟩
 |ret=>have A:r∈[cH.out .ret o st]:=A
       rw[hh]at A;subst A;exact⟨_,_,_,j,C⟩
 |aR v=>have A:r∈[cH.out (.aR v) o st]:=A
        rw[hh]at A;subst A;exact⟨_,_,_,j,C⟩
def oI:dk->Bool
 |.fU (⟨_,.ext<|.nx _,none⟩::_)=>false
 |.seq a b=>oI a&&oI b
 |.cond _ a b=>oI a&&oI b
 |.block _ a=>oI a
 |.loop a=>oI a
 |.scope a=>oI a
 |_=>true
def RW(g:aJ->aj->cH)(r:cH):oz (λo st=>[g o st]) r=[kf r g]:=by
 cases r with
 |no=>rfl
 |out x o st=>cases x<;>rfl
def afU{call:bM}{bb:Nat}{fn:d7}:∀(c:dk),oI c=true->∀o st,gH call bb fn c o st=[cZ call bb fn c o st]:=by
 intro c
 induction c with
 |fU ops=>
  intro h o st;unfold gH;split
  ·rename_i C;cases C;cases h
  all_goals first|rfl|(rename_i C;cases C)
 |seq a b q A=>
  intro h o st;have h:(oI a&&oI b)=true:=h;rw[cO]at h;show(gH call bb fn a o st).flatMap (oz<|gH call bb fn b)=[kf (cZ call bb fn a o st)<|cZ call bb fn b];rw[q h.1,show gH call bb fn b=λo st=>[cZ call bb fn b o st]from funext λo=>funext λst=>A h.2 o st];simp[tx,List.flatMap_nil,rb,RW]
 |cond x a b q A=>
  intro h o st;have h:(oI a&&oI b)=true:=h;rw[cO]at h;show jX (o.ar x) (λt=>_root_.cond t (gH call bb fn a o st)<|gH call bb fn b o st) [.no]=[AI (o.ar x) (cZ call bb fn a o st)<|cZ call bb fn b o st];rw[q h.1,A h.2];cases o.ar x with
  |bool t=>cases t<;>rfl
  |_=>rfl
 |block i a j=>
  intro h o st;show(gH call bb fn a o st).map (pc i)=[pc i<|cZ call bb fn a o st];rw[j h];rfl
 |loop a j=>
  intro h o st;have key:∀n o st,sG (gH call bb fn a) n o st=[Bw call bb fn a n o st]:=by
   intro n
   induction n with
   |zero=>intro o st;rfl
   |succ n D=>
    intro o st;show(gH call bb fn a o st).flatMap (oz<|sG (gH call bb fn a) n)=_;rw[show sG (gH call bb fn a) n=λo st=>[Bw call bb fn a n o st]from funext λo=>funext λst=>D o st,j h];simp[tx,RW];rfl
  exact key bb o st
 |scope a j=>intro h o st;exact j h o st
 |_=>intro h o st;rfl
def iJ(aq:eX)(c:dk)(s:cl):Prop:=∀H ids st o,cQ aq.a5 aq.i0 aq.au H ids st->Fit H ids st s.own s.n->cN o H ids s.env->m8 (gH aq.call aq.bb aq.fn c o st) (qC aq aq.Q)
section
variable{call:bM}{bb:Nat}{fn:d7}{a5:bh}{i0:ac Nat}{au:aj}{Q:c1->cl->Prop}{s:cl}
variable{a b c:dk}
def gz(k:b5.ok ⟨call,bb,fn,a5,i0,au,Q⟩ ⟨[],.c c,s⟩)(h:oI c=true:=by rfl):iJ ⟨call,bb,fn,a5,i0,au,Q⟩ c s:=λH ids st o j A q=>by
 rw[afU c h];exact m8.one<|k H ids st o j A q
def hX(h:iJ ⟨call,bb,fn,a5,i0,au,λx s=>match x with|.norm=>iJ ⟨call,bb,fn,a5,i0,au,Q⟩ b s|x=>Q x s⟩ a s):iJ ⟨call,bb,fn,a5,i0,au,Q⟩ (.seq a b) s:=λH ids st o F I G=>by
 refine m8.then<|(h H ids st o F I G).mono ?_;rintro x L ak ⟨bC,j,E,A,q,C,D⟩;cases x with
 |norm=>exact D bC j ak L A q C
 |exit i=>exact⟨bC,j,E,A,q,C,D⟩
 |ret=>exact⟨bC,j,E,A,q,C,D⟩
 |aR v=>exact⟨bC,j,E,A,q,C,D⟩
def RX{t:cl}(f:ac Nat)(h:Sub i0.length f s t)(k:iJ ⟨call,bb,fn,a5,i0,au,Q⟩ c t):iJ ⟨call,bb,fn,a5,i0,au,Q⟩ c s:=λH ids st o q j A=>k H _ st o (h.bZ j q) (h.fit j)<|h.Fq A
def zc{L:Type _}(P:L->Prop)(T:L->cl)(aF:iJ ⟨call,bb,fn,a5,i0,au,λx s=>match x with|.norm=>ly i0.length P T s|x=>Q x s⟩ a s)(aL:∀l,P l->iJ ⟨call,bb,fn,a5,i0,au,Q⟩ b (T l)):iJ ⟨call,bb,fn,a5,i0,au,Q⟩ (.seq a b) s:=by
 refine hX λH ids st o j C q=>(aF H ids st o j C q).mono ?_;rintro x M ak ⟨bC,D,E,G,F,I,h⟩;refine⟨bC,D,E,G,F,I,?_⟩;cases x with
 |norm=>obtain⟨f,l,hp,A⟩:=h;exact RX f A (aL l hp)
 |exit i=>exact h
 |ret=>exact h
 |aR v=>exact h
def uy{i:Nat}(h:iJ ⟨call,bb,fn,a5,i0,au,λx s=>match x with|.exit J=>if J=i then Q .norm s else Q (.exit J) s|x=>Q x s⟩ a s):iJ ⟨call,bb,fn,a5,i0,au,Q⟩ (.block i a) s:=λH ids st o L N M=>by
 intro r O;obtain⟨q,R,rfl⟩:=cW.1 O;obtain⟨x,I,ak,rfl,bC,D,C,F,E,G,A⟩:=h H ids st o L N M q R;cases x with
 |norm=>exact⟨_,_,_,j,bC,D,C,F,E,G,A⟩
 |exit J=>
  have e:pc i (.out (.exit J) I ak)=if J=i then .out .norm I ak else .out (.exit J) I ak:=lO _ _ _ _;rw[e];have A:if J=i then Q .norm C else Q (.exit J) C:=A;split
  ·rename_i h;rw[aE h]at A;exact⟨_,_,_,j,bC,D,C,F,E,G,A⟩
  ·rename_i h;rw[aw h]at A;exact⟨_,_,_,j,bC,D,C,F,E,G,A⟩
 |ret=>exact⟨_,_,_,j,bC,D,C,F,E,G,A⟩
 |aR v=>exact⟨_,_,_,j,bC,D,C,F,E,G,A⟩
def wS{L:Type _}(P:L->Prop)(T:L->cl)(cY:L->Nat)(f0:ac Nat)(D:L)(Y:P D)(hm:cY D<bb)(bX:Sub i0.length f0 s (T D))
 (h:∀l,P l->iJ ⟨call,bb,fn,a5,i0,au,λx s=>match x with|.norm=>ly i0.length (λbp=>cY bp<cY l/\P bp) T s|x=>Q x s⟩ b (T l)):iJ ⟨call,bb,fn,a5,i0,au,Q⟩ (.loop b) s:=by
 have key:∀n l,cY l<n->P l->∀H ids st o,cQ a5 i0 au H ids st->Fit H ids st (T l).own (T l).n->cN o H ids (T l).env->m8 (sG (gH call bb fn b) n o st) (qC ⟨call,bb,fn,a5,i0,au,Q⟩ Q):=by
  intro n
  induction n with
  |zero=>omega
  |succ n O=>
   intro l Z hp H ids st o E I F;refine m8.then<|(h l hp H ids st o E I F).mono ?_;rintro x S ak ⟨bC,M,N,q,j,A,C⟩;cases x with
   |norm=>
    obtain⟨f,bp,⟨W,V⟩,G⟩:=C;exact O bp R V bC _ ak S (G.bZ j q) (G.fit j) (G.Fq A)
   |exit i=>exact⟨bC,M,N,q,j,A,C⟩
   |ret=>exact⟨bC,M,N,q,j,A,C⟩
   |aR v=>exact⟨bC,M,N,q,j,A,C⟩
 exact RX f0 bX λH ids st o E I F=>key bb D hm Y H ids st o E I F
def lB(r clock:Nat)(seen:ac Nat):Km:=⟨λ_ j=>j=some (.mj (some r) clock seen clock),λ_ _ h=>h⟩
theorem uz{d:Tmp}{F:ce}{ops:ac bm}{k r clock:Nat}{seen:ac Nat}{es:ac f7}{own:ac a4}{n:Nat}{e:bU}
 (ax:own[k]? =some (.g<|lB r clock seen)) (oy:a6 e F=some (.p k 0)) (O:a5 r=some (.map es clock)) (D:∀s∈seen,s<clock)
 (aF:∀m∈es,m.born∉seen->cI ⟨call,bb,fn,a5,i0,au,Q⟩ [] ops (own.set k<|.g<|lB r clock<|seen++[m.born]) n ((d,.bq [.b true,.v m.key,.v m.val])::e))
 (aL:(∀m∈es,m.born∈seen)->cI ⟨call,bb,fn,a5,i0,au,Q⟩ [] ops own n ((d,.bq [.b false])::e)):iJ ⟨call,bb,fn,a5,i0,au,Q⟩ (.fU<|⟨some d,.ext<|.nx F,none⟩::ops) ⟨own,n,e⟩:=λH ids st o G E I=>by
 obtain⟨b,C,R⟩:=I.ar oy;obtain⟨M,_⟩:=E.own k _ b ax C;have M:st.h.get b=some (.mj (some r) clock seen clock):=M;have N:=E.le _ _<|G.hle _ _ O;have S:(seen.all λs=>Nat.ble (Nat.succ s) clock)=true:=by
  rw[il];intro s h;exact lf.2<|D s h
 have e:nJ o st F=we o st b r clock seen (es.filter λe=> !seen.any (Nat.beq e.born)):=by
  unfold nJ;rw[R,kZ,Sym.eg];simp[ig,M];show jo (st.h.get r) _ _=_;rw[N];show dz clock clock (dz clock clock (cond (seen.all λs=>Nat.ble (Nat.succ s) clock) _ _) _) _=_;rw[ig j,ig j,S];rfl
 have W:∀m:f7,(!seen.any (Nat.beq m.born))=true↔m.born∉seen:=by
  intro m;rw[Bool.not_eq_true',Dd];constructor
  ·intro h hm;exact h _ hm<|kO _
  ·intro h s D C;rw[<-dM C]at D;exact h D
 show m8 ((nJ o st F).map<|EF call (some d) ops) _;rw[e];intro q V;obtain⟨U,A,rfl⟩:=cW.1 V;unfold we at A;cases L:es.filter (λe=> !seen.any (Nat.beq e.born))with
 |nil=>
  rw[L]at A;rw[hh]at A;subst A;refine aL (λm hm=>?_) H ids st _ G E (I.put d ⟨[.bool false],j,_,_,j,j,j⟩)
  simp_all
 |cons x xs=>
  rw[L]at A;have A:U∈(x::xs).map (λe=>a1.ok (.tuple #[.bool true,e.key,e.val]) o ⟨st.h.set b<|.mj (some r) clock (seen++[e.born]) clock,st.ae⟩):=A;rw[<-L]at A;obtain⟨m,hm,rfl⟩:=cW.1 A;obtain⟨T,Y⟩:=q9.1 hm;exact aF m T ((W m).1 Y) H ids _ _ (G.eO (hg C) _) (E.eO ax j C j)<|I.put d ⟨_,j,_,_,j,j,_,_,j,j,_,_,j,j,j⟩
end
end Go.bA
namespace Go.bA
open Sym
variable{X:Ctx}
variable{cb:Nat}{H:bh}
def kr(cb:Nat)(H:bh):bh:=λb=>cond (Nat.ble cb b) (H b) none
def lY{b:Nat}{U:bz}:kr cb H b=some U↔cb<=b/\H b=some U:=by
 unfold kr;by_cases h:cb<=b
 ·rw[lf.2 h];simp[h]
 ·have:Nat.ble cb b=false:=by
   cases e:Nat.ble cb b with
   |false=>rfl
   |true=>exact absurd (lf.1 e) h
  rw[this];simp[h]
def RY:cF (kr cb H) H:=λ_ _ h=>(lY.1 h).2
def afV{bC:bh}(h:cF H bC):cF (kr cb H) (kr cb bC):=λb U e=>lY.2 ⟨(lY.1 e).1,h b U (lY.1 e).2⟩
def RZ{j:Nat}(h:cb<=j):cF (kr j H) (kr cb H):=λ_ _ e=>lY.2 ⟨cC h (lY.1 e).1,(lY.1 e).2⟩
def afW(cb:Nat)(a:ag):BB:=⟨λH v=>den (kr cb H) a [] v,λh _ d=>iw (afV h) a (cf.refl _) d,qz a,λh _ _ d=>E5 h d⟩
def gk(cb:Nat)(a:ag):ag:=.g<|afW cb a
def bJ.uA{a:ag}:bJ (gk cb a) a:=λ_ _ _ d=>iw RY a (cf.nil _) d
def bJ.K7{t:Bool}:bJ (.b t) (gk cb<|.b t):=λ_ _ _ d=>d
theorem R0{cb:Nat}{H:bh}{ids:ac Nat}:∀{as:ac ag} {ad:ac bv},cB (kr cb H) as [] ad->cB H (as.map<|gk cb) ids ad
 |[],_,d=>d
 |_::_,_,⟨v,ws,e,h,j⟩=>⟨v,ws,e,h,R0 j⟩
theorem K8{cb:Nat}{H:bh}{ids:ac Nat}:∀{as:ac ag} {ad:ac bv},cB H (as.map<|gk cb) ids ad->cB (kr cb H) as [] ad
 |[],_,d=>d
 |_::_,_,⟨v,ws,e,h,j⟩=>⟨v,ws,e,h,K8 j⟩
def bJ.afX{as:ac ag}:bJ (gk cb<|.agg as) (.agg<|as.map<|gk cb):=λ_ _ _ ⟨ad,e,d⟩=>⟨ad,e,R0 d⟩
def bJ.afY{cb:Nat}{as:ac ag}:bJ (.agg<|as.map<|gk cb) (gk cb<|.agg as):=λ_ _ _ ⟨ad,e,d⟩=>⟨ad,e,K8 d⟩
def bl.jb(S:bl):Spec where
 L:=S.L×bh
 pre:=S.spec.pre
 post:=λl ad st v ak=>∃bC,Fit bC [] ak [] 0/\cQ l.2 [] st bC [] ak/\den (kr st.ae bC) (S.res l.1) [] v
def dY.R1{f:d7}{S:bl}(h:dY X f S.jb):dY X f S.spec:=λas st hp=>by
 obtain⟨v,ak,q,A⟩:=h as st hp;exact⟨v,ak,λl C=>let⟨bC,cE,j,a2⟩:=q l C;⟨bC,cE,j,iw RY _ (cf.refl _) a2⟩,A⟩
def K9(S:bl)(l:S.L)(cb:Nat)(res:ac gU)(x:c1)(s:cl):Prop:=(x= .norm\/x= .ret)/\∃r,Fin.m5 s res=some r/\bJ r (gk cb<|S.res l)
variable{s:cl}{bk:d7->dL}{g:d7}{bb n:Nat}{a5:bh}{i0:ac Nat}{au:aj}{Q:c1->cl->Prop}{bP:ac ce}{as:ac ag}
def afZ{aI:ao cJ}(G:Good X)(I:iZ X aI)(bk:d7->dL){f:d7}{aZ:cJ}(j:aI.get f=some aZ){S:bl}(aD:∀l,(S.args l).length<=aZ.aM)
 (h:∀l,S.pre l->∀H au,eQ ⟨b7 aI (cj X bk)<|bx+1,bx+1,f,H,[],au,K9 S l au.ae aZ.res⟩ [] (.c aZ.body) [] 0<|hJ 0<|S.args l):dY X f S.jb:=by
 refine J1 G I bk j (λl ad st ⟨_,_,_,d⟩=>by rw[gd d];exact aD l.1) ?_;rintro⟨l,H⟩ ad st ⟨hp,M,F,d⟩;refine(h l hp H st H [] st (dT ad) (cQ.refl _ _ _) F<|cN.zero d).mono ?_;rintro x o ak ⟨bC,ids,s,C,q,D,j,r,L,hle⟩;obtain⟨v,E,A⟩:=r2 q D L;exact⟨j,v,A,bC,q.less,C.less,hle _ _ _ E⟩
def FN{S:bl}{l:S.L}{res:ac gU}{r:ag}{e:c1}(aF:Fin.m5 s res=some r)(D:bJ r (gk cb<|S.res l))(he:e= .ret\/e= .norm:=by first|exact .inl j|exact .inr j):K9 S l cb res e s:=⟨he.symm,r,aF,D⟩
def R2{aI:ao cJ}{S:bl}(aS:dY X g S.spec)(M:bk g=S.spec.K){fn:d7}(l:S.L)
 (Y:ha s.env bP=some as) (he:gf as ((S.args l).map<|gk au.ae)) (hp:S.pre l) (cA:∀H,S.hp H):
 BP (gP X aI bk n bb fn a5 i0 au Q) (.call (.func g) bP) s (gk au.ae<|S.res l) s.own s.n:=λH ids st o A q V=>by
 have bV:=K8<|he.den<|V.dJ Y;have O:Fit (kr au.ae H) [] st [] 0:=⟨q.wf,λb U e=>q.le b U (lY.1 e).2,j,j,oc,λb h=>by simp at h,λk U b F=>by simp at F⟩;obtain⟨v,ak,af,ag⟩:=aS _ st ⟨(l,kr au.ae H),hp,cA _,O,bV⟩;obtain⟨v1,b4,cE,G⟩:=yP (K:=bk) ⟨v,ak,by rw[M];exact af,ag⟩;rw[M]at G;obtain⟨bC,I,C,a'⟩:=G (l,kr au.ae H) ⟨hp,cA _,O,bV⟩;have a2:b7 aI (cj X bk) (n+1) (.func (.func g) #[] #[]) (dJ o bP) none st= .ret v1 b4 false:=by
  rw[ox];have e:fe (#[]:bi bv).toList (fe (dJ o bP) (#[]:bi bv).toList)=dJ o bP:=av
  rw[e,cE];rfl
 have hold:∀b,b<st.ae->bC b=kr au.ae H b:=λb h=>C.hold b h av;obtain⟨D,E⟩:∃D:bh,∀b,D b=if b<st.ae then H b else bC b:=⟨_,λ_=>j⟩;have hle:cF H D:=λb U e=>by rw[E,aE<|q.aT e];exact e
 have R:cF bC (kr au.ae D):=λb U e=>by
  by_cases h:b<st.ae
  ·have N:=e;rw[hold b h]at N;obtain⟨Z,aa⟩:=lY.1 N;exact lY.2 ⟨Z,hle _ _ aa⟩
  ·exact lY.2 ⟨by have aj:au.ae<=st.ae:=A.ae;omega,by rw[E,aw h];exact e⟩
 refine⟨v1,b4,ids,D,?_,?_,iw R (S.res l) (cf.refl _) a',hle,cf.refl _,?_,C.ae,λb h _=>C.eF b h av⟩
 ·show bw (b7 aI (cj X bk)<|n+1) _ _ _=_;show lv (b7 aI (cj X bk) (n+1) (.func (.func g) #[] #[]) (dJ o bP) none st) _ _=_;rw[a2];rfl
 ·refine⟨I.wf,λb U e=>?_,q.cV,q.len,q.cT,λb h=>eR (q.lt b h) C.ae,λk U b F h=>?_⟩
  ·rw[E]at e;split at e
   ·rename_i h;rw[C.eF b h av];exact q.le _ _ e
   ·exact I.le _ _ e
  ·obtain⟨W,T⟩:=q.own k U b F h;have aT:=q.lt b<|hg h;rw[C.eF b aT av];exact⟨rX hle (cf.refl _) W,λai=>by rw[E,aE aT];exact T ai⟩
 ·refine⟨A.hle.trans hle,λb h ah=>?_,λb h ah=>?_,cC A.ae C.ae,A.jy,A.new⟩
  ·rw[E,aE<|eR h A.ae];exact A.hold b h ah
  ·rw[C.eF b (eR h A.ae) av];exact A.eF b h ah
def af0{aI:ao cJ}{S:bl}(aS:dY X g S.jb)(F:bk g=S.jb.K){fn:d7}(l:S.L)
 (I:ha s.env bP=some as) (fH:g9 as=true) (he:gf as (S.args l)) (hp:S.pre l) (cA:S.hp a5):
 BP (gP X aI bk n bb fn a5 i0 au Q) (.call (.func g) bP) s (gk au.ae<|S.res l) s.own s.n:=λH ids st o j A M=>by
 have bV:=he.den<|px _ fH (M.dJ I) [];have D:=j.hle;obtain⟨v,ak,R,T⟩:=aS _ st ⟨(l,H),hp,S.hm D cA,A.less,bV⟩;obtain⟨v1,b4,cE,C⟩:=yP (K:=bk) ⟨v,ak,by rw[F];exact R,T⟩;rw[F]at C;obtain⟨bC,E,q,O⟩:=C (l,H) ⟨hp,S.hm D cA,A.less,bV⟩;have a2:b7 aI (cj X bk) (n+1) (.func (.func g) #[] #[]) (dJ o bP) none st= .ret v1 b4 false:=by
  rw[ox];have e:fe (#[]:bi bv).toList (fe (dJ o bP) (#[]:bi bv).toList)=dJ o bP:=av
  rw[e,cE];rfl
 have hle:=q.hle;refine⟨v1,b4,ids,bC,?_,?_,iw (RZ j.ae) (S.res l) (cf.refl _) O,hle,cf.refl _,?_,q.ae,λb h _=>q.eF b h av⟩
 ·show bw (b7 aI (cj X bk)<|n+1) _ _ _=_;show lv (b7 aI (cj X bk) (n+1) (.func (.func g) #[] #[]) (dJ o bP) none st) _ _=_;rw[a2];rfl
 ·refine⟨E.wf,E.le,A.cV,A.len,A.cT,λb h=>eR (A.lt b h) q.ae,λk U b V h=>?_⟩;obtain⟨N,G⟩:=A.own k U b V h;have aT:=A.lt b<|hg h;rw[q.eF b aT av];exact⟨rX hle (cf.refl _) N,λW=>by rw[q.hold b aT av];exact G W⟩
 ·refine⟨j.hle.trans hle,λb h ah=>?_,λb h ah=>?_,cC j.ae q.ae,j.jy,j.new⟩
  ·rw[q.hold b (eR h j.ae) av];exact j.hold b h ah
  ·rw[q.eF b (eR h j.ae) av];exact j.eF b h ah
section
variable{aI:ao cJ}{bk:d7->dL}{bb n:Nat}{fn:d7}{a5:bh}{i0:ac Nat}{au:aj}{Q:c1->cl->Prop}{K:ac dH}{own bo:ac a4}{aB:Nat}{e:bU}
variable{d:Tmp}{xs:ac (bm×cr)}{bf:ac a4}{a7:bU}{b0:Nat}
def af1{S:bl}(aS:dY X g S.spec){xs:ac bm}(l:S.L)(hp:S.pre l)(k:cI (gP X aI bk n bb fn a5 i0 au Q) K xs own aB ((d,gk au.ae<|S.res l)::e))
 (j:ha e bP=some as:=by rfl) (he:gf as ((S.args l).map<|gk au.ae):=by exact gf.refl _) (D:bk g=S.spec.K:=by rfl) (cA:∀H,S.hp H:=by exactλ_=>trivial):
 gx (gP X aI bk n bb fn a5 i0 au Q) K d (.call (.func g) bP) xs own aB e:=QX (R2 aS D l j he hp cA) k
def zd{S:bl}(aS:dY X g S.spec){aX:Nat}(l:S.L)(hp:S.pre l)(k:dy (gP X aI bk n bb fn a5 i0 au Q) K xs bf (j6 d a7) (aX+1) aB own aB ((d,gk au.ae<|S.res l)::e))
 (D:ha e bP=some as:=by rfl) (he:gf as ((S.args l).map<|gk au.ae):=by exact gf.refl _) (E:bk g=S.spec.K:=by rfl) (cA:∀H,S.hp H:=by exactλ_=>trivial):
 dy (gP X aI bk n bb fn a5 i0 au Q) K ((⟨some d,.call (.func g) bP,none⟩,.dF)::xs) bf a7 aX b0 own aB e:=
 Kz (R2 aS E l D he hp cA) j (λ_ _ h _=>⟨h,by simp[g0]⟩) k
def FO{S:bl}(aS:dY X g S.jb){aX:Nat}(l:S.L)(hp:S.pre l)(k:dy (gP X aI bk n bb fn a5 i0 au Q) K xs bf (j6 d a7) (aX+1) aB own aB ((d,gk au.ae<|S.res l)::e))
 (D:ha e bP=some as:=by rfl) (he:gf as (S.args l):=by exact gf.refl _) (fH:g9 as=true:=by rfl) (E:bk g=S.jb.K:=by rfl) (cA:S.hp a5:=by exact aC):
 dy (gP X aI bk n bb fn a5 i0 au Q) K ((⟨some d,.call (.func g) bP,none⟩,.dF)::xs) bf a7 aX b0 own aB e:=
 Kz (af0 aS E l D fH he hp cA) j (λ_ _ h _=>⟨h,by simp[g0]⟩) k
end
section
variable{call:bM}{bb:Nat}{fn:d7}{a5:bh}{au:aj}{Q:c1->cl->Prop}{K:ac dH}{own bo:ac a4}{aB:Nat}{e:bU}{xs:ac bm}
theorem af2{a9 z c:Nat}(t:Nat){el:co}{aU:Bool}{α:Type}{ai:α->ac ag}{l:ac α}(k:cI ⟨call,bb,fn,a5,[],au,Q⟩ K xs bo aB ((t,gk au.ae<|.cU z α ai l)::e))(I:dp e t=some (.aK a9 z 0 n c):=by rfl)(ax:own[a9]? =some (.a el aU z α ai l):=by rfl)
 (hp:∀x H ids ad,cB H (ai x) ids ad->∀bC,cB bC (ai x) [] ad:=by exactλ_ _ _ _ d _=>d) (ah:l.length=n:=by first|rfl|omega) (aS:n<=c:=by first|exact dt _|omega) (M:hn own a9 .x some=some bo:=by rfl):cI ⟨call,bb,fn,a5,[],au,Q⟩ K xs own aB e:=by
 have L:=ih M;cases L;intro H ids st o F C D;obtain⟨b,cE,G⟩:=D.get t _ I;obtain⟨⟨ad,a2,cD,cX⟩,_⟩:=C.own a9 _ b ax cE;have hle:=r1 C ax j cE;have N:au.ae<=b:=by
  rcases F.new b (hg cE)with h|h
  ·simp at h
  ·exact h
 refine k (fA H st b) ids st o (F.fA C ax j cE) (C.fA ax j cE) ⟨(D.mono hle<|cf.refl _).pl,λJ q A=>?_⟩;rw[lW]at A;cases E:Nat.beq t J with
 |false=>rw[E]at A;exact(D.mono hle<|cf.refl _).get J q A
 |true=>
  rw[E]at A;cases A;rw[<-dM E];refine .inr ⟨b,0,c,ad,el,(0,0),aU,by rw[G,ah,jk],R,lY.2 ⟨N,by unfold fA;rw[aE j];exact a2⟩,λi x O=>?_⟩
  grind
end
end Go.bA
namespace Go.bA
open Sym
structure hb(H:bh)(es:ac f7)(clock:Nat)(ms:ac (bv×ag)):Prop where
 born:∀e∈es,e.born<clock
 js:es.Pairwise (fun a b=>a.born≠b.born)
 keys:es.Pairwise (fun a b=>a.key≠b.key)
 cT:(ms.map (·.1)).Nodup
 jc:∀e∈es,∃a,(e.key,a)∈ms∧den H a [] e.val
 to:∀p∈ms,∃e∈es,e.key=p.1
 len:es.length=ms.length
variable{ms:ac (bv×ag)}{k:bv}{a:ag}
def hb.mono{H bC:bh}(hle:cF H bC){es:ac f7}{clock:Nat}(h:hb H es clock ms):hb bC es clock ms:=
 ⟨h.born,h.js,h.keys,h.cT,λe A=>let⟨a,j,q⟩:=h.jc e A;⟨a,j,iw hle a (cf.refl _) q⟩,h.to,h.len⟩
def ho(ms:ac (bv×ag)):Km:=⟨λH j=>∃es clock,j=some (.map es clock)/\hb H es clock ms,λh _ ⟨es,c,e,d⟩=>⟨es,c,e,d.mono h⟩⟩
def fB(ms:ac (bv×ag)):BB:=⟨λH v=>∃r es clock,v= .map (some r)/\H r=some (.map es clock)/\hb H es clock ms,λh _ ⟨r,es,c,e,j,d⟩=>⟨r,es,c,e,h _ _ j,d.mono h⟩,true,λ_ H v ⟨_,_,_,e,_⟩=>by rw[e];rfl⟩
def iz:ac (bv×ag)->bv->be ag
 |[],_=>none
 |p::l,k=>cond (dm k p.1) (some p.2)<|iz l k
theorem La(h:(ms.map (·.1)).Nodup){b:ag}(j:(k,a)∈ms)(aA:(k,b)∈ms):a=b:=by
 induction ms with
 |nil=>cases j
 |cons p l q=>
  grind
def wT(h:iz ms k=some a):(k,a)∈ms:=by
 induction ms with
 |nil=>cases h
 |cons p l q=>
  unfold iz at h;cases j:dm k p.1 with
  |true=>rw[j]at h;cases h;rw[jH _ _ j];exact g5
  |false=>rw[j]at h;exact e5 _<|q h
def BY(h:iz ms k=none):∀p∈ms,p.1≠k:=by
 induction ms with
 |nil=>intro p hp;cases hp
 |cons p l C=>
  unfold iz at h;cases j:dm k p.1 with
  |true=>rw[j]at h;cases h
  |false=>
   rw[j]at h;intro q A;rcases e1.1 A with rfl|A
   ·intro e;rw[<-e,oj]at j;cases j
   ·exact C h q A
def R3(ah:(ms.map (·.1)).Nodup)(h:(k,a)∈ms):iz ms k=some a:=by
 cases e:iz ms k with
 |none=>exact absurd j (BY e _ h)
 |some b=>rw[La ah h<|wT e]
section
variable{H:bh}{es:ac f7}{clock:Nat}{ms hY:ac (bv×ag)}{k:bv}
def hb.find(h:hb H es clock ms):(∃e a,hR k es=some e/\iz ms k=some a/\e∈es/\e.key=k/\den H a [] e.val)\/(hR k es=none/\iz ms k=none):=by
 cases q:hR k es with
 |some e=>
  obtain⟨C,A⟩:=yp q;obtain⟨a,D,E⟩:=h.jc e C;rw[A]at D;exact .inl ⟨e,a,j,R3 h.cT D,C,A,E⟩
 |none=>
  refine .inr ⟨j,?_⟩;cases I:iz ms k with
  |none=>rfl
  |some a=>
   obtain⟨e,F,G⟩:=h.to _<|wT I;exact absurd G<|A7 q e F
theorem hb.kT(h:hb H es clock ms){cp:fr}(ax:∀p∈ms,cp.ok p.1=true):kT cp es=true:=il.2 λe q=>let⟨_,j,_⟩:=h.jc e q;ax _ j
structure uB(ms:ac (bv×ag))(k:bv)(a:ag)(hY:ac (bv×ag)):Prop where
 cT:(hY.map (·.1)).Nodup
 new:(k,a)∈hY
 hj:∀p∈ms,p.1≠k->p∈hY
 jc:∀p∈hY,p=(k,a)∨p∈ms∧p.1≠k
 len:hY.length=match iz ms k with|some _=>ms.length|none=>ms.length+1
structure FP(ms:ac (bv×ag))(k:bv)(hY:ac (bv×ag)):Prop where
 cT:(hY.map (·.1)).Nodup
 hj:∀p∈ms,p.1≠k->p∈hY
 jc:∀p∈hY,p∈ms∧p.1≠k
 len:hY.length=match iz ms k with|some _=>ms.length-1|none=>ms.length
variable{v:bv}
def hb.put(h:hb H es clock ms)(D:uB ms k a hY)(M:den H a [] v){b:ag}(aD:iz ms k=some b):hb H (vS k v es) clock hY:=by
 have C:∀e:f7,(cond (dm k e.key) (⟨e.key,v,e.born⟩:f7) e).key=e.key/\(cond (dm k e.key) (⟨e.key,v,e.born⟩:f7) e).born=e.born:=λe=>by
  cases dm k e.key<;>exact eT
 refine⟨λe G=>?_,?_,?_,D.cT,λe G=>?_,λp hp=>?_,?_⟩
 ·obtain⟨q,A,rfl⟩:=cW.1 G;rw[(C q).2];exact h.born q A
 ·exact n9.2 (h.js.imp λ{a b} E=>by rw[(C a).2,(C b).2];exact E)
 ·exact n9.2 (h.keys.imp λ{a b} E=>by rw[(C a).1,(C b).1];exact E)
 ·obtain⟨q,A,rfl⟩:=cW.1 G;cases F:dm k q.key with
  |true=>exact⟨a,by rw[<-jH _ _ F];exact D.new,M⟩
  |false=>
   obtain⟨c,N,O⟩:=h.jc q A;have L:q.key≠k:=λe=>by
    rw[<-e,oj]at F;cases F
   exact⟨c,D.hj (q.key,c) N L,O⟩
 ·have hm:p.1=k\/p∈ms:=(D.jc p hp).imp (λe=>by rw[e]) (·.1);have key:∃e∈es,e.key=p.1:=by
   rcases hm with e|hm
   ·obtain⟨q,A,I⟩:=h.to _<|wT aD;exact⟨q,A,I.trans e.symm⟩
   ·exact h.to p hm
  obtain⟨q,A,I⟩:=key;exact⟨_,cW.2 ⟨q,A,j⟩,(C q).1.trans I⟩
 ·have:=D.len;rw[aD]at this;show(es.map _).length=_;rw[hz,h.len,this]
theorem hb.push(h:hb H es clock ms)(D:uB ms k a hY)(F:den H a [] v)(aD:iz ms k=none):hb H (es++[⟨k,v,clock⟩]) (clock+1) hY:=by
 have G:∀e∈es,e.key≠k:=λe j L=>by
  obtain⟨a,A,_⟩:=h.jc e j;exact BY aD _ A L
 refine⟨λe j=>?_,?_,?_,D.cT,λe j=>?_,λp hp=>?_,?_⟩
 ·rcases hf.1 j with j|j
  ·have:=h.born e j;omega
  ·grind
 ·refine C6.2 ⟨h.js,H4 _ _,λa E b C=>?_⟩;rw[hh]at C;subst C;exact Nat.ne_of_lt<|h.born a E
 ·refine C6.2 ⟨h.keys,H4 _ _,λa E b C=>?_⟩
  grind
 ·rcases hf.1 j with j|j
  ·obtain⟨c,A,I⟩:=h.jc e j;exact⟨c,D.hj _ A<|G e j,I⟩
  ·rw[hh]at j;subst j;exact⟨a,D.new,F⟩
 ·rcases D.jc p hp with e|⟨hm,_⟩
  ·simp_all
  ·obtain⟨q,M,N⟩:=h.to p hm;exact⟨q,nu _ M,N⟩
 ·have:=D.len;rw[aD]at this;simp[h.len,this]
def filter_one(ah:es.Pairwise λa b=>a.key≠b.key){e:f7}(he:e∈es):(qf e.key es).length+1=es.length:=by
 induction es with
 |nil=>cases he
 |cons x xs j=>
  rw[ns]at ah;unfold qf at j⊢;rw[C7];rcases e1.1 he with rfl|he
  ·rw[oj];have:xs.filter (λy=> !dm e.key y.key)=xs:=z4.2 λy q=>by
    cases h:dm e.key y.key with
    |false=>rfl
    |true=>exact absurd (jH _ _ h)<|ah.1 y q
   simp[this]
  ·have:dm e.key x.key=false:=by
    cases h:dm e.key x.key with
    |false=>rfl
    |true=>exact absurd (jH _ _ h).symm<|ah.1 e he
   rw[this];simp[j ah.2 he]
theorem hb.del(h:hb H es clock ms)(bV:FP ms k hY):hb H (qf k es) clock hY:=by
 have hm:∀e,e∈qf k es↔e∈es/\e.key≠k:=λe=>by
  unfold qf;rw[q9];refine and_congr_right λ_=>?_;constructor
  ·intro A j;rw[j,oj]at A;cases A
  ·intro L;cases A:dm k e.key with
   |false=>rfl
   |true=>exact absurd (jH _ _ A).symm L
 refine⟨λe j=>h.born e ((hm e).1 j).1,h.js.sublist De,h.keys.sublist De,bV.cT,λe j=>?_,λp hp=>?_,?_⟩
 ·obtain⟨C,E⟩:=(hm e).1 j;obtain⟨a,I,G⟩:=h.jc e C;exact⟨a,bV.hj _ I E,G⟩
 ·obtain⟨C,E⟩:=bV.jc p hp;obtain⟨q,N,O⟩:=h.to p C
  grind
 ·have F:=bV.len;cases D:iz ms k with
  |none=>
   rw[D]at F;rw[F,<-h.len];unfold qf;rw[z4.2];intro e j;obtain⟨a,C,_⟩:=h.jc e j;cases A:dm k e.key with
   |false=>rfl
   |true=>exact absurd (jH _ _ A).symm (BY D _ C)
  |some a=>
   obtain⟨e,j,M⟩:=h.to _<|wT D;have:=filter_one h.keys j;have E:=h.len
   grind
end
def uC(a5:bh)(own:ac a4)(a:ag)(ms:ac (bv×ag)):Prop:=
 ∀(H:bh) (ids:ac Nat) (st:aj) (v:bv),cF a5 H->(∀(k:Nat) (U:a4) (b:Nat),own[k]? =some U->U.live=true->ids[k]? =some b->mD H ids U (st.h.get b))->den H a ids v->
  ∃r es clock,v= .map (some r)/\hb H es clock ms/\∀j:aj,(∀b U,H b=some U->j.h.get b=some U)->(∀(k:Nat) (U:a4) (b:Nat),own[k]? =some U->U.live=true->ids[k]? =some b->j.h.get b=st.h.get b)->j.h.get r=some (.map es clock)
variable{a5:bh}
def af3{own:ac a4}{k:Nat}(ax:own[k]? =some (.g<|ho ms)):uC a5 own (.mp k) ms:=λH ids st v _ A ⟨b,q,C⟩=>by
 obtain⟨es,clock,D,E⟩:=A k _ b ax j q;exact⟨b,es,clock,C,E,λF _ h=>(h k _ b ax j q).trans D⟩
def R4{own:ac a4}:uC a5 own (.g<|fB ms) ms:=λH ids st v _ _ ⟨r,es,c,j,q,A⟩=>⟨r,es,c,j,A,λ_ h _=>h _ _ q⟩
def R5{own:ac a4}{r clock:Nat}{es:ac f7}(D:a5 r=some (.map es clock))(bV:hb a5 es clock ms):uC a5 own (.v<|.map<|some r) ms:=λH ids st v j _ q=>⟨r,es,clock,q,bV.mono j,λ_ h _=>h _ _<|j _ _ D⟩
def uC.now{H:bh}{own:ac a4}(h:uC a5 own a ms){ids:ac Nat}{st:aj}{n:Nat}(bX:cF a5 H)(D:Fit H ids st own n){v:bv}(E:den H a ids v):∃r es clock,v= .map (some r)/\st.h.get r=some (.map es clock)/\hb H es clock ms:=
 let⟨r,es,clock,e,d,k⟩:=h H ids st v bX (λk U b A _ q=>(D.own k U b A q).1) E
 ⟨r,es,clock,e,k st D.le λ_ _ _ _ _ _=>j,d⟩
section
variable{call:bM}{a5:bh}{s:cl}
def uD(a:ag)(k:bv):Prop:=∀H ids v,den H a ids v->v=k
variable{m:ce}{cp:fr}{ij:bv}{clock:Nat}{es:ac f7}{J:Nat}{qG:ag}{hY:ac (bv×ag)}
theorem ze{k:f6}:∀{l:ac Int} {H:bh} {ids:ac Nat} {ad:ac bv},cB H (l.map<|ag.i k) ids ad->ad=l.map (Value.int k)
 |[],_,_,_,d=>d
 |n::l,_,_,_,⟨v,ws,e,h,j⟩=>by rw[e,ze j,show v=Value.int k n from h];rfl
def af4(k:f6)(l:ac Int):uD (.agg<|l.map<|ag.i k) (.agg ⟨l.map<|Value.int k⟩):=λ_ _ _ ⟨ad,e,d⟩=>by rw[e,ze d]
def R6(H:bh):hb H [] 0 []:=⟨(λe h=>by cases h),.nil,.nil,oc,(λe h=>by cases h),(λp hp=>by cases hp),j⟩
def af5:fj call .o4 s (.mp s.n) (s.own++[.g<|ho []]) (s.n+1):=λH ids st o q D=>by
 have C:Fit H (ids++[st.ae]) ⟨st.h.set st.ae<|.map [] 0,st.ae+1⟩ (s.own++[.g<|ho []]) (s.n+1):=q.add ⟨[],0,j,R6 _⟩;refine⟨.map<|some st.ae,_,ids++[st.ae],H,?_,C,⟨st.ae,by rw[<-q.len];simp,j⟩,cF.refl _,cf.app _ _,λ_ _ _ B=>B.add _,k9 _,λb A _=>sO A⟩;have e:bw call .o4 o st=st.ib (.map [] 0) λid st=>.ok (.map<|some id) o st:=rfl;rw[e,gF]
def af6{z:bv}{ok:Bool}{k:ce}{H:bh}{o:aJ}{id:Nat}(D:o.ar m= .map (some id))(N:o.ar k=ij)(bV:hb H es clock ms)(jd:cp.ok ij=true)(M:∀p∈ms,cp.ok p.1=true)(r:ag)
 (E:match iz ms ij with|some a=>r=a|none=>∀H ids,den H r ids z) (fH:iV r=true) (ids:ac Nat):
 ∃v,den H (cond ok (.bq [r,.b (iz ms ij).isSome]) r) ids v/\∀st:aj,st.h.get id=some (.map es clock)->bw call (.ext<|.look cp z ok m k) o st= .ok v o st:=by
 have e:∀st:aj,st.h.get id=some (.map es clock)->bw call (.ext<|.look cp z ok m k) o st=bn (hR ij es) (λe=>a1.ok (cond ok (.tuple #[e.val,.bool true]) e.val) o st) (.ok (cond ok (.tuple #[z,.bool false]) z) o st):=λst q=>by
  show cond (cp.ok<|o.ar k) (om (o.ar m) (λr=>bn r (λid=>jo (st.h.get id) (λes _=>cond (kT cp es) (bn (hR (o.ar k) es) (λe=>a1.ok (cond ok (.tuple #[e.val,.bool true]) e.val) o st)<|.ok (cond ok (.tuple #[z,.bool false]) z) o st) .no) .no) _) .no) .no=_;rw[N,jd,D];show jo (st.h.get id) (λes _=>cond (kT cp es) (bn (hR ij es) (λe=>a1.ok (cond ok (.tuple #[e.val,.bool true]) e.val) o st)<|.ok (cond ok (.tuple #[z,.bool false]) z) o st) .no) .no=_;rw[q];show cond (kT cp es) _ _=_;rw[bV.kT M];rfl
 have fin:∀(t:Bool) v,(∃F,den H r F v)->den H (cond ok (.bq [r,.b t]) r) ids (cond ok (.tuple #[v,.bool t]) v):=λt v ⟨F,D⟩=>by
  have D:=sK r fH D ids;cases ok
  ·exact D
  ·exact⟨_,j,_,_,j,D,_,_,j,j,j⟩
 rcases bV.find with⟨I,a,A,C,O,L,G⟩|⟨A,C⟩
 ·rw[C]at E⊢;subst E;exact⟨_,fin true I.val ⟨[],G⟩,λst q=>by rw[e st q,A];rfl⟩
 ·rw[C]at E⊢;exact⟨_,fin false z ⟨[],E H []⟩,λst q=>by rw[e st q,A];rfl⟩
def af7{D:ag}(hm:a6 s.env m=some D)(G:uC a5 s.own D ms):pA a5 call (.ext<|.vG m) s (.i .i64 (ms.length:Nat)) s.own s.n:=λH ids st o F q C=>by
 obtain⟨id,es,clock,E,A,bV⟩:=G.now F q<|C.ar hm;refine⟨.int .i64 ms.length,st,ids,H,?_,q,j,cF.refl _,cf.refl _,λ_ _ _ B=>B,dt _,λ_ _ _=>j⟩;show om (o.ar m) (λr=>bn r (λid=>jo (st.h.get id) (λes _=>fK (du es) λn=>a1.ok (.int .i64<|.ofNat n) o st) .no) _) .no=_;rw[E];show jo (st.h.get id) (λes _=>fK (du es) λn=>a1.ok (.int .i64<|.ofNat n) o st) .no=_;rw[A];show fK (du es) (λn=>a1.ok (.int .i64<|.ofNat n) o st)=_;rw[vW,eP,bV.len];rfl
def R7{k v:ce}(hm:a6 s.env m=some (.mp J))(ba:s.own[J]? =some (.g<|ho ms))(ax:a6 s.env k=some qG)(a':uD qG ij)(T:a6 s.env v=some a)(fH:iV a=true)(jd:cp.ok ij=true)(Y:∀p∈ms,cp.ok p.1=true)
 (M:uB ms ij a hY):fj call (.ext<|.eO cp m k v) s (.bq []) (s.own.set J<|.g<|ho hY) s.n:=λH ids st o G D=>by
 obtain⟨b,C,R⟩:=D.ar hm;obtain⟨⟨es,clock,S,bV⟩,_⟩:=G.own J _ b ba C;have aa:=a' _ _ _<|D.ar ax;have L:=sK a fH (D.ar T) [];have O:g0 s.env (.ext<|.eO cp m k v)=some J:=by simp[g0,hm]
 have e:bw call (.ext<|.eO cp m k v) o st=bn (hR ij es) (λ_=>st.gO b (.map (vS ij (o.ar v) es) clock) λst=>.ok undef o st) (st.gO b (.map (es++[⟨ij,o.ar v,clock⟩])<|Nat.succ clock) λst=>.ok undef o st):=by
  show cond (cp.ok<|o.ar k) (om (o.ar m) (λr=>bn r (λid=>jo (st.h.get id) (λes clock=>cond (kT cp es)
   (bn (hR (o.ar k) es) (λ_=>st.gO id (.map (vS (o.ar k) (o.ar v) es) clock) λst=>a1.ok undef o st)
    (st.gO id (.map (es++[⟨o.ar k,o.ar v,clock⟩])<|Nat.succ clock) λst=>.ok undef o st)) .no) .no) .no) .no) .no=_
  rw[aa,jd,R];show jo (st.h.get b) _ _=_;rw[S];show cond (kT cp es) _ _=_;rw[bV.kT Y];rfl
 have fin:∀(ey:ac f7) A,hb H ey A hY->bw call (.ext<|.eO cp m k v) o st= .ok undef o ⟨st.h.set b<|.map ey A,st.ae⟩->
  ∃N ak q bC,bw call (.ext<|.eO cp m k v) o st= .ok N o ak/\Fit bC q ak (s.own.set J<|.g<|ho hY) s.n/\den bC (.bq []) q N/\cF H bC/\cf ids q/\(∀a5 i0 au,cQ a5 i0 au H ids st->cQ a5 i0 au bC q ak)/\
  st.ae<=ak.ae/\∀b,b<st.ae->(∀I,g0 s.env (.ext<|.eO cp m k v)=some I->ids[I]? ≠some b)->ak.h.get b=st.h.get b:=λey A W Z=>
  ⟨undef,_,ids,H,Z,G.eO ba j C ⟨ey,A,j,W⟩,⟨[],j,j⟩,cF.refl _,cf.refl _,λ_ _ _ B=>B.eO (hg C) _,dt _,λc _ V=>ao.fa _ _ λe=>V J O<|e▸C⟩
 rcases bV.find with⟨ai,c,E,F,ag,af,ah⟩|⟨E,F⟩
 ·refine fin _ _ (bV.put M L F) ?_;rw[e,E,Sym.eg,iH]
 ·refine fin _ _ (bV.push M L F) ?_;rw[e,E,Sym.hU,iH]
def af8{k:ce}(hm:a6 s.env m=some (.mp J))(ba:s.own[J]? =some (.g<|ho ms))(ax:a6 s.env k=some qG)(N:uD qG ij)(jd:cp.ok ij=true)(I:∀p∈ms,cp.ok p.1=true)
 (M:FP ms ij hY):fj call (.ext<|.del cp m k) s (.bq []) (s.own.set J<|.g<|ho hY) s.n:=λH ids st o C A=>by
 obtain⟨b,q,E⟩:=A.ar hm;obtain⟨⟨es,clock,F,bV⟩,_⟩:=C.own J _ b ba q;have L:=N _ _ _<|A.ar ax;have D:g0 s.env (.ext<|.del cp m k)=some J:=by simp[g0,hm]
 have e:bw call (.ext<|.del cp m k) o st=st.gO b (.map (qf ij es) clock) λst=>.ok undef o st:=by
  show cond (cp.ok<|o.ar k) (om (o.ar m) (λr=>bn r (λid=>jo (st.h.get id) (λes clock=>cond (kT cp es) (st.gO id (.map (qf (o.ar k) es) clock) λst=>a1.ok undef o st) .no) .no) .no) .no) .no=_;rw[L,jd,E];show jo (st.h.get b) _ _=_;rw[F];show cond (kT cp es) _ _=_;rw[bV.kT I];rfl
 rw[iH]at e;exact⟨undef,_,ids,H,e,C.eO ba j q ⟨_,_,j,bV.del M⟩,⟨[],j,j⟩,cF.refl _,cf.refl _,λ_ _ _ B=>B.eO (hg q) _,dt _,λc _ G=>ao.fa _ _ λe=>G J D<|e▸q⟩
def af9{r:Nat}(hm:a6 s.env m=some (.v<|.map<|some r))(D:a5 r=some (.map es clock)):pA a5 call (.ext<|.tH m) s (.p s.n 0) (s.own++[.g<|lB r clock []]) (s.n+1):=λH ids st o F q C=>by
 have E:=C.ar hm;have A:=q.le _ _<|F _ _ D;have I:Fit H (ids++[st.ae]) ⟨st.h.set st.ae<|.mj (some r) clock [] clock,st.ae+1⟩ (s.own++[.g<|lB r clock []]) (s.n+1):=q.add j;refine⟨.pointer<|some ⟨st.ae,0,none⟩,_,ids++[st.ae],H,?_,I,⟨st.ae,by rw[<-q.len];simp,j⟩,cF.refl _,cf.app _ _,λ_ _ _ B=>B.add _,k9 _,λb G _=>sO G⟩;show om (o.ar m) (λr=>bn r (λid=>jo (st.h.get id) (λ_ clock=>st.ib (.mj (some id) clock [] clock) λid st=>a1.ok (.pointer<|some ⟨id,0,none⟩) o st) .no) _) .no=_;rw[E];show jo (st.h.get r) (λ_ clock=>st.ib (.mj (some r) clock [] clock) λid st=>a1.ok (.pointer<|some ⟨id,0,none⟩) o st) .no=_;rw[A];show st.ib (.mj (some r) clock [] clock) (λid st=>a1.ok (.pointer<|some ⟨id,0,none⟩) o st)=_;rw[gF]
end
section
variable{aq:eX}{K:ac dH}{own bo:ac a4}{aB:Nat}{e:bU}{xs:ac bm}
def Lb(t:Nat){k:Nat}(bG:cI aq K xs bo aB ((t,.g<|fB ms)::e))(G:dp e t=some (.mp k):=by rfl)(ax:own[k]? =some (.g<|ho ms):=by rfl)(I:hn own k .x some=some bo:=by rfl):cI aq K xs own aB e:=by
 have L:=ih I;cases L;intro H ids st o F A C;obtain⟨b,cE,E⟩:=C.get t _ G;obtain⟨⟨es,clock,a2,d⟩,_⟩:=A.own k _ b ax cE;have hle:=r1 A ax j cE;refine bG (fA H st b) ids st o (F.fA A ax j cE) (A.fA ax j cE) ⟨(C.mono hle<|cf.refl _).pl,λJ q h=>?_⟩;rw[lW]at h;cases D:Nat.beq t J with
 |false=>rw[D]at h;exact(C.mono hle<|cf.refl _).get J q h
 |true=>
  rw[D]at h;cases h;rw[<-dM D];exact⟨b,es,clock,E,by unfold fA;rw[aE j];exact a2,d.mono hle⟩
def aga(t:Nat)(b:ag){c:bd}(h:dp e t=some a)(N:∀H,cF aq.a5 H->∀ids v,den H a ids v->den H b ids v)(bG:eQ aq K c own aB ((t,b)::e))(aS:c.m3=false:=by rfl):eQ aq K c own aB e:=by
 have key:∀{H ids st o},cQ aq.a5 aq.i0 aq.au H ids st->cN o H ids e->cN o H ids ((t,b)::e):=λ{H ids st o} A F=>⟨F.pl,λJ q E=>by
  rw[lW]at E;cases G:Nat.beq t J with
  |true=>rw[G]at E;cases E;rw[<-dM G];exact N _ A.hle _ _ (F.get t _ h)
  |false=>rw[G]at E;exact F.get J q E⟩
 cases c with
 |c c=>exactλH ids st o A D C=>bG H ids st o A D (key A C)
 |U l=>exactλH ids st o A D C=>bG H ids st o A D (key A C)
 |x e=>cases aS
 |d l bf a7 aX b0=>exactλM R H ids st o O I A D C L=>bG M R H ids st o O I A D (key A C) L
end
end Go.bA
namespace Go.bA
open Sym
variable{X:Ctx}
variable{ab:bF}{w:f5}{cY:bF}{l:Loc}{U:bz}
def qk.back(hle:ab.le cY){f q g:Fn}(bX:qk ab f q)(h:qk cY f g):qk ab f g:=by
 rcases h with h|⟨l,b,j,C,A⟩
 ·exact .inl h
 ·rcases bX with⟨_,ah⟩|⟨F,E,cE,D,a2⟩
  ·exact absurd j<|ah l
  ·rw[j]at cE;cases cE;have:=hle _ _ a2;rw[A]at this;cases this;exact .inr ⟨l,b,j,C,a2⟩
def bc.back(hle:ab.le cY){v c:bv}(h:bc cY v c):∀{D:bv},bc ab v D->bc ab v c:=by
 have up:∀{i:Nat} {l F:Loc},ab i=some l->cY i=some F->F=l:=λA V=>by
  have:=hle _ _ A;rw[V]at this;exact Option.some.inj this
 induction h with
 |bool b=>exactλ_=>.bool b
 |int k n=>exactλ_=>.int k n
 |float k n=>exactλ_=>.float k n
 |string s=>exactλ_=>.string s
 |kV=>exactλ_=>.kV
 |ptr a l h G=>intro D j;cases j with|ptr _ F q T=>cases up q h;exact .ptr a l q G
 |jZ n c=>exactλ_=>.jZ n c
 |fg a l U n c h G S=>intro D j;cases j with|fg _ F ai _ _ q T ah=>cases up q h;exact .fg a l U n c q G S
 |mo=>exactλ_=>.mo
 |map r b bu h=>intro D j;cases j with|map _ af ae q=>cases up q h;exact .map r b bu q
 |func f g xs aQ Z ad N A _ O _ W Y=>
  intro D j;cases j with
  |func _ a' _ I _ aa M bH E ag L=>exact .func f g xs aQ Z ad (qk.back hle M N) A (λi a b=>W i a b<|E i a R) O (λi a b=>Y i a b<|L i a R)
 |nilFunc=>exactλ_=>.nilFunc
 |iface t v w _ C=>intro D j;cases j with|iface _ _ dG k=>exact .iface t v w (C k)
 |nilIface=>exactλ_=>.nilIface
 |agg xs aQ A _ C=>intro D j;cases j with|agg _ I bH E=>exact .agg xs aQ A λi a b=>C i a b (E i a R)
 |tuple xs aQ A _ C=>intro D j;cases j with|tuple _ I bH E=>exact .tuple xs aQ A λi a b=>C i a b (E i a R)
 |hF c m h=>exactλ_=>.hF c m h
 |emp p c=>exactλ_=>.emp p c
 |top c=>exactλ_=>.top c
theorem g6.back(hle:ab.le cY){dG:f5}(bX:g6 X ab dG U l)(h:g6 X cY w U l):g6 X ab w U l:=by
 cases U with
 |cells cs aC av aU=>
  obtain⟨M,f0,g⟩:=bX;obtain⟨C,f,h⟩:=h;exact⟨C,f,h.there,h.iU,h.room,λi af=>let⟨c,a',Y⟩:=h.cell i af;let⟨_,_,Z⟩:=g.cell i af;⟨c,a',Y.back hle Z⟩,h.sy,h.plain⟩
 |map es clock=>
  obtain⟨_,_,M,aH,_,g⟩:=bX;obtain⟨A,q,C,c,D,h⟩:=h;obtain⟨E,ak,cb,iU⟩:=g.same;obtain⟨L,p,n,r⟩:=h.same;refine⟨A,q,C,c,D,h.iu,h.mr,h.born,h.keys,h.js,L,p,n,λi a b=>?_⟩;obtain⟨J,ah,N⟩:=k8<|ak.mem_iff.2<|p.mem_iff.1<|dx a;have k:=iU J ah R;rw[N]at k;exact⟨(r i a b).1.back hle k.1,(r i a b).2.1.back hle k.2.1,(r i a b).2.2⟩
 |Is s pos=>exact h
 |mj m aK aJ aF=>
  obtain⟨_,_,an,au,cb,t0,_,g⟩:=bX;obtain⟨A,q,W,S,cR,uE,D,h⟩:=h;refine⟨A,q,W,S,cR,uE,D,?_⟩;rcases h with h|⟨r,b,bu,G,aA,az,aD⟩
  ·exact .inl h
  ·rcases g with⟨cE,_⟩|⟨iU,aE,ao,cE,ar,a2,cD⟩
   ·rw[G]at cE;cases cE
   ·cases cE;have:=hle _ _ a2
    grind
 |loop s fW fn t a8 dV body d=>
  obtain⟨_,_,E,_,_,_,_,cX,_,_,_,ow,_⟩:=bX;obtain⟨A,q,L,aa,ae,I,F,O,T,V,ai,aj,al⟩:=h;refine⟨A,q,L,aa,ae,I,F,λn=>(O n).back hle<|cX n,T,V,ai,?_,al⟩;have:=hle _ _ ow;rw[aj]at this;rw[ow];exact this.symm
 |jm ax=>exact h
 |dead=>exact h
theorem bN.back{st b4:aj}{dG:f5}(hle:ab.le cY)(bX:bN X ab st dG)(h:bN X cY b4 w)(ax:∀b,b<st.ae->b4.h.get b=st.h.get b):bN X ab st w:=by
 have lt:∀{i:Nat} {U:bz},st.h.get i=some U->i<st.ae:=λ{i U} af=>by
  rcases fS i st.ae with h|h
  ·exact h
  ·rw[(bX.fresh i h).2]at af;cases af
 refine⟨λi U D bV=>?_,λi J U p l m af F M I G L C e=>?_,bX.fresh,λi l q=>h.fw i l<|hle _ _ q,bX.kh,bX.mu,bX.j0⟩
 ·obtain⟨l,q,hm⟩:=bX.er i U D bV;obtain⟨N,A,E⟩:=h.er i U (by grind) bV;rw[hle _ _ q]at A;cases A;exact⟨l,q,g6.back hle hm E⟩
 ·exact h.inj i J U p l m (by grind) F (by grind) I (hle _ _ G) (hle _ _ L) C e
theorem bN.name{st:aj}(D:bN X ab st w)(ai:g6 X (gr ab st.ae l) w U l)(aA:l.ct<w.heap.size)(al:∀i p m,st.h.get i=some p->p≠.dead->ab i=some m->(m.bu≠eH\/l.bu≠eH)->m.ct≠l.ct)(aa:l.bu=eH->U.sz):
 bN X (gr ab st.ae l) ⟨st.h.set st.ae U,st.ae+1⟩ w/\ab.le (gr ab st.ae l):=by
 have hle:ab.le (gr ab st.ae l):=by
  intro id A L;show(if id=st.ae then some l else ab id)=some A;rw[aw];exact L;intro e;subst e;rw[(D.fresh _<|cn _).1]at L;cases L
 have an:gr ab st.ae l st.ae=some l:=aE j;have C:∀id,id≠st.ae->gr ab st.ae l id=ab id:=λid h=>aw h;refine⟨⟨λid p hp bV=>?_,λi J p q G W af Y I Z O S F e=>?_,λid a'=>?_,λid A E=>?_,λg F=>hle _ _<|D.kh g F,sj D.mu,λi G p T V hp bV=>?_⟩,hle⟩
 ·rw[ao.ee]at hp;by_cases e:id=st.ae
  ·grind
  ·rw[aw e]at hp;obtain⟨A,E,hm⟩:=D.er id p hp bV;exact⟨A,hle _ _ E,g6.mono X hm hle j⟩
 ·rw[ao.ee]at af I;by_cases M:i=st.ae
  ·grind
  ·by_cases N:J=st.ae
   ·grind
   ·rw[aw M]at af;rw[aw N]at I;rw[C i M]at O;rw[C J N]at S;exact D.inj i J p q G W af Y I Z O S F e
 ·have ah:st.ae+1<=id:=a';refine⟨?_,?_⟩
  ·rw[C id R];exact(D.fresh id R).1
  ·show(st.h.set st.ae U).get id=none;rw[ao.ee,aw R];exact(D.fresh id R).2
 ·by_cases e:id=st.ae
  ·grind
  ·rw[C id e]at E;exact D.fw id A E
 ·rw[ao.ee]at hp;by_cases e:i=st.ae
  ·grind
  ·rw[aw e]at hp;rw[C i e]at T;exact D.j0 i G p T V hp bV
theorem bN.skip{st:aj}(j:bN X ab st w):bN X ab ⟨st.h,st.ae+1⟩ w:=
 ⟨j.er,j.inj,λi af=>j.fresh i<|by grind,j.fw,j.kh,sj j.mu,j.j0⟩
def dS.name{aG:bF}{w':f5}(h:dS ab aG w w'){i:Nat}(af:ab i=none)(aD:w.heap.size<=l.ct\/∃J m,ab J=some m/\m.bu≠eH/\m.ct=l.ct):dS ab (gr aG i l) w w':=by
 refine⟨λJ m q=>?_,h.size,h.kept,λJ m q=>?_,h.fE⟩
 ·show(if J=i then some l else aG J)=some m;rw[aw];exact h.le J m q;intro e;subst e;rw[af]at q;cases q
 ·have q:(if J=i then some l else aG J)=some m:=q;by_cases e:J=i
  ·rw[aE e]at q;cases q;exact .inr aD
  ·rw[aw e]at q;exact h.new J m q
def FQ(d:Nat):ac ag:=[.i .u32 (d:Int)]
def pH(t:Bool)(aN es:ac Nat):ag:=.agg [.b t,.cU 1 Nat FQ aN,.gb 1 Nat FQ es]
inductive fm where
 |lit (k u:Value)
 |num (k:Value) (t:Bool) (aN es:List Nat)
variable{b:Nat}
def fm.key:fm->bv
 |.lit k _=>k
 |.num k _ _ _=>k
def lq(aN:ac Nat):ac bv:=aN.map λ(d:Nat)=>.int .u32 (d:Int)
def zf(aN:ac Nat):bz:=.cells (lq aN) 0 (0,aN.length) true
def fm.val(n:Nat):fm->bv
 |.lit _ u=>u
 |.num _ t aN es=>.agg ⟨[.bool t,.slice (some ⟨n,0,none⟩) aN.length aN.length,match es with|[]=>.slice none 0 0|_::_=>.slice (some ⟨n+1,0,none⟩) es.length es.length]⟩
def aj.new(st:aj)(U:bz):aj:=⟨st.h.set st.ae U,st.ae+1⟩
def aj.one(st:aj)(aN:ac Nat):aj:=match aN with
 |[]=>⟨st.h,st.ae+1⟩
 |aN=>st.new<|zf aN
def fm.st(st:aj):fm->aj
 |.lit _ _=>st
 |.num _ _ aN es=>(st.one aN).one es
def e7:ac fm->aj->Nat->ac f7×aj
 |[],st,_=>([],st)
 |e::l,st,i=>(⟨e.key,e.val st.ae,i⟩::(e7 l (e.st st)<|i+1).1,(e7 l (e.st st)<|i+1).2)
theorem Lc:∀(l:ac fm) (st:aj) (i:Nat),(e7 l st i).1.length=l.length
 |[],_,_=>rfl
 |_::l,st,i=>by simp[e7,Lc l]
theorem oJ:∀(l:ac fm) (st:aj) (i J:Nat) (h:J<(e7 l st i).1.length) (D:J<l.length),((e7 l st i).1[J]).key=(l[J]).key/\((e7 l st i).1[J]).born=i+J
 |[],_,_,_,_,D=>by simp at D
 |e::l,st,i,0,_,_=>eT
 |e::l,st,i,J+1,h,D=>by
  have:=oJ l (e.st st) (i+1) J (by simpa[e7]using h) (by simpa using D);exact⟨this.1,by show((e7 l (e.st st)<|i+1).1[J]'_).born=_;omega⟩
def qH(st:aj)(aN:ac Nat):(st.one aN).ae=st.ae+1:=by cases aN<;>rfl
def FR(st:aj)(aN:ac Nat)(aA:b≠st.ae):(st.one aN).h.get b=st.h.get b:=by
 cases aN with
 |nil=>rfl
 |cons d aN=>exact ao.fa _ _ aA
def R8(st:aj){aN:ac Nat}(h:aN≠[]):(st.one aN).h.get st.ae=some (zf aN):=by
 cases aN with
 |nil=>exact absurd j h
 |cons d aN=>exact ao.mn _ _ _
def Ld(st:aj)(e:fm):st.ae<=(e.st st).ae:=by
 cases e with
 |lit=>exact dt _
 |num k t aN es=>show _<=((st.one aN).one es).ae;rw[qH,qH];omega
def agb(st:aj)(e:fm)(aA:b<st.ae):(e.st st).h.get b=st.h.get b:=by
 cases e with
 |lit=>rfl
 |num k t aN es=>
  show((st.one aN).one es).h.get b=_;rw[FR _ _<|by rw[qH];omega,FR _ _ R]
theorem R9:∀(l:ac fm) (st:aj) (i:Nat),st.ae<=(e7 l st i).2.ae
 |[],_,_=>dt _
 |e::l,st,i=>cC (Ld st e)<|R9 l (e.st st)<|i+1
theorem FT:∀(l:ac fm) (st:aj) (i:Nat) {b:Nat},b<st.ae->(e7 l st i).2.h.get b=st.h.get b
 |[],_,_,_,_=>rfl
 |e::l,st,i,b,aA=>by
  show(e7 l (e.st st)<|i+1).2.h.get b=_;rw[FT l (e.st st) (i+1)<|eR aA<|Ld st e,agb st e aA]
def digits{H:bh}{b U c:Nat}{ad:ac bv}{l:ac Nat}(bV:∀i x,l[i]? =some x->cB H (FQ x) [] ((ad.drop<|U+i*1).take 1)):∀i (h:i<l.length),ad[U+i]? =some (.int .u32 ((l[i]:Nat):Int)):=λi h=>by
 obtain⟨v,A,e,j,q⟩:=bV i _<|a0 h;subst j q;have:=congrArg (λl=>l[0]?) e;simpa using this
structure Way(X:Ctx)(ab:bF)(st b4:aj)(cY:bF)(dG w:f5)(hq:aj)(aG:bF):Prop where
 wr:bN X aG hq w
 r5:dS ab aG dG w
 ae:st.ae<=hq.ae
 obj:∀i p m,hq.h.get i=some p->p≠.dead->aG i=some m->(i<st.ae∧ab i=some m∧st.h.get i=some p)∨(m.bu=eH∧∃b ad el bT aU l,b4.h.get b=some (.cells ad el bT aU)∧cY b=some l∧m.ct=l.ct)
section
variable{ab cY aG:bF}{st b4 hq:aj}{dG w:f5}
variable{aN:ac Nat}
def Way.skip(h:Way X ab st b4 cY dG w hq aG):Way X ab st b4 cY dG w ⟨hq.h,hq.ae+1⟩ aG:=⟨h.wr.skip,h.r5,sj h.ae,h.obj⟩
theorem Way.g7(Y:dS ab cY dG w)(M:bN X cY b4 w)(S:∀i,st.ae<=i->ab i=none)(hold:∀b,b<st.ae->b4.h.get b=st.h.get b)(h:Way X ab st b4 cY dG w hq aG){U c:Nat}(a':aN≠[])(aA:st.ae<=b){ad:ac bv}{el:co}{ah:Nat×Nat}{aU:Bool}(O:b4.h.get b=some (.cells ad el ah aU))
 (bV:∀i (h:i<aN.length),ad[U+i]? =some (.int .u32 ((aN[i]:Nat):Int))) (aS:aN.length<=c):
 ∃A,Way X ab st b4 cY dG w (hq.one aN) A/\aG.le A/\∀u,bc cY (.slice (some ⟨b,U,none⟩) aN.length c) u->bc A (.slice (some ⟨hq.ae,0,none⟩) aN.length aN.length) u:=by
 obtain⟨l,E,C,aj,N⟩:=M.er _ _ O av;have an:0<aN.length:=by
  grind
 have aK:U+aN.length<=ad.length:=by
  have:=bV (aN.length-1) R
  grind
 have aP:=N.iU;have aD:∀i p m,hq.h.get i=some p->p≠.dead->aG i=some m->(m.bu≠eH\/eH≠eH)->m.ct≠l.ct:=λi p m hp G hm F e=>by
  have F:=F.elim id λh=>absurd j h;rcases h.obj i p m hp G hm with⟨D,al,W⟩|⟨D,_⟩
  ·have:=M.inj i b p _ m l (by rw[hold i D];exact W) G O av (Y.le _ _ al) E (.inl F) e;omega
  ·exact F D
 have aC:∀A:bF,g6 X A w (zf aN) ⟨l.ct,l.c5+U,c+l.ex-aN.length,eH⟩:=λA=>by
  have L:¬((0,aN.length).2<=(0,aN.length).1\/true=false):=λh=>by
   grind
  obtain⟨ai,D,_⟩:=N.there;refine⟨C,aj,⟨ai,D,λh=>absurd h L⟩,?_,λh=>absurd h L,λi af=>?_,λh=>absurd (.inl h) L,λh=>by cases h⟩
  ·show l.c5+U+(lq aN).length<=_;simp[lq];omega
  ·have aL:i<aN.length:=by simpa[lq]using af
   obtain⟨u,aM,V⟩:=N.cell (U+i) R;have Z:ad[U+i]'R= .int .u32 ((aN[i]:Nat):Int):=by
    grind
   rw[Z]at V;refine⟨u,?_,?_⟩
   ·grind
   ·cases V;simp[lq,tw];exact .int _ _
 obtain⟨bH,aa⟩:=bN.name h.wr (aC _) (M.fw b l E) aD λ_=>an;have ak:hq.one aN=⟨hq.h.set hq.ae<|zf aN,hq.ae+1⟩:=by cases aN<;>first|exact absurd j a'|rfl
 have az:=S _ h.ae;have aF:=S _ aA;rw[ak];refine⟨_,⟨bH,h.r5.name az ?_,sj h.ae,λi p m hp G hm=>?_⟩,aa,λu ax=>?_⟩
 ·rcases Y.new b l E with q|q|q
  ·rw[aF]at q;cases q
  ·exact .inl q
  ·exact .inr q
 ·rw[ao.ee]at hp;have hm:(if i=hq.ae then some _ else aG i)=some m:=hm;by_cases e:i=hq.ae
  ·grind
  ·rw[aw e]at hp hm;exact h.obj i p m hp G hm
 ·cases ax with
  |fg _ aO aR _ _ T aJ I=>
   rw[E]at T;cases T;have I:=I.elim id λh=>R
   subst I;have e:c+l.ex=aN.length+(c+l.ex-aN.length):=R
   have q:bc (gr aG hq.ae ⟨l.ct,l.c5+U,c+l.ex-aN.length,eH⟩) (.slice (some ⟨hq.ae,0,none⟩) aN.length aN.length) (.slice (some ⟨l.ct,l.c5+U,none⟩) aN.length<|aN.length+(c+l.ex-aN.length)):=
    .fg ⟨hq.ae,0,none⟩ ⟨l.ct,l.c5+U,c+l.ex-aN.length,eH⟩ (l.c5+U) _ _ (aE j) j mw
   rw[<-e]at q;exact q
def Way.num(M:dS ab cY dG w)(N:bN X cY b4 w)(E:∀i,st.ae<=i->ab i=none)(hold:∀b,b<st.ae->b4.h.get b=st.h.get b)(h:Way X ab st b4 cY dG w hq aG){H:bh}(G:∀b U,H b=some U->b4.h.get b=some U){k:bv}{t:Bool}{es:ac Nat}(F:aN≠[]){v:bv}(Y:den (kr st.ae H) (pH t aN es) [] v):
 ∃q,Way X ab st b4 cY dG w ((fm.num k t aN es).st hq) q/\aG.le q/\∀u,bc cY v u->bc q ((fm.num k t aN es).val hq.ae) u:=by
 obtain⟨a1,rfl,v1,aW,rfl,al,a0,aV,rfl,an,R,aD,rfl,T,S⟩:=Y;subst al S;rcases an with⟨e,_⟩|⟨b,U,c,ad,el,aM,aU,rfl,av,ao,bV⟩
 ·exact absurd e F
 obtain⟨ai,aw⟩:=lY.1 ao;obtain⟨O,cE,D,a2⟩:=Way.g7 M N E hold h F ai (G _ _ aw) (digits (b:=b) (c:=c) bV) av;have mk:∀{q:bF} {v0:bv},O.le q->(∀u,bc cY R u->bc q v0 u)->∀u,bc cY (.agg ⟨[.bool t,.slice (some ⟨b,U,none⟩) aN.length c,R]⟩) u->bc q (.agg ⟨[.bool t,.slice (some ⟨hq.ae,0,none⟩) aN.length aN.length,v0]⟩) u:=λ{q v0} hle ak u C=>by
  cases C with
  |agg xs aQ bH a'=>
   obtain⟨aQ⟩:=aQ;have A:=bI.tU bH a';obtain⟨aR,aJ,rfl,aa,A⟩:=A.cons_inv;obtain⟨aE,aF,rfl,cw,A⟩:=A.cons_inv;obtain⟨aL,aK,rfl,dg,A⟩:=A.cons_inv;have:=A.ql;subst this;cases aa;exact bc.rz<|bI.cons (.bool _)<|bI.cons ((a2 _ cw).mono hle)<|bI.cons (ak _ dg)<|bI.nil _
 rcases T with⟨rfl,rfl⟩|⟨ah,af,aS,Z,aP,aY,aO,aT,rfl,aA,az,aj⟩
 ·exact⟨O,cE.skip,D,mk (bF.le.refl _) λu C=>by cases C;exact .jZ _ _⟩
 ·obtain⟨V,W⟩:=lY.1 az;obtain⟨aC,ag,I,L⟩:=Way.g7 M N E hold cE ah V (G _ _ W) (digits (b:=af) (c:=Z) aj) aA;rw[qH]at L;refine⟨aC,ag,D.trans I,λu C=>?_⟩;have:=mk I L u C;cases es with
  |nil=>exact absurd j ah
  |cons x xs=>exact this
end
def agc(o:aJ)(st:aj)(F:ce):nJ o st F≠[]:=by
 intro e;unfold nJ at e;generalize o.ar F=v at e;cases v<;>first|cases e|skip
 rename_i p;cases p with
 |none=>cases e
 |some a=>
  have e:bn a.spot (λ_=>[a1.no]) (dz a.off 0 (AE (st.h.get a.block) (λm A j C=>bn m (λid=>jo (st.h.get id) (λes clock=>dz A clock (dz C clock (cond (j.all λs=>Nat.ble (Nat.succ s) clock)
   (we o st a.block id A j<|es.filter λe=> !j.any (Nat.beq e.born)) [.no]) [.no]) [.no]) [.no]) [.ok (.tuple #[.bool false]) o st]) [.no]) [.no])=[]:=e
  cases D:a.spot with
  |some s=>rw[D]at e;cases e
  |none=>
   rw[D,lO]at e;split at e
   ·generalize st.h.get a.block=q at e;cases q with
    |none=>cases e
    |some q=>
     cases q<;>first|cases e|skip
     rename_i m A j C;cases m with
     |none=>cases e
     |some id=>
      have e:jo (st.h.get id) (λes clock=>dz A clock (dz C clock (cond (j.all λs=>Nat.ble (Nat.succ s) clock) (we o st a.block id A j<|es.filter λe=> !j.any (Nat.beq e.born)) [.no]) [.no]) [.no]) [.no]=[]:=e;generalize st.h.get id=q at e;cases q with
      |none=>cases e
      |some q=>
       cases q<;>first|cases e|skip
       rename_i es clock;have e:dz A clock (dz C clock (cond (j.all λs=>Nat.ble (Nat.succ s) clock) (we o st a.block id A j<|es.filter λe=> !j.any (Nat.beq e.born)) [.no]) [.no]) [.no]=[]:=e;rw[lO]at e;split at e
       ·rw[lO]at e;split at e
        ·cases E:j.all (λs=>Nat.ble (Nat.succ s) clock)with
         |false=>rw[E]at e;cases e
         |true=>
          rw[E]at e;generalize es.filter (λe=> !j.any (Nat.beq e.born))=L at e;cases L with
          |nil=>cases e
          |cons x xs=>cases e
        ·cases e
       ·cases e
   ·cases e
def Le{call:bM}{bb:Nat}{fn:d7}:∀(c:dk) (o:aJ) (st:aj),gH call bb fn c o st≠[]:=by
 have C:∀{L:ac cH} {g:aJ->aj->ac cH},L≠[]->(∀o st,g o st≠[])->L.flatMap (oz g)≠[]:=λ{L g} G F=>by
  cases L with
  |nil=>exact absurd j G
  |cons r L=>
   intro e;have e:=(List.append_eq_nil_iff.1 e).1;cases r with
   |no=>cases e
   |out x o st=>cases x<;>first|exact F _ _ e|cases e
 intro c
 induction c with
 |fU ops=>
  intro o st;unfold gH;split
  ·rename_i d M I D;exactλe=>agc _ _ _<|vx.1 e
  all_goals first
   |exactλe=>by cases e
   |(rename_i D;cases D)
 |seq a b q A=>exactλo st=>C (q o st) A
 |cond x a b q A=>
  intro o st;show jX (o.ar x) (λt=>_root_.cond t (gH call bb fn a o st)<|gH call bb fn b o st) [.no]≠[];cases o.ar x with
  |bool t=>cases t<;>first|exact q o st|exact A o st
  |_=>exactλe=>by cases e
 |block i a h=>exactλo st e=>h o st (vx.1 e)
 |loop a h=>
  have key:∀n o st,sG (gH call bb fn a) n o st≠[]:=by
   intro n
   induction n with
   |zero=>intro o st e;cases e
   |succ n E=>exactλo st=>C (h o st) E
  exactλo st=>key bb o st
 |scope a h=>exact h
 |_=>exactλo st e=>by cases e
def fm.j1(cb:Nat):fm->ag
 |.lit _ u=>.v u
 |.num _ t aN es=>gk cb<|pH t aN es
def BZ(H:bh)(e:fm)(a:ag):Prop:=∃t aN es,a=pH t aN es/\aN≠[]/\match e with
 |.lit _ u=>den H (pH t aN es) [] u
 |.num _ uE uF ey=>uE=t/\uF=aN/\ey=es
variable{H:bh}
def mI(H:bh):ac fm->ac (bv×ag)->Prop
 |[],[]=>True
 |e::ch,p::ms=>e.key=p.1/\BZ H e p.2/\mI H ch ms
 |_,_=>False
def mI.len:∀{ch:ac fm} {ms:ac (bv×ag)},mI H ch ms->ch.length=ms.length
 |[],[],_=>rfl
 |_::_,_::_,h=>by simp[mI.len h.2.2]
 |[],_::_,h=>h.elim
 |_::_,[],h=>h.elim
def mI.keys:∀{ch:ac fm} {ms:ac (bv×ag)},mI H ch ms->ch.map fm.key=ms.map (·.1)
 |[],[],_=>rfl
 |_::_,_::_,h=>by rw[jj,jj,h.1,mI.keys h.2.2]
 |[],_::_,h=>h.elim
 |_::_,[],h=>h.elim
def mI.get:∀{ch:ac fm} {ms:ac (bv×ag)},mI H ch ms->∀{e:fm},e∈ch->∃p∈ms,e.key=p.1/\BZ H e p.2
 |[],_,_,_,he=>by cases he
 |e::ch,p::ms,h,j,he=>by
  rcases e1.1 he with rfl|he
  ·exact⟨p,g5,h.1,h.2.1⟩
  ·obtain⟨q,aF,aL⟩:=mI.get h.2.2 he;exact⟨q,e5 _ aF,aL⟩
 |_::_,[],h,_,_=>h.elim
def pI:ac (bv×ag)->ac (bv×ag)->Prop
 |[],[]=>True
 |p::l,q::m=>p.1=q.1/\bJ p.2 q.2/\pI l m
 |_,_=>False
def pI.keys:∀{l m:ac (bv×ag)},pI l m->l.map (·.1)=m.map (·.1)
 |[],[],_=>rfl
 |_::_,_::_,h=>by rw[jj,jj,h.1,pI.keys h.2.2]
 |[],_::_,h=>h.elim
 |_::_,[],h=>h.elim
def pI.mem:∀{l m:ac (bv×ag)},pI l m->∀p∈l,∃q∈m,p.1=q.1/\bJ p.2 q.2
 |[],_,_,_,hp=>by cases hp
 |p::l,q::m,h,j,hp=>by
  rcases e1.1 hp with rfl|hp
  ·exact⟨q,g5,h.1,h.2.1⟩
  ·obtain⟨A,aF,aL⟩:=pI.mem h.2.2 j hp;exact⟨A,e5 _ aF,aL⟩
 |_::_,[],h,_,_=>h.elim
def hb.Sa{es:ac f7}{clock:Nat}{ms hY:ac (bv×ag)}(h:hb H es clock ms)(aD:pI ms hY):hb H es clock hY:=by
 refine⟨h.born,h.js,h.keys,by rw[<-aD.keys];exact h.cT,λe C=>?_,λp hp=>?_,?_⟩
 ·obtain⟨a,F,G⟩:=h.jc e C;obtain⟨q,cE,A,a2⟩:=aD.mem _ F;have A:e.key=q.1:=A;exact⟨q.2,by rw[A];exact cE,a2 _ _ _ G⟩
 ·have:p.1∈ms.map (·.1):=by rw[aD.keys];exact cW.2 ⟨p,hp,j⟩
  obtain⟨q,I,E⟩:=cW.1 this;obtain⟨e,C,D⟩:=h.to q I;exact⟨e,C,D.trans E⟩
 ·have:=congrArg List.length aD.keys;simp at this;rw[h.len,this]
def Lf(ch:ac fm)(cb:Nat)(res:ac gU)(x:c1)(s:cl):Prop:=(x= .norm\/x= .ret)/\∃k,Fin.m5 s res=some (.mp k)/\∃j h,s.own[k]? =some (.g<|ho j)/\pI j h/\h.Perm (ch.map λe=>(e.key,e.j1 cb))
variable{aN:ac Nat}{t:Bool}{es:ac Nat}{v:bv}{bC:bh}{uE:Bool}{uF ey:ac Nat}
def hb.perm{es:ac f7}{clock:Nat}{ms hY:ac (bv×ag)}(h:hb H es clock ms)(hp:ms.Perm hY):hb H es clock hY:=
 ⟨h.born,h.js,h.keys,(hp.map _).nodup_iff.1 h.cT,λe A=>let⟨a,j,q⟩:=h.jc e A;⟨a,hp.mem_iff.1 j,q⟩,λp C=>h.to p<|hp.mem_iff.2 C,h.len.trans hp.length_eq⟩
def num_inv(M:den H (pH t aN es) [] v)(N:aN≠[]):
 ∃b U c ad el D aU x,v= .agg ⟨[.bool t,.slice (some ⟨b,U,none⟩) aN.length c,x]⟩/\H b=some (.cells ad el D aU)/\aN.length<=c/\(∀i (h:i<aN.length),ad[U+i]? =some (.int .u32 ((aN[i]:Nat):Int)))/\
  ((es=[]/\x= .slice none 0 0)\/es≠[]/\∃A cy q C G E F,x= .slice (some ⟨A,cy,none⟩) es.length q/\H A=some (.cells C G E F)/\es.length<=q/\∀i (h:i<es.length),C[cy+i]? =some (.int .u32 ((es[i]:Nat):Int))):=by
 obtain⟨ag,rfl,v1,ae,rfl,R,af,aa,rfl,S,Z,a',rfl,L,I⟩:=M;subst R I;rcases S with⟨e,_⟩|⟨b,U,c,ad,el,D,aU,rfl,V,T,bV⟩
 ·exact absurd e N
 refine⟨b,U,c,ad,el,D,aU,Z,j,T,V,digits (b:=b) (c:=c) bV,?_⟩;rcases L with⟨rfl,rfl⟩|⟨ah,A,cy,q,C,G,E,F,rfl,Y,W,O⟩
 ·exact .inl eT
 ·exact .inr ⟨ah,A,cy,q,C,G,E,F,j,W,Y,digits (b:=A) (c:=q) O⟩
theorem wU{ad:ac bv}{U:Nat}{l m:ac Nat}(aD:l.length=m.length)(h:∀i (h:i<l.length),ad[U+i]? =some (.int .u32 ((l[i]:Nat):Int)))(j:∀i (h:i<m.length),ad[U+i]? =some (.int .u32 ((m[i]:Nat):Int))):l=m:=by
 refine z5 aD λi a b=>?_
 grind
theorem agd{g:Nat->be bz}(D:∀b U,H b=some U->g b=some U)(E:∀b U,bC b=some U->g b=some U)(G:aN≠[])(Y:uF≠[])(h:den H (pH t aN es) [] v)(F:den bC (pH uE uF ey) [] v):t=uE/\aN=uF/\es=ey:=by
 obtain⟨b,U,c,ad,el,ak,aU,x,rfl,T,_,V,C⟩:=num_inv h G;obtain⟨ao,aC,aj,ax,aE,an,aD,az,e,bH,_,I,N⟩:=num_inv F Y;simp at e;obtain⟨rfl,⟨⟨rfl,rfl⟩,q,rfl⟩,rfl⟩:=e;have M:=(D _ _ T).symm.trans<|E _ _ bH;obtain⟨rfl,_⟩:=M;refine⟨j,wU q V I,?_⟩;rcases C with⟨rfl,rfl⟩|⟨ah,al,gi,ar,aa,af,ag,ai,rfl,O,_,R⟩
 ·grind
 ·rcases N with⟨_,e⟩|⟨aA,aw,eV,av,ae,Z,W,a',e,cE,_,A⟩
  ·cases e
  ·simp at e;obtain⟨⟨rfl,rfl⟩,L,rfl⟩:=e;have S:=(D _ _ O).symm.trans<|E _ _ cE;obtain⟨rfl,_⟩:=S;exact wU L R A
def Sb{n:Nat}(aT:∀b U,H b=some U->b<n)(D:aN≠[])(E:uF≠[])(h:den H (pH t aN es) [] v)(j:den (kr n bC) (pH uE uF ey) [] v):False:=by
 obtain⟨b,U,c,ad,el,C,aU,x,rfl,q,_⟩:=num_inv h D;obtain⟨G,M,A,I,O,F,N,L,e,bH,_⟩:=num_inv j E;simp at e;have:=aT _ _ q;have:=(lY.1 bH).1;omega
def Sc{g:bh}(h:g b=some (zf aN)):den g (.cU 1 Nat FQ aN) [] (.slice (some ⟨b,0,none⟩) aN.length aN.length):=by
 refine .inr ⟨b,0,aN.length,lq aN,0,(0,aN.length),true,j,dt _,h,λi x q=>?_⟩;have af:=(dN.1 q).1;have q:=(dN.1 q).2;have A:(lq aN).length=aN.length:=by simp[lq]
 have e:((lq aN).drop<|0+i*1).take 1=[.int .u32 (x:Int)]:=by
  rw[show 0+i*1=i by omega,gp R];simp[List.take_succ_cons,HZ,lq,tw,q]
 rw[e];exact⟨_,_,j,j,j⟩
theorem Sd:∀(l:ac fm) (st:aj) (i J:Nat) (h:J<(e7 l st i).1.length) (D:J<l.length) {k:bv} {t:Bool} {aN es:ac Nat},l[J]= .num k t aN es->aN≠[]->∀{g:bh},(∀b U,st.ae<=b->(e7 l st i).2.h.get b=some U->g b=some U)->den g (pH t aN es) [] ((e7 l st i).1[J]).val
 |[],_,_,_,_,D,_,_,_,_,_,_,_,_=>by simp at D
 |e::l,st,i,0,h,_,k,t,aN,es,he,A,g,q=>by
  subst he;have aF:=q _ _ (dt _) (by
   show(e7 l _<|i+1).2.h.get st.ae=_;rw[FT _ _ _<|by show st.ae<((st.one aN).one es).ae;rw[qH,qH];omega];show((st.one aN).one es).h.get st.ae=_;rw[FR _ _<|by rw[qH];omega,R8 _ A])
  refine⟨_,j,_,_,j,j,_,_,j,Sc aF,?_⟩;cases E:es with
  |nil=>exact⟨_,_,j,.inl eT,j⟩
  |cons x xs=>
   have ah:es≠[]:=by grind
   have C:g (st.ae+1)=some (zf es):=q _ _ R (by
    show(e7 l _<|i+1).2.h.get (st.ae+1)=_;rw[FT _ _ _<|by show st.ae+1<((st.one aN).one es).ae;rw[qH,qH];omega];show((st.one aN).one es).h.get (st.ae+1)=_;rw[<-qH st aN,R8 _ ah])
   rw[E]at C;refine⟨_,_,j,?_,j⟩;rcases Sc C with h|h
   ·cases h.1
   ·exact .inr ⟨av,h⟩
 |e::l,st,i,J+1,h,D,k,t,aN,es,he,A,g,q=>by
  have:=Sd l (e.st st) (i+1) J (by simpa[e7]using h) (by simpa using D) (by simpa using he) A λb U G F=>q b U (cC (Ld st e) G) F;exact this
theorem Se:∀(l:ac fm) (st:aj) (i J:Nat) (h:J<(e7 l st i).1.length) (D:J<l.length) {k u:bv},l[J]= .lit k u->((e7 l st i).1[J]).val=u
 |[],_,_,_,_,D,_,_,_=>by simp at D
 |e::l,st,i,0,h,_,k,u,he=>by
  subst he;rfl
 |e::l,st,i,J+1,h,D,k,u,he=>Se l (e.st st) (i+1) J (by simpa[e7]using h) (by simpa using D)<|by simpa using he
def Sf{st:aj}(h:∀i,st.ae<=i->st.h.get i=none):∀i,(st.one aN).ae<=i->(st.one aN).h.get i=none:=λi af=>by
 rw[qH]at af;rw[FR _ _ R];exact h i R
theorem Lg:∀(l:ac fm) (st:aj) (i:Nat),(∀b,st.ae<=b->st.h.get b=none)->∀b,(e7 l st i).2.ae<=b->(e7 l st i).2.h.get b=none
 |[],_,_,h=>h
 |e::l,st,i,h=>Lg l (e.st st) (i+1) (by
  cases e with
  |lit=>exact h
  |num k t aN es=>exact Sf<|Sf h)
structure Out(st:aj)(H:bh)(ch:ac fm)(v:bv)(b4:aj)(r:Nat)(es:ac f7)(clock:Nat)(H1:bh):Prop where
 val:v= .map (some r)
 new:st.ae<=r
 obj:b4.h.get r=some (.map es clock)
 md:hb H1 es clock (ch.map fun e=>(e.key,e.j1 st.ae))
 le:∀b U,H1 b=some U->b4.h.get b=some U
 hle:cF H H1
 eF:∀b,b<st.ae->b4.h.get b=st.h.get b
 ae:st.ae<=b4.ae
variable{ch:ac fm}{b4:aj}{H1:bh}{clock:Nat}{k u:bv}{r:Nat}
def B0{n:Nat}(h:den H ((fm.num k t aN es).j1 n) [] v):den (kr n H) (pH t aN es) [] v:=h
def age{aG:bF}{cp:fr}(ax:cp.ok k=true)(h:bc ab k u):bc aG k u:=by
 have:=fr.same ax h;subst this;cases cp with
 |int A=>obtain⟨C,n,rfl,_⟩:=nD ax al;exact .int _ _
 |str=>obtain⟨s,rfl,_⟩:=ye ax al;exact .string _
 |arr A n=>
  obtain⟨xs,rfl,q⟩:=AM ax al;rw[cO,il]at q;refine .agg xs xs j λi a b=>?_;obtain⟨C,m,D,_⟩:=nD (q.2 xs[i] av) al;rw[D];exact .int _ _
def agf{st:aj}(E:bN X ab st w)(D:∀b U,H b=some U->st.h.get b=some U)(F:aN≠[])(M:den H (pH t aN es) [] u):∃c,bc ab u c:=by
 obtain⟨b,U,c,ad,el,S,aU,x,rfl,I,_,_,A⟩:=num_inv M F;obtain⟨l,L,_⟩:=E.er _ _ (D _ _ I) av;have q:bc ab (.slice (some ⟨b,U,none⟩) aN.length c) (.slice (some ⟨l.ct,l.c5+U,none⟩) aN.length<|c+l.ex):=.fg ⟨b,U,none⟩ l _ _ _ L j mw;rcases A with⟨_,rfl⟩|⟨_,G,O,R,V,Y,T,W,rfl,bH,_⟩
 ·exact⟨.agg ⟨[_,_,_]⟩,bc.rz<|bI.cons (.bool _)<|bI.cons q<|bI.cons (.jZ _ _)<|bI.nil _⟩
 ·obtain⟨N,C,_⟩:=E.er _ _ (D _ _ bH) av;exact⟨.agg ⟨[_,_,_]⟩,bc.rz<|bI.cons (.bool _)<|bI.cons q<|bI.cons (.fg ⟨G,O,none⟩ N _ _ _ C j mw)<|bI.nil _⟩
def Way.all{st:aj}{dG:f5}(E:bN X ab st dG)(D:dS ab cY dG w)(O:bN X cY b4 w)(hold:∀b,b<st.ae->b4.h.get b=st.h.get b)(M:∀b U,H b=some U->st.h.get b=some U)(S:∀b U,H1 b=some U->b4.h.get b=some U):
 ∀(ch:ac fm) (ad:ac bv) (i:Nat) {hq:aj} {aG:bF},Way X ab st b4 cY dG w hq aG->(∀e∈ch,∃a,BZ H e a)->cB H1 (ch.map<|fm.j1 st.ae) [] ad->∃C,Way X ab st b4 cY dG w (e7 ch hq i).2 C/\aG.le C/\
  ∀(J:Nat) (h:J<(e7 ch hq i).1.length) (G:J<ad.length),∀u,bc cY ad[J] u->bc C ((e7 ch hq i).1[J]).val u
 |[],_,i,hq,aG,h,_,_=>⟨aG,h,bF.le.refl _,λJ aF _=>by simp[e7]at aF⟩
 |e::ch,_,i,hq,aG,h,R,⟨v,ad,V,I,T⟩=>by
  subst V;have Y:∀i,st.ae<=i->ab i=none:=λi af=>(E.fresh i af).1;obtain⟨a,t,aN,es,_,L,F⟩:=R e g5;have one:∃A,Way X ab st b4 cY dG w (e.st hq) A/\aG.le A/\∀u,bc cY v u->bc A (e.val hq.ae) u:=by
   cases e with
   |lit k an=>
    obtain⟨al,ah⟩:=agf E M L F;subst I;exact⟨aG,h,bF.le.refl _,λu q=>(q.back D.le ah).mono h.r5.le⟩
   |num k uE uF ey=>
    obtain⟨rfl,rfl,rfl⟩:=F;exact Way.num D O Y hold h S L<|B0 I
  obtain⟨A,cE,W,a2⟩:=one;obtain⟨ai,Z,N,a'⟩:=Way.all E D O hold M S ch ad (i+1) cE (λe aa=>R e<|e5 _ aa) T;refine⟨ai,Z,W.trans N,λJ h G u q=>?_⟩;cases J with
  |zero=>exact(a2 u q).mono N
  |succ J=>exact a' J (by simpa[e7]using h) (by simpa using G) u q
theorem Out.agh{st:aj}{es:ac f7}(h:Out st H ch v b4 r es clock H1):∃l:ac f7,l.length=ch.length/\(∀(J:Nat) (ba:J<l.length) (D:J<ch.length),l[J]∈es/\l[J].key=ch[J].key)/\cB H1 (ch.map<|fm.j1 st.ae) [] (l.map (·.val)):=by
 have key:∀q:ac fm,(∀e∈q,e∈ch)->∃l:ac f7,l.length=q.length/\(∀(J:Nat) ba (D:J<q.length),l[J]∈es/\l[J].key=q[J].key)/\cB H1 (q.map<|fm.j1 st.ae) [] (l.map (·.val)):=by
  intro q
  induction q with
  |nil=>exactλ_=>⟨[],j,λJ ba=>by simp at ba,j⟩
  |cons e q F=>
   intro hm;obtain⟨l,I,N,G⟩:=F λe L=>hm e<|e5 _ L;have A:(e.key,e.j1 st.ae)∈ch.map λe=>(e.key,e.j1 st.ae):=cW.2 ⟨e,hm e g5,j⟩;obtain⟨x,E,M⟩:=h.md.to _ A;obtain⟨a,C,bV⟩:=h.md.jc x E;rw[M]at C;have:=La h.md.cT C A;subst this;refine⟨x::l,by simp[I],λJ ba D=>?_,⟨_,_,j,bV,G⟩⟩
   grind
 exact key ch λ_ h=>h
def Lh(ch:ac fm)(st:aj):bv:=.map<|some (e7 ch st 0).2.ae
def sT(ch:ac fm)(st:aj):aj:=(e7 ch st 0).2.new<|.map (e7 ch st 0).1 ch.length
def Li{st:aj}(h:b≠(e7 ch st 0).2.ae):(sT ch st).h.get b=(e7 ch st 0).2.h.get b:=ao.fa _ _ h
def agi{st:aj}:(sT ch st).h.get (e7 ch st 0).2.ae=some (.map (e7 ch st 0).1 ch.length):=ao.mn _ _ _
def Sg{bu:Nat->Nat}(h:IP bu clock):bu≠eH:=by
 intro e;have j:=h.up 1;rw[e]at j;simp[eH]at j
theorem Out.can{st:aj}{b:dK}{bd:Bool->ac Frame}{s:Machine}{es:ac f7}(h:Out st H ch v b4 r es clock H1)(M:bN X ab st w)(aK:∀b U,H b=some U->st.h.get b=some U)
 (aV:∀e∈ch,∃a,BZ H e a) (jd:∀e∈ch,∃cp:fr,cp.ok e.key=true) (ao:gZ X ab w b bd s (.ret v b4 false)):gZ X ab w b bd s (.ret (Lh ch st) (sT ch st) false):=by
 obtain⟨cY,bq,w',F,aM,G,D,al,az,aC,aF⟩:=ao;obtain⟨l,bn,aJ,aY⟩:=h.agh;have aT:∀{i:Nat} {p:bz},st.h.get i=some p->i<st.ae:=λ{i p} hp=>by
  rcases fS i st.ae with q|q
  ·exact q
  ·rw[(M.fresh i q).2]at hp;cases hp
 have aL:Way X ab st b4 cY w w' st ab:=⟨bN.back D.le M G h.eF,⟨bF.le.refl _,D.size,D.kept,λ_ _ q=>.inl q,D.fE⟩,dt _,λi p m hp Y hm=>.inl ⟨aT hp,hm,hp⟩⟩;obtain⟨aG,cE,ba,a2⟩:=Way.all M D G h.eF aK h.le ch _ 0 aL aV aY;have a4:=h.val;subst a4;cases aM with
 |map _ bE bu N=>
  obtain⟨aS,aa,a6,bp,C,iu,aO,T⟩:=G.er _ _ h.obj av;rw[N]at aa;cases aa;have aP:=Lc ch st 0;have ah:(e7 ch st 0).1.Pairwise (λa b=>a.key≠b.key):=by
   rw[kP];intro i J af E aR e;have I:=h.md.cT;rw[pZ]at I;have I:=n9.1 I;rw[kP]at I;have:=I i J R R aR;rw[(oJ ch st 0 i af R).1,(oJ ch st 0 J E R).1]at e;exact this e
  have Z:=Sg T.mr;have a':=PR (aG:=gr aG (e7 ch st 0).2.ae ⟨bE,0,0,rM bu (e7 ch st 0).1 ch.length es clock⟩) aP.symm (λi af=>by
   have:=(oJ ch st 0 i af R).2;omega) ah (λe V=>by
   obtain⟨J,E,rfl⟩:=k8 V;have W:J<ch.length:=R
   have ai:J<l.length:=R
   obtain⟨A,cw⟩:=aJ J ai W;have L:=(oJ ch st 0 J E W).1;obtain⟨cp,ar⟩:=jd ch[J]<|dx W;refine⟨l[J],A,cw.trans L.symm,EJ T.keys A<|cw.trans L.symm,λu O=>?_,λu O=>?_⟩
   ·rw[cw]at O;rw[L];exact age ar O
   ·have hle:aG.le (gr aG (e7 ch st 0).2.ae ⟨bE,0,0,rM bu (e7 ch st 0).1 ch.length es clock⟩):=by
     intro i aS af;show(if i=_ then _ else aG i)=_;rw[aw];exact af;intro e;subst e;rw[(cE.wr.fresh _<|dt _).1]at af;cases af
    refine(a2 J E (by simpa using ai) u ?_).mono hle;simpa using O) (λaD a3=>by
   obtain⟨a,an,_⟩:=h.md.jc aD a3;obtain⟨e,V,S⟩:=cW.1 an;obtain⟨J,E,rfl⟩:=k8 V;have L:=(oJ ch st 0 J R E).1;have S:=congrArg Prod.fst S;rw[EJ ah (dx R)<|L.trans S];rfl) T
  have ax:=Sg a'.mr;have aW:=(M.fresh _ cE.ae).1;obtain⟨bH,bl⟩:=bN.name cE.wr (U:=.map (e7 ch st 0).1 ch.length) (l:=⟨bE,0,0,rM bu (e7 ch st 0).1 ch.length es clock⟩) ⟨j,j,C,iu,aO,a'⟩ (by grind) (λi p m hp Y hm _ e=>by
   rcases cE.obj i p m hp Y hm with⟨A,cw,dg⟩|⟨_,aA,b',bc,bg,bj,a1,A,cw,dg⟩
   ·have:=G.inj i r p _ m _ (by rw[h.eF i A];exact dg) Y h.obj av (D.le _ _ cw) N (.inr Z) e;have:=h.new;omega
   ·have:=G.inj aA r _ _ a1 _ A av h.obj av cw N (.inr Z) (by rw[<-dg];exact e);subst this;rw[h.obj]at A;cases A) λe=>absurd e ax
  refine⟨_,.map<|some bE,w',F,.map _ bE _<|aE j,bH,cE.r5.name aW ?_,al,az,aC,aF⟩;rcases D.new r _ N with q|q|q
  ·rw[(M.fresh _ h.new).1]at q;cases q
  ·exact .inl q
  ·exact .inr q
