/- Rules for what a function computes on abstract states (part 2); no condition. -/
import Derived.Carry
import Derived.Test.YtnbgimpdclpgbaaGreatDoorSqS1
import Derived.Test.YtnbgimpdclpgbaaGreatDoorSqM2
noncomputable section
set_option linter.all false
namespace Go.bC
open Sym
set_option maxRecDepth 10000
def Ck{X:Ctx}{K:d7->dV}{f:d7}(h:K f=dV.no)(as:ac bv)(st:ak):cw X K f as st=none:=by
 rw[cw,h,dif_neg λ⟨p,Y,_⟩=>Y,dif_neg λ⟨p,Y,_⟩=>Y]
theorem cW.trans{a1 H bA:bb}{i0 ids j:ac Nat}{aq st al:ak}(h:cW a1 i0 aq H ids st)(D:cW H ids st bA j al):cW a1 i0 aq bA j al:=by
 have aj:∀b,b<aq.ae->b∉i0->b<st.ae/\b∉ids:=λb C af=>⟨e2 C h.ae,λhm=>(h.new b hm).elim af λh=>R⟩;refine⟨h.hle.trans D.hle,λb C af=>?_,λb C af=>?_,ch h.ae D.ae,λk b N=>D.jx k b<|h.jx k b N,λb C=>?_⟩
 .have⟨Y,G⟩:=aj b C af;rw[D.hold b Y G,h.hold b C af]
 .have⟨Y,G⟩:=aj b C af;rw[D.eK b Y G,h.eK b C af]
 .obtain Y|Y:=D.new b C
  .exact h.new b Y
  .exact .inr<|ch h.ae Y
section
variable{X:Ctx}{aL:ao cX}{br:d7->dV}{a6 n:Nat}{fn:d7}{a1:bb}{i0:ac Nat}{aq:ak}{Q:c6->cb->Prop}{K:ac dA}{own:ac aZ}{ax:Nat}{e:bP}
def ae7(an:eR)(K:ac dA)(xs:ac bj)(d:be Tmp)(e:bP)(res:ac gS)(x:c6)(s:cb):Prop:=(x= .norm\/x= .ret)/\∃r,Fin.kH s res=some r/\cL an K xs s.own s.n (ee d r e)
def xd{g:d7}(a4:cX)(O:aL.get g=some a4){bO:ac ce}{as:ac ag}{d:be Tmp}{xs:ac bj}
 (k:∀H1 S G,S.length=own.length->cH a1 H1->fB ⟨cg aL (cw X br)<|n+1,n+1,g,H1,S,G,ae7 ⟨cg aL (cw X br)<|n+2,a6,fn,a1,i0,aq,Q⟩ K xs d e a4.res⟩ [] (.c a4.body) own ax (iT 0 as))
 (bR:hr e bO=some as:=by rfl) (aB:as.length<=a4.aN:=by exact ib j) (E:br g=dV.no:=by rfl):cL ⟨cg aL (cw X br)<|n+2,a6,fn,a1,i0,aq,Q⟩ K (⟨d,.call (.func g) bO,none⟩::xs) own ax e:=by
 intro H ids st o F Z D;have bZ:=D.dQ bR;obtain⟨v,al,Y,r,bA,V,s,R,W,M,N⟩:=Kp (lz:=λv al=>∃(r:ag) (bA:bb) (V:ac Nat) (s:cb),cW H ids st bA V al/\Fit bA V al s.own s.n/\den bA r V v/\cL ⟨cg aL (cw X br)<|n+2,a6,fn,a1,i0,aq,Q⟩ K xs s.own s.n (ee d r e))
  (by rw[gq bZ];exact aB) ((k H ids st (Z.len.trans Z.cZ.symm) F.hle H ids st (eg<|dQ o bO) aqd Z<|cS.zero bZ).mono (by
   rintro x e6 b8 ⟨bA,V,s,R,W,h,O,r,I,N⟩;obtain⟨v,A,T⟩:=sv W h I;exact⟨O,v,T,r,bA,V,s,R,W,A,N⟩))
 refine p6 ?_ (N bA V al _ (F.trans R) W<|(D.mono R.hle R.jx).ee d M);show l0 (cg aL (cw X br) (n+2) (.func (.func g) #[] #[]) (dQ o bO) none st) _ _=_;rw[o4];have aX:fr (#[]:bi bv).toList (fr (dQ o bO) (#[]:bi bv).toList)=dQ o bO:=au
 rw[aX,Ck E,O,Sym.ed,Y];rfl
end
theorem Li{H:bb}{ids:ac Nat}{α:Type}{ah:α->ac ag}{z:Nat}(Z:∀w,(ah w).length=z):∀{l:ac α} {ab:ac bv},jQ H ids ah z l ab->cG H (l.flatMap ah) ids ab
 |[],ab,h=>by
  have:=nZ (by rw[h.1];simp);exact this
 |w::l,ab,h=>by
  rw[<-np z ab];have Y:=h.2 0 w au;rw[hF]at Y;have G:=zo h 1;rw[sS]at G;exact B3 Y<|Li Z G
section
variable{an:eR}{K:ac dA}{own bg:ac aZ}{ax cF:Nat}{e:bP}{d:Tmp}{xs:ac bj}{x y i:ce}
variable{el:co}{c4:Nat}{l:ac ci}{n z:Nat}{α:Type}{p:ac bj}{aR:Bool}{J:Nat}
def R0(k:Nat){ah:α->ac ag}{l:ac α}(bD:cL an K p bg ax e)(aw:own[k]? =some (.a el false z α ah l):=by rfl)(G:∀w,(ah w).length=z:=by exactλ_=>j)(E:g9 own k (.c el<|l.flatMap ah) some=some bg:=by rfl):cL an K p own ax e:=λH ids st o F Z D=>by
 have:=h4 E;cases this;refine bD H ids st o F ⟨Z.wf,Z.le,by simp[Z.cZ],Z.len,Z.cY,Z.lt,?_⟩ D;intro J q c V W;by_cases N:k=J
 .subst N;rw[oT,aD j]at V;split at V<;>cases V;have⟨⟨ab,A,T,C⟩,h⟩:=Z.own k _ c aw W;exact⟨⟨ab,A,Li G ⟨T,C⟩⟩,λ_=>h j⟩
 .rw[oT,av N]at V;exact Z.own J q c V W
def ae8(t:Nat){k:Nat}{ah:α->ac ag}{l:ac α}(bD:cL an K p bg ax ((t,.ip<|l.flatMap ah)::e))(N:dn e t=some (.p k 0):=by rfl)(aw:own[k]? =some (.a el aR z α ah l):=by rfl)(hp:∀x,gp (ah x)=true:=by exactλ_=>j)(G:∀w,(ah w).length=z:=by exactλ_=>j)(E:g9 own k .x some=some bg:=by rfl):cL an K p own ax e:=λH ids st o F Z D=>by
 have:=h4 E;cases this;have⟨b,cu,I⟩:=D.get t _ N;have⟨⟨ab,a0,cJ,c2⟩,_⟩:=Z.own k _ b aw cu;have hle:=pe Z aw j cu;refine bD (eP H st b) ids st o (F.eP Z aw j cu) (Z.eP aw j cu) ⟨(D.mono hle apu).pl,λJ q V=>?_⟩;rw[lB]at V;cases C:Nat.beq t J with
 |false=>exact atS
 |true=>
  rw[C]at V;cases V;rw[<-dB C];have bZ:=Li G atP;refine⟨b,0,ab,el,(0,0),aR,I,by unfold eP;rw[aD j];exact a0,?_⟩;rw[iB,<-(gq bZ),mS];exact kF hle _ apu bZ
def R1{call:bN}{s:cb}(T:a5 s.env y=some (.s l)):q4 call el c4 s y k4 1 l:=λH ids st o Z D x p n c O=>by
 have Y:=D.ar T;obtain⟨G,A⟩:=RY H ids l;refine⟨nu l,G,A,?_⟩;have e:bw call (.app el 1 c4 x y) o st=hY (o.ar x) (λbase len L=>hY (o.ar y) (λb n _=>bq b (λb=>st.load b (Nat.mul n 1) (λnew=>cond (hi new) (iO o st el 1 c4 base len L n new) .no) .no)<|dL n 0 (iO o st el 1 c4 base len L 0 []) .no)<|r0 (o.ar y) (iO o st el 1 c4 base len L 0 [])<|hX (o.ar y) (λs=>dL 1 1 (iO o st el 1 c4 base len L (dE s.data.toList)<|nu s.data.toList) .no) .no) .no:=rfl;rw[e,O,Y];show dL 1 1 (iO o st el 1 c4 p n c (dE l)<|nu l) .no=_;rw[ij j,e4]
def ae9(k:cL an K xs bg cF ((d,.aH ax 1 0 l.length l.length)::e))(O:a5 e x=some .nl:=by rfl)(T:a5 e y=some (.s l):=by rfl)
 (E:my own (.a el true 1 ci k4 l) some=some bg:=by rfl) (F:mz ax some=some cF:=by rfl) (bX:l≠[]:=by first|rfl|simp) (ay:(5*l.length+1792)*(c4+1)<=1125899906842624:=by first|omega|(simp;done)|(simp;omega)):gY an K d (.app el 1 c4 x y) xs own ax e:=by
 have Y:=m7 E;have G:=nC F;cases Y;cases G;exact e0 (K6 O (R1 T) bX ay) k
def afa{a8 c:Nat}{m:ac ci}{gH:ac aZ}(k:cL an K xs bg cF ((d,.aH ax 1 0 (n+m.length)<|n+m.length)::e))(O:a5 e x=some (.aH a8 1 0 n c):=by rfl)(T:a5 e y=some (.s m):=by rfl)(aw:own[a8]? =some (.a el true 1 ci k4 l):=by rfl)
 (D:g9 own a8 .x some=some gH:=by rfl) (E:my gH (.a el true 1 ci k4<|l++m) some=some bg:=by rfl) (F:mz ax some=some cF:=by rfl) (bX:m≠[]:=by first|rfl|simp) (aj:n=l.length:=by first|omega|(simp;done)|(simp;omega)) (m9:n=c:=by omega) (ay:(5*(n+m.length)+1792)*(c4+1)<=1125899906842624:=by first|omega|(simp;done)|(simp;omega)):gY an K d (.app el 1 c4 x y) xs own ax e:=by
 have S:=h4 D;cases S;have Y:=m7 E;have G:=nC F;cases Y;cases G;have:=K7 (call:=an.call) (s:=⟨own,ax,e⟩) O aw (R1 T) bX R R R ay;rw[aj,mS]at this;rw[aj]at k;exact e0 this k
def F2{a8:Nat}{bD:f6}(k:cL an K xs own ax ((d,.fi a8 1 J 0)::e))(O:a5 e x=some (.p a8 0):=by rfl)(af:a5 e i=some (.i bD (J:Int)):=by rfl)(ba:J<n:=by omega):gY an K d (.rV n 1 x i) xs own ax e:=
 e0 (λH ids st o Z D=>let⟨v,al,V,bA,Y,G,A,T⟩:=tq O af ba H ids st o Z D;⟨v,al,V,bA,Y,G,ae1 R _ _ _ A,T⟩) k
def afb{g:Nat}{bD:f6}{ab:ac bv}{I:Nat×Nat}{cs:ac ag}(D:an.a1 g=some (.cells ab el I aR))(bZ:∀H,cG H cs [] ab)(k:cL an K xs own ax ((d,.ip<|cs.drop J)::e))(O:a5 e x=some (.v<|.pointer<|some ⟨g,0,none⟩):=by rfl)(af:a5 e i=some (.i bD (J:Int)):=by rfl)(ba:J<n:=by omega):gY an K d (.rV n 1 x i) xs own ax e:=by
 have:=RZ (call:=an.call) (s:=⟨own,ax,e⟩) (z:=1) O D bZ af ba;rw[oR]at this;exact tp this k
end
section
variable{call:bN}{s:cb}{x y:ce}
variable{neg:Bool}
def R2{c:Bool}{t:qB}{o:aK}{st:ak}(aQ:kk 8 t (o.ar x) (o.ar y)=some c):bw call (.eqv neg t x y) o st= .ok (.bool<|m6 neg c) o st:=by
 show bq (kk 8 t (o.ar x)<|o.ar y) (λb=>a2.ok (.bool<|cond neg (!b) b) o st) .no=_;rw[aQ];rfl
def afc(O:a5 s.env x=some (.v<|.pointer none))(T:a5 s.env y=some (.v<|.pointer none)):fp call (.eqv neg .ptr x y) s (.b<|m6 neg true) s.own s.n:=j8 λH ids st o Z D=>
 ⟨_,j,R2<|by rw[show o.ar x=_ from D.ar O,show o.ar y=_ from D.ar T];simp[kk,wm]⟩
def afd{k U:Nat}(O:a5 s.env x=some (.p k U))(T:a5 s.env y=some (.p k U)):fp call (.eqv neg .ptr x y) s (.b<|m6 neg true) s.own s.n:=j8 λH ids st o Z D=>by
 have⟨b,Y,G⟩:=D.ar O;have⟨V,N,A⟩:=D.ar T;rw[Y]at N;cases N;exact⟨_,j,R2<|by rw[G,A];simp[kk,wm]⟩
end
section
variable{an:eR}{K:ac dA}{own bg a9 gH:ac aZ}{ax aT bU back:Nat}{e aX:bP}{d:Tmp}{aA:ac Tmp}{xs:ac (bj×cn)}{x y i:ce}
variable{n:Nat}
def afe{a8 z c:Nat}(k:dx an K xs a9 ((d,.p a8 0)::aX) aT bU own ax ((d,.p a8 0)::e))(O:a5 (dZ aA aX) x=some (.aH a8 z 0 n c):=by rfl)(aQ:c≠0:=by omega)(ay:back<aT:=by decide):dx an K ((⟨some d,.D9 x,none⟩,.read back aA)::xs) a9 aX aT bU own ax e:=
 l2 ay (λH ids st o D _ _=>by
  have⟨b,Y,G⟩:=D.ar O;refine⟨_,arP,λL _ _=>?_⟩;show I8 x an.call o L=_;rw[I8,G,p5,hF,Sym.ed,o9 aQ]) k
def aff{a8:Nat}{el:co}{aR:Bool}{l:ac ci}{bD:f6}{S:bP}(k:dx an K xs gH S (aT+1) ax bg ax ((d,.s l)::e))(O:a5 e x=some (.p a8 0):=by rfl)(T:a5 e y=some (.i bD (n:Int)):=by rfl)(aw:own[a8]? =some (.a el aR 1 ci k4 l):=by rfl)(E:g9 own a8 .x some=some bg:=by rfl)(D:zl a9 (some a8) some=some gH:=by rfl)(j:jb d aX=S:=by rfl)
 (aj:n=l.length:=by first|rfl|omega|(simp;done)) (bX:n≠0:=by omega) (ay:n<=1099511627776:=by omega):dx an K ((⟨some d,.uo el x y,none⟩,.dI)::xs) a9 aX aT bU own ax e:=by
 cases h4 E;have⟨Z,cu,I,a0⟩:=FO D;cases cu;subst j;exact w5 (ae5 O T aw aj bX ay) I (λk U L h=>by
  have:=a0 k U L h;simp only[gr,O];exact this) k
end
variable{call:bN}{o:aK}{H:bb}{ids:ac Nat}{a6 n:Nat}{a b:du}{e6:aK}{b8:ak}{s:cb}{l r:Nat}{f:d7}{a4:cX}{el:co}
def plainO:dh->Bool
 |.jF _=>true
 |.alloc _ _=>true
 |.call _ _=>true
 |_=>false
def afg{U:dh}{j:aK}{st al:ak}{v:bv}(E:plainO U=true)(h:bw call U o st= .ok v j al):j=o:=by
 cases U<;>first|cases E|skip
 .cases h;rfl
 .exact apS
 .rename_i f as;rw[zb]at h;cases W:call (o.ar f) (dQ o as) none st with
  |ret v1 b8 R=>rw[W,QX]at h;cases h;rfl
  |aV v1 b8 R=>rw[W,QY]at h;cases h
  |no=>rw[W]at h;cases h
theorem R3{call:bN}:∀{ops:ac bj} {o L:aK} {st al:ak} {e:c6},(ops.all λx=>x.g.isNone&&plainO x.U)=true->gh call ops o st= .out e L al->L.b4=o.b4
 |[],_,_,_,_,_,_,h=>by cases h;rfl
 |⟨d,U,g⟩::ops,o,L,st,al,e,bR,h=>by
  rw[vQ,c1,c1]at bR;obtain⟨⟨O,E⟩,bR⟩:=bR;cases g with
  |some p=>cases O
  |none=>
   have h:sn (bw call U o st) (λv o st=>gh call ops (o.put d v) st) (λv st=>cond U.lp (.out (.aV v) o st) .no)= .out e L al:=h;have E:plainO U=true:=E;cases Z:bw call U o st with
   |ok v e6 b8=>
    have S:=afg E Z;subst S;rw[Z,wW]at h;rw[R3 bR h];exact(qJ _ _ _).2.2.2
   |aV v b8=>
    rw[Z,QW]at h;cases hp:U.lp with
    |true=>rw[hp,cond_true]at h;cases h;rfl
    |false=>rw[hp,cond_false]at h;cases h
   |no=>rw[Z,adl]at h;cases h
def y8{fn:d7}{ops:ac bj}{t:cb}{st:ak}(hp:(ops.all λx=>x.g.isNone&&plainO x.U)=true)(h:∀H1 S G,S.length=s.own.length->cH H H1->bM.ok ⟨call,a6,fn,H1,S,G,λx O=>x= .norm/\O=t⟩ ⟨[],.U ops,s⟩)
 (Z:Fit H ids st s.own s.n) (D:cS o H ids s.env):∃L al bA V,db call a6 fn (.gg ops) o st= .out .norm L al/\cW H ids st bA V al/\Fit bA V al t.own t.n/\cS L bA V t.env/\L.b4=o.b4:=by
 obtain⟨e,L,al,Y,bA,V,O,F,W,A,rfl,rfl⟩:=h H ids st (Z.len.trans Z.cZ.symm) ap8 H ids st o aqd Z D;exact⟨L,al,bA,V,Y,F,W,A,R3 hp Y⟩
def Fit.extra{st:ak}{own:ac aZ}(h:Fit H ids st own n)(gG:bx):Fit H ids ⟨st.h.set st.ae gG,st.ae+1⟩ own n:=by
 have j:∀b,b<st.ae->(ao.set st.h st.ae gG).get b=st.h.get b:=λb C=>ao.fk _ _ R;refine⟨λi af=>?_,λb U C=>?_,h.cZ,h.len,h.cY,λb C=>ya<|h.lt b C,λk U b N C=>?_⟩
 .show(ao.set st.h st.ae gG).get i=none;exact ar7
 .show(ao.set st.h st.ae gG).get b=some U;rw[j b<|h.aW C];exact h.le b U C
 .show ov H ids U ((ao.set st.h st.ae gG).get b)/\_;rw[j b<|h.lt b<|hh C];exact h.own k U b N C
theorem Fit.other{st:ak}{own:ac aZ}(h:Fit H ids st own n)(aB:l<st.ae)(af:l∉ids)(T:H l=none)(gG:bx):Fit H ids ⟨st.h.set l gG,st.ae⟩ own n:=by
 refine⟨λi A=>?_,λb U C=>?_,h.cZ,h.len,h.cY,h.lt,λk U b N C=>?_⟩
 .show(ao.set st.h l gG).get i=none;have A:st.ae<=i:=A;rw[ao.fk _ _ R];exact h.wf i A
 .show(ao.set st.h l gG).get b=some U;rw[ao.fk _ _ λe=>by rw[e,T]at C;cases C];exact h.le b U C
 .show ov H ids U ((ao.set st.h l gG).get b)/\_;rw[ao.fk _ _ apt];exact h.own k U b N C
theorem b9.eq{i J:ac Nat}(h:b9 i J)(aB:i.length=J.length):i=J:=by
 apply nY;intro k;by_cases N:k<i.length
 .rw[aO N,h k _<|aO N]
 .grind
def Lj:ac Tmp->ac ag->bP->bP
 |t::aA,a::as,e=>Lj aA as ((t,a)::e)
 |_,_,e=>e
def cS.par{dd:ac Deferred}{aV:be bv}{R:Bool}{j:be Nat}:∀{aA:ac Tmp} {as:ac ag} {ab:ac bv} {t:ao bv} {e:bP},cG H as ids ab->cS ⟨t,dd,aV,R,j⟩ H ids e->cS ⟨oZ aA ab t,dd,aV,R,j⟩ H ids (Lj aA as e)
 |[],[],_,_,_,_,h=>h
 |[],_::_,_,_,_,_,h=>h
 |_::_,[],ab,t,e,d,h=>by cases d;exact h
 |p::aA,a::as,_,t,e,⟨v,F,rfl,O,N⟩,h=>by
  have aC:=h.put p O;have S:(⟨t,dd,aV,R,j⟩:aK).put (some p) v=⟨t.set p v,dd,aV,R,j⟩:=by
   rw[Ja]
  rw[S]at aC;have:=cS.par (aA:=aA) N aC;have q:oZ (p::aA) (v::F) t=oZ aA F (t.set p v):=by
   show ao.iN (Nat.succ p) t p v (λm=>oZ aA F m)=_;rw[ao.wz]
  rw[q];exact this
def afh{st:ak}(bZ:o.dd=[]){s:LoopState}{gi:be c6}{fn:d7}{t:ao bv}{a7:ac Tmp}{d:Nat}(O:st.h.get l=some (.loop s gi fn t a7 a b d)):qI l (.out .norm o st)= .ret (.bool true) ⟨st.h.set l<|.loop .ready none fn t a7 a b d,st.ae⟩ false:=by
 have e:qI l (.out .norm o st)=List.rec (motive:=λ_=>dY) (mW (st.h.get l) (λ_ _ fn t a7 a b d=>st.g8 l (.loop .ready none fn t a7 a b d) λst=>.ret (.bool true) st false) .no) (λ_ _ _=>.no) o.dd:=rfl;rw[e,bZ,O];show(st.g8 l (.loop .ready none fn t a7 a b d) λst=>dY.ret (.bool true) st false)=_;rw[ja]
def F3{fn:d7}{st:ak}{Q:c6->aK->ak->Prop}(h:db call a6 fn a o st= .out .norm e6 b8)(k:W (db call a6 fn b e6 b8) Q):W (db call a6 fn (.seq a b) o st) Q:=by
 rw[Fv,h];exact k
def afi{fn:d7}{R:aK}{st j:ak}(h:db call a6 fn a o st= .out .norm e6 b8)(k:db call a6 fn b e6 b8= .out .norm R j):db call a6 fn (.seq a b) o st= .out .norm R j:=by
 rw[Fv,h];exact k
def afj{fn:d7}{i:Nat}{st:ak}(h:db call a6 fn a o st= .out .norm e6 b8):db call a6 fn (.block i a) o st= .out .norm e6 b8:=by
 rw[Q1,h];rfl
def cW.other{a1:bb}{i0:ac Nat}{aq st:ak}(h:cW a1 i0 aq H ids st)(I:aq.ae<=r)(gG:bx):cW a1 i0 aq H ids ⟨st.h.set r gG,st.ae⟩:=⟨h.hle,h.hold,λb C af=>by
 rw[ao.fk _ _ R];exact h.eK b C af,h.ae,h.jx,h.new⟩
def R4{as:ac bv}{st:ak}{lz:bv->ak->Prop}(aB:as.length<=a4.aN)
 (h:W (db call n f a4.body (eg as) st) λe o b8=>(e= .norm\/e= .ret)/\∃v al,fJ call a4.res none o b8= .ret v al false/\lz v al):
 ∃v al,iF call n f a4 as none st= .ret v al false/\lz v al:=by
 have⟨e,o,b8,Y,he,v,al,G,A⟩:=h;refine⟨v,al,?_,A⟩;rw[iF];rw[lR,aD<|by rwa [e4]];show cN.rec (motive:=λ_=>dY) _ _ (db call n f a4.body (eg as) st)=_;rw[Y];obtain rfl|rfl:=he
 .exact G
 .exact G
def afk{X:Ctx}{aL:ao cX}(D:Good X)(j:k0 X aL)(K:d7->dV)(O:aL.get f=some a4){S:Spec}(aB:∀l as st,S.pre l as st->as.length<=a4.aN)
 (h:∀l as st,S.pre l as st->W (db (cg aL (cw X K)<|bs+1) (bs+1) f a4.body (eg as) st)
  (λe o b8=>(e= .norm\/e= .ret)/\∃v al,fJ (cg aL (cw X K)<|bs+1) a4.res none o b8= .ret v al false/\S.post l as st v al)):et X f S:=by
 intro as st ⟨l,hp⟩;have⟨v,al,Y,G⟩:=R4 (aB l as st hp)<|h l as st hp;refine⟨v,al,λT C=>?_,Ko D j O Y⟩;have⟨v2,L,cu,I⟩:=R4 (aB T as st C)<|h T as st C;rw[Y]at cu;cases cu;exact I
def afl{t:Nat}{st:ak}(bZ:o.dd=[{target:=.collected r,args:= #[]}])(N:o.cQ=false)(I:st.h.get r=some (.j1<|some [])):fJ call [.tmp t] none o st= .ret (o.tmp t) ⟨st.h.set r<|.j1 none,st.ae⟩ false:=by
 have e:jJ call o.dd none st=some (none,⟨st.h.set r<|.j1 none,st.ae⟩):=by
  rw[bZ];simp[jJ,I];rw[ja]
 rw[fJ,e,N];rfl
def afm{an:eR}{K:ac dA}{own bg:ac aZ}{ax:Nat}{e:bP}{p:ac bj}(k:Nat){cs:ac ag}(R:ac ag)(aB:fT cs R)(bD:cL an K p bg ax e)(aw:own[k]? =some (.c el cs):=by rfl)(E:g9 own k (.c el R) some=some bg:=by rfl):cL an K p own ax e:=λH ids st o F Z D=>by
 have:=h4 E;cases this;refine bD H ids st o F ⟨Z.wf,Z.le,by simp[Z.cZ],Z.len,Z.cY,Z.lt,?_⟩ D;intro J q c V W;by_cases N:k=J
 .subst N;rw[oT,aD j]at V;split at V<;>cases V;have⟨⟨ab,A,T⟩,h⟩:=Z.own k _ c aw W;exact⟨⟨ab,A,aB.den T⟩,λ_=>h j⟩
 .rw[oT,av N]at V;exact Z.own J q c V W
theorem afn{x:ce}{k z p q:Nat}{α:Type}{ah:α->ac ag}{l:ac α}{bm af:be ce}(O:a5 s.env x=some (.p k 0))(aw:s.own[k]? =some (.a el false z α ah l))(T:fN s bm 0 p)(N:fN s af n q)(hp:p<=q)(cD:q<=n):fp call (.wc n z x bm af none) s (.aH k z (if n=p then 0 else p) (q-p)<|n-p) s.own s.n:=j8 λH ids st o Z D=>by
 have⟨b,Y,G⟩:=D.ar O;have⟨ab,a0,cJ,c2⟩:=ow Z aw Y;refine⟨_,arP,?_⟩;show s4 n z x bm af none call o st=_;unfold s4 ak.fI;rw[G,lx,Sym.ed,Sym.hL,a0,j6,cond_false,su,fN.ar N D cD,fN.ar T D hp]
 grind [ij,o9,nB]
section
variable{an:eR}{K:ac dA}{own:ac aZ}{ax:Nat}{e:bP}{d:Tmp}{xs:ac bj}{x y:ce}
variable{z:Nat}
def afo{α:Type}{ah:α->ac ag}{l:ac α}{neg:Bool}(bJ:cL an K xs own ax ((d,.b neg)::e))(E:l=[]->cL an K xs own ax ((d,.b<|!neg)::e))(O:a5 e x=some (.b6 z α ah l):=by rfl)(T:a5 e y=some .nl:=by rfl):
 gY an K d (.eqv neg .mi x y) xs own ax e:=λH ids st o F Z D=>by
 have G:=D.ar T;have A:=D.ar O;obtain⟨aj,Y⟩|⟨b,U,c,ab,el,I,aR,Y,_⟩:=A
 .have S:bw an.call (.eqv neg .mi x y) o st= .ok (.bool<|!neg) o st:=by
   have e:bw an.call (.eqv neg .mi x y) o st=bq (r1 (o.ar x)<|o.ar y) (λb=>.ok (.bool<|cond neg (!b) b) o st) .no:=rfl;rw[e,Y,G];cases neg<;>rfl
  exact atB
 .have S:bw an.call (.eqv neg .mi x y) o st= .ok (.bool neg) o st:=by
   have e:bw an.call (.eqv neg .mi x y) o st=bq (r1 (o.ar x)<|o.ar y) (λb=>.ok (.bool<|cond neg (!b) b) o st) .no:=rfl;rw[e,Y,G];cases neg<;>rfl
  exact ari
def R5{g J:Nat}{bD:f6}{ab:ac bv}{I:Nat×Nat}{aR:Bool}{cs:ac ag}(D:an.a1 g=some (.cells ab el I aR))(bZ:∀H,cG H cs [] ab)(k:cL an K xs own ax ((d,.ip<|cs.drop<|J*z)::e))(O:a5 e x=some (.v<|.pointer<|some ⟨g,0,none⟩):=by rfl)(af:a5 e y=some (.i bD (J:Int)):=by rfl)(ba:J<n:=by omega):gY an K d (.rV n z x y) xs own ax e:=
 tp (RZ O D bZ af ba) k
end
def R6{X:Ctx}{aL:ao cX}{br:d7->dV}{g:d7}{S:df}(aQ:et X g S.spec)(O:br g=S.spec.K){f:ce}{bO:ac ce}{as bS cs:ac ag}(l:S.L)(j:a5 s.env f=some (.fn (.func g) bS cs))(bR:hr s.env bO=some as)(fF:gp (bS++(as++cs))=true)(he:fT (bS++(as++cs)) (S.args l))(hp:S.pre l){a1:bb}(cK:S.hp a1):
 p8 a1 (cg aL (cw X br)<|n+1) (.call f bO) s (S.res l) s.own s.n:=λH ids st o T Z D=>by
 obtain⟨ab,F,h,E,N⟩:=D.ar j;have bZ:=he.den<|nz _ fF (B3 E<|B3 (D.dQ bR) N) [];have⟨v,al,Y,G⟩:=aQ _ st ⟨(l,H),hp,S.hm T cK,Z.less,bZ⟩;have⟨v1,b8,cu,I⟩:=zc (K:=br) ⟨v,al,by rwa [O],G⟩;rw[O]at I;have⟨bA,W,R,M⟩:=I (l,H) ⟨hp,S.hm T cK,Z.less,bZ⟩;have a0:cg aL (cw X br) (n+1) (o.ar f) (dQ o bO) none st= .ret v1 b8 false:=by
  rw[h,o4];have e:fr (⟨ab⟩:bi bv).toList (fr (dQ o bO) (⟨F⟩:bi bv).toList)=ab++(dQ o bO++F):=au
  rw[e,cu];rfl
 have hle:=R.hle;refine⟨v1,b8,ids,bA,?_,?_,iR ap8 _ (b9.nil _) M,hle,b9.refl _,?_,R.ae,λb C _=>R.eK b C au⟩
 .rw[zb];rw[a0];rfl
 .refine⟨W.wf,W.le,Z.cZ,Z.len,Z.cY,λb C=>e2 (Z.lt b C) R.ae,λk U b V C=>?_⟩;have⟨A,q⟩:=Z.own k U b V C;have aW:=Z.lt b<|hh C;rw[R.eK b aW au];exact atZ atZ
 .exact apL
section
variable{X:Ctx}{aL:ao cX}{br:d7->dV}{a6 n:Nat}{fn:d7}{a1:bb}{i0:ac Nat}{aq:ak}{Q:c6->cb->Prop}{K:ac dA}{own:ac aZ}{ax:Nat}{e:bP}
def Cl{g:d7}{S:df}(aQ:et X g S.spec){f:ce}{bO:ac ce}{as bS cs:ac ag}{d:Tmp}{xs:ac bj}(l:S.L)(hp:S.pre l)(k:cL (gI X aL br n a6 fn a1 i0 aq Q) K xs own ax ((d,S.res l)::e))
 (D:a5 e f=some (.fn (.func g) bS cs):=by rfl) (bR:hr e bO=some as:=by rfl) (he:fT (bS++(as++cs)) (S.args l):=by exact fT.refl _) (fF:gp (bS++(as++cs))=true:=by rfl) (O:br g=S.spec.K:=by rfl) (cK:S.hp a1:=by exact az):
 gY (gI X aL br n a6 fn a1 i0 aq Q) K d (.call f bO) xs own ax e:=tp (R6 aQ O l D bR fF he hp cK) k
end
section
variable{an:eR}{K:ac dA}{own bg:ac aZ}{ax:Nat}{e:bP}
variable{k:Nat}{cs:ac ag}
def afp{t:Nat}(N:dn e t=some (.p k 0))(aw:own[k]? =some (.c el cs))(hp:gp cs=true)
 {H:bb} {ids:ac Nat} {st:ak} {o:aK} (F:cW an.a1 an.i0 an.aq H ids st) (Z:Fit H ids st own ax) (D:cS o H ids e):
 ∃bA,cW an.a1 an.i0 an.aq bA ids st/\Fit bA ids st (own.set k .x) ax/\cS o bA ids ((t,.ip cs)::e):=by
 have⟨b,cu,I⟩:=D.get t _ N;have⟨⟨ab,a0,d⟩,_⟩:=Z.own k _ b aw cu;have hle:=pe Z aw j cu;refine⟨eP H st b,F.eP Z aw j cu,Z.eP aw j cu,(D.mono hle apu).pl,λJ q V=>?_⟩;rw[lB]at V;cases C:Nat.beq t J with
 |false=>exact atS
 |true=>
  rw[C]at V;cases V;rw[<-dB C];refine⟨b,0,ab,el,(0,0),_,I,by rw[eP];rw[aD j];exact a0,?_⟩;have h:=gq d;rw[iB,gB R];exact kF hle _ apu<|nz _ hp d []
def R7(t:Nat){p:ac bj}(bD:cL an K p bg ax ((t,.ip cs)::e))(N:dn e t=some (.p k 0):=by rfl)(aw:own[k]? =some (.c el cs):=by rfl)(hp:gp cs=true:=by rfl)(E:g9 own k .x some=some bg:=by rfl):cL an K p own ax e:=by
 cases h4 E;exactλH ids st o F Z D=>let⟨bA,Y,G,A⟩:=afp N aw hp F Z D;bD bA ids st o Y G A
end
end Go.bC
namespace Go.bC
open Sym
variable{X:Ctx}
section
variable{an:eR}{K:ac dA}{s:cb}
def Lk{d:be Tmp}{U:dh}{l:ac (bj×cn)}{a9:ac aZ}{aX:bP}{aT bU cF:Nat}{bg:ac aZ}{a:ag}
 (h:∀(H:bb) (ids:ac Nat) (st:ak) (o:aK),cW an.a1 an.i0 an.aq H ids st->Fit H ids st s.own s.n->cS o H ids s.env->∃v al V bA,bw an.call U o st= .ok v o al/\Fit bA V al bg cF/\den bA a V v/\cH H bA/\b9 ids V/\cW an.a1 an.i0 an.aq bA V al/\st.ae<=al.ae)
 (k:ah an K (.d l (a9.map λ_=>.x) (pc d aX) (aT+1) cF) ⟨bg,cF,ee d a s.env⟩):ah an K (.d ((⟨d,U,none⟩,.dI)::l) a9 aX aT bU) s:=by
 have q:∀(k:Nat) (W:aZ),(a9.map λ_=>aZ.x)[k]? =some W->W.live=true->False:=by
  intro k W N j;simp at N;obtain⟨_,_,rfl⟩:=N;cases j
 exact KX (λH ids st o F Z D=>let⟨v,al,V,bA,cu,I,a0,cJ,c2,eC,fv⟩:=h H ids st o F Z D;⟨v,al,V,bA,cu,I,a0,cJ,c2,eC,fv,λk _ W N j=>(q k W N j).elim⟩) au (λk W N j=>(q k W N j).elim) k
end
end Go.bC
namespace Go.bC
open Sym
section
variable{call:bN}{s:cb}{x y:ce}
def afq{el:co}{c4 z n c:Nat}{I:ac bv}{k L:f6}{α:Type}(ah:α->ac ag)(w:α)(O:a5 s.env x=some (.i k (n:Int)))(T:a5 s.env y=some (.i L (c:Int)))(E:I.length=z)(M:uR I=ah w)(aj:n<=c)(aQ:c*(c4+1)<=1099511627776):
 zk call (.pH el c4 I x y) s (.aH s.n z 0 n c) (s.own++[.a el false z α ah<|List.replicate c w]) (s.n+1):=λH ids st o Z D=>by
 have Y:o.ar x= .int k (n:Int):=D.ar O;have G:o.ar y= .int L (c:Int):=D.ar T;subst E;have bZ:=uS H (ids++[st.ae]) I;rw[M]at bZ;have F:=K4 bZ c;refine⟨_,_,_,?_,Z.add (gG:=.cells (pM I c) el (0,0) false) ⟨_,j,F.1,F.2⟩,⟨st.ae,by rw[<-Z.len,qw<|cf _];simp,j⟩,b9.app _ _,λ_ _ _ B=>B.add _,kW _,λb C _=>p9 C⟩;exact ap5
end
section
variable{an:eR}{K:ac dA}{own a9 bg:ac aZ}{ax cF aT bU:Nat}{e aX:bP}{d:Tmp}{aA:ac Tmp}{xs:ac (bj×cn)}{x y:ce}
def afr{el:co}{c4 z n c:Nat}{I:ac bv}{a8 M:f6}{α:Type}(ah:α->ac ag)(w:α)(k:dx an K xs a9 (jb d aX) aT bU bg cF ((d,.aH ax z 0 n c)::e))(O:a5 (dZ aA e) x=some (.i a8 (n:Int)):=by rfl)(T:a5 (dZ aA e) y=some (.i M (c:Int)):=by rfl)(Z:FX I=some z:=by rfl)(D:uR I=ah w:=by rfl)
 (E:my own (.a el false z α ah<|List.replicate c w) some=some bg:=by rfl) (F:mz ax some=some cF:=by rfl) (aj:n<=c:=by omega) (aQ:c*(c4+1)<=1099511627776:=by omega):dx an K ((⟨some d,.pH el c4 I x y,none⟩,.hx aA)::xs) a9 aX aT bU own ax e:=by
 have Y:=m7 E;have G:=nC F;cases Y;cases G;exact KZ (d:=some d) (s:=⟨own,ax,e⟩) (afq (s:=⟨own,ax,dZ aA e⟩) ah w O T (RL Z) D aj aQ) j k
end
section
variable{an:eR}{K:ac dA}{own bg a9 gH:ac aZ}{ax aT bU back:Nat}{e aX:bP}{d:Tmp}{aA:ac Tmp}{xs:ac bj}{aP:ac (bj×cn)}{x y:ce}
def il{a8 z J q m:Nat}{el:co}{aR:Bool}{α:Type}{ah:α->ac ag}{l:ac α}{a:ag}{w:α}(w':α){aM:ac ag}(ba:l[J]? =some w)(k:dx an K aP gH aX (aT+1) ax bg ax e)(O:a5 e x=some (.fi a8 z J q):=by rfl)(T:a5 e y=some a:=by rfl)(aw:own[a8]? =some (.a el aR z α ah l):=by rfl)(aQ:tn a=some aM:=by rfl)(aB:aM.length=m:=by rfl)(Y:pa aM=true:=by rfl)
 (D:ah w'=(ah w).take q++(aM++(ah w).drop (q+aM.length)):=by rfl) (E:g9 own a8 (.a el aR z α ah<|l.set J w') some=some bg:=by rfl) (F:zl a9 (some a8) some=some gH:=by rfl) (Z:q+m<=z:=by decide):dx an K ((⟨none,.store m x y,none⟩,.dI)::aP) a9 aX aT bU own ax e:=by
 cases h4 E;have⟨h,cu,I,a0⟩:=FO F;cases cu;exact w5 (RA w' O T aQ aB Y aw ba D Z) I (λk U L aB=>by
  have:=a0 k U L aB;simp only[gr,O];exact this)
  k
variable{c:bf}
variable{P:Prop}{a:Int}{b:Bool}{bZ:Decidable P}
def v1(t:Nat)(h:P)(k:fB an K c own ax ((t,.b true)::e))(aB:dn e t=some (.b<|decide P):=by rfl)(aQ:c.nD=false:=by rfl):fB an K c own ax e:=aJ t (.b true) aB (by rw[cm h]) k aQ
def v0(t:Nat)(h:¬P)(k:fB an K c own ax ((t,.b false)::e))(aB:dn e t=some (.b<|decide P):=by rfl)(aQ:c.nD=false:=by rfl):fB an K c own ax e:=aJ t (.b false) aB (by rw[cp h]) k aQ
def nH(t:Nat){a:Bool}(h:a=b)(k:fB an K c own ax ((t,.b b)::e))(aB:dn e t=some (.b a):=by rfl)(aQ:c.nD=false:=by rfl):fB an K c own ax e:=aJ t (.b b) aB atv k aQ
def R8(t:Nat){bD:f6}(b:Int)(k:fB an K c own ax ((t,.i bD b)::e))(aB:dn e t=some (.i bD a):=by rfl)(h:a=b:=by omega)(aQ:c.nD=false:=by rfl):fB an K c own ax e:=aJ t (.i bD b) aB atv k aQ
def cj(t:Nat)(b:Int)(k:fB an K c own ax ((t,.i .i64 b)::e))(aB:dn e t=some (.i .i64<|IntKind.i64.wrap a):=by rfl)(h:a=b:=by omega)(aC: -9223372036854775808<=a:=by omega)(aI:a<9223372036854775808:=by omega)(aQ:c.nD=false:=by rfl):fB an K c own ax e:=aJ t (.i .i64 b) aB (eV h aC aI) k aQ
def eJ(t:Nat)(h:P)(k:dx an K aP a9 ((t,.b true)::aX) aT bU own ax ((t,.b true)::e))(aB:dn e t=some (.b<|decide P):=by rfl)(bX:dn aX t=some (.b<|decide P):=by rfl):dx an K aP a9 aX aT bU own ax e:=dF t (.b true) aB bX (by rw[cm h]) k
def dJ(t:Nat)(h:¬P)(k:dx an K aP a9 ((t,.b false)::aX) aT bU own ax ((t,.b false)::e))(aB:dn e t=some (.b<|decide P):=by rfl)(bX:dn aX t=some (.b<|decide P):=by rfl):dx an K aP a9 aX aT bU own ax e:=dF t (.b false) aB bX (by rw[cp h]) k
def dp(t:Nat){a:Bool}(h:a=b)(k:dx an K aP a9 ((t,.b b)::aX) aT bU own ax ((t,.b b)::e))(aB:dn e t=some (.b a):=by rfl)(bX:dn aX t=some (.b a):=by rfl):dx an K aP a9 aX aT bU own ax e:=dF t (.b b) aB bX atv k
def ww(t:Nat)(b:Int)(k:dx an K aP a9 ((t,.i .i64 b)::aX) aT bU own ax ((t,.i .i64 b)::e))(aB:dn e t=some (.i .i64<|IntKind.i64.wrap a):=by rfl)(h:a=b:=by omega)(aC: -9223372036854775808<=a:=by omega)(aI:a<9223372036854775808:=by omega)(bX:dn aX t=some (.i .i64<|IntKind.i64.wrap a):=by rfl):dx an K aP a9 aX aT bU own ax e:=dF t (.i .i64 b) aB bX (eV h aC aI) k
end
end Go.bC
namespace Go.bC
open Sym
variable{X:Ctx}
def iG{p:Prop}(h:p):¬¬p:=λk=>k h
def R9{k z D n c:Nat}:bz (.aH k z 0 n c) (.aH k D 0 n c):=λH ids v ⟨b,Y,G⟩=>⟨b,Y,by rw[G,hF,hF]⟩
mutual
def zt(k z n:Nat)(b:ag):ag->ag
 |.aH L D U cF c=>match Nat.beq k L&&(Nat.beq z D&&(Nat.beq 0 U&&(Nat.beq n cF&&Nat.beq n c)))with
  |true=>b
  |false=>.aH L D U cF c
 |.agg cs=>.agg (F4 k z n b cs)
 |.bc cs=>.bc (F4 k z n b cs)
 |.fn f bS cs=>.fn f bS cs
 |.mp k=>.mp k
 |.g p=>.g p
 |.p k U=>.p k U
 |.fi k z J U=>.fi k z J U
 |.i k n=>.i k n
 |.b t=>.b t
 |.s l=>.s l
 |.nl=>.nl
 |.v x=>.v x
 |.b6 z α ah l=>.b6 z α ah l
 |.hq z α ah l=>.hq z α ah l
 |.cd z α ah l=>.cd z α ah l
 |.ip cs=>.ip cs
 |.bad=>.bad
def F4(k z n:Nat)(b:ag):ac ag->ac ag
 |[]=>[]
 |a::as=>zt k z n b a::F4 k z n b as
end
mutual
theorem Ll{H:bb}{ids:ac Nat}{k z n:Nat}{b:ag}(ay:∀v,den H (.aH k z 0 n n) ids v->den H b ids v):∀(a:ag) {v:bv},den H a ids v->den H (zt k z n b a) ids v
 |.aH L D U cF c,v,d=>by
  unfold zt;split
  .rename_i h;simp only[c1]at h;obtain⟨aC,aI,A,T,C⟩:=h;have:=dB aC;have:=dB aI;have:=dB A;have:=dB T;have:=dB C
   subst_vars
   exact ay v d
  .exact d
 |.agg cs,_,⟨ab,e,d⟩=>⟨ab,e,Lm ay cs d⟩
 |.bc cs,_,⟨ab,e,d⟩=>⟨ab,e,Lm ay cs d⟩
 |.fn _ _ _,_,d=>d
 |.mp _,_,d=>d
 |.g _,_,d=>d
 |.p _ _,_,d=>d
 |.fi _ _ _ _,_,d=>d
 |.i _ _,_,d=>d
 |.b _,_,d=>d
 |.s _,_,d=>d
 |.nl,_,d=>d
 |.v _,_,d=>d
 |.b6 _ _ _ _,_,d=>d
 |.hq _ _ _ _,_,d=>d
 |.cd _ _ _ _,_,d=>d
 |.ip _,_,d=>d
 |.bad,_,d=>d
theorem Lm{H:bb}{ids:ac Nat}{k z n:Nat}{b:ag}(ay:∀v,den H (.aH k z 0 n n) ids v->den H b ids v):∀(a:ac ag) {v:ac bv},cG H a ids v->cG H (F4 k z n b a) ids v
 |[],_,d=>d
 |a::as,_,⟨v,F,e,O,N⟩=>⟨v,F,e,Ll ay a O,Lm ay as N⟩
end
section
variable{an:eR}{K:ac dA}{own bg:ac aZ}{ax:Nat}{e:bP}
def afs(t k:Nat){z:Nat}{el:co}{aR:Bool}{α:Type}{ah:α->ac ag}{l:ac α}{a dm:ag}{p:ac bj}(bD:cL an K p bg ax ((t,dm)::e))(N:dn e t=some a:=by rfl)(aw:own[k]? =some (.a el aR z α ah l):=by rfl)(bR:zt k z l.length (.b6 z α ah l) a=dm:=by rfl)(hp:∀x,gp (ah x)=true:=by exactλ_=>j)
 (E:g9 own k .x some=some bg:=by rfl):cL an K p own ax e:=λH ids st o F Z D=>by
 have Y:=h4 E;cases Y;have G:k<ids.length:=by rw[Z.len,<-Z.cZ];exact(dP.1 aw).1
 obtain⟨b,cu⟩:∃b,ids[k]? =some b:=⟨_,aO G⟩;obtain⟨⟨ab,a0,cJ,c2⟩,_⟩:=Z.own k _ b aw cu;have hle:=pe Z aw j cu;have A:=D.mono hle apu;refine bD (eP H st b) ids st o (F.eP Z aw j cu) (Z.eP aw j cu) ⟨A.pl,λJ q V=>?_⟩;rw[lB]at V;cases C:Nat.beq t J with
 |false=>rw[C]at V;exact A.get J q V
 |true=>
  rw[C]at V;cases V;rw[<-dB C,<-bR];refine Ll (λv S=>?_) a<|A.get t a N;obtain⟨h,W,cA⟩:=S;rw[cu]at W;cases W;refine .inr ⟨b,0*z,l.length,ab,el,(0,0),aR,cA,c5 _,by unfold eP;rw[aD j];exact a0,λi x O=>?_⟩;rw[hF,hU];exact kF hle _ apu<|nz _ (hp x) (c2 _ x O) []
end
end Go.bC
namespace Go.bC
open Sym
section
variable{call:bN}{s:cb}{x y:ce}
variable{el:co}{bW c4:Nat}
def aft{o:aK}{st:ak}{b q:Nat}{ab new:ac bv}{aR:Bool}(a0:st.h.get b=some (.cells ab el (0,0) aR))(cD:q=0)(ay:(5*q+1792)*(c4+1)<=1125899906842624):iO o st el bW c4 (some ⟨b,0,none⟩) q q q new= .ok (.slice (some ⟨b,0,none⟩) q q) o st:=by
 have aX:q+q=q:=R
 unfold iO ak.fI;simp only[vT,vU,Sym.ed,Sym.hL,a0,j6,aX];rw[fo (show(5*q+1792)*Nat.succ c4<=2^50 from ay),fo<|cf _,fo<|cf _,fo<|by rw[cD];simp,ij j,ij cD]
def afu{aE k:Nat}{α:Type}{ah:α->ac ag}{m:ac α}(O:a5 s.env x=some (.aH k aE 0 0 0))(aw:s.own[k]? =some (.c el []))(M:q4 call el c4 s y ah bW m)(al:∀w,(ah w).length=bW)(hp:∀w,gp (ah w)=true)(ay:(5*m.length+1792)*(c4+1)<=1125899906842624):
 fp call (.app el bW c4 x y) s (.b6 bW α ah m) (s.own.set k .x) s.n:=λH ids st o Z D=>by
 obtain⟨b,cu,I⟩:=D.ar O;rw[hF]at I;have L:Fit H ids st (s.own.set k<|.a el false bW α ah []) s.n:=RI [] aw j al Z;have aa:(s.own.set k<|.a el false bW α ah [])[k]? =some (.a el false bW α ah []):=AA (dP.1 aw).1;obtain⟨ab,a0,cJ,c2⟩:=ow (s:=⟨s.own.set k<|.a el false bW α ah [],s.n,s.env⟩) L aa cu;obtain⟨new,Y,G,A⟩:=M H ids st o Z D x _ _ _ I;have hle:=pe L aa j cu;have ai:=L.eP aa j cu;rw[List.set_set]at ai;by_cases F:m=[]
 .subst F;refine⟨.slice (some ⟨b,0,none⟩) 0 0,st,ids,eP H st b,?_,ai,.inr ⟨b,0,0,ab,el,(0,0),false,j,c5 _,by unfold eP;rw[aD j];exact a0,λi x O=>by simp at O⟩,hle,b9.refl _,λ_ _ _ B=>B.eP L aa j cu,cf _,λ_ _ _=>j⟩;rw[A];exact aft a0 j ay
 .have aG:0<m.length:=oV.2 F;have aj:st.h.get st.ae=none:=Z.wf _<|cf _
  let bA:bb:=λc=>if c=st.ae then some (.cells new el (0,0) true)else H c
  have T:cH H bA:=λc q W=>by
   show(if c=st.ae then _ else H c)=_;rw[av]
   .exact W
   .intro e;have:=Z.aW W;omega
  have C:∀{c:Nat},c<st.ae->bA c=H c:=λW=>av R;refine⟨.slice (some ⟨st.ae,0,none⟩) m.length m.length,⟨st.h.set st.ae<|.cells new el (0,0) true,st.ae+1⟩,ids,bA,?_,?_,.inr ⟨st.ae,0,m.length,new,el,(0,0),true,j,c5 _,aD j,λi x O=>?_⟩,T,b9.refl _,λa1 i0 aq B=>?_,kW _,λb ay _=>p9 ay⟩
  .rw[A];unfold iO ak.fI;simp only[vT,vU,Sym.ed,Sym.hL,a0,j6,hF];rw[fo (show(5*(0+m.length)+1792)*Nat.succ c4<=2^50 by rw[hU];exact ay),fo<|cf _,fo<|cf _,fo<|by rw[e4,cJ];simp,ij j,o9 R,cond_false,QZ R,q0 au,gj,pS,iB,DE,List.nil_append,hU]
  .have a':=Z.add (U:=.x) (gG:=.cells new el (0,0) true) az;refine⟨a'.wf,λc q W=>?_,by rw[sT];exact Z.cZ,Z.len,Z.cY,λc W=>ya<|Z.lt c W,λJ U c V W=>?_⟩
   .by_cases e:c=st.ae
    .subst e;have W:(if st.ae=st.ae then some (bx.cells new el (0,0) true)else H st.ae)=some q:=W;rw[aD j]at W;rw[<-W];exact ao.mm _ _ _
    .have W:H c=some q:=by
      have W:(if c=st.ae then some (bx.cells new el (0,0) true)else H c)=some q:=W;rw[av e]at W;exact W
     exact a'.le c q W
   .have S:=Z.lt c<|hh W;rw[oT]at V;by_cases N:k=J
    .rw[aD N]at V;split at V<;>cases V;exact⟨az,λh=>by cases h⟩
    .rw[av N]at V;obtain⟨aB,aC⟩:=Z.own J U c V W;refine⟨?_,λE=>(C S).trans<|aC E⟩;rw[show(ak.h ⟨st.h.set st.ae<|.cells new el (0,0) true,st.ae+1⟩).get c=st.h.get c from p9 S];exact q1 T apu aB
  .rw[hU];exact kF T _ apu<|nz _ (hp x) (Y.2 i x O) []
  .have a':=B.add<|.cells new el (0,0) true;exact⟨B.hle.trans T,λc W aj=>(C<|e2 W B.ae).trans<|B.hold c W aj,a'.eK,a'.ae,B.jx,B.new⟩
end
section
variable{an:eR}{K:ac dA}
def F5(t:Nat){a:ag}(b:ag){own a9:ac aZ}{ax aT bU:Nat}{e aX:bP}{l:ac (bj×cn)}(h:dn e t=some a)(bX:dn aX t=some a)(Y:bz a b)(bD:dx an K l a9 ((t,b)::aX) aT bU own ax ((t,b)::e)):dx an K l a9 aX aT bU own ax e:=
 λS A H ids st o W M F Z D E=>bD S A H ids st o W M F Z (nx h Y D) ⟨E.len,E.hle,(nx (o:=o) bX Y ⟨D.pl,E.eg⟩).get,E.pb,E.uV,E.a9,E.hy,E.top⟩
end
set_option maxRecDepth 10000
inductive q8 where
 |ret (a:ag)
 |aV (v:Value)
structure PP where
 L:Type
 args:L->ac ag
 pre:L->Prop
 out:L->q8
 hp:bb->Prop:=fun _=>True
 hm:∀{H bA:bb},cH H bA->hp H->hp bA:=by exact fun _ _=>trivial
def PP.spec(S:PP):wX where
 L:=S.L×bb
 pre:=λl ab st=>S.pre l.1/\S.hp l.2/\Fit l.2 [] st [] 0/\cG l.2 (S.args l.1) [] ab
 post:=λl ab st v al=>∃a bA,S.out l.1= .ret a/\Fit bA [] al [] 0/\cW l.2 [] st bA [] al/\den bA a [] v
 Kn:=λl ab st v al=>∃bA,S.out l.1= .aV v/\Fit bA [] al [] 0/\cW l.2 [] st bA [] al
def Ln(S:PP)(l:S.L)(res:ac gS)(x:c6)(s:cb):Prop:=
 ((x= .norm\/x= .ret)/\∃r a,Fin.kH s res=some r/\h1 r=true/\S.out l= .ret a/\bz r a)\/∃v,x= .aV v/\S.out l= .aV v
variable{s:cb}{v:bv}
def tr{S:PP}{l:S.L}{res:ac gS}{r a:ag}{e:c6}(aC:Fin.kH s res=some r)(aI:h1 r=true)(D:S.out l= .ret a)(T:bz r a)(he:e= .ret\/e= .norm:=by first|exact .inl j|exact .inr j):Ln S l res e s:=.inl ⟨he.symm,r,a,aC,aI,D,T⟩
def jT{S:PP}{l:S.L}{res:ac gS}(h:S.out l= .aV v):Ln S l res (.aV v) s:=.inr ⟨v,j,h⟩
def F6{call:bN}{res:ac gS}{o:aK}{st:ak}(hp:uO o):fJ call res (some v) o st= .aV v st false:=by
 rw[fJ,hp.dd,hp.cQ];rfl
section
variable{X:Ctx}{aL:ao cX}{br:d7->dV}
def Sa{H bA:bb}{ids:ac Nat}{st al:ak}{own:ac aZ}{n:Nat}(Z:Fit H ids st own n)(j:Fit bA [] al [] 0)(R:cW H [] st bA [] al):
 Fit bA ids al own n/\∀a1 i0 aq,cW a1 i0 aq H ids st->cW a1 i0 aq bA ids al:=by
 have hle:=R.hle;refine⟨⟨j.wf,j.le,Z.cZ,Z.len,Z.cY,λb C=>e2 (Z.lt b C) R.ae,λk U b N C=>?_⟩,λa1 i0 aq B=>⟨B.hle.trans hle,λb C aj=>(by rw[R.hold b (e2 C B.ae) au];exact B.hold b C aj),λb C aj=>(by rw[R.eK b (e2 C B.ae) au];exact B.eK b C aj),ch B.ae R.ae,B.jx,B.new⟩⟩
 .obtain⟨A,T⟩:=Z.own k U b N C;have aW:=Z.lt b<|hh C;rw[R.eK b aW au];exact at1 at1
def Lo(a1:bb)(call:bN)(U:dh)(s:cb)(v:bv):Prop:=
 ∀(H:bb) (ids:ac Nat) (st:ak) (o:aK),cH a1 H->Fit H ids st s.own s.n->cS o H ids s.env->
  ∃al bA,bw call U o st= .aV v al/\Fit bA ids al s.own s.n/\cH H bA/\∀a1 i0 aq,cW a1 i0 aq H ids st->cW a1 i0 aq bA ids al
variable{g:d7}{bO:ac ce}{as:ac ag}{n:Nat}{a1:bb}
def Sb{S:PP}(aQ:ly X g S.spec)(O:br g=S.spec.K)(l:S.L)(bR:hr s.env bO=some as)(fF:gp as=true)(he:fT as (S.args l))(hp:S.pre l)(cK:S.hp a1)
 {H:bb} {ids:ac Nat} {st:ak} {o:aK} (T:cH a1 H) (Z:Fit H ids st s.own s.n) (D:cS o H ids s.env):
 ∃v al bA,Fit bA [] al [] 0/\cW H [] st bA [] al/\((∃a,S.out l= .ret a/\den bA a [] v/\bw (cg aL (cw X br)<|n+1) (.call (.func g) bO) o st= .ok v o al)\/(S.out l= .aV v/\bw (cg aL (cw X br)<|n+1) (.call (.func g) bO) o st= .aV v al)):=by
 have N:S.spec.pre (l,H) (dQ o bO) st:=⟨hp,S.hm T cK,Z.less,(he.den<|nz _ fF (D.dQ bR) [])⟩;have o5:=adW (K:=br) (by rw[O];exact aQ _ st ⟨(l,H),N⟩);rw[O]at o5;have e:fr (#[]:bi bv).toList (fr (dQ o bO) (#[]:bi bv).toList)=dQ o bO:=au
 obtain⟨v1,b8,cu,I⟩|⟨v1,b8,cu,I⟩:=o5
 .have⟨a,bA,E,W,R,M⟩:=I (l,H) N;have a0:cg aL (cw X br) (n+1) (.func (.func g) #[] #[]) (dQ o bO) none st= .ret v1 b8 false:=by
   rw[o4,e,cu];rfl
  refine⟨v1,b8,bA,W,R,.inl ⟨a,E,M,?_⟩⟩;exact aps
 .have⟨bA,E,W,R⟩:=I (l,H) N;have a0:cg aL (cw X br) (n+1) (.func (.func g) #[] #[]) (dQ o bO) none st= .aV v1 b8 false:=by
   rw[o4,e,cu];rfl
  refine⟨v1,b8,bA,W,R,.inr ⟨E,?_⟩⟩;exact aps
def Sc{S:PP}(aQ:ly X g S.spec)(O:br g=S.spec.K)(l:S.L)(bR:hr s.env bO=some as)(fF:gp as=true)(he:fT as (S.args l))(hp:S.pre l)(cK:S.hp a1){a:ag}(E:S.out l= .ret a):
 p8 a1 (cg aL (cw X br)<|n+1) (.call (.func g) bO) s a s.own s.n:=λH ids st o T Z D=>by
 obtain⟨v,al,bA,W,R,h⟩:=Sb aQ O l bR fF he hp cK T Z D;obtain⟨A,C,M,q⟩|⟨C,_⟩:=h
 .rw[E]at C;cases C;have⟨Y,G⟩:=Sa Z W R;exact⟨v,al,ids,bA,q,Y,iR ap8 _ (b9.nil _) M,R.hle,b9.refl _,G,R.ae,λb j _=>R.eK b j au⟩
 .rw[E]at C;cases C
def Sd{S:PP}(aQ:ly X g S.spec)(O:br g=S.spec.K)(l:S.L)(bR:hr s.env bO=some as)(fF:gp as=true)(he:fT as (S.args l))(hp:S.pre l)(cK:S.hp a1)(E:S.out l= .aV v):
 Lo a1 (cg aL (cw X br)<|n+1) (.call (.func g) bO) s v:=λH ids st o T Z D=>by
 obtain⟨A,al,bA,W,R,h⟩:=Sb aQ O l bR fF he hp cK T Z D;obtain⟨j,C,M,q⟩|⟨C,q⟩:=h
 .rw[E]at C;cases C
 .rw[E]at C;cases C;have⟨Y,G⟩:=Sa Z W R;exact⟨al,bA,q,Y,R.hle,G⟩
end
section
variable{an:eR}{K:ac dA}{s:cb}
variable{xs:ac bj}{d:be Tmp}{x:ce}{t:co}{ax:Nat}{e:bP}
def Se{U:dh}(h:Lo an.a1 an.call U s v)(aQ:U.lp=true)(k:bM.ok an ⟨K,.x<|.aV v,s⟩):bM.ok an ⟨K,.U<|⟨d,U,none⟩::xs,s⟩:=by
 intro H ids st o F Z D;have⟨al,bA,Y,G,A,T⟩:=h H ids st o F.hle Z D;refine⟨.aV v,o,al,?_,bA,ids,s,T _ _ _ F,G,D.mono A apu,k⟩;show sn (bw an.call U o st) _ (λv st=>cond U.lp (.out (.aV v) o st) .no)=_;rw[Y,aQ];rfl
def afv{w:bv}{own:ac aZ}(k:fB an K (.x<|.aV<|.iface t w) own ax e)(O:a5 e x=some (.v<|.iface t w):=by rfl):cL an K (⟨d,.n9 x,none⟩::xs) own ax e:=
 Se (λH ids st o T Z D=>by
  refine⟨st,H,?_,Z,cH.refl _,λ_ _ _ B=>B⟩;show yw (o.ar x) (λt v=>a2.aV (.iface t v) st) .no=_;rw[(D.ar O)];rfl) j k
def afw{H:bb}{ids:ac Nat}{k:f6}{c:Int}(h:den H (.agg [.i k c]) ids v):v= .agg ⟨[.int k c]⟩:=by
 obtain⟨ab,rfl,u,O,rfl,Y,G⟩:=h;cases Y;cases G;rfl
def afx{d:Tmp}{a:ag}{own:ac aZ}(w:bv)(k:cL an K xs own ax ((d,.v<|.iface t w)::e))(O:a5 e x=some a:=by rfl)(E:∀H ids v,den H a ids v->v=w:=by exactλ_ _ _=>afw):gY an K d (.D5 t x) xs own ax e:=λH ids st o F Z D=>
 p6 j<|k H ids st _ F Z<|D.ee (some d) (show Value.iface t (o.ar x)= .iface t w by rw[E H ids _<|D.ar O])
end
def Cm(ms:ac Nat)(n:Nat):Nat->ac (bj×cn)->be (ac<|bj×cn)
 |_,[]=>some []
 |p,(x,c)::l=>match Cm ms n (p+1) l with
  |none=>none
  |some bo=>match Nat.testBit (ms.getD p 0) n with
   |true=>match c with
    |.dI=>some ((⟨x.d,.jF<|.const undef,none⟩,.dI)::bo)
    |_=>some ((⟨x.d,.jF<|.const undef,none⟩,.read 0 [])::bo)
   |false=>match c with
    |.dI=>none
    |c=>some<|(x,c)::bo
theorem Sf{T:aK}{g:be (Tmp×Bool)}{a b:cN}{dm V:Bool}{e:c6}{f:aK}{s:ak}(h:hj T g a b .no= .out e f s)(bR:a= .out e f s->dm=true)(ay:b= .out e f s->V=true):hj T g dm V false=true:=by
 unfold hj at h⊢;cases g with
 |none=>exact bR h
 |some p=>
  rw[Sym.ed]at h⊢;cases S:T.tmp p.1<;>rw[S]at h<;>first|(cases h;done)|skip
  .rename_i c;show cond c (cond p.2 dm V) (cond p.2 V dm)=true;have h:cond c (cond p.2 a b) (cond p.2 b a)=_:=h
   grind
  .exact ay h
theorem Sg{call:bN}{S:s6}{ms:ac Nat}{n:Nat}:∀{l bo:ac (bj×cn)} {p:Nat} {M:ac (ao bx)} {o:aK} {st:ak} {T:aK} {O:ak},Cm ms n p l=some bo->hk call S bo M o st= .out .norm T O->j4 call ms n l p M o st=true
 |[],_,_,_,_,_,_,_,_,_=>rfl
 |(x,c)::l,bo,p,M,o,st,T,O,D,h=>by
  unfold Cm at D;split at D
  .cases D
  rename_i Z aC;have I:∀{M:ac (ao bx)} {o:aK} {st:ak},hk call S Z M o st= .out .norm T O->j4 call ms n l (p+1) M o st=true:=λh=>Sg aC h;have aX:j4 call ms n ((x,c)::l) p M o st=cond (Nat.testBit (ms.getD p 0) n)
   (cn.rec (j4 call ms n l (Nat.succ p) (st.h::M) (o.put x.d undef) st) (λ_=>j4 call ms n l (Nat.succ p) M (o.put x.d undef) st) (λ_ _=>j4 call ms n l (Nat.succ p) M (o.put x.d undef) st) c)
   (cn.rec false
    (λaA=>jI o.t aA λt=>hj ⟨t,[],none,false,none⟩ x.g
     (a2.rec (λv _ al=>j4 call ms n l (Nat.succ p) M (o.put x.d v) al) (λ_ _=>false) false<|bw call x.U ⟨t,[],none,false,none⟩ st)
     (j4 call ms n l (Nat.succ p) M (o.put x.d undef) st) false)
    (λback aA=>jI o.t aA λt=>hj ⟨t,[],none,false,none⟩ x.g
     (a2.rec (λv _ _=>cond (sameAt call x.U ⟨t,[],none,false,none⟩ v st.ae (Nat.succ back) M) (j4 call ms n l (Nat.succ p) M (o.put x.d v) st) false) (λ_ _=>false) false<|bw call x.U ⟨t,[],none,false,none⟩ st)
     (j4 call ms n l (Nat.succ p) M (o.put x.d undef) st) false)
    c):=rfl
  rw[aX];split at D
  .rename_i C;rw[C];split at D
   .cases D;have h:ev st.ae st.ae (hk call S Z (st.h::M) (aK.put ⟨o.t,o.dd,o.aV,o.cQ,o.b4⟩ x.d undef) st) .no=_:=h;rw[fo<|c5 _]at h;exact I h
   .rename_i W;cases D;have h:cond (sameAt call (.jF<|.const undef) ⟨.nil,[],none,false,none⟩ undef st.ae (Nat.succ 0) M) (hk call S Z M (o.put x.d undef) st) .no=_:=h;cases q:sameAt call (.jF<|.const undef) ⟨.nil,[],none,false,none⟩ undef st.ae (Nat.succ 0) M with
    |false=>rw[q]at h;cases h
    |true=>
     rw[q]at h;cases c with
     |dI=>exact absurd j W
     |_=>exact I h
  .rename_i C;rw[C];split at D
   .cases D
   .rename_i W;cases D;cases c with
    |dI=>exact absurd j W
    |hx aA=>
     have h:jI o.t aA (λt=>hj ⟨t,[],none,false,none⟩ x.g
      (a2.rec (λv _ al=>hk call S Z M (o.put x.d v) al) (λ_ _=>.no) .no<|bw call x.U ⟨t,[],none,false,none⟩ st)
      (hk call S Z M (o.put x.d undef) st) .no)=_:=h
     show jI o.t aA _=true;rw[om]at h⊢;refine Sf h (λh=>?_) I;generalize bw call x.U _ st=r at h⊢;cases r with
     |ok v G A=>exact I h
     |_=>cases h
    |read back aA=>
     have h:jI o.t aA (λt=>hj ⟨t,[],none,false,none⟩ x.g
      (a2.rec (λv _ _=>cond (sameAt call x.U ⟨t,[],none,false,none⟩ v st.ae (Nat.succ back) M) (hk call S Z M (o.put x.d v) st) .no) (λ_ _=>.no) .no<|bw call x.U ⟨t,[],none,false,none⟩ st)
      (hk call S Z M (o.put x.d undef) st) .no)=_:=h
     show jI o.t aA _=true;rw[om]at h⊢;refine Sf h (λh=>?_) I;generalize bw call x.U _ st=r at h⊢;cases r with
     |ok v G A=>
      grind
     |_=>cases h
def Sh(x:c6)(_:cb):Prop:=x= .norm
section
variable{an:eR}{K:ac dA}{s:cb}
theorem afy{d:be Tmp}{U:dh}{l bo:ac (bj×cn)}{a9:ac aZ}{aX:bP}{aT bU m:Nat}{ms:ac Nat}(h:Lo an.a1 an.call U s v)(aQ:U.lp=true)(D:Cm ms (m-(dE l+1)) (m-dE l) l=some bo)
 (bD:dx ⟨an.call,an.a6,an.fn,an.a1,an.i0,an.aq,Sh⟩ [] bo a9 (pc d aX) (aT+1) s.n s.own s.n (ee d (.bc []) s.env)) (k:bM.ok an ⟨K,.x<|.aV v,s⟩):ah an (.w1 ms m::K) (.d ((⟨d,U,none⟩,.dI)::l) a9 aX aT bU) s:=by
 intro S a' H ids st o W M F Z A E;have⟨al,bA,Y,G,q,T⟩:=h H ids st o F.hle Z A;have O:=bD (r3 an.call ms m) az H ids st (o.put d undef) W (st.h::M) F Z (A.ee d ap6) ⟨by simp[E.len],E.hle,w3 E.eg d _,E.pb,by rw[Z.len];exact cf _,λk U b N V C=>by
  have⟨Y,G⟩:=E.a9 k U b N V C;refine⟨Y,λh hm=>?_⟩;obtain rfl|hm:=fh.1 hm
  .rfl
  .exact G h hm,λh hm=>by
  obtain rfl|hm:=fh.1 hm
  .exactλb U C=>Z.le _ _<|E.hle _ _ C
  .exact E.hy h hm,λh hm=>by
  simp at hm;subst hm;exact asd⟩
 have⟨x,f1,s1,cu,H1,i1,t1,_,_,_,I⟩:=O;subst I;have a0:=Sg D cu;refine⟨.aV v,o,al,?_,bA,ids,s,T _ _ _ F,G,A.mono q apu,k⟩;show a2.rec (motive:=λ_=>cN) (λv L al=>ev st.ae al.ae (hk an.call S l (al.h::M) (aK.put ⟨o.t,L.dd,L.aV,L.cQ,L.b4⟩ d v) al) .no) (λv al=>cond U.lp (cond (S l (st.h::M) (o.put d undef) st) (.out (.aV v) o al) .no) .no) .no (bw an.call U o st)=_;rw[Y,a'];show cond U.lp (cond (j4 an.call ms (Nat.sub m<|Nat.succ<|dE l) l (Nat.sub m<|dE l) (st.h::M) (o.put d undef) st) (cN.out (.aV v) o al) cN.no) cN.no=_
 grind
end
section
variable{X:Ctx}{aL:ao cX}{br:d7->dV}{a6 n:Nat}{fn:d7}{a1:bb}{i0:ac Nat}{aq:ak}{Q:c6->cb->Prop}{K:ac dA}{own:ac aZ}{ax:Nat}{e:bP}
variable{g:d7}{bO:ac ce}{as:ac ag}{d:be Tmp}{xs:ac bj}{a9:ac aZ}{aX:bP}{bU:Nat}
def l4{S:PP}(aQ:ly X g S.spec)(l:S.L)(hp:S.pre l)(a:ag)(E:S.out l= .ret a)(k:cL (gI X aL br n a6 fn a1 i0 aq Q) K xs own ax (ee d a e))
 (bR:hr e bO=some as:=by rfl) (he:fT as (S.args l):=by exact fT.refl _) (fF:gp as=true:=by rfl) (O:br g=S.spec.K:=by rfl) (cK:S.hp a1:=by exact az):
 cL (gI X aL br n a6 fn a1 i0 aq Q) K (⟨d,.call (.func g) bO,none⟩::xs) own ax e:=tp (Sc aQ O l bR fF he hp cK E) k
def kK{S:PP}(aQ:ly X g S.spec)(l:S.L)(hp:S.pre l)(v:bv)(E:S.out l= .aV v)(sy:fB (gI X aL br n a6 fn a1 i0 aq Q) K (.x<|.aV v) own ax e)
 (bR:hr e bO=some as:=by rfl) (he:fT as (S.args l):=by exact fT.refl _) (fF:gp as=true:=by rfl) (O:br g=S.spec.K:=by rfl) (cK:S.hp a1:=by exact az):
 cL (gI X aL br n a6 fn a1 i0 aq Q) K (⟨d,.call (.func g) bO,none⟩::xs) own ax e:=Se (Sd aQ O l bR fF he hp cK E) j sy
def xe{S:PP}(aQ:ly X g S.spec){d:Tmp}{xs:ac (bj×cn)}{aT:Nat}(l:S.L)(hp:S.pre l)(a:ag)(E:S.out l= .ret a)
 (k:dx (gI X aL br n a6 fn a1 i0 aq Q) K xs a9 (jb d aX) (aT+1) ax own ax ((d,a)::e))
 (bR:hr e bO=some as:=by rfl) (he:fT as (S.args l):=by exact fT.refl _) (fF:gp as=true:=by rfl) (O:br g=S.spec.K:=by rfl) (cK:S.hp a1:=by exact az):
 dx (gI X aL br n a6 fn a1 i0 aq Q) K ((⟨some d,.call (.func g) bO,none⟩,.dI)::xs) a9 aX aT bU own ax e:=
 FP (Sc aQ O l bR fF he hp cK E) j aqh k
def xf{S:PP}(aQ:ly X g S.spec){d:Tmp}{xs bo:ac (bj×cn)}{aT m:Nat}{ms:ac Nat}(l:S.L)(hp:S.pre l)(v:bv)(E:S.out l= .aV v)
 (sy:fB (gI X aL br n a6 fn a1 i0 aq Q) K (.x<|.aV v) own ax e)
 (D:Cm ms (m-(dE xs+1)) (m-dE xs) xs=some bo:=by rfl)
 (bR:hr e bO=some as:=by rfl) (he:fT as (S.args l):=by exact fT.refl _) (fF:gp as=true:=by rfl) (O:br g=S.spec.K:=by rfl) (cK:S.hp a1:=by exact az)
 (bD:dx ⟨cg aL (cw X br)<|n+1,a6,fn,a1,i0,aq,Sh⟩ [] bo a9 (jb d aX) (aT+1) ax own ax ((d,.bc [])::e):=by(repeat refine fE j ?_);exact bn j):
 dx (gI X aL br n a6 fn a1 i0 aq Q) (.w1 ms m::K) ((⟨some d,.call (.func g) bO,none⟩,.dI)::xs) a9 aX aT bU own ax e:=
 afy (Sd aQ O l bR fF he hp cK E) j D bD sy
end
def xg(cu t:Nat):cX:=⟨6,[.cell 2 false 1],.seq (.gg [⟨some 2,.alloc [.int .i64 0] t,none⟩])<|.seq (.gg [⟨some 3,.rU (.func cu) [] [.tmp 2],none⟩,⟨none,.pJ (.tmp 3) [],none⟩])<|.seq (.gg [⟨some 4,.jF<|.tmp 0,none⟩,⟨some 5,.call (.tmp 4) [],none⟩])<|.seq (.gg [⟨none,.store 1 (.tmp 2)<|.const<|.int .i64 0,none⟩]) .ret⟩
def xh(aA:Nat):cX:=⟨12,[],.seq (.gg [⟨some 4,.um,none⟩])<|.block 0<|.seq (.gg [⟨some 6,.eqv false .D1 (.tmp 4)<|.const .nilIface,none⟩])<|.cond (.tmp 6) (.gg [⟨some 1,.jF<|.tmp 4,none⟩])<|.seq (.gg [⟨some 7,.D6 aA (.agg #[.int .i64 0]) true<|.tmp 4,none⟩,⟨some 8,.rW (.tmp 7) 1,none⟩,⟨some 9,.rW (.tmp 7) 0,none⟩])<|.cond (.tmp 8) (.seq (.gg [⟨some 2,.alloc [.int .i64 0] aA,none⟩,⟨none,.store 1 (.tmp 2)<|.tmp 9,none⟩])<|.gg [⟨some 10,.qD 0<|.tmp 2,none⟩,⟨some 11,.iv<|.tmp 10,none⟩,⟨none,.store 1 (.tmp 0)<|.tmp 11,none⟩])<|.seq (.gg [⟨some 3,.jF<|.tmp 4,none⟩])<|.gg [⟨some 5,.jF<|.tmp 3,none⟩,⟨none,.n9<|.tmp 5,none⟩]⟩
section
variable{call:bN}{o:aK}{st:ak}
variable{el:co}{x:ce}
def Si{z:ac bv}:bw call (.alloc z el) o st= .ok (.pointer<|some ⟨st.ae,0,none⟩) o ⟨st.h.set st.ae<|.cells z el (0,0) false,st.ae+1⟩:=by
 show st.iD (.cells z el (0,0) false) (λid st=>a2.ok (.pointer<|some ⟨id,0,none⟩) o st)=_;rw[gj]
def Lp{y:ce}{id:Nat}{hy:bv}(h:o.ar x= .pointer (some ⟨id,0,none⟩))(S:hW (o.ar y)=[v])(hp:hi [v]=true)(E:st.h.get id=some (.cells [hy] el (0,0) false)):
 bw call (.store 1 x y) o st= .ok undef o ⟨st.h.set id<|.cells [v] el (0,0) false,st.ae⟩:=by
 have:bw call (.store 1 x y) o st=hG (o.ar x) (λp=>bq p (λa=>dL (dE<|hW<|o.ar y) 1 (cond (hi<|hW<|o.ar y) (st.store a (hW<|o.ar y) (λst=>a2.ok undef o st) .no) .no) .no) .no) .no:=rfl;rw[this,h,S,lx,Sym.ed,hp];unfold ak.store ak.fI;rw[E,j6,pU,ja];rfl
def afz{id:Nat}(h:o.ar x= .pointer (some ⟨id,0,none⟩))(E:st.h.get id=some (.cells [v] el (0,0) false)):bw call (.iv x) o st= .ok v o st:=by
 rw[Km,h,lx,Sym.ed];unfold ak.load ak.fI;rw[E];rfl
end
variable{n:Nat}{call:bN}{f t b:Nat}{H:bb}{ids:ac Nat}
def afA{aA:Nat}{st:ak}{c:Int}(ay:st.h.get b=some (.cells [.int .i64 0] t (0,0) false))(aW:b<st.ae):
 iF call n f (xh aA) [.pointer<|some ⟨b,0,none⟩] (some<|.iface aA<|.agg #[.int .i64 c]) st=
  .ret (.tuple #[]) ⟨((st.h.set st.ae<|.cells [.int .i64 0] aA (0,0) false).set st.ae<|.cells [.int .i64 c] aA (0,0) false).set b<|.cells [.int .i64 c] t (0,0) false,st.ae+1⟩ true:=by
 let eg:aK:=⟨lP [.pointer<|some ⟨b,0,none⟩] 0 .nil,[],some<|.iface aA<|.agg #[.int .i64 c],true,none⟩
 let L:=(((eg.put (some 4)<|.iface aA<|.agg #[.int .i64 c]).put (some 6)<|.bool false).put (some 7)<|.tuple #[.agg #[.int .i64 c],.bool true]).put (some 8)<|.bool true
 let e6:=L.put (some 9)<|.agg #[.int .i64 c]
 have S:db call n f (xh aA).body ⟨lP [.pointer<|some ⟨b,0,none⟩] 0 .nil,[],some<|.iface aA<|.agg #[.int .i64 c],false,none⟩ st=
  pP 0 (A5 (e6.ar<|.tmp 8) (kz (gh call [⟨some 2,.alloc [.int .i64 0] aA,none⟩,⟨none,.store 1 (.tmp 2)<|.tmp 9,none⟩] e6 st)<|db call n f<|.gg [⟨some 10,.qD 0<|.tmp 2,none⟩,⟨some 11,.iv<|.tmp 10,none⟩,⟨none,.store 1 (.tmp 0)<|.tmp 11,none⟩])<|db call n f (.seq (.gg [⟨some 3,.jF<|.tmp 4,none⟩])<|.gg [⟨some 5,.jF<|.tmp 3,none⟩,⟨none,.n9<|.tmp 5,none⟩]) e6 st):=by
  show pP 0 (kz (sn (dL aA aA (a2.ok (.tuple #[.agg #[.int .i64 c],.bool true]) ((eg.put (some 4)<|.iface aA<|.agg #[.int .i64 c]).put (some 6)<|.bool false) st)<|a2.ok (.tuple #[.agg #[.int .i64 0],.bool false]) ((eg.put (some 4)<|.iface aA<|.agg #[.int .i64 c]).put (some 6)<|.bool false) st) (λv o st=>gh call [⟨some 8,.rW (.tmp 7) 1,none⟩,⟨some 9,.rW (.tmp 7) 0,none⟩] (o.put (some 7) v) st) λv st=>.no) _)=_;rw[(ij j _ _)];rfl
 have D:gh call [⟨some 2,.alloc [.int .i64 0] aA,none⟩,⟨none,.store 1 (.tmp 2)<|.tmp 9,none⟩] e6 st= .out .norm (e6.put (some 2)<|.pointer<|some ⟨st.ae,0,none⟩) ⟨(st.h.set st.ae<|.cells [.int .i64 0] aA (0,0) false).set st.ae<|.cells [.int .i64 c] aA (0,0) false,st.ae+1⟩:=by
  rw[tj,Si,wW,tj,Lp j j j<|ao.mm _ _ _];rfl
 have q:b≠st.ae:=R
 have C:gh call [⟨some 10,.qD 0<|.tmp 2,none⟩,⟨some 11,.iv<|.tmp 10,none⟩,⟨none,.store 1 (.tmp 0)<|.tmp 11,none⟩] (e6.put (some 2)<|.pointer<|some ⟨st.ae,0,none⟩) ⟨(st.h.set st.ae<|.cells [.int .i64 0] aA (0,0) false).set st.ae<|.cells [.int .i64 c] aA (0,0) false,st.ae+1⟩=
  .out .norm (((e6.put (some 2)<|.pointer<|some ⟨st.ae,0,none⟩).put (some 10)<|.pointer<|some ⟨st.ae,0,none⟩).put (some 11)<|.int .i64 c) ⟨((st.h.set st.ae<|.cells [.int .i64 0] aA (0,0) false).set st.ae<|.cells [.int .i64 c] aA (0,0) false).set b<|.cells [.int .i64 c] t (0,0) false,st.ae+1⟩:=by
  show gh call [⟨some 11,.iv<|.tmp 10,none⟩,⟨none,.store 1 (.tmp 0)<|.tmp 11,none⟩] ((e6.put (some 2)<|.pointer<|some ⟨st.ae,0,none⟩).put (some 10)<|.pointer<|some ⟨st.ae,0,none⟩) _=_;rw[tj,afz j<|ao.mm _ _ _,wW,tj,Lp j j j (by
   rw[ao.fk _ _ q,ao.fk _ _ q];exact ay),wW]
  rfl
 have jt:iF call n f (xh aA) [.pointer<|some ⟨b,0,none⟩] (some<|.iface aA<|.agg #[.int .i64 c]) st=cN.rec (λe o st=>c6.rec (fJ call [] none o st) (λ_=>.no) (fJ call [] none o st) (λv=>fJ call [] (some v) o st) e) .no (db call n f (xh aA).body ⟨lP [.pointer<|some ⟨b,0,none⟩] 0 .nil,[],some<|.iface aA<|.agg #[.int .i64 c],false,none⟩ st):=rfl;have A:A5 (e6.ar<|.tmp 8) (kz (gh call [⟨some 2,.alloc [.int .i64 0] aA,none⟩,⟨none,.store 1 (.tmp 2)<|.tmp 9,none⟩] e6 st)<|db call n f<|.gg [⟨some 10,.qD 0<|.tmp 2,none⟩,⟨some 11,.iv<|.tmp 10,none⟩,⟨none,.store 1 (.tmp 0)<|.tmp 11,none⟩]) (db call n f (.seq (.gg [⟨some 3,.jF<|.tmp 4,none⟩])<|.gg [⟨some 5,.jF<|.tmp 3,none⟩,⟨none,.n9<|.tmp 5,none⟩]) e6 st)=kz (gh call [⟨some 2,.alloc [.int .i64 0] aA,none⟩,⟨none,.store 1 (.tmp 2)<|.tmp 9,none⟩] e6 st) (db call n f<|.gg [⟨some 10,.qD 0<|.tmp 2,none⟩,⟨some 11,.iv<|.tmp 10,none⟩,⟨none,.store 1 (.tmp 0)<|.tmp 11,none⟩]):=rfl;rw[jt,S,A,D,Sym.BD,Q0,C];rfl
def Sj{st:ak}{own:ac aZ}(Z:Fit H ids st own n)(U:bx):Fit H ids ⟨st.h.set st.ae U,st.ae+1⟩ own n:=by
 refine⟨λi af=>?_,λb W C=>?_,Z.cZ,Z.len,Z.cY,λb C=>ya<|Z.lt b C,λk W b N C=>?_⟩
 .have af:st.ae+1<=i:=af;rw[ao.fk _ _ R];exact Z.wf i R
 .show(ao.set st.h st.ae U).get b=_;have:=Z.aW C;rw[ao.fk _ _ R];exact Z.le b W C
 .have aW:=Z.lt b<|hh C;rw[ao.fk _ _ R];exact Z.own k W b N C
theorem Lq{st:ak}{own:ac aZ}(Z:Fit H ids st own n)(ay:b∉ids)(T:H b=none)(aW:b<st.ae)(U:bx):Fit H ids ⟨st.h.set b U,st.ae⟩ own n:=by
 refine⟨λi af=>?_,λV W Y=>?_,Z.cZ,Z.len,Z.cY,Z.lt,λk W V N Y=>?_⟩
 .have af:st.ae<=i:=af;rw[ao.fk _ _ R];exact Z.wf i af
 .show(ao.set st.h b U).get V=_;rw[ao.fk _ _ λe=>by rw[e,T]at Y;cases Y];exact Z.le V W Y
 .show ov H ids W ((ao.set st.h b U).get V)/\_;rw[ao.fk _ _ λe=>ay apt];exact Z.own k W V N Y
def afB{cu:Nat}{G:bv}{st:ak}:∃o:aK,o.dd=[{target:=.fn (.func cu) #[.pointer (some ⟨st.ae,0,none⟩)],args:= #[]}]/\o.cQ=false/\o.tmp 2= .pointer (some ⟨st.ae,0,none⟩)/\
 db call n f (xg cu t).body (eg [G]) st=kz (sn (l0 (call G [] none ⟨st.h.set st.ae<|.cells [.int .i64 0] t (0,0) false,st.ae+1⟩) (λv st=>.ok v o st) λv st=>.aV v st) (λv o st=>.out .norm (o.put (some 5) v) st) λv st=>.out (.aV v) o st) (db call n f<|.seq (.gg [⟨none,.store 1 (.tmp 2)<|.const<|.int .i64 0,none⟩]) .ret):=by
 refine⟨(aK.mk ((((eg [G]).put (some 2)<|.pointer<|some ⟨st.ae,0,none⟩).put (some 3)<|.func (.func cu) #[] #[.pointer (some ⟨st.ae,0,none⟩)]).t) [{target:=.fn (.func cu) #[.pointer (some ⟨st.ae,0,none⟩)],args:= #[]}] none false none).put (some 4) G,j,j,j,?_⟩;have e:db call n f (xg cu t).body (eg [G]) st=kz (gh call [⟨some 2,.alloc [.int .i64 0] t,none⟩] (eg [G]) st) (db call n f<|.seq (.gg [⟨some 3,.rU (.func cu) [] [.tmp 2],none⟩,⟨none,.pJ (.tmp 3) [],none⟩])<|.seq (.gg [⟨some 4,.jF<|.tmp 0,none⟩,⟨some 5,.call (.tmp 4) [],none⟩])<|.seq (.gg [⟨none,.store 1 (.tmp 2)<|.const<|.int .i64 0,none⟩]) .ret):=rfl;rw[e,tj,Si];rfl
section
variable{X:Ctx}{aL:ao cX}{br:d7->dV}{a6 n:Nat}{fn:d7}{a1:bb}{i0:ac Nat}{aq:ak}{Q:c6->cb->Prop}{K:ac dA}{own:ac aZ}{ax:Nat}{e:bP}
def afC(an:eR)(K:ac dA)(xs:ac bj)(d:be Tmp)(e:bP)(aA:Nat)(x:c6)(s:cb):Prop:=
 ((x= .norm\/x= .ret)/\cL an K xs s.own s.n (ee d (.i .i64 0) e))\/∃c:Int,x= .aV (.iface aA<|.agg #[.int .i64 c])/\cL an K xs s.own s.n (ee d (.i .i64 c) e)
variable{g cu:d7}{x:ce}{q9:ac ag}{d:be Tmp}{xs:ac bj}
theorem afD{N:Nat}(b':N=n+3){f:d7}{aA:Nat}(a4:cX)(O:aL.get f=some a4)(aY:aL.get g=some (xg cu t))(ai:aL.get cu=some (xh aA))
 (k:∀H ids st cs,ids.length=own.length->cH a1 H->Fit H ids st own ax->cG H q9 ids cs->∃(L:ak) (bA:bb) (V:ac Nat) (s:cb),cW H ids st bA V L/\Fit bA V L s.own s.n/\
  ((iF (cg aL (cw X br)<|n+1) (n+1) f a4 cs none st= .ret (.tuple #[]) L false/\cL ⟨cg aL (cw X br) N,a6,fn,a1,i0,aq,Q⟩ K xs s.own s.n (ee d (.i .i64 0) e))\/
    ∃c:Int,iF (cg aL (cw X br)<|n+1) (n+1) f a4 cs none st= .aV (.iface aA<|.agg #[.int .i64 c]) L false/\cL ⟨cg aL (cw X br) N,a6,fn,a1,i0,aq,Q⟩ K xs s.own s.n (ee d (.i .i64 c) e)))
 (ba:a5 e x=some (.fn (.func f) [] q9):=by rfl) (a8:br f=dV.no:=by rfl) (aS:br g=dV.no:=by rfl) (aO:br cu=dV.no:=by rfl):
 cL ⟨cg aL (cw X br) N,a6,fn,a1,i0,aq,Q⟩ K (⟨d,.call (.func g) [x],none⟩::xs) own ax e:=by
 subst b';intro H ids st o F Z D;obtain⟨bS,cs,S,aN,Y⟩:=D.ar ba;cases aN;obtain⟨L,bA,V,s,a',aa,cD⟩:=k H ids _ cs (Z.len.trans Z.cZ.symm) F.hle (Sj Z<|.cells [.int .i64 0] t (0,0) false) Y;have af:st.ae∉ids:=λh=>by have:=Z.lt _ h;omega
 have T:bA st.ae=none:=by
  rw[a'.hold st.ae (yb _) af];cases cK:H st.ae with
  |none=>rfl
  |some U=>have:=Z.aW cK;omega
 have aE:st.ae∉V:=λh=>by
  rcases a'.new _ h with h|h
  .exact af h
  .have h:st.ae+1<=st.ae:=h;omega
 have E:L.h.get st.ae=some (.cells [.int .i64 0] t (0,0) false):=by
  rw[a'.eK st.ae (yb _) af];exact ao.mm _ _ _
 have ag:st.ae<L.ae:=a'.ae;have fin:∀(c:Int) M,Fit bA V M s.own s.n->L.ae<=M.ae->(∀b,b<L.ae->b≠st.ae->M.h.get b=L.h.get b)->
  bw (cg aL (cw X br)<|n+3) (.call (.func g) [x]) o st= .ok (.int .i64 c) o M->cL ⟨cg aL (cw X br)<|n+3,a6,fn,a1,i0,aq,Q⟩ K xs s.own s.n (ee d (.i .i64 c) e)->
  W (gh (cg aL (cw X br)<|n+3) (⟨d,.call (.func g) [x],none⟩::xs) o st) (q2 ⟨cg aL (cw X br)<|n+3,a6,fn,a1,i0,aq,Q⟩<|Sem ⟨cg aL (cw X br)<|n+3,a6,fn,a1,i0,aq,Q⟩ K):=λc M ah C aw q aQ=>by
  have bc:cW H ids st bA V M:=by
   refine⟨a'.hle,λb ay aj=>a'.hold b (ya ay) aj,λb ay aj=>?_,R,a'.jx,λb ay=>?_⟩
   .rw[aw b R R,a'.eK b (ya ay) aj];exact ao.fk _ _ R
   .rcases a'.new b ay with h|h
    .exact .inl h
    .grind
  exact p6 q<|aQ bA V M _ (F.trans bc) ah<|(D.mono a'.hle a'.jx).ee d j
 have av:bw (cg aL (cw X br)<|n+3) (.call (.func g) [x]) o st=l0 (iF (cg aL (cw X br)<|n+2) (n+2) g (xg cu t) [o.ar x] none st) (λv st=>.ok v o st) .aV:=by
  show l0 (cg aL (cw X br) (n+3) (.func (.func g) #[] #[]) (dQ o [x]) none st) _ _=_;rw[o4];have aX:fr (#[]:bi bv).toList (fr (dQ o [x]) (#[]:bi bv).toList)=[o.ar x]:=by simp[adt,ads]
  rw[aX,Ck aS,Sym.hL,Sym.hL,aY,Sym.ed]
 obtain⟨aH,aK,I,aU,aG⟩:=afB;have al:iF (cg aL (cw X br)<|n+2) (n+2) g (xg cu t) [o.ar x] none st=cN.rec (λe o st=>c6.rec (fJ (cg aL (cw X br)<|n+2) [.cell 2 false 1] none o st) (λ_=>.no) (fJ (cg aL (cw X br)<|n+2) [.cell 2 false 1] none o st) (λv=>fJ (cg aL (cw X br)<|n+2) [.cell 2 false 1] (some v) o st) e) .no (db (cg aL (cw X br)<|n+2) (n+2) g (xg cu t).body (eg [o.ar x]) st):=rfl;have aD:∀r,iF (cg aL (cw X br)<|n+1) (n+1) f a4 cs none ⟨st.h.set st.ae<|.cells [.int .i64 0] t (0,0) false,st.ae+1⟩=r->cg aL (cw X br) (n+2) (o.ar x) [] none ⟨st.h.set st.ae<|.cells [.int .i64 0] t (0,0) false,st.ae+1⟩=r:=λr h=>by
  rw[S,o4];have aX:fr (#[]:bi bv).toList (fr ([]:ac bv) (⟨cs⟩:bi bv).toList)=cs:=au
  rw[aX,Ck a8,Sym.hL,Sym.hL,O,Sym.ed,h]
 have az:∀(b:Nat) m st,cg aL (cw X br) (n+2) (.func (.func cu) #[] #[.pointer (some ⟨b,0,none⟩)]) [] m st=iF (cg aL (cw X br)<|n+1) (n+1) cu (xh aA) [.pointer<|some ⟨b,0,none⟩] m st:=λb m st=>by
  rw[o4];have aX:fr (#[]:bi bv).toList (fr ([]:ac bv) (#[.pointer (some ⟨b,0,none⟩)]:bi bv).toList)=[.pointer<|some ⟨b,0,none⟩]:=au
  rw[aX,Ck aO,Sym.hL];cases m with
  |none=>rw[Sym.hL,ai,Sym.ed]
  |some v=>rw[Sym.ed,ai,Sym.ed]
 have G:∀(c:Int) M A,A.tmp 2= .pointer (some ⟨st.ae,0,none⟩)->M.h.get st.ae=some (.cells [.int .i64 c] t (0,0) false)->pQ A M [.cell 2 false 1]=some [.int .i64 c]:=λc M A aC aI=>by
  show hG (A.tmp 2) (λp=>bq p (λcc=>M.load cc 1 (λcs=>cond false (some [.agg ⟨cs⟩])<|one cs (λv=>some [v]) none) none) none) none=_;rw[aC,lx,Sym.ed];unfold ak.load ak.fI;rw[aI];rfl
 rcases cD with⟨aC,aQ⟩|⟨c,aC,aQ⟩
 .have aI:=aD _ aC;refine fin 0 ⟨L.h.set st.ae<|.cells [.int .i64 0] t (0,0) false,L.ae⟩ (Lq aa aE T ag<|.cells [.int .i64 0] t (0,0) false) (c5 _) (λb ay a0=>ao.fk _ _ R) ?_ aQ;rw[av,al,aG,aI,QX,wW,Sym.BD,Fv,Q0,tj,Lp (by rwa [BV,uM]) j j E,wW,adu,Sym.BD];show l0 (fJ (cg aL (cw X br)<|n+2) [.cell 2 false 1] none ((aH.put (some 5)<|.tuple #[]).put none undef) _) _ _=_;rw[fJ,adp,adq,aK,adr];simp[jJ];rw[az];show l0 (bq (pQ _ _ _) _ _) _ _=_;rw[G 0 _ _ (by rwa [uM])<|ao.mm _ _ _];rfl
 .have aI:=aD _ aC;have ah:=Lq (Lq (Sj aa<|.cells [.int .i64 0] aA (0,0) false) (λh=>by have:=aa.lt _ h;omega) (by
   cases cK:bA L.ae with
   |none=>rfl
   |some U=>have:=aa.aW cK;omega) (yb _)<|.cells [.int .i64 c] aA (0,0) false) aE T (ya ag)<|.cells [.int .i64 c] t (0,0) false
  refine fin c _ ah (kW _) (λb ay a0=>?_) ?_ aQ
  .show(ao.set (ao.set (ao.set L.h L.ae _) L.ae _) st.ae _).get b=_;rw[ao.fk _ _ R,ao.fk _ _ R,ao.fk _ _ R]
  rw[av,al,aG,aI,QY];show l0 (fJ (cg aL (cw X br)<|n+2) [.cell 2 false 1] (some _) aH L) _ _=_;rw[fJ,aK];simp[jJ];rw[az,afA E ag];show l0 (bq (pQ _ _ _) _ _) _ _=_;rw[G c _ _ aU<|ao.mm _ _ _];rfl
def afE{N:Nat}(af:N=n+3){f:d7}{aA:Nat}(a4:cX)(O:aL.get f=some a4)(a':aL.get g=some (xg cu t))(M:aL.get cu=some (xh aA))
 (k:∀H1 S ai,S.length=own.length->cH a1 H1->fB ⟨cg aL (cw X br)<|n+1,n+1,f,H1,S,ai,afC ⟨cg aL (cw X br) N,a6,fn,a1,i0,aq,Q⟩ K xs d e aA⟩ [] (.c a4.body) own ax (iT 0 q9))
 (ah:a5 e x=some (.fn (.func f) [] q9):=by rfl) (I:a4.res=[]:=by rfl) (aB:q9.length<=a4.aN:=by exact ib j) (aa:br f=dV.no:=by rfl) (T:br g=dV.no:=by rfl) (D:br cu=dV.no:=by rfl):
 cL ⟨cg aL (cw X br) N,a6,fn,a1,i0,aq,Q⟩ K (⟨d,.call (.func g) [x],none⟩::xs) own ax e:=
 afD af a4 O a' M (λH ids st cs G hle Z Y=>by
  have⟨ag,e6,L,q,bA,V,s,R,ae,A,E⟩:=k H ids st G hle H ids st (eg cs) aqd Z<|cS.zero Y;have C:iF (cg aL (cw X br)<|n+1) (n+1) f a4 cs none st=cN.rec (λe o st=>c6.rec (fJ (cg aL (cw X br)<|n+1) [] none o st) (λ_=>.no) (fJ (cg aL (cw X br)<|n+1) [] none o st) (λv=>fJ (cg aL (cw X br)<|n+1) [] (some v) o st) e) .no (.out ag e6 L):=by
   rw[<-q];rw[iF,lR,aD<|by rw[e4,gq Y];exact aB,I];rfl
  have F:fJ (cg aL (cw X br)<|n+1) [] none e6 L= .ret (.tuple #[]) L false:=by
   rw[fJ,A.pl.dd,A.pl.cQ];rfl
  refine⟨L,bA,V,s,R,ae,?_⟩;rw[C];obtain⟨h,W⟩|⟨c,rfl,W⟩:=E
  .refine .inl ⟨?_,W⟩;obtain rfl|rfl:=h
   .exact F
   .exact F
  .exact .inr ⟨c,F6 A.pl,W⟩) ah aa T D
end
section
variable{an:eR}{K:ac dA}{own:ac aZ}{ax:Nat}{e:bP}{d:Tmp}{xs:ac bj}{x y:ce}
variable{α:Type}{bW c4:Nat}{el:co}{l:ac α}
def afF{z:Nat}{ah:α->ac ag}{neg:Bool}(bJ:cL an K xs own ax ((d,.b neg)::e))(E:l=[]->cL an K xs own ax ((d,.b<|!neg)::e))(O:a5 e x=some (.cd z α ah l):=by rfl)(T:a5 e y=some .nl:=by rfl):
 gY an K d (.eqv neg .mi x y) xs own ax e:=λH ids st o F Z D=>by
 have G:=D.ar T;have A:=D.ar O;have aX:bw an.call (.eqv neg .mi x y) o st=bq (r1 (o.ar x)<|o.ar y) (λb=>.ok (.bool<|cond neg (!b) b) o st) .no:=rfl;rcases A with⟨aj,Y⟩|⟨aj,Y⟩|⟨b,U,c,ab,el,I,aR,Y,_⟩
 .have S:bw an.call (.eqv neg .mi x y) o st= .ok (.bool neg) o st:=by
   rw[aX,Y,G];cases neg<;>rfl
  exact ari
 .have S:bw an.call (.eqv neg .mi x y) o st= .ok (.bool<|!neg) o st:=by
   rw[aX,Y,G];cases neg<;>rfl
  exact atB
 .have S:bw an.call (.eqv neg .mi x y) o st= .ok (.bool neg) o st:=by
   rw[aX,Y,G];cases neg<;>rfl
  exact ari
def Sk{ah:α->ac ag}(T:a5 s.env y=some (.cd bW α ah [])):q4 call el c4 s y ah bW ([]:ac α):=λH ids st o Z D x p n c O=>by
 have e:bw call (.app el bW c4 x y) o st=hY (o.ar x) (λbase len L=>hY (o.ar y) (λb n _=>bq b (λb=>st.load b (Nat.mul n bW) (λnew=>cond (hi new) (iO o st el bW c4 base len L n new) .no) .no)<|dL n 0 (iO o st el bW c4 base len L 0 []) .no)<|r0 (o.ar y) (iO o st el bW c4 base len L 0 [])<|hX (o.ar y) (λs=>dL bW 1 (iO o st el bW c4 base len L (dE s.data.toList)<|nu s.data.toList) .no) .no) .no:=rfl;have A:=D.ar T;refine⟨[],w7 _ _ _ _,j,?_⟩;rw[e,O,p5];rcases A with⟨_,Y⟩|⟨_,Y⟩|⟨b,U,E,ab,N,I,aR,Y,_,G,_⟩
 .have S:∀(k:be Addr->Nat->Nat->a2) z,hY (.chan none) k z=z:=λ_ _=>j;have q:∀a z:a2,r0 (.chan none) a z=a:=λ_ _=>j;simp only[Y,S,q];rfl
 .rw[Y,p5,Sym.hL,ij j];rfl
 .rw[Y];show st.load ⟨b,U,none⟩ (0*bW) _ _=_;unfold ak.load ak.fI;rw[Sym.hL,Z.le _ _ G,j6,hF,q0<|c8 _,DE];have h:∀a z:a2,cond (hi []) a z=a:=λ_ _=>j;simp[h]
def afG{a8 c:Nat}{aR:Bool}{ah:α->ac ag}(k:cL an K xs own ax ((d,.aH a8 bW 0 n c)::e))(T:a5 e y=some (.cd bW α ah []):=by rfl)(O:a5 e x=some (.aH a8 bW 0 n c):=by rfl)(aw:own[a8]? =some (.a el aR bW α ah l):=by rfl)
 (m9:n<=c:=by omega) (aQ:c<=l.length:=by first|omega|(simp;done)|(simp;omega)) (ay:(5*n+1792)*(c4+1)<=1125899906842624:=by omega):gY an K d (.app el bW c4 x y) xs own ax e:=e0 (RV O aw (Sk T) m9 aQ ay) k
end
section
variable{an:eR}{K:ac dA}{own bg a9:ac aZ}{ax aT bU:Nat}{e aX:bP}{d:Tmp}{xs:ac (bj×cn)}{x y:ce}
variable{α:Type}{cF bW c4:Nat}{el:co}{l:ac α}
def F7{back:Nat}{aA:ac Tmp}{z J:Nat}{ah:α->ac ag}(q:α){bD:f6}{i:ce}(ba:l[J]? =some q)(k:dx an K xs a9 (jb d aX) aT bU own ax ((d,.ip<|ah q)::e))(O:a5 (dZ aA e) x=some (.b6 z α ah l):=by rfl)(af:a5 (dZ aA e) i=some (.i bD (J:Int)):=by rfl)(ay:back<aT:=by decide):dx an K ((⟨some d,.iC z x i,none⟩,.read back aA)::xs) a9 aX aT bU own ax e:=
 Ru (d:=some d) (s:=⟨own,ax,e⟩) ay (λH ids o D=>RQ D O af ba) k
def Lr(ah:α->ac ag)(m:ac α)(M:ox ⟨own,ax,e⟩ y ah bW m)(bD:dx an K xs a9 (jb d aX) (aT+1) cF bg cF ((d,.aH ax bW 0 m.length m.length)::e))(O:a5 e x=some .nl:=by rfl)
 (E:my own (.a el true bW α ah m) some=some bg:=by rfl) (F:mz ax some=some cF:=by rfl) (bX:m≠[]:=by first|rfl|simp) (ay:(5*m.length+1792)*(c4+1)<=1125899906842624:=by first|omega|(simp;done)|(simp;omega)):
 dx an K ((⟨some d,.app el bW c4 x y,none⟩,.dI)::xs) a9 aX aT bU own ax e:=by
 have Y:=m7 E;have G:=nC F;cases Y;cases G;refine w5 (K6 O (ss M) bX ay) j (λJ W V _=>⟨V,λhm=>?_⟩) bD;have:gr e (.app el bW c4 x y)=none:=by
  unfold gr;dsimp only;rw[O]
 rw[this]at hm;cases hm
def Ls{a8 c:Nat}{ah:α->ac ag}{gH Z:ac aZ}(m:ac α)(M:ox ⟨own,ax,e⟩ y ah bW m)(bD:dx an K xs Z (jb d aX) (aT+1) cF bg cF ((d,.aH ax bW 0 (n+m.length)<|n+m.length)::e))(O:a5 e x=some (.aH a8 bW 0 n c):=by rfl)(aw:own[a8]? =some (.a el true bW α ah l):=by rfl)
 (D:g9 own a8 .x some=some gH:=by rfl) (E:my gH (.a el true bW α ah<|l++m) some=some bg:=by rfl) (F:mz ax some=some cF:=by rfl) (T:Z=a9.set a8 .x:=by rfl) (bX:m≠[]:=by first|rfl|simp) (aj:n=l.length:=by first|omega|(simp;done)|(simp;omega)) (m9:n=c:=by omega) (ay:(5*(n+m.length)+1792)*(c4+1)<=1125899906842624:=by first|omega|(simp;done)|(simp;omega)):
 dx an K ((⟨some d,.app el bW c4 x y,none⟩,.dI)::xs) a9 aX aT bU own ax e:=by
 have S:=h4 D;cases S;have Y:=m7 E;have h:=nC F;cases Y;cases h;subst T;have:=K7 (call:=an.call) O aw (ss M) bX R R R ay;rw[aj,mS]at this;rw[aj]at bD;refine w5 this au (λJ W V q=>?_) bD;have N:J≠a8:=λG=>by
  subst G;rw[oT,aD j]at V;split at V
  .cases V;cases q
  .cases V
 rw[nq λG=>N G.symm]at V;refine⟨V,λhm=>?_⟩;have:gr e (.app el bW c4 x y)=some a8:=by
  unfold gr;dsimp only;rw[O]
 rw[this]at hm;cases hm;exact N j
end
section
variable{X:Ctx}{aL:ao cX}{br:d7->dV}{a6 n:Nat}{fn:d7}{a1:bb}{i0:ac Nat}{aq:ak}{Q:c6->cb->Prop}{K:ac dA}{own:ac aZ}{ax:Nat}{e:bP}
def oz{g:d7}{S:df}(aQ:et X g S.spec){f:ce}{bO:ac ce}{as bS cs:ac ag}{d:Tmp}{xs:ac (bj×cn)}{a9:ac aZ}{aX:bP}{aT bU:Nat}(l:S.L)(hp:S.pre l)(k:dx (gI X aL br n a6 fn a1 i0 aq Q) K xs a9 (jb d aX) (aT+1) ax own ax ((d,S.res l)::e))
 (D:a5 e f=some (.fn (.func g) bS cs):=by rfl) (bR:hr e bO=some as:=by rfl) (he:fT (bS++(as++cs)) (S.args l):=by exact fT.refl _) (fF:gp (bS++(as++cs))=true:=by rfl) (O:br g=S.spec.K:=by rfl) (cK:S.hp a1:=by exact az):
 dx (gI X aL br n a6 fn a1 i0 aq Q) K ((⟨some d,.call f bO,none⟩,.dI)::xs) a9 aX aT bU own ax e:=
 FP (d:=some d) (s:=⟨own,ax,e⟩) (R6 aQ O l D bR fF he hp cK) j aqh k
end
structure uX(l:Nat)(mA:d7)(nI:ao bv)(a7:ac Tmp)(ec body:du)(pg:Nat)(ts:bP)(a1:bb)(i0:ac Nat)(aq:ak):Prop where
 get:aq.h.get l=some (.loop .ready none mA nI a7 ec body pg)
 lt:l<aq.ae
 ti:l∉i0
 aj:a1 l=none
 env:cS ⟨nI,[],none,false,some l⟩ a1 i0 ts
def uX.up{l:Nat}{mA:d7}{nI:ao bv}{a7:ac Tmp}{ec body:du}{pg:Nat}{ts:bP}{a1 H1:bb}{i0 S:ac Nat}{aq G:ak}(h:uX l mA nI a7 ec body pg ts a1 i0 aq)(F:cW a1 i0 aq H1 S G):uX l mA nI a7 ec body pg ts H1 S G:=
 ⟨(F.eK l h.lt h.ti).trans h.get,e2 h.lt F.ae,λhm=>(F.new l hm).elim h.ti λg=>absurd h.lt<|DF.2 g,(F.hold l h.lt h.ti).trans h.aj,h.env.mono F.hle F.jx⟩
section
variable{X:Ctx}{aL:ao cX}{br:d7->dV}{a6 n:Nat}{fn:d7}{a1:bb}{i0:ac Nat}{aq:ak}{Q:c6->cb->Prop}{K:ac dA}{own:ac aZ}{ax:Nat}{e:bP}
variable{l pg:Nat}{mA:d7}{nI:ao bv}{a7:ac Tmp}{ec body:du}{ts:bP}
def afH{jt:bP}{y:ce}{bO:ac ce}{as:ac ag}{d:be Tmp}{xs:ac bj}(aC:uX l mA nI a7 ec body pg ts a1 i0 aq)
 (aE:∀H1 S G,fB ⟨cg aL (cw X br)<|n+1,n+1,mA,H1,S,G,λx s=>x= .norm/\s=⟨own,ax,jt⟩⟩ [] (.c ec) own ax<|Lj a7 as ts)
 (az:∀H1 S G,S.length=own.length->cH a1 H1->fB ⟨cg aL (cw X br)<|n+1,n+1,mA,H1,S,G,λx s=>x= .norm/\bM.ok ⟨cg aL (cw X br)<|n+2,a6,fn,a1,i0,aq,Q⟩ ⟨K,.U xs,⟨s.own,s.n,ee d (.b true) e⟩⟩⟩ [] (.c body) own ax jt)
 (T:a5 e y=some (.v<|.func (.yield l) #[] #[]):=by rfl) (bR:hr e bO=some as:=by rfl) (aD:as.length=a7.length:=by rfl):
 cL ⟨cg aL (cw X br)<|n+2,a6,fn,a1,i0,aq,Q⟩ K (⟨d,.call y bO,none⟩::xs) own ax e:=by
 intro H ids st o F Z D;have bZ:=D.dQ bR;have N:=D.ar T;have C:=aC.up F;obtain⟨aJ,e6,b8,cu,H1,aI,G,E,L,Y,rfl,rfl⟩:=aE H ids st H ids st ⟨oZ a7 (dQ o bO) nI,[],none,false,some l⟩ (cW.refl _ _ _) Z<|C.env.par bZ;cases E.jx.eq (Z.len.trans L.len.symm);have R:=C.up E;obtain⟨aH,A,M,a0,a',aa,aG,V,ak,au,rfl,aw⟩:=az H1 ids ⟨b8.h.set l<|.loop .busy none mA nI a7 ec body pg,b8.ae⟩ (L.len.trans L.cZ.symm) (F.hle.trans E.hle) H1 ids _ e6 (cW.refl _ _ _) (L.other R.lt R.ti R.aj<|.loop .busy none mA nI a7 ec body pg) Y;have al:=(V.eK l R.lt R.ti).trans<|ao.mm _ _ _;have ai:=(V.hold l R.lt R.ti).trans R.aj;have I:=e2 R.lt V.ae;have ah:=ak.other I (λhm=>(V.new l hm).elim R.ti λg=>absurd R.lt<|DF.2 g) ai<|.loop .ready none mA nI a7 ec body pg;have O:cg aL (cw X br) (n+2) (.func (.yield l) #[] #[]) (dQ o bO) none st= .ret (.bool true) ⟨M.h.set l<|.loop .ready none mA nI a7 ec body pg,M.ae⟩ false:=by
  have aX:cg aL (cw X br) (n+2) (.func (.yield l) #[] #[]) (dQ o bO) none st=wy (cg aL (cw X br)<|n+1) (n+1) l (dQ o bO) st:=rfl;rw[aX];rw[wy,C.get];show dL (dE<|dQ o bO) (dE a7) _ _=_;rw[ij<|by rw[e4,e4,gq bZ,aD],cu];show yB (cg aL (cw X br)<|n+1) (n+1) l mA body e6 b8=_;rw[yB,R.get];show(b8.g8 l (.loop .busy none mA nI a7 ec body pg) λst=>qI l<|db (cg aL (cw X br)<|n+1) (n+1) mA body e6 st)=_;rw[ja,a0];exact afh au.pl.dd al
 have hle:=E.hle.trans V.hle;refine p6 ?_ (aw a' aa _ _ (F.trans ?_) ah<|(D.mono hle V.jx).ee d j)
 .rw[zb,N];show l0 (cg aL (cw X br) (n+2) (.func (.yield l) #[] #[]) (dQ o bO) none st) _ _=_;rw[O];rfl
 .have W:=E.ae;refine⟨hle,λb ay af=>(V.hold b (e2 ay W) af).trans<|E.hold b ay af,λb ay af=>?_,ch W V.ae,V.jx,λb ay=>(V.new b ay).imp id λg=>ch W g⟩;by_cases q:b=l
  .subst q;rw[ao.mm];exact C.get.symm
  .rw[ao.fk _ _ q];apply(V.eK b (e2 ay W) af).trans;simpa[ao.fk _ _ q]using E.eK b ay af
def uX.frame{R:bP}{H1:bb}{S:ac Nat}{G:ak}(h:uX l mA nI a7 ec body pg ts a1 i0 aq)(F:cW a1 i0 aq H1 S G)(f:ac Nat)(M:pd f R ts)(D:∀m∈f,m<S.length):uX l mA nI a7 ec body pg R H1 (pick f S) G:=by
 have Y:=h.up F;refine⟨Y.get,Y.lt,λhm=>?_,Y.aj,⟨Y.env.pl,λJ a V=>Ku f a<|Y.env.get J _<|M.get V⟩⟩;obtain⟨k,N⟩:=vS.1 hm;obtain⟨m,_,T⟩:=xa (λi k h=>D k<|hh h) N;exact Y.ti<|hh T
def afI(lz:be bv->ac aZ->Prop)(res:ac gS)(x:c6)(s:cb):Prop:=((x= .norm\/x= .ret)/\(∃r,Fin.kH s res=some r)/\lz none s.own)\/∃v,x= .aV v/\lz (some v) s.own
theorem afJ{st:ak}{o:aK}(aY:o.b4=none)(Z:Fit H ids st own ax)(D:cS o H ids e){f:ce}{g:d7}{a4:cX}{q9:ac ag}(lz:be bv->ac aZ->Prop)(O:aL.get g=some a4)(aU:a5 e f=some (.fn (.func g) [] q9))(aQ:br g=dV.no)(b':q9.length+1<=a4.aN)
 (aD:∀(G:ak) (l:Nat),ids.length=own.length->uX l fn o.t a7 ec body st.ae e H ids G->
  fB ⟨cg aL (cw X br)<|n+2,n+2,g,H,ids,G,afI lz a4.res⟩ [] (.c a4.body) own ax (iT 0<|.v (.func (.yield l) #[] #[])::q9)):
 ∃(U:be bv) (al:ak) (bA:bb) (V:ac Nat) (bg:ac aZ),db (cg aL (cw X br)<|n+3) a6 fn (.uq f a7 ec body) o st= .out (match U with|none=>.norm|some v=>.aV v) ⟨o.t,{target:=.collected st.ae,args:= #[]}::o.dd,o.aV,o.cQ,o.b4⟩ al/\
  cW H ids st bA V al/\Fit bA V al bg bg.length/\lz U bg/\al.h.get st.ae=some (.j1<|some [])/\st.ae<al.ae/\bA st.ae=none/\st.ae∉V:=by
 obtain⟨ab,F,S,aS,N⟩:=D.ar aU;subst aS;have ai:∀b,st.ae<=b->H b=none:=λb C=>by
  cases h:H b with
  |none=>rfl
  |some U=>have:=Z.aW h;omega
 have aE:=(Z.extra<|.j1<|some []).extra<|.loop .ready none fn o.t a7 ec body st.ae;have a':∀b,st.ae<=b->b∉ids:=λb C hm=>by have:=Z.lt _ hm;omega
 generalize T:(⟨(ao.set st.h st.ae<|.j1<|some []).set (st.ae+1)<|.loop .ready none fn o.t a7 ec body st.ae,st.ae+1+1⟩:ak)=G at *;have av:G.h.get (st.ae+1)=some (.loop .ready none fn o.t a7 ec body st.ae):=by rw[<-T];show(ao.set _ (st.ae+1) _).get (st.ae+1)=_;exact ao.mm _ _ _
 have aI:G.h.get st.ae=some (.j1<|some []):=by
  rw[<-T,ao.fk _ _ R,ao.mm]
 have aH:∀b,b<st.ae->G.h.get b=st.h.get b:=λb C=>by
  rw[<-T,ao.fk _ _ R,ao.fk _ _ R]
 have a8:G.ae=st.ae+2:=by rw[<-T]
 have aO:=aD G (st.ae+1) (Z.len.trans Z.cZ.symm) ⟨av,R,a' _<|kW _,ai _<|kW _,⟨sa,D.get⟩⟩;have aC:cG H (.v (.func (.yield<|st.ae+1) #[] #[])::q9) ids (.func (.yield<|st.ae+1) #[] #[]::F):=⟨_,F,j,j,N⟩;have fin:∀(U:be bv) M bA V (s:cb) r,iF (cg aL (cw X br)<|n+2) (n+2) g a4 (.func (.yield<|st.ae+1) #[] #[]::F) none G=r->cW H ids G bA V M->Fit bA V M s.own s.n->lz U s.own->
  (∃v,(U=none/\r= .ret v M false)\/(U=some v/\r= .aV v M false))->∃(U:be bv) (al:ak) (bA:bb) (V:ac Nat) (bg:ac aZ),db (cg aL (cw X br)<|n+3) a6 fn (.uq f a7 ec body) o st= .out (match U with|none=>.norm|some v=>.aV v) ⟨o.t,{target:=.collected st.ae,args:= #[]}::o.dd,o.aV,o.cQ,o.b4⟩ al/\
  cW H ids st bA V al/\Fit bA V al bg bg.length/\lz U bg/\al.h.get st.ae=some (.j1<|some [])/\st.ae<al.ae/\bA st.ae=none/\st.ae∉V:=by
  intro U M bA V s r I L ah hp E;have a3:=L.ae;have ah:Fit bA V M s.own s.own.length:=by rwa [ah.cZ]
  have az:st.ae∉V:=λhm=>(L.new _ hm).elim (a' _<|c5 _) λg=>R
  have a0:=(L.eK _ R<|a' _<|kW _).trans av;have aj:=(L.eK _ R<|a' _<|c5 _).trans aI;have aG:=(L.hold _ R<|a' _<|kW _).trans<|ai _<|kW _;have ay:=(L.hold _ R<|a' _<|c5 _).trans<|ai _<|c5 _;have aw:cW H ids st bA V M:=⟨L.hle,λb C af=>L.hold b R af,λb C af=>(L.eK b R af).trans<|aH b C,R,L.jx,λb C=>(L.new b C).imp id λg=>R⟩;have q:db (cg aL (cw X br)<|n+3) a6 fn (.uq f a7 ec body) o st=OY (st.ae+1) ⟨o.t,{target:=.collected st.ae,args:= #[]}::o.dd,o.aV,o.cQ,o.b4⟩ r:=by
   show A6 (cg aL (cw X br)<|n+3) fn f a7 ec body o st=_;unfold A6;rw[aY,Sym.hL,gj,gj,S,o4];have aX:fr (#[]:bi bv).toList (fr [Value.func (.yield<|st.ae+1) #[] #[]] (⟨F⟩:bi bv).toList)=Value.func (.yield<|st.ae+1) #[] #[]::F:=au
   rw[aX,Ck aQ,Sym.hL,Sym.hL,O,Sym.ed];rw[T,I]
  obtain⟨v,⟨rfl,rfl⟩|⟨rfl,rfl⟩⟩:=E
  .refine⟨none,⟨M.h.set (st.ae+1)<|.loop .exhausted none fn o.t a7 ec body st.ae,M.ae⟩,bA,V,s.own,?_,aw.other R _,ah.other R (λhm=>(L.new _ hm).elim (a' _<|kW _) λg=>R) aG _,hp,?_,by show st.ae<M.ae;omega,ay,az⟩
   .rw[q];show mW (M.h.get<|st.ae+1) _ _=_;rw[a0];show(M.g8 (st.ae+1) (.loop .exhausted none fn o.t a7 ec body st.ae) λal=>bq none (λe=>cN.out e _ al)<|cN.out .norm _ al)=_;rw[ja];rfl
   .show(ao.set M.h (st.ae+1) _).get st.ae=_;rw[ao.fk _ _ R];exact aj
  .exact atr atr
 rcases Fw (lz:=λv al=>∃(bA:bb) (V:ac Nat) (s:cb),cW H ids G bA V al/\Fit bA V al s.own s.n/\lz none s.own)
  (Kr:=λv al=>∃(bA:bb) (V:ac Nat) (s:cb),cW H ids G bA V al/\Fit bA V al s.own s.n/\lz (some v) s.own)
  (by rwa [gq aC]) ((aO H ids G (eg _) (cW.refl _ _ _) aE<|cS.zero aC).mono (by
   rintro x e6 b8 ⟨bA,V,s,aa,W,A,⟨O,⟨r,I⟩,hp⟩|⟨v,rfl,hp⟩⟩
   .obtain⟨v,ba,bc⟩:=sv (call:=cg aL (cw X br)<|n+2) W A I
    grind
   .exact .inr ⟨v,j,F6 A.pl,bA,V,s,aa,W,hp⟩))with⟨v,M,Y,bA,V,s,aa,W,hp⟩|⟨v,M,Y,bA,V,s,aa,W,hp⟩
 .exact fin none M bA V s _ Y aa W hp ⟨v,.inl fe⟩
 .exact fin (some v) M bA V s _ Y aa W hp ⟨v,.inr fe⟩
end
variable{o:aK}{a6:Nat}{ops:ac bj}
def F8:dh->Bool
 |.jF _=>true
 |.alloc _ _=>true
 |.call _ _=>true
 |.iv _=>true
 |_=>false
def afK{a:ce}{st:ak}:bw call (.iv a) o st= .no\/∃v,bw call (.iv a) o st= .ok v o st:=by
 rw[Km];cases o.ar a<;>first|exact .inl j|skip
 rename_i p;cases p with
 |none=>exact .inl j
 |some cc=>
  have⟨b,U,sp⟩:=cc;cases sp with
  |some _=>exact .inl j
  |none=>
   show yz (st.h.get b) _ _=_\/∃v,yz (st.h.get b) _ _=_;cases st.h.get b with
   |none=>exact .inl j
   |some q=>
    cases q<;>first|exact .inl j|skip
    rename_i cs _ _ _;show hK cs U 1 _ _=_\/∃v,hK cs U 1 _ _=_;rw[hK];cases Ea 1 (Eb U cs)with
    |none=>exact .inl j
    |some ab=>
     cases ab with
     |nil=>exact .inl j
     |cons v ab=>
      cases ab with
      |nil=>exact .inr ⟨v,j⟩
      |cons _ _=>exact .inl j
def afL{U:dh}{j:aK}{st al:ak}(E:F8 U=true)(h:bw call U o st= .ok v j al):j=o:=by
 cases U<;>first|cases E|skip
 .cases h;rfl
 .exact apS
 .rename_i a;obtain g|⟨v1,g⟩:=afK
  .rw[g]at h;cases h
  .rw[g]at h;cases h;rfl
 .rename_i f as;rw[zb]at h;cases W:call (o.ar f) (dQ o as) none st with
  |ret v1 b8 R=>rw[W]at h;cases h;rfl
  |_=>rw[W]at h;cases h
theorem Sl{call:bN}:∀{ops:ac bj} {o L:aK} {st al:ak} {e:c6},(ops.all λx=>x.g.isNone&&F8 x.U)=true->gh call ops o st= .out e L al->L.b4=o.b4
 |[],_,_,_,_,_,_,h=>by cases h;rfl
 |⟨d,U,g⟩::ops,o,L,st,al,e,bR,h=>by
  rw[vQ,c1,c1]at bR;obtain⟨⟨O,E⟩,bR⟩:=bR;cases g with
  |some p=>cases O
  |none=>
   have h:sn (bw call U o st) (λv o st=>gh call ops (o.put d v) st) (λv st=>cond U.lp (.out (.aV v) o st) .no)= .out e L al:=h;cases Z:bw call U o st with
   |ok v e6 b8=>
    cases afL E Z;rw[Z]at h;simpa[Sl bR h]using(qJ _ _ _).2.2.2
   |aV v b8=>
    rw[Z,QW]at h
    grind
   |no=>rw[Z]at h;cases h
def afM{fn:d7}{st:ak}(Q:c6->cb->Prop)(hp:(ops.all λx=>x.g.isNone&&F8 x.U)=true)(h:∀H1 S G,S.length=s.own.length->cH H H1->bM.ok ⟨call,a6,fn,H1,S,G,Q⟩ ⟨[],.U ops,s⟩)
 (Z:Fit H ids st s.own s.n) (D:cS o H ids s.env):∃x L al bA V O,db call a6 fn (.gg ops) o st= .out x L al/\cW H ids st bA V al/\Fit bA V al O.own O.n/\cS L bA V O.env/\L.b4=o.b4/\Q x O:=by
 have⟨e,L,al,Y,bA,V,O,F,W,A,E⟩:=h H ids st (Z.len.trans Z.cZ.symm) ap8 H ids st o aqd Z D;exact⟨e,L,al,bA,V,O,Y,F,W,A,Sl hp Y,E⟩
theorem Lt{fn:d7}{t:cb}{st:ak}(hp:(ops.all λx=>x.g.isNone&&F8 x.U)=true)(h:∀H1 S G,S.length=s.own.length->cH H H1->bM.ok ⟨call,a6,fn,H1,S,G,λx O=>x= .norm/\O=t⟩ ⟨[],.U ops,s⟩)
 (Z:Fit H ids st s.own s.n) (D:cS o H ids s.env):∃L al bA V,db call a6 fn (.gg ops) o st= .out .norm L al/\cW H ids st bA V al/\Fit bA V al t.own t.n/\cS L bA V t.env/\L.b4=o.b4:=by
 obtain⟨_,L,al,bA,V,_,Y,j,A,T,C,rfl,rfl⟩:=afM _ hp h Z D
 grind
def fU{own os:ac aZ}{p aN:Nat}{f:ac Nat}{e G:bP}(hp:pinned p f 0=true:=by rfl)(aC:sq f own f os:=by repeat first|exact az|refine⟨gJ,?_⟩|refine⟨jS,?_⟩|refine⟨⟨_,j,az⟩,?_⟩)(aI:pd f G e:=by repeat first|exact az|refine⟨j,?_⟩)(bZ:f.Nodup:=by decide)(aB:aN=f.length:=by rfl):Sub p f ⟨own,n,e⟩ ⟨os,aN,G⟩:=⟨bZ,aB,aC,aI,hp⟩
section
variable{an:eR}{K:ac dA}{own a9:ac aZ}{ax aT bU back:Nat}{e aX:bP}{d:Tmp}{aA:ac Tmp}{xs:ac (bj×cn)}{x:ce}
theorem ey{a8 z J q m:Nat}{el:co}{aR:Bool}{α:Type}{ah:α->ac ag}{l:ac α}(w:α){cs:ac ag}(ba:l[J]? =some w)(k:dx an K xs a9 ((d,.agg cs)::aX) aT bU own ax ((d,.agg cs)::e))(O:a5 (dZ aA aX) x=some (.fi a8 z J q):=by rfl)(aw:a9[a8]? =some (.a el aR z α ah l):=by rfl)(cD:qZ (ah w) q m (λl=>some l)=some cs:=by rfl)(ay:back<aT:=by decide):dx an K ((⟨some d,.mV m x,none⟩,.read back aA)::xs) a9 aX aT bU own ax e:=
 l2 ay (λH ids st o D h E=>by
  obtain⟨b,Y,G⟩:=D.ar O;obtain⟨ab,A,T,C⟩:=E a8 _ b aw j Y;have bZ:=C J w ba;obtain⟨W,I⟩:=wZ cD;cases I;have M:=so m<|nA q bZ;have h:=gq bZ;rw[gQ]at h;rw[iX]at W;have e:((List.take z<|List.drop (J*z) ab).drop q).take m=(ab.drop<|J*z+q).take m:=by
   rw[Ax,qv,x9,kh R]
  rw[e]at M;exact⟨_,⟨_,j,M⟩,λL _ F=>B6 G ((F a8 _ b aw j Y).trans A) apt⟩) k
end
section
variable{an:eR}{K:ac dA}{s:cb}
def afN{d:be Tmp}{U:dh}{l:ac (bj×cn)}{a9:ac aZ}{aX:bP}{aT bU cF:Nat}{bg:ac aZ}{a:ag}
 (h:∀(H:bb) (ids:ac Nat) (st:ak) (o:aK),cW an.a1 an.i0 an.aq H ids st->Fit H ids st s.own s.n->cS o H ids s.env->∃v al V bA,bw an.call U o st= .ok v o al/\Fit bA V al bg cF/\den bA a V v/\cH H bA/\b9 ids V/\cW an.a1 an.i0 an.aq bA V al/\st.ae<=al.ae/\∀b,b<st.ae->al.h.get b=st.h.get b)
 (k:ah an K (.d l a9 (pc d aX) (aT+1) cF) ⟨bg,cF,ee d a s.env⟩):ah an K (.d ((⟨d,U,none⟩,.dI)::l) a9 aX aT bU) s:=
 KX (λH ids st o F Z D=>let⟨v,al,V,bA,cu,I,a0,cJ,c2,eC,fv,lu⟩:=h H ids st o F Z D;⟨v,al,V,bA,cu,I,a0,cJ,c2,eC,fv,λ_ b _ _ _ C=>lu b<|Z.lt b<|hh C⟩) j (λ_ _ a _=>a) k
end
end Go.bC
namespace Go.bC
variable{X:Ctx}
variable{b g:Nat}{gs:ac (Nat×bx)}{p:Nat×bx}
def oA(g n:Nat):bH:=λi=>if i<g then some ⟨i,0,0,eU⟩else if n<=i/\i<2*n then some ⟨i-n,0,0,eU⟩else none
def sz(W:f5)(b:Nat):Bool:=match W.heap[b]? with
 |some (.cells _ _ _)=>true
 |_=>false
theorem Sm{W:f5}(h:sz W b=true):∃C el I,W.heap[b]? =some (.cells C el I):=by
 rw[sz]at h
 grind
def j9(W:f5):bv->bv
 |.bool b=>.bool b
 |.int k m=>.int k m
 |.string s=>.string s
 |.slice none l c=>.slice none l c
 |.slice (some a) l c=>if sz W a.block=true/\a.spot=none then .slice (some ⟨W.heap.size+a.block,a.off,none⟩) l c else(match l with|0=>.chan none|_=>jG)
 |.pointer none=>.pointer none
 |.pointer (some a)=>if a.block<W.heap.size/\a.spot=none then .pointer (some ⟨W.heap.size+a.block,a.off,none⟩)else jG
 |_=>jG
theorem Lu{n:Nat}(O:g<=n)(ay:b<n):oA g n (n+b)=some ⟨b,0,0,eU⟩:=by
 rw[oA]
 grind
def Sn{W:f5}(O:g<=W.heap.size)(v:bv):bd (oA g W.heap.size) (j9 W v) v:=by
 cases v with
 |slice a l c=>
  cases a with
  |none=>exact .kl _ _
  |some a=>
   show bd _ (if sz W a.block=true/\a.spot=none then Value.slice (some ⟨W.heap.size+a.block,a.off,none⟩) l c else(match l with|0=>.chan none|_=>jG)) _;split
   .rename_i h;have⟨b,U,sp⟩:=a;have⟨Y,G⟩:=h;subst G;have⟨_,_,_,A⟩:=Sm Y;have:=bd.ft ⟨W.heap.size+b,U,none⟩ ⟨b,0,0,eU⟩ U l c (Lu O (tZ.1 A).1) j<|.inl au;exact this
   .split
    .exact .emp _ _
    .exact .top _
 |pointer a=>
  cases a with
  |none=>exact .lq
  |some a=>
   show bd _ (if a.block<W.heap.size/\a.spot=none then Value.pointer (some ⟨W.heap.size+a.block,a.off,none⟩)else jG) _;split
   .rename_i h;have⟨b,U,sp⟩:=a;have⟨Y,G⟩:=h;subst G;have:=bd.ptr ⟨W.heap.size+b,U,none⟩ ⟨b,0,0,eU⟩ (Lu O Y) j;exact apE
   .exact .top _
 |bool b=>exact .bool b
 |int k m=>exact .int k m
 |string s=>exact .string s
 |_=>exact .top _
theorem So{g:Nat}{W:f5}(O:g<=W.heap.size):∀ab:ac bv,bI (oA g W.heap.size) (ab.map<|j9 W) ab
 |[]=>.nil _
 |v::ab=>.cons (Sn O v)<|So O ab
theorem Lv:∀(us:ac (Nat×bx)) (h:ao bx) (k:Nat),(∀p∈us,p.1≠k)->(kr us h).get k=h.get k
 |[],_,_,_=>rfl
 |u::us,h,k,aj=>by
  rw[Fl,Lv us _ k λp hp=>aj p<|fq _ hp,ao.eo,av λe=>aj u hT e.symm]
theorem Sp:∀(us:ac (Nat×bx)) (h:ao bx) (k:Nat) (U:bx),(us.map (·.1)).Nodup->(k,U)∈us->(kr us h).get k=some U
 |u::us,h,k,U,bZ,hm=>by
  rw[jZ,uc]at bZ;rw[Fl];obtain rfl|hm:=fh.1 hm
  .rw[Lv us _ k λp hp e=>bZ.1<|e▸da.2 ⟨p,hp,j⟩,ao.eo,aD j]
  .exact Sp us _ k U bZ.2 hm
def xi(W:f5)(b:Nat):be Obj->be (Nat×bx)
 |some (.cells C el _)=>some (W.heap.size+b,.cells (C.toList.map<|j9 W) el (0,C.size+1) false)
 |_=>none
def Cn(W:f5):ac (Nat×bx):=(List.range W.heap.size).filterMap λb=>xi W b W.heap[b]?
def jc(gs:ac (Nat×bx))(W:f5):ao bx:=kr (Cn W)<|kr gs .nil
theorem F9{W:f5}:p∈Cn W↔∃b,b<W.heap.size/\xi W b W.heap[b]? =some p:=by
 rw[Cn]
 grind
def Co{W:f5}{U:be Obj}(h:xi W b U=some p):p.1=W.heap.size+b:=by
 unfold xi at h;split at h
 .cases h;rfl
 .cases h
def afO(W:f5):((Cn W).map (·.1)).Nodup:=by
 rw[Cn,List.map_filterMap];refine List.Pairwise.filterMap _ ?_ List.nodup_range;intro a b h x O y T e;obtain⟨p,Y,rfl⟩:=n3.1 O;obtain⟨q,G,rfl⟩:=n3.1 T;rw[Co Y,Co G]at e;omega
def afP{W:f5}(h:g<W.heap.size):(jc gs W).get g=(kr gs .nil).get g:=
 Lv _ _ _ λp hp=>by
  have⟨b,_,e⟩:=F9.1 hp;rw[Co e];omega
theorem afQ{W:f5}(a':X.a3<=W.heap.size)(h:∀p∈gs,uL X.a3 W p):bQ X (oA X.a3 W.heap.size) ⟨jc gs W,2*W.heap.size⟩ W:=by
 have hle:(Fp X.a3).le (oA X.a3 W.heap.size):=λi l q=>by
  unfold Fp at q;unfold oA
  grind
 have aa:∀i l,oA X.a3 W.heap.size i=some l->l.bF=eU/\l.cx<W.heap.size/\i<2*W.heap.size:=by
  intro i l q;unfold oA at q
  grind
 have T:∀i U,(jc gs W).get i=some U->uL X.a3 W (i,U)\/∃b,b<W.heap.size/\i=W.heap.size+b/\xi W b W.heap[b]? =some (i,U):=by
  intro i U E;rcases y3 _ _ _ _ E with hm|hm
  .obtain⟨b,F,e⟩:=F9.1 hm;exact .inr ⟨b,F,Co e,e⟩
  .rcases y3 _ _ _ _ hm with hm|hm
   .exact .inl<|h _ hm
   .simp at hm
 refine⟨λi U E bZ=>?_,λi J U p l m af _ V _ q hm M e=>?_,λi af=>?_,λi l q=>(aa i l q).2.1,λg O=>?_,?_,λi l U q _ E _=>?_⟩
 .rcases T i U E with⟨aW,cs,el,m,C,I,S,Z,Y,A⟩|⟨b,F,rfl,e⟩
  .simp only at aW S Y;refine⟨⟨i,0,0,eU⟩,by unfold oA;rw[aD aW],?_⟩;subst S;have G:cs.length=C.size:=by rw[A.1];simp
   refine⟨C,I,⟨_,Y,λ_=>j⟩,by simp[G],λ_=>by simp[G],λk N=>?_,λD=>?_,λ_=>⟨j,j,G.symm⟩⟩
   .have ae:k<C.size:=by omega
    refine⟨C[k],au,?_⟩;have:=(A.mono hle).2 k N R
    rwa [kU]at this
   .omega
  .refine⟨⟨b,0,0,eU⟩,Lu a' F,?_⟩;unfold xi at e;split at e
   .rename_i C el I L;cases e;refine⟨C,I,⟨_,L,λ_=>j⟩,au,λ_=>au,λk N=>?_,λD=>?_,λ_=>⟨j,j,au⟩⟩
    .have ae:k<C.size:=by grind
     refine⟨C[k],au,?_⟩;have:=(So a' C.toList).2 k N R
     rwa [kU]at this
    .omega
   .cases e
 .grind
 .have af:2*W.heap.size<=i:=af;refine⟨?_,?_⟩
  .cases e:oA X.a3 W.heap.size i with
   |none=>rfl
   |some l=>have:=(aa i l e).2.2;omega
  .cases e:(jc gs W).get i with
   |none=>rfl
   |some U=>
    rcases T i U e with h|⟨b,F,rfl,_⟩
    .have:=h.1;omega
    .omega
 .exact hle _ _<|by unfold Fp;rw[aD O]
 .show X.a3<=2*W.heap.size;omega
 .rcases T i U E with⟨_,cs,el,m,C,I,S,Z,_,_⟩|⟨b,F,rfl,e⟩
  .simp only at S;subst S;exact Z
  .unfold xi at e;split at e
   .cases e;exact Nat.succ_pos _
   .cases e
def afR{W:f5}(h:∀p∈gs,p.1<W.heap.size)(b:Nat)(ay:2*W.heap.size<=b):(jc gs W).get b=none:=by
 cases e:(jc gs W).get b with
 |none=>rfl
 |some U=>
  obtain hm|hm:=y3 _ _ _ _ e
  .have⟨c,j,e⟩:=F9.1 hm;have:=Co e;omega
  .obtain hm|hm:=y3 _ _ _ _ hm
   .have:=h _ hm;omega
   .simp at hm
inductive ph
 |i (k:IntKind)
 |b
 |s
 |aH (z w:Nat) (cs:List ph)
mutual
def Lw(B:Nat)(W:f5):ph->bv->Prop
 |.i k,v=>∃m,v= .int k m/\(Lit.int k m).wf=true
 |.b,v=>∃t,v= .bool t
 |.s,v=>∃s:f9,v= .string s/\s.data.toList.length<=B
 |.aH z w cs,v=>v= .slice none 0 0\/∃(a:Addr) (n c:Nat),v= .slice (some a) n c/\n<=c/\c<=B/\c*w<=B/\∀i,i<n->∃ab,W.cells? 0 (a.add<|i*z) z=some ab/\lD B W cs ab
def lD(B:Nat)(W:f5):ac ph->ac bv->Prop
 |[],ab=>ab=[]
 |c::cs,ab=>∃v F,ab=v::F/\Lw B W c v/\lD B W cs F
end
theorem Sq{B:Nat}{W:f5}:∀{cs aM:ac ph} {ab F:ac bv},lD B W cs ab->lD B W aM F->lD B W (cs++aM) (ab++F)
 |[],aM,ab,F,h,D=>by
  subst h;exact D
 |c::cs,aM,ab,F,⟨v,us,e,aC,aI⟩,D=>by
  subst e;exact⟨v,us++F,j,aC,Sq aI D⟩
def Cp(P:f8):Nat->co->be (ac ph)
 |0,_=>none
 |n+1,t=>
  match P.underlying t with
  |some .bool=>some [.b]
  |some (.int k)=>some [.i k]
  |some .string=>some [.s]
  |some (.slice e)=>if P.bytesOf e=0 then none else(Cp P n e).map λcs=>[.aH (P.cellsOf e) (P.bytesOf e) cs]
  |some (.struct bS)=>if y6 0 (bS.toList.map λf=>(f.offset,P.cellsOf f.type)) (P.cellsOf t)then(bS.toList.mapM λ(f:Field)=>Cp P n f.type).map List.flatten else none
  |_=>none
theorem Sr{H:Type}{P:f8}{e:co}{x:Nat}:∀{l:ac (DataW H)} {d:DataW H},d∈l->x∈d.weights P e->x∈DataW.weightsAll P e l
 |y::l,d,bZ,O=>by
  obtain rfl|bZ:=fh.1 bZ
  .exact n5 _ O
  .exact Ix _<|Sr bZ O
theorem Lx{H:Type}{P:f8}{x:Nat}:∀{aA:ac co} {l:ac (DataW H)} {i:Nat} {t:co} {d:DataW H},aA[i]? =some t->l[i]? =some d->x∈d.weights P t->x∈DataW.weightsEach P aA l
 |[],_,_,_,_,h,_,_=>by simp at h
 |_::_,[],_,_,_,_,h,_=>by simp at h
 |u::aA,y::l,0,t,d,h,D,O=>by
  simp at h D;subst h;subst D;exact n5 _ O
 |u::aA,y::l,i+1,t,d,h,D,O=>by
  exact Ix _<|Lx apH aq7 O
theorem Ss{B:Nat}{W:f5}{α:Type}{y8:α->ac bv}{S:α->be (ac ph)}:∀(as:ac α) (l5:ac (ac ph)),as.mapM S=some l5->(∀a∈as,∀cs,S a=some cs->lD B W cs (y8 a))->lD B W l5.flatten (as.map y8).flatten
 |[],l5,h,_=>by
  simp at h;subst h;exact j
 |a::as,l5,h,aw=>by
  rw[List.mapM_cons]at h;have⟨cs,O,h⟩:=rN.1 h;have⟨aP,T,h⟩:=rN.1 h;cases h;exact Sq (aw a hT cs O)<|Ss as aP T λa A=>aw a<|fq _ A
theorem Ly{H:Type}{enc:co×bv->H}{P:f8}{W:f5}{B:Nat}:∀(n a':Nat) (t:co) (cs:ac bv) (d:DataW H) (p:ac MemPlace) (l5:ac ph),
 DataW.trod enc P W 0 (λ_=>true) true a' t cs=some (d,p)->Cp P n t=some l5->(∀x∈d.weights P t,x<=B)->lD B W l5 cs
 |0,_,_,_,_,_,_,_,h,_=>by cases h
 |n+1,a',t,cs,d,p,l5,h,aQ,F=>by
  unfold Cp at aQ;cases a' with
  |zero=>simp[DataW.trod]at h
  |succ a'=>
  split at aQ
  .rename_i M;cases aQ;simp[DataW.trod,M]at h;split at h<;>first|(rename_i cD;cases cD)|skip
   all_goals first|(exact⟨_,_,j,dN,j⟩)|(simp at h)
  .rename_i k M;cases aQ;simp[DataW.trod,M]at h;split at h<;>first|(rename_i cD;cases cD)|skip
   all_goals first
    |(split at h
      .rename_i aQ;exact⟨_,_,j,⟨_,by rw[aQ.1],aQ.2⟩,j⟩
      .cases h)
    |(simp at h)
  .rename_i M;cases aQ;simp[DataW.trod,M]at h;split at h<;>first|(rename_i cD;cases cD)|skip
   all_goals first
    |(split at h
      .cases h;exact⟨_,_,j,⟨_,j,F _<|by exact hT⟩,j⟩
      .cases h)
    |(simp at h)
  .rename_i e M;split at aQ
   .cases aQ
   obtain⟨ak,ao,rfl⟩:=n3.1 aQ;rcases DataW.trod_slice M h with⟨rfl,_⟩|⟨a,len,L,Z,q,m,S,rfl,aa,_,Y,G,aB,T,C,_⟩
   .exact⟨_,_,j,.inl j,j⟩
   .have bZ:=congrArg Prod.fst aa;subst bZ;have ah:∀x,x∈(Z.length+q.length)*P.bytesOf e::(DataW.weightsAll P e (Z.map (·.1))++DataW.weightsAll P e (q.map (·.1)))->x<=B:=λx O=>F x (by
     unfold DataW.weights;rw[M];simp only[hI];exact O)
    have aj:=ah _ hT;have aD:(Z.length+q.length)*1<=(Z.length+q.length)*P.bytesOf e:=rK _ R;have I:=(C j).1;refine⟨_,_,j,.inr ⟨a,len,L,j,Y,R,ch (lN _ R) aj,λi af=>?_⟩,j⟩;have T:=T i af;have V:i<Z.length:=R
    rw[vK V]at T;obtain⟨ab,ar,cA⟩:=rN.1 T;refine⟨ab,ar,Ly n m e ab _ _ ak cA ao λx O=>ah x<|fq _<|n5 _<|Sr (da.2 ⟨_,hv V,j⟩) O⟩
  .rename_i bS M;split at aQ
   .rename_i ae;obtain⟨al,hm,rfl⟩:=n3.1 aQ;obtain⟨xs,m,S,aa,aw,aC,N⟩:=DataW.trod_struct M h;have bZ:=congrArg Prod.fst aa;subst bZ;rw[<-aw]at ae;have E:=Fs cs _ 0 ae;rw[iB,qq]at E;rw[E];refine Ss bS.toList al hm λf D ay az=>?_;obtain⟨i,af,rfl⟩:=List.mem_iff_getElem.1 D;have A:i<bS.size:=by omega
    have N:=N i bS.toList[i] au;have ai:i<xs.length:=R
    rw[vK ai]at N;exact Ly n m _ _ _ _ ay N az (λx O=>F x (by
     unfold DataW.weights;rw[M];exact Lx (i:=i) (by simp[A]) (by simp[ai]) O))
   .cases aQ
  .cases aQ
def Cq(W:f5)(v:bv):Prop:=∀a l c,v= .slice (some a) l c->a.spot=none/\∃C el I,W.heap[a.block]? =some (.cells C el I)
variable{z:Nat}{v:bv}{α:Type}{a:Addr}{ab:ac bv}{B w:Nat}{Q:α->Prop}
theorem zu{P:f8}{W:f5}{u e:co}(M:P.underlying u=some (.slice e))(h:Cell.okWide P W .any 0 u v):Cq W v:=by
 intro a l c S;subst S;unfold Cell.okWide at h;simp[Cell.ok,M]at h;have⟨_,_,_,Y,row,cells,G,_⟩:=h;refine⟨Y,?_⟩;unfold World.shape? at G
 grind
theorem afS{W:f5}{C:bi bv}{el:co}{I:Nat×Nat}{U:Nat}(M:a=⟨b,U,none⟩)(h:W.cells? 0 a z=some ab)(j:W.heap[b]? =some (.cells C el I)):ab=(C.toList.drop U).take z:=by
 have q:=mapM_some_length h;have O:∀i,i<z->C[U+i]? =ab[i]? :=λi af=>by
  have:=mapM_some_get h i i (by simp[af]);unfold World.cell? at this;rw[M,nB]at this;simp[j]at this;exact this
 apply nY
 grind
theorem afT{W:f5}(Z:0<z)(h:W.cells? 0 (a.add<|0*z) z=some ab):sz W a.block=true/\a.spot=none:=by
 have q:=mapM_some_length h;rw[List.length_range]at q;have F:=mapM_some_get h 0 0 (by simp[Z]);have e:(a.add<|0*z).add 0=a:=by simp[Addr.add]
 rw[(vK R),e]at F;unfold World.cell? at F;split at F
 .rename_i c el I j;split at F
  .cases F
  .rename_i M;refine⟨by rw[sz];rw[j],?_⟩
   simp_all
 .cases F
theorem afU{n:Nat}{p:Nat->α->Prop}(h:∀i,i<n->∃x,p i x):∃l:ac α,l.length=n/\∀(i:Nat) (x:α),l[i]? =some x->p i x:=by
 induction n with
 |zero=>exact⟨[],j,λi x O=>by simp at O⟩
 |succ n I=>
  have⟨l,Y,G⟩:=I λi af=>h i R;have⟨y,T⟩:=h n R;refine⟨l++[y],by simp[Y],λi x O=>?_⟩
  grind
def Cr{W:f5}{l5:ac ph}{ah:α->ac ag}(N:∀ab,lD B W l5 ab->∃x:α,cG (λb=>(jc gs W).get b) (ah x) [] (ab.map<|j9 W)/\Q x)
 (h:Lw B W (.aH z w l5) v) (cK:Cq W v):∃l:ac α,l.length<=B/\l.length*w<=B/\(∀x∈l,Q x)/\den (λb=>(jc gs W).get b) (.b6 z α ah l) [] (j9 W v):=by
 obtain rfl|⟨a,n,c,rfl,Y,G,F,A⟩:=h
 .exact atF atF
 .have⟨cu,C,el,E,I⟩:=cK a n c j;have⟨b,U,sp⟩:=a;subst cu;obtain⟨l,S,q⟩:=afU (p:=λi x=>cG (λb=>(jc gs W).get b) (ah x) [] ((((C.toList.map<|j9 W).drop<|U+i*z).take z))/\Q x) (λi af=>by
   have⟨ab,D,cA⟩:=A i af;have⟨x,dG,gT⟩:=N ab cA;have:=afS (nB b U<|i*z) D I;rw[this]at dG;refine⟨x,?_,gT⟩;simpa[<-List.map_drop,<-List.map_take]using dG)
  refine⟨l,R,ch (lN _ R) F,λx O=>?_,.inr ⟨W.heap.size+b,U,c,C.toList.map<|j9 W,el,(0,C.size+1),false,?_,R,(Sp _ _ _ _ (afO W)<|F9.2 ⟨b,(tZ.1 I).1,by rw[I];rfl⟩),λi x O=>(q i x O).1⟩⟩
  .have⟨i,af⟩:=vS.1 O;exact(q i x af).2
  .show(if sz W b=true/\none=none then Value.slice (some ⟨W.heap.size+b,U,none⟩) n c else _)=_;rw[aD ⟨by rw[sz];rw[I],j⟩,S]
def Ga{W:f5}{l5:ac ph}{ah:α->ac ag}(Z:0<z)(N:∀ab,lD B W l5 ab->∃x:α,cG (λb=>(jc gs W).get b) (ah x) [] (ab.map<|j9 W)/\Q x)
 (h:Lw B W (.aH z w l5) v):∃l:ac α,l.length*w<=B/\(∀x∈l,Q x)/\den (λb=>(jc gs W).get b) (.cd z α ah l) [] (j9 W v):=by
 by_cases V:Cq W v
 .have⟨l,_,Y,G,d⟩:=Cr N h V;exact⟨l,Y,G,.inr d⟩
 .obtain rfl|⟨a,n,c,rfl,Y,G,_,A⟩:=h
  .exact absurd (λa l c e=>by cases e) V
  .refine⟨[],au,(λx O=>by cases O),.inl ⟨j,?_⟩⟩;have C:¬(sz W a.block=true/\a.spot=none):=λ⟨T,q⟩=>V λD I E e=>by
    cases e;exact⟨q,Sm T⟩
   cases n with
   |zero=>
    show(if sz W a.block=true/\a.spot=none then Value.slice (some ⟨W.heap.size+a.block,a.off,none⟩) 0 c else .chan none)=_;rw[av C]
   |succ n=>
    have⟨ab,F,_⟩:=A 0 R;exact absurd (afT Z R) C
end Go.bC
namespace Go.bC
open Sym
def nJ(L:ac cN)(Q:c6->aK->ak->Prop):Prop:=∀r∈L,W r Q
variable{Q:c6->aK->ak->Prop}
def nJ.mono{L:ac cN}{j:c6->aK->ak->Prop}(h:nJ L Q)(k:∀x o st,Q x o st->j x o st):nJ L j:=λr I=>(h r I).mono k
theorem nJ.one{r:cN}(h:W r Q):nJ [r] Q:=λq E=>by
 grind
def nJ.then{L:ac cN}{g:aK->ak->ac cN}(h:nJ L λx o st=>match x with|.norm=>nJ (g o st) Q|x=>Q x o st):nJ (L.flatMap<|o6 g) Q:=by
 intro r I;have⟨q,E,I⟩:=sQ.1 I;obtain⟨x,o,st,rfl,O⟩:=h q E;cases x with
 |norm=>exact O r I
 |exit i=>have I:r∈[cN.out (.exit i) o st]:=I
          exact aqV
 |ret=>have I:r∈[cN.out .ret o st]:=I
       exact aqV
 |aV v=>have I:r∈[cN.out (.aV v) o st]:=I
        exact aqV
def pj:du->Bool
 |.gg (⟨_,.ext<|.n7 _,none⟩::_)=>false
 |.seq a b=>pj a&&pj b
 |.cond _ a b=>pj a&&pj b
 |.block _ a=>pj a
 |.loop a=>pj a
 |.scope a=>pj a
 |_=>true
def St(g:aK->ak->cN)(r:cN):o6 (λo st=>[g o st]) r=[kz r g]:=by
 cases r with
 |no=>rfl
 |out x o st=>cases x<;>rfl
def afV{call:bN}{a6:Nat}{fn:d7}:∀(c:du),pj c=true->∀o st,gU call a6 fn c o st=[db call a6 fn c o st]:=by
 intro c
 induction c with
 |gg ops=>
  intro h o st;unfold gU;split
  .rename_i M;cases M;cases h
  all_goals first|rfl|(rename_i M;cases M)
 |seq a b V q=>
  intro h o st;have h:(pj a&&pj b)=true:=h;rw[c1]at h;show(gU call a6 fn a o st).flatMap (o6<|gU call a6 fn b)=[kz (db call a6 fn a o st)<|db call a6 fn b];rw[V h.1,show gU call a6 fn b=λo st=>[db call a6 fn b o st]from funext λo=>funext λst=>q h.2 o st];simp[ub,List.flatMap_nil,rP,St]
 |cond x a b V q=>
  intro h o st;have h:(pj a&&pj b)=true:=h;rw[c1]at h;show kj (o.ar x) (λt=>_root_.cond t (gU call a6 fn a o st)<|gU call a6 fn b o st) [.no]=[A5 (o.ar x) (db call a6 fn a o st)<|db call a6 fn b o st];rw[V h.1,q h.2];cases o.ar x with
  |bool t=>cases t<;>rfl
  |_=>rfl
 |block i a I=>
  intro h o st;show(gU call a6 fn a o st).map (pP i)=[pP i<|db call a6 fn a o st];rw[I h];rfl
 |loop a I=>
  intro h o st;have key:∀n o st,tg (gU call a6 fn a) n o st=[BW call a6 fn a n o st]:=by
   intro n
   induction n with
   |zero=>intro o st;rfl
   |succ n R=>
    intro o st;show(gU call a6 fn a o st).flatMap (o6<|tg (gU call a6 fn a) n)=_;rw[show tg (gU call a6 fn a) n=λo st=>[BW call a6 fn a n o st]from funext λo=>funext λst=>R o st,I h];simp[ub,St];rfl
  exact key a6 o st
 |scope a I=>intro h o st;exact I h o st
 |_=>intro h o st;rfl
def jd(an:eR)(c:du)(s:cb):Prop:=∀H ids st o,cW an.a1 an.i0 an.aq H ids st->Fit H ids st s.own s.n->cS o H ids s.env->nJ (gU an.call an.a6 an.fn c o st) (q2 an an.Q)
section
variable{call:bN}{a6:Nat}{fn:d7}{a1:bb}{i0:ac Nat}{aq:ak}{Q:c6->cb->Prop}{s:cb}
variable{a b c:du}
def gK(k:bM.ok ⟨call,a6,fn,a1,i0,aq,Q⟩ ⟨[],.c c,s⟩)(h:pj c=true:=by rfl):jd ⟨call,a6,fn,a1,i0,aq,Q⟩ c s:=λH ids st o F Z D=>by
 rw[afV c h];exact nJ.one<|k H ids st o F Z D
def im(h:jd ⟨call,a6,fn,a1,i0,aq,λx s=>match x with|.norm=>jd ⟨call,a6,fn,a1,i0,aq,Q⟩ b s|x=>Q x s⟩ a s):jd ⟨call,a6,fn,a1,i0,aq,Q⟩ (.seq a b) s:=λH ids st o F Z D=>by
 refine nJ.then<|(h H ids st o F Z D).mono ?_;rintro x L al ⟨bA,V,O,R,W,A,E⟩;cases x with
 |norm=>exact E bA V al L R W A
 |_=>exact⟨bA,V,O,R,W,A,E⟩
def Su{t:cb}(f:ac Nat)(h:Sub i0.length f s t)(k:jd ⟨call,a6,fn,a1,i0,aq,Q⟩ c t):jd ⟨call,a6,fn,a1,i0,aq,Q⟩ c s:=λH ids st o F Z D=>k H _ st o (h.b2 Z F) (h.fit Z)<|h.FQ D
def zv{L:Type _}(P:L->Prop)(T:L->cb)(aC:jd ⟨call,a6,fn,a1,i0,aq,λx s=>match x with|.norm=>k2 i0.length P T s|x=>Q x s⟩ a s)(aI:∀l,P l->jd ⟨call,a6,fn,a1,i0,aq,Q⟩ b (T l)):jd ⟨call,a6,fn,a1,i0,aq,Q⟩ (.seq a b) s:=by
 refine im λH ids st o F Z D=>(aC H ids st o F Z D).mono ?_;rintro x h al ⟨bA,V,O,R,W,A,E⟩;refine⟨bA,V,O,R,W,A,?_⟩;cases x with
 |norm=>have⟨f,l,hp,M⟩:=E;exact Su f M (aI l hp)
 |_=>exact E
def uY{i:Nat}(h:jd ⟨call,a6,fn,a1,i0,aq,λx s=>match x with|.exit J=>if J=i then Q .norm s else Q (.exit J) s|x=>Q x s⟩ a s):jd ⟨call,a6,fn,a1,i0,aq,Q⟩ (.block i a) s:=λH ids st o F Z D=>by
 intro r I;obtain⟨q,E,rfl⟩:=da.1 I;obtain⟨x,L,al,rfl,bA,V,C,R,W,A,O⟩:=h H ids st o F Z D q E;cases x with
 |norm=>exact⟨_,_,_,j,bA,V,C,R,W,A,O⟩
 |exit J=>
  have e:pP i (.out (.exit J) L al)=if J=i then .out .norm L al else .out (.exit J) L al:=mn _ _ _ _;rw[e];have O:if J=i then Q .norm C else Q (.exit J) C:=O;split
  .rename_i h;rw[aD h]at O;exact⟨_,_,_,j,bA,V,C,R,W,A,O⟩
  .rename_i h;rw[av h]at O;exact⟨_,_,_,j,bA,V,C,R,W,A,O⟩
 |_=>exact⟨_,_,_,j,bA,V,C,R,W,A,O⟩
def xj{L:Type _}(P:L->Prop)(T:L->cb)(cO:L->Nat)(f0:ac Nat)(N:L)(G:P N)(hm:cO N<a6)(bX:Sub i0.length f0 s (T N))
 (h:∀l,P l->jd ⟨call,a6,fn,a1,i0,aq,λx s=>match x with|.norm=>k2 i0.length (λbo=>cO bo<cO l/\P bo) T s|x=>Q x s⟩ b (T l)):jd ⟨call,a6,fn,a1,i0,aq,Q⟩ (.loop b) s:=by
 have key:∀n l,cO l<n->P l->∀H ids st o,cW a1 i0 aq H ids st->Fit H ids st (T l).own (T l).n->cS o H ids (T l).env->nJ (tg (gU call a6 fn b) n o st) (q2 ⟨call,a6,fn,a1,i0,aq,Q⟩ Q):=by
  intro n
  induction n with
  |zero=>omega
  |succ n I=>
   intro l Y hp H ids st o F Z D;refine nJ.then<|(h l hp H ids st o F Z D).mono ?_;rintro x q al ⟨bA,V,O,j,W,A,E⟩;cases x with
   |norm=>
    have⟨f,bo,⟨S,C⟩,M⟩:=E;exact I bo R C bA _ al q (M.b2 W j) (M.fit W) (M.FQ A)
   |_=>exact⟨bA,V,O,j,W,A,E⟩
 exact Su f0 bX λH ids st o F Z D=>key a6 N hm G H ids st o F Z D
def mB(r clock:Nat)(seen:ac Nat):KJ:=⟨λ_ j=>j=some (.nr (some r) clock seen clock),λ_ _ h=>h⟩
theorem uZ{d:Tmp}{Y:ce}{ops:ac bj}{k r clock:Nat}{seen:ac Nat}{es:ac f7}{own:ac aZ}{n:Nat}{e:bP}
 (aw:own[k]? =some (.g<|mB r clock seen)) (o5:a5 e Y=some (.p k 0)) (I:a1 r=some (.map es clock)) (M:∀s∈seen,s<clock)
 (aC:∀m∈es,m.born∉seen->cL ⟨call,a6,fn,a1,i0,aq,Q⟩ [] ops (own.set k<|.g<|mB r clock<|seen++[m.born]) n ((d,.bc [.b true,.v m.key,.v m.val])::e))
 (aI:(∀m∈es,m.born∈seen)->cL ⟨call,a6,fn,a1,i0,aq,Q⟩ [] ops own n ((d,.bc [.b false])::e)):jd ⟨call,a6,fn,a1,i0,aq,Q⟩ (.gg<|⟨some d,.ext<|.n7 Y,none⟩::ops) ⟨own,n,e⟩:=λH ids st o F Z D=>by
 have⟨b,C,S⟩:=D.ar o5;have⟨T,_⟩:=Z.own k _ b aw C;have T:st.h.get b=some (.nr (some r) clock seen clock):=T;have R:(seen.all λs=>Nat.ble (Nat.succ s) clock)=true:=by
  rw[ia];intro s h;exact lQ.2<|M s h
 have e:oo o st Y=wO o st b r clock seen (es.filter λe=> !seen.any (Nat.beq e.born)):=by
  unfold oo;rw[S,lx,Sym.ed];simp[ij,T];show jH (st.h.get r) _ _=_;rw[(Z.le _ _<|F.hle _ _ I)];show dL clock clock (dL clock clock (cond (seen.all λs=>Nat.ble (Nat.succ s) clock) _ _) _) _=_;rw[ij j,ij j,R];rfl
 have O:∀m:f7,(!seen.any (Nat.beq m.born))=true↔m.born∉seen:=by
  intro m;rw[Bool.not_eq_true',Iz];constructor
  .intro h hm;exact h _ hm<|kT _
  .intro h s M C;rw[<-dB C]at M;exact h M
 show nJ ((oo o st Y).map<|E5 call (some d) ops) _;rw[e];intro q L;obtain⟨U,E,rfl⟩:=da.1 L;unfold wO at E;cases A:es.filter (λe=> !seen.any (Nat.beq e.born))with
 |nil=>
  rw[A,gC]at E;subst E;refine aI (λm hm=>?_) H ids st _ F Z (D.put d ⟨[.bool false],j,_,_,j,j,j⟩)
  simp_all
 |cons x xs=>
  rw[A]at E;have E:U∈(x::xs).map (λe=>a2.ok (.tuple #[.bool true,e.key,e.val]) o ⟨st.h.set b<|.nr (some r) clock (seen++[e.born]) clock,st.ae⟩):=E;rw[<-A]at E;obtain⟨m,hm,rfl⟩:=da.1 E;have⟨G,N⟩:=rO.1 hm;exact aC m G ((O m).1 N) H ids _ _ (F.e3 (hh C) _) (Z.e3 aw j C j)<|D.put d ⟨_,j,_,_,j,j,_,_,j,j,_,_,j,j,j⟩
end
end Go.bC
namespace Go.bC
open Sym
variable{X:Ctx}
variable{ck:Nat}{H:bb}
def lE(ck:Nat)(H:bb):bb:=λb=>cond (Nat.ble ck b) (H b) none
def mC{b:Nat}{U:bx}:lE ck H b=some U↔ck<=b/\H b=some U:=by
 rw[lE];by_cases h:ck<=b
 .rw[lQ.2 h];simp[h]
 .have:Nat.ble ck b=false:=by
   cases e:Nat.ble ck b with
   |false=>rfl
   |true=>exact absurd (lQ.1 e) h
  rw[this];simp[h]
def Sv:cH (lE ck H) H:=λ_ _ h=>(mC.1 h).2
def afW{bA:bb}(h:cH H bA):cH (lE ck H) (lE ck bA):=λb U e=>mC.2 ⟨(mC.1 e).1,h b U (mC.1 e).2⟩
def Sw{N:Nat}(h:ck<=N):cH (lE N H) (lE ck H):=λ_ _ e=>mC.2 ⟨ch h (mC.1 e).1,(mC.1 e).2⟩
def afX(ck:Nat)(a:ag):B1:=⟨λH v=>den (lE ck H) a [] v,λh _ d=>iR (afW h) a apu d,qX a,λh _ _ d=>Fx h d⟩
def g0(ck:Nat)(a:ag):ag:=.g<|afX ck a
def bz.u0{a:ag}:bz (g0 ck a) a:=λ_ _ _ d=>iR Sv a (b9.nil _) d
def bz.Lz{t:Bool}:bz (.b t) (g0 ck<|.b t):=λ_ _ _ d=>d
theorem Sx{ck:Nat}{H:bb}{ids:ac Nat}:∀{as:ac ag} {ab:ac bv},cG (lE ck H) as [] ab->cG H (as.map<|g0 ck) ids ab
 |[],_,d=>d
 |_::_,_,⟨v,F,e,O,N⟩=>⟨v,F,e,O,Sx N⟩
theorem LA{ck:Nat}{H:bb}{ids:ac Nat}:∀{as:ac ag} {ab:ac bv},cG H (as.map<|g0 ck) ids ab->cG (lE ck H) as [] ab
 |[],_,d=>d
 |_::_,_,⟨v,F,e,O,N⟩=>⟨v,F,e,O,LA N⟩
def bz.afY{as:ac ag}:bz (g0 ck<|.agg as) (.agg<|as.map<|g0 ck):=λ_ _ _ ⟨ab,e,d⟩=>⟨ab,e,Sx d⟩
def bz.afZ{ck:Nat}{as:ac ag}:bz (.agg<|as.map<|g0 ck) (g0 ck<|.agg as):=λ_ _ _ ⟨ab,e,d⟩=>⟨ab,e,LA d⟩
def df.jR(S:df):Spec where
 L:=S.L×bb
 pre:=S.spec.pre
 post:=λl ab st v al=>∃bA,Fit bA [] al [] 0/\cW l.2 [] st bA [] al/\den (lE st.ae bA) (S.res l.1) [] v
def et.Sy{f:d7}{S:df}(h:et X f S.jR):et X f S.spec:=λas st hp=>by
 have⟨v,al,Y,G⟩:=h as st hp;exact⟨v,al,λl j=>let⟨bA,cu,I,a0⟩:=Y l j;⟨bA,cu,I,iR Sv _ apu a0⟩,G⟩
def Sz(S:df)(l:S.L)(ck:Nat)(res:ac gS)(x:c6)(s:cb):Prop:=(x= .norm\/x= .ret)/\∃r,Fin.kH s res=some r/\bz r (g0 ck<|S.res l)
variable{s:cb}{br:d7->dV}{g:d7}{a6 n:Nat}{a1:bb}{i0:ac Nat}{aq:ak}{Q:c6->cb->Prop}{bO:ac ce}{as:ac ag}
def Gb{S:df}{l:S.L}{res:ac gS}{r:ag}{e:c6}(aC:Fin.kH s res=some r)(D:bz r (g0 ck<|S.res l))(he:e= .ret\/e= .norm:=by first|exact .inl j|exact .inr j):Sz S l ck res e s:=⟨he.symm,r,aC,D⟩
def SA{aL:ao cX}{S:df}(aQ:et X g S.spec)(O:br g=S.spec.K){fn:d7}(l:S.L)
 (bR:hr s.env bO=some as) (he:fT as ((S.args l).map<|g0 aq.ae)) (hp:S.pre l) (cK:∀H,S.hp H):
 Ce (gI X aL br n a6 fn a1 i0 aq Q) (.call (.func g) bO) s (g0 aq.ae<|S.res l) s.own s.n:=λH ids st o F Z D=>by
 have bZ:=LA<|he.den<|D.dQ bR;have h:Fit (lE aq.ae H) [] st [] 0:=⟨Z.wf,λb U e=>Z.le b U (mC.1 e).2,j,j,oU,λb C=>by simp at C,λk U b N=>by simp at N⟩;have⟨v,al,ah,G⟩:=aQ _ st ⟨(l,lE aq.ae H),hp,cK _,h,bZ⟩;have⟨v1,b8,cu,I⟩:=zc (K:=br) ⟨v,al,by rwa [O],G⟩;rw[O]at I;have⟨bA,W,R,M⟩:=I (l,lE aq.ae H) ⟨hp,cK _,h,bZ⟩;have a0:cg aL (cw X br) (n+1) (.func (.func g) #[] #[]) (dQ o bO) none st= .ret v1 b8 false:=by
  rw[o4];have e:fr (#[]:bi bv).toList (fr (dQ o bO) (#[]:bi bv).toList)=dQ o bO:=au
  rw[e,cu];rfl
 obtain⟨Y,q⟩:∃Y:bb,∀b,Y b=if b<st.ae then H b else bA b:=⟨_,λ_=>j⟩;have hle:cH H Y:=λb U e=>by rw[q,aD<|Z.aW e];exact e
 have V:cH bA (lE aq.ae Y):=λb U e=>by
  by_cases C:b<st.ae
  .have E:=e;rw[(λb C=>R.hold b C au) b C]at E;have⟨a',aa⟩:=mC.1 E;exact mC.2 ⟨a',hle _ _ aa⟩
  .exact mC.2 ⟨by have ag:aq.ae<=st.ae:=F.ae;omega,by rwa [q,av C]⟩
 refine⟨v1,b8,ids,Y,?_,?_,iR V (S.res l) apu M,hle,b9.refl _,?_,R.ae,λb C _=>R.eK b C au⟩
 .show bw (cg aL (cw X br)<|n+1) _ _ _=_;exact aps
 .refine⟨W.wf,λb U e=>?_,Z.cZ,Z.len,Z.cY,λb C=>e2 (Z.lt b C) R.ae,λk U b N C=>?_⟩
  .rw[q]at e;split at e
   .rename_i C;rw[R.eK b C au];exact Z.le _ _ e
   .exact W.le _ _ e
  .have⟨A,T⟩:=Z.own k U b N C;have aW:=Z.lt b<|hh C;simpa[R.eK b aW au]using⟨q1 hle apu A,λaf=>by rw[q,aD aW];exact T af⟩
 .exact⟨F.hle.trans hle,λb C aj=>(by rw[q,aD<|e2 C F.ae];exact F.hold b C aj),λb C aj=>asN,ch F.ae R.ae,F.jx,F.new⟩
def af0{aL:ao cX}{S:df}(aQ:et X g S.jR)(O:br g=S.jR.K){fn:d7}(l:S.L)
 (bR:hr s.env bO=some as) (fF:gp as=true) (he:fT as (S.args l)) (hp:S.pre l) (cK:S.hp a1):
 Ce (gI X aL br n a6 fn a1 i0 aq Q) (.call (.func g) bO) s (g0 aq.ae<|S.res l) s.own s.n:=λH ids st o F Z D=>by
 have bZ:=he.den<|nz _ fF (D.dQ bR) [];have h:=F.hle;have⟨v,al,Y,G⟩:=aQ _ st ⟨(l,H),hp,S.hm h cK,Z.less,bZ⟩;have⟨v1,b8,cu,I⟩:=zc (K:=br) ⟨v,al,by rwa [O],G⟩;rw[O]at I;have⟨bA,W,R,M⟩:=I (l,H) ⟨hp,S.hm h cK,Z.less,bZ⟩;have a0:cg aL (cw X br) (n+1) (.func (.func g) #[] #[]) (dQ o bO) none st= .ret v1 b8 false:=by
  rw[o4];have e:fr (#[]:bi bv).toList (fr (dQ o bO) (#[]:bi bv).toList)=dQ o bO:=au
  rw[e,cu];rfl
 have hle:=R.hle;refine⟨v1,b8,ids,bA,?_,?_,iR (Sw F.ae) (S.res l) apu M,hle,b9.refl _,?_,R.ae,λb C _=>R.eK b C au⟩
 .show bw (cg aL (cw X br)<|n+1) _ _ _=_;exact aps
 .refine⟨W.wf,W.le,Z.cZ,Z.len,Z.cY,λb C=>e2 (Z.lt b C) R.ae,λk U b N C=>?_⟩;have⟨A,T⟩:=Z.own k U b N C;have aW:=Z.lt b<|hh C;rw[R.eK b aW au];exact at0 at0
 .exact⟨F.hle.trans hle,λb C aj=>(by rw[R.hold b (e2 C F.ae) au];exact F.hold b C aj),λb C aj=>asN,ch F.ae R.ae,F.jx,F.new⟩
section
variable{aL:ao cX}{br:d7->dV}{a6 n:Nat}{fn:d7}{a1:bb}{i0:ac Nat}{aq:ak}{Q:c6->cb->Prop}{K:ac dA}{own bg:ac aZ}{ax:Nat}{e:bP}
variable{d:Tmp}{xs:ac (bj×cn)}{a9:ac aZ}{aX:bP}{bU:Nat}
def af1{S:df}(aQ:et X g S.spec){xs:ac bj}(l:S.L)(hp:S.pre l)(k:cL (gI X aL br n a6 fn a1 i0 aq Q) K xs own ax ((d,g0 aq.ae<|S.res l)::e))
 (bR:hr e bO=some as:=by rfl) (he:fT as ((S.args l).map<|g0 aq.ae):=by exact fT.refl _) (O:br g=S.spec.K:=by rfl) (cK:∀H,S.hp H:=by exactλ_=>trivial):
 gY (gI X aL br n a6 fn a1 i0 aq Q) K d (.call (.func g) bO) xs own ax e:=Rq (SA aQ O l bR he hp cK) k
def zw{S:df}(aQ:et X g S.spec){aT:Nat}(l:S.L)(hp:S.pre l)(k:dx (gI X aL br n a6 fn a1 i0 aq Q) K xs a9 (jb d aX) (aT+1) ax own ax ((d,g0 aq.ae<|S.res l)::e))
 (bR:hr e bO=some as:=by rfl) (he:fT as ((S.args l).map<|g0 aq.ae):=by exact fT.refl _) (O:br g=S.spec.K:=by rfl) (cK:∀H,S.hp H:=by exactλ_=>trivial):
 dx (gI X aL br n a6 fn a1 i0 aq Q) K ((⟨some d,.call (.func g) bO,none⟩,.dI)::xs) a9 aX aT bU own ax e:=
 KY (SA aQ O l bR he hp cK) j aqh k
def Gc{S:df}(aQ:et X g S.jR){aT:Nat}(l:S.L)(hp:S.pre l)(k:dx (gI X aL br n a6 fn a1 i0 aq Q) K xs a9 (jb d aX) (aT+1) ax own ax ((d,g0 aq.ae<|S.res l)::e))
 (bR:hr e bO=some as:=by rfl) (he:fT as (S.args l):=by exact fT.refl _) (fF:gp as=true:=by rfl) (O:br g=S.jR.K:=by rfl) (cK:S.hp a1:=by exact az):
 dx (gI X aL br n a6 fn a1 i0 aq Q) K ((⟨some d,.call (.func g) bO,none⟩,.dI)::xs) a9 aX aT bU own ax e:=
 KY (af0 aQ O l bR fF he hp cK) j aqh k
end
section
variable{call:bN}{a6:Nat}{fn:d7}{a1:bb}{aq:ak}{Q:c6->cb->Prop}{K:ac dA}{own bg:ac aZ}{ax:Nat}{e:bP}{xs:ac bj}
theorem af2{a8 z c:Nat}(t:Nat){el:co}{aR:Bool}{α:Type}{ah:α->ac ag}{l:ac α}(k:cL ⟨call,a6,fn,a1,[],aq,Q⟩ K xs bg ax ((t,g0 aq.ae<|.b6 z α ah l)::e))(N:dn e t=some (.aH a8 z 0 n c):=by rfl)(aw:own[a8]? =some (.a el aR z α ah l):=by rfl)
 (hp:∀x H ids ab,cG H (ah x) ids ab->∀bA,cG bA (ah x) [] ab:=by exactλ_ _ _ _ d _=>d) (aj:l.length=n:=by first|rfl|omega) (aQ:n<=c:=by first|exact c5 _|omega) (E:g9 own a8 .x some=some bg:=by rfl):cL ⟨call,a6,fn,a1,[],aq,Q⟩ K xs own ax e:=by
 cases h4 E;intro H ids st o F Z D;have⟨b,cu,I⟩:=D.get t _ N;have⟨⟨ab,a0,cJ,c2⟩,_⟩:=Z.own a8 _ b aw cu;have hle:=pe Z aw j cu;have M:aq.ae<=b:=by
  obtain h|h:=F.new b<|hh cu
  .simp at h
  .exact h
 refine k (eP H st b) ids st o (F.eP Z aw j cu) (Z.eP aw j cu) ⟨(D.mono hle apu).pl,λJ q V=>?_⟩;rw[lB]at V;cases C:Nat.beq t J with
 |false=>exact atS
 |true=>
  rw[C]at V;cases V;rw[<-dB C];refine .inr ⟨b,0,c,ab,el,(0,0),aR,by rw[I,aj,hF],R,mC.2 ⟨M,by rw[eP];rw[aD j];exact a0⟩,λi x O=>?_⟩
  grind
end
end Go.bC
namespace Go.bC
open Sym
structure hB(H:bb)(es:ac f7)(clock:Nat)(ms:ac (bv×ag)):Prop where
 born:∀e∈es,e.born<clock
 jM:es.Pairwise (fun a b=>a.born≠b.born)
 keys:es.Pairwise (fun a b=>a.key≠b.key)
 cY:(ms.map (·.1)).Nodup
 jy:∀e∈es,∃a,(e.key,a)∈ms∧den H a [] e.val
 to:∀p∈ms,∃e∈es,e.key=p.1
 len:es.length=ms.length
variable{ms:ac (bv×ag)}{k:bv}{a:ag}
def hB.mono{H bA:bb}(hle:cH H bA){es:ac f7}{clock:Nat}(h:hB H es clock ms):hB bA es clock ms:=
 ⟨h.born,h.jM,h.keys,h.cY,λe D=>let⟨a,Y,G⟩:=h.jy e D;⟨a,Y,iR hle a apu G⟩,h.to,h.len⟩
def h6(ms:ac (bv×ag)):KJ:=⟨λH j=>∃es clock,j=some (.map es clock)/\hB H es clock ms,λh _ ⟨es,c,e,d⟩=>⟨es,c,e,d.mono h⟩⟩
def fO(ms:ac (bv×ag)):B1:=⟨λH v=>∃r es clock,v= .map (some r)/\H r=some (.map es clock)/\hB H es clock ms,λh _ ⟨r,es,c,e,j,d⟩=>⟨r,es,c,e,h _ _ j,d.mono h⟩,true,λ_ H v ⟨_,_,_,e,_⟩=>by rw[e];rfl⟩
def iU:ac (bv×ag)->bv->be ag
 |[],_=>none
 |p::l,k=>cond (dC k p.1) (some p.2)<|iU l k
theorem LB(h:(ms.map (·.1)).Nodup){b:ag}(bR:(k,a)∈ms)(ay:(k,b)∈ms):a=b:=by
 induction ms with
 |nil=>cases bR
 |cons p l I=>
  grind
def xk(h:iU ms k=some a):(k,a)∈ms:=by
 induction ms with
 |nil=>cases h
 |cons p l I=>
  rw[iU]at h;cases C:dC k p.1 with
  |true=>rw[C]at h;cases h;rw[j2 _ _ C];exact hT
  |false=>rw[C]at h;exact fq _<|I h
def Cs(h:iU ms k=none):∀p∈ms,p.1≠k:=by
 induction ms with
 |nil=>intro p hp;cases hp
 |cons p l I=>
  rw[iU]at h;cases C:dC k p.1 with
  |true=>rw[C]at h;cases h
  |false=>
   rw[C]at h;intro q E;obtain rfl|E:=fh.1 E
   .intro e;rw[<-e,oX]at C;cases C
   .exact I h q E
def SB(aj:(ms.map (·.1)).Nodup)(h:(k,a)∈ms):iU ms k=some a:=by
 cases e:iU ms k with
 |none=>exact absurd j (Cs e _ h)
 |some b=>rw[LB aj h<|xk e]
section
variable{H:bb}{es:ac f7}{clock:Nat}{ms iq:ac (bv×ag)}{k:bv}
def hB.find(h:hB H es clock ms):(∃e a,ic k es=some e/\iU ms k=some a/\e∈es/\e.key=k/\den H a [] e.val)\/(ic k es=none/\iU ms k=none):=by
 cases D:ic k es with
 |some e=>
  have⟨Z,F⟩:=yN D;have⟨a,Y,G⟩:=h.jy e Z;rw[F]at Y;exact .inl ⟨e,a,j,SB h.cY Y,Z,F,G⟩
 |none=>
  refine .inr ⟨j,?_⟩;cases q:iU ms k with
  |none=>rfl
  |some a=>
   have⟨e,he,N⟩:=h.to _<|xk q;exact absurd N<|Bv D e he
theorem hB.lo(h:hB H es clock ms){ct:fH}(aw:∀p∈ms,ct.ok p.1=true):lo ct es=true:=ia.2 λe D=>let⟨_,Y,_⟩:=h.jy e D;aw _ Y
structure xl(ms:ac (bv×ag))(k:bv)(a:ag)(iq:ac (bv×ag)):Prop where
 cY:(iq.map (·.1)).Nodup
 new:(k,a)∈iq
 hy:∀p∈ms,p.1≠k->p∈iq
 jy:∀p∈iq,p=(k,a)∨p∈ms∧p.1≠k
 len:iq.length=match iU ms k with|some _=>ms.length|none=>ms.length+1
structure LC(ms:ac (bv×ag))(k:bv)(iq:ac (bv×ag)):Prop where
 cY:(iq.map (·.1)).Nodup
 hy:∀p∈ms,p.1≠k->p∈iq
 jy:∀p∈iq,p∈ms∧p.1≠k
 len:iq.length=match iU ms k with|some _=>ms.length-1|none=>ms.length
variable{v:bv}
def hB.put(h:hB H es clock ms)(M:xl ms k a iq)(S:den H a [] v){b:ag}(aB:iU ms k=some b):hB H (wu k v es) clock iq:=by
 have N:∀e:f7,(cond (dC k e.key) (⟨e.key,v,e.born⟩:f7) e).key=e.key/\(cond (dC k e.key) (⟨e.key,v,e.born⟩:f7) e).born=e.born:=λe=>by
  cases dC k e.key<;>exact fe
 refine⟨λe D=>?_,oS.2 (h.jM.imp λ{a b} Y=>by rw[(N a).2,(N b).2];exact Y),oS.2 (h.keys.imp λ{a b} Y=>by rw[(N a).1,(N b).1];exact Y),M.cY,λe D=>?_,λp hp=>?_,?_⟩
 .obtain⟨q,E,rfl⟩:=da.1 D;rw[(N q).2];exact h.born q E
 .obtain⟨q,E,rfl⟩:=da.1 D;cases C:dC k q.key with
  |true=>exact⟨a,by rw[<-j2 _ _ C];exact M.new,S⟩
  |false=>
   obtain⟨c,F,G⟩:=h.jy q E;have A:q.key≠k:=λe=>by
    rw[<-e,oX]at C;cases C
   exact⟨c,M.hy (q.key,c) F A,G⟩
 .have hm:p.1=k\/p∈ms:=(M.jy p hp).imp (λe=>by rw[e]) (·.1);have key:∃e∈es,e.key=p.1:=by
   rcases hm with e|hm
   .obtain⟨q,E,R⟩:=h.to _<|xk aB;exact⟨q,E,R.trans e.symm⟩
   .exact h.to p hm
  obtain⟨q,E,R⟩:=key;exact⟨_,da.2 ⟨q,E,j⟩,(N q).1.trans R⟩
 .have:=M.len;rw[aB]at this;show(es.map _).length=_;rw[hI,h.len,this]
theorem hB.push(h:hB H es clock ms)(M:xl ms k a iq)(S:den H a [] v)(aB:iU ms k=none):hB H (es++[⟨k,v,clock⟩]) (clock+1) iq:=by
 have j:∀e∈es,e.key≠k:=λe D N=>by
  have⟨a,Y,_⟩:=h.jy e D;exact Cs aB _ Y N
 refine⟨λe D=>?_,?_,?_,M.cY,λe D=>?_,λp hp=>?_,?_⟩
 .obtain D|D:=gA.1 D
  .have:=h.born e D;omega
  .grind
 .refine Dx.2 ⟨h.jM,IA _ _,λa A b C=>?_⟩;rw[gC]at C;subst C;exact Nat.ne_of_lt<|h.born a A
 .exact Dx.2 ⟨h.keys,IA _ _,λa A b C=>apt⟩
 .obtain D|D:=gA.1 D
  .have⟨c,Y,G⟩:=h.jy e D;exact⟨c,M.hy _ Y<|j e D,G⟩
  .rw[gC]at D;subst D;exact⟨a,M.new,S⟩
 .obtain e|⟨hm,_⟩:=M.jy p hp
  .simp_all
  .have⟨q,E,R⟩:=h.to p hm;exact⟨q,n5 _ E,R⟩
 .have:=M.len;rw[aB]at this;simp[h.len,this]
def filter_one(aj:es.Pairwise λa b=>a.key≠b.key){e:f7}(he:e∈es):(qG e.key es).length+1=es.length:=by
 induction es with
 |nil=>cases he
 |cons x xs I=>
  rw[n0]at aj;unfold qG at I⊢;rw[Dy];obtain rfl|he:=fh.1 he
  .rw[oX];have:xs.filter (λy=> !dC e.key y.key)=xs:=At.2 λy T=>by
    cases C:dC e.key y.key with
    |false=>rfl
    |true=>exact absurd (j2 _ _ C)<|aj.1 y T
   simp[this]
  .have:dC e.key x.key=false:=by
    cases C:dC e.key x.key with
    |false=>rfl
    |true=>exact absurd (j2 _ _ C).symm<|aj.1 e he
   rw[this];simp[I aj.2 he]
theorem hB.del(h:hB H es clock ms)(bZ:LC ms k iq):hB H (qG k es) clock iq:=by
 have hm:∀e,e∈qG k es↔e∈es/\e.key≠k:=λe=>by
  rw[qG,rO];refine and_congr_right λ_=>?_;constructor
  .intro C D;rw[D,oX]at C;cases C
  .intro I;cases C:dC k e.key with
   |false=>rfl
   |true=>exact absurd (j2 _ _ C).symm I
 refine⟨λe D=>h.born e ((hm e).1 D).1,h.jM.sublist DG,h.keys.sublist DG,bZ.cY,λe D=>?_,λp hp=>?_,?_⟩
 .have⟨Y,G⟩:=(hm e).1 D;have⟨a,A,T⟩:=h.jy e Y;exact⟨a,bZ.hy _ A G,T⟩
 .have⟨Y,G⟩:=bZ.jy p hp;have⟨q,E,R⟩:=h.to p Y
  grind
 .have F:=bZ.len;cases j:iU ms k with
  |none=>
   rw[j]at F;rw[F,<-h.len];rw[qG,At.2];intro e D;have⟨a,Y,_⟩:=h.jy e D;cases C:dC k e.key with
   |false=>rfl
   |true=>exact absurd (j2 _ _ C).symm (Cs j _ Y)
  |some a=>
   have⟨e,D,L⟩:=h.to _<|xk j;have:=filter_one h.keys D;have G:=h.len
   grind
end
def u1(a1:bb)(own:ac aZ)(a:ag)(ms:ac (bv×ag)):Prop:=
 ∀(H:bb) (ids:ac Nat) (st:ak) (v:bv),cH a1 H->(∀(k:Nat) (U:aZ) (b:Nat),own[k]? =some U->U.live=true->ids[k]? =some b->ov H ids U (st.h.get b))->den H a ids v->
  ∃r es clock,v= .map (some r)/\hB H es clock ms/\∀L:ak,(∀b U,H b=some U->L.h.get b=some U)->(∀(k:Nat) (U:aZ) (b:Nat),own[k]? =some U->U.live=true->ids[k]? =some b->L.h.get b=st.h.get b)->L.h.get r=some (.map es clock)
variable{a1:bb}
def af3{own:ac aZ}{k:Nat}(aw:own[k]? =some (.g<|h6 ms)):u1 a1 own (.mp k) ms:=λH ids st v _ E ⟨b,C,S⟩=>by
 have⟨es,clock,Y,G⟩:=E k _ b aw j C;exact⟨b,es,clock,S,G,λL _ h=>(h k _ b aw j C).trans Y⟩
def SC{own:ac aZ}:u1 a1 own (.g<|fO ms) ms:=λH ids st v _ _ ⟨r,es,c,S,Y,G⟩=>⟨r,es,c,S,G,λ_ h _=>h _ _ Y⟩
def SD{own:ac aZ}{r clock:Nat}{es:ac f7}(I:a1 r=some (.map es clock))(bZ:hB a1 es clock ms):u1 a1 own (.v<|.map<|some r) ms:=λH ids st v F _ S=>⟨r,es,clock,S,bZ.mono F,λ_ h _=>h _ _<|F _ _ I⟩
def u1.now{H:bb}{own:ac aZ}(h:u1 a1 own a ms){ids:ac Nat}{st:ak}{n:Nat}(bX:cH a1 H)(Z:Fit H ids st own n){v:bv}(S:den H a ids v):∃r es clock,v= .map (some r)/\st.h.get r=some (.map es clock)/\hB H es clock ms:=
 let⟨r,es,clock,e,d,k⟩:=h H ids st v bX (λk U b N _ C=>(Z.own k U b N C).1) S
 ⟨r,es,clock,e,k st Z.le λ_ _ _ _ _ _=>j,d⟩
section
variable{call:bN}{a1:bb}{s:cb}
def u2(a:ag)(k:bv):Prop:=∀H ids v,den H a ids v->v=k
variable{m:ce}{ct:fH}{iJ:bv}{clock:Nat}{es:ac f7}{J:Nat}{ra:ag}{iq:ac (bv×ag)}
theorem zx{k:f6}:∀{l:ac Int} {H:bb} {ids:ac Nat} {ab:ac bv},cG H (l.map<|ag.i k) ids ab->ab=l.map (Value.int k)
 |[],_,_,_,d=>d
 |n::l,_,_,_,⟨v,F,e,O,N⟩=>by rw[e,zx N,show v=Value.int k n from O];rfl
def af4(k:f6)(l:ac Int):u2 (.agg<|l.map<|ag.i k) (.agg ⟨l.map<|Value.int k⟩):=λ_ _ _ ⟨ab,e,d⟩=>by rw[e,zx d]
def SE(H:bb):hB H [] 0 []:=⟨(λe D=>by cases D),.nil,.nil,oU,(λe D=>by cases D),apF,j⟩
def af5:fp call .pG s (.mp s.n) (s.own++[.g<|h6 []]) (s.n+1):=λH ids st o Z D=>by
 refine⟨.map<|some st.ae,_,ids++[st.ae],H,?_,(Z.add ⟨[],0,j,SE _⟩),aqS,cH.refl _,b9.app _ _,λ_ _ _ B=>B.add _,kW _,λb C _=>p9 C⟩;have e:bw call .pG o st=st.iD (.map [] 0) λid st=>.ok (.map<|some id) o st:=rfl;rw[e,gj]
def af6{z:bv}{ok:Bool}{k:ce}{H:bb}{o:aK}{id:Nat}(S:o.ar m= .map (some id))(M:o.ar k=iJ)(bZ:hB H es clock ms)(jz:ct.ok iJ=true)(R:∀p∈ms,ct.ok p.1=true)(r:ag)
 (I:match iU ms iJ with|some a=>r=a|none=>∀H ids,den H r ids z) (fF:h1 r=true) (ids:ac Nat):
 ∃v,den H (cond ok (.bc [r,.b (iU ms iJ).isSome]) r) ids v/\∀st:ak,st.h.get id=some (.map es clock)->bw call (.ext<|.look ct z ok m k) o st= .ok v o st:=by
 have e:∀st:ak,st.h.get id=some (.map es clock)->bw call (.ext<|.look ct z ok m k) o st=bq (ic iJ es) (λe=>a2.ok (cond ok (.tuple #[e.val,.bool true]) e.val) o st) (.ok (cond ok (.tuple #[z,.bool false]) z) o st):=λst O=>by
  show cond (ct.ok<|o.ar k) (oY (o.ar m) (λr=>bq r (λid=>jH (st.h.get id) (λes _=>cond (lo ct es) (bq (ic (o.ar k) es) (λe=>a2.ok (cond ok (.tuple #[e.val,.bool true]) e.val) o st)<|.ok (cond ok (.tuple #[z,.bool false]) z) o st) .no) .no) _) .no) .no=_;rw[M,jz,S];show jH (st.h.get id) (λes _=>cond (lo ct es) (bq (ic iJ es) (λe=>a2.ok (cond ok (.tuple #[e.val,.bool true]) e.val) o st)<|.ok (cond ok (.tuple #[z,.bool false]) z) o st) .no) .no=_;rw[O];show cond (lo ct es) _ _=_;rw[bZ.lo R];rfl
 have fin:∀(t:Bool) v,(∃V,den H r V v)->den H (cond ok (.bc [r,.b t]) r) ids (cond ok (.tuple #[v,.bool t]) v):=λt v ⟨V,S⟩=>by
  have S:=tk r fF S ids;cases ok
  .exact S
  .exact⟨_,j,_,_,j,S,_,_,j,j,j⟩
 obtain⟨q,a,Y,G,A,T,C⟩|⟨Y,G⟩:=bZ.find
 .rw[G]at I⊢;subst I;exact asx asx
 .rw[G]at I⊢;exact aso aso
def af7{R:ag}(hm:a5 s.env m=some R)(M:u1 a1 s.own R ms):p8 a1 call (.ext<|.v9 m) s (.i .i64 (ms.length:Nat)) s.own s.n:=λH ids st o F Z D=>by
 have⟨id,es,clock,S,O,bZ⟩:=M.now F Z<|D.ar hm;refine⟨.int .i64 ms.length,st,ids,H,?_,Z,j,cH.refl _,b9.refl _,λ_ _ _ B=>B,c5 _,λ_ _ _=>j⟩;show oY (o.ar m) (λr=>bq r (λid=>jH (st.h.get id) (λes _=>fW (dE es) λn=>a2.ok (.int .i64<|.ofNat n) o st) .no) _) .no=_;rw[S];show jH (st.h.get id) (λes _=>fW (dE es) λn=>a2.ok (.int .i64<|.ofNat n) o st) .no=_;rw[O];show fW (dE es) (λn=>a2.ok (.int .i64<|.ofNat n) o st)=_;rw[wA,e4,bZ.len];rfl
def SF{k v:ce}(hm:a5 s.env m=some (.mp J))(ba:s.own[J]? =some (.g<|h6 ms))(aw:a5 s.env k=some ra)(N:u2 ra iJ)(S:a5 s.env v=some a)(fF:h1 a=true)(jz:ct.ok iJ=true)(R:∀p∈ms,ct.ok p.1=true)
 (M:xl ms iJ a iq):fp call (.ext<|.e3 ct m k v) s (.bc []) (s.own.set J<|.g<|h6 iq) s.n:=λH ids st o Z D=>by
 obtain⟨b,C,W⟩:=D.ar hm;obtain⟨⟨es,clock,O,bZ⟩,_⟩:=Z.own J _ b ba C;have F:=tk a fF (D.ar S) [];have q:gr s.env (.ext<|.e3 ct m k v)=some J:=by simp[gr,hm]
 have e:bw call (.ext<|.e3 ct m k v) o st=bq (ic iJ es) (λ_=>st.g8 b (.map (wu iJ (o.ar v) es) clock) λst=>.ok undef o st) (st.g8 b (.map (es++[⟨iJ,o.ar v,clock⟩])<|Nat.succ clock) λst=>.ok undef o st):=by
  show cond (ct.ok<|o.ar k) (oY (o.ar m) (λr=>bq r (λid=>jH (st.h.get id) (λes clock=>cond (lo ct es)
   (bq (ic (o.ar k) es) (λ_=>st.g8 id (.map (wu (o.ar k) (o.ar v) es) clock) λst=>a2.ok undef o st)
    (st.g8 id (.map (es++[⟨o.ar k,o.ar v,clock⟩])<|Nat.succ clock) λst=>.ok undef o st)) .no) .no) .no) .no) .no=_
  exact aqi
 have fin:∀(eO:ac f7) E,hB H eO E iq->bw call (.ext<|.e3 ct m k v) o st= .ok undef o ⟨st.h.set b<|.map eO E,st.ae⟩->
  ∃I al V bA,bw call (.ext<|.e3 ct m k v) o st= .ok I o al/\Fit bA V al (s.own.set J<|.g<|h6 iq) s.n/\den bA (.bc []) V I/\cH H bA/\b9 ids V/\(∀a1 i0 aq,cW a1 i0 aq H ids st->cW a1 i0 aq bA V al)/\
  st.ae<=al.ae/\∀b,b<st.ae->(∀L,gr s.env (.ext<|.e3 ct m k v)=some L->ids[L]? ≠some b)->al.h.get b=st.h.get b:=λeO E aa af=>
  ⟨undef,_,ids,H,af,Z.e3 ba j C ⟨eO,E,j,aa⟩,ap6,cH.refl _,b9.refl _,λ_ _ _ B=>B.e3 (hh C) _,c5 _,λc _ a'=>ao.fk _ _ λe=>a' J q<|e▸C⟩
 rcases bZ.find with⟨ah,c,Y,G,A,T,ag⟩|⟨Y,G⟩
 .refine fin _ _ (bZ.put M F G) ?_;rw[e,Y,Sym.ed,ja]
 .refine fin _ _ (bZ.push M F G) ?_;rw[e,Y,Sym.hL,ja]
def af8{k:ce}(hm:a5 s.env m=some (.mp J))(ba:s.own[J]? =some (.g<|h6 ms))(aw:a5 s.env k=some ra)(N:u2 ra iJ)(jz:ct.ok iJ=true)(R:∀p∈ms,ct.ok p.1=true)
 (M:LC ms iJ iq):fp call (.ext<|.del ct m k) s (.bc []) (s.own.set J<|.g<|h6 iq) s.n:=λH ids st o Z D=>by
 have⟨b,C,W⟩:=D.ar hm;have⟨⟨es,clock,O,bZ⟩,_⟩:=Z.own J _ b ba C;have q:gr s.env (.ext<|.del ct m k)=some J:=by simp[gr,hm]
 have e:bw call (.ext<|.del ct m k) o st=st.g8 b (.map (qG iJ es) clock) λst=>.ok undef o st:=by
  show cond (ct.ok<|o.ar k) (oY (o.ar m) (λr=>bq r (λid=>jH (st.h.get id) (λes clock=>cond (lo ct es) (st.g8 id (.map (qG (o.ar k) es) clock) λst=>a2.ok undef o st) .no) .no) .no) .no) .no=_;exact aqi
 rw[ja]at e;exact apY apY
def af9{r:Nat}(hm:a5 s.env m=some (.v<|.map<|some r))(I:a1 r=some (.map es clock)):p8 a1 call (.ext<|.ug m) s (.p s.n 0) (s.own++[.g<|mB r clock []]) (s.n+1):=λH ids st o F Z D=>by
 have S:=D.ar hm;have O:=Z.le _ _<|F _ _ I;refine⟨.pointer<|some ⟨st.ae,0,none⟩,_,ids++[st.ae],H,?_,(Z.add j),aqS,cH.refl _,b9.app _ _,λ_ _ _ B=>B.add _,kW _,λb C _=>p9 C⟩;show oY (o.ar m) (λr=>bq r (λid=>jH (st.h.get id) (λ_ clock=>st.iD (.nr (some id) clock [] clock) λid st=>a2.ok (.pointer<|some ⟨id,0,none⟩) o st) .no) _) .no=_;rw[S];show jH (st.h.get r) (λ_ clock=>st.iD (.nr (some r) clock [] clock) λid st=>a2.ok (.pointer<|some ⟨id,0,none⟩) o st) .no=_;rw[O];show st.iD (.nr (some r) clock [] clock) (λid st=>a2.ok (.pointer<|some ⟨id,0,none⟩) o st)=_;rw[gj]
end
section
variable{an:eR}{K:ac dA}{own bg:ac aZ}{ax:Nat}{e:bP}{xs:ac bj}
def LD(t:Nat){k:Nat}(bD:cL an K xs bg ax ((t,.g<|fO ms)::e))(N:dn e t=some (.mp k):=by rfl)(aw:own[k]? =some (.g<|h6 ms):=by rfl)(E:g9 own k .x some=some bg:=by rfl):cL an K xs own ax e:=by
 cases h4 E;intro H ids st o F Z D;have⟨b,cu,I⟩:=D.get t _ N;have⟨⟨es,clock,a0,d⟩,_⟩:=Z.own k _ b aw cu;have hle:=pe Z aw j cu;refine bD (eP H st b) ids st o (F.eP Z aw j cu) (Z.eP aw j cu) ⟨(D.mono hle apu).pl,λJ q V=>?_⟩;rw[lB]at V;cases C:Nat.beq t J with
 |false=>exact atS
 |true=>
  exact aqy
def aga(t:Nat)(b:ag){c:bf}(h:dn e t=some a)(Y:∀H,cH an.a1 H->∀ids v,den H a ids v->den H b ids v)(bD:fB an K c own ax ((t,b)::e))(aQ:c.nD=false:=by rfl):fB an K c own ax e:=by
 have key:∀{H ids st o},cW an.a1 an.i0 an.aq H ids st->cS o H ids e->cS o H ids ((t,b)::e):=λ{H ids st o} F G=>⟨G.pl,λJ q V=>by
  rw[lB]at V;cases C:Nat.beq t J with
  |true=>rw[C]at V;cases V;rw[<-dB C];exact Y _ F.hle _ _ (G.get t _ h)
  |false=>rw[C]at V;exact G.get J q V⟩
 cases c with
 |c c=>exactλH ids st o F Z D=>bD H ids st o F Z (key F D)
 |U l=>exactλH ids st o F Z D=>bD H ids st o F Z (key F D)
 |x e=>cases aQ
 |d l a9 aX aT bU=>exactλS A H ids st o W M F Z D E=>bD S A H ids st o W M F Z (key F D) E
end
end Go.bC
namespace Go.bC
open Sym
variable{X:Ctx}
variable{ad:bH}{w:f5}{cO:bH}{l:Loc}{U:bx}
def qK.back(hle:ad.le cO){f O g:Fn}(bX:qK ad f O)(h:qK cO f g):qK ad f g:=by
 obtain h|⟨l,b,Y,G,A⟩:=h
 .exact .inl h
 .obtain⟨_,aj⟩|⟨T,V,cu,I,a0⟩:=bX
  .exact absurd Y<|aj l
  .rw[Y]at cu;cases cu;have:=hle _ _ a0;rw[A]at this;cases this;exact .inr ⟨l,b,Y,G,a0⟩
def bd.back(hle:ad.le cO){v c:bv}(h:bd cO v c):∀{N:bv},bd ad v N->bd ad v c:=by
 have up:∀{i:Nat} {l T:Loc},ad i=some l->cO i=some T->T=l:=λY G=>by
  have:=hle _ _ Y;rw[G]at this;exact Option.some.inj this
 induction h with
 |bool b=>exactλ_=>.bool b
 |int k n=>exactλ_=>.int k n
 |float k n=>exactλ_=>.float k n
 |string s=>exactλ_=>.string s
 |lq=>exactλ_=>.lq
 |ptr a l h M=>intro N F;cases F with|ptr _ T D ae=>cases up D h;exact .ptr a l D M
 |kl n c=>exactλ_=>.kl n c
 |ft a l U n c h M E=>intro N F;cases F with|ft _ T W _ _ D ae C=>cases up D h;exact .ft a l U n c D M E
 |mX=>exactλ_=>.mX
 |map r b bF h=>intro N F;cases F with|map _ V ah D=>cases up D h;exact .map r b bF D
 |func f g xs aP O ab aa Y _ A _ S af=>
  intro N F;cases F with
  |func _ ag _ L _ Z j bJ a' ai q=>exact .func f g xs aP O ab (qK.back hle j aa) Y (λi a b=>S i a b<|a' i a R) A (λi a b=>af i a b<|q i a R)
 |nilFunc=>exactλ_=>.nilFunc
 |iface t v w _ I=>intro N F;cases F with|iface _ _ dJ k=>exact .iface t v w (I k)
 |nilIface=>exactλ_=>.nilIface
 |agg xs aP Y _ I=>intro N F;cases F with|agg _ L bJ a'=>exact .agg xs aP Y λi a b=>I i a b (a' i a R)
 |tuple xs aP Y _ I=>intro N F;cases F with|tuple _ L bJ a'=>exact .tuple xs aP Y λi a b=>I i a b (a' i a R)
 |hZ c m h=>exactλ_=>.hZ c m h
 |emp p c=>exactλ_=>.emp p c
 |top c=>exactλ_=>.top c
theorem hz.back(hle:ad.le cO){dJ:f5}(bX:hz X ad dJ U l)(h:hz X cO w U l):hz X ad w U l:=by
 cases U with
 |cells cs aC ay aR=>
  have⟨ae,f0,g⟩:=bX;have⟨C,f,h⟩:=h;exact⟨C,f,h.there,h.jK,h.room,λi af=>let⟨c,ar,ao⟩:=h.cell i af;let⟨_,_,al⟩:=g.cell i af;⟨c,ar,ao.back hle al⟩,h.s7,h.plain⟩
 |map es clock=>
  have⟨_,_,ae,N,_,g⟩:=bX;have⟨Z,F,C,c,a',h⟩:=h;have⟨E,av,ck,jK⟩:=g.same;have⟨L,p,n,r⟩:=h.same;refine⟨Z,F,C,c,a',h.js,h.mZ,h.born,h.keys,h.jM,L,p,n,λi a b=>?_⟩;have⟨J,V,ah⟩:=mf<|av.mem_iff.2<|p.mem_iff.1<|dH a;have k:=jK J V R;rw[ah]at k;exact⟨(r i a b).1.back hle k.1,(r i a b).2.1.back hle k.2.1,(r i a b).2.2⟩
 |IU s pos=>exact h
 |nr m D aH aG=>
  have⟨_,_,q,aq,ck,t0,_,g⟩:=bX;have⟨Z,F,ak,O,cF,u3,a',h⟩:=h;refine⟨Z,F,ak,O,cF,u3,a',?_⟩;obtain h|⟨r,b,bF,S,aB,az,aD⟩:=h
  .exact .inl h
  .obtain⟨cu,_⟩|⟨jK,aE,aw,cu,I,a0,cJ⟩:=g
   .rw[S]at cu;cases cu
   .cases cu;have:=hle _ _ a0
    grind
 |loop s gi fn t a7 ec body d=>
  have⟨_,_,E,_,_,_,_,c2,_,_,_,oh,_⟩:=bX;have⟨Z,F,L,Y,G,A,T,ai,aj,M,W,au,aa⟩:=h;refine⟨Z,F,L,Y,G,A,T,λn=>(ai n).back hle<|c2 n,aj,M,W,?_,aa⟩;have:=hle _ _ oh;rw[au]at this;simp[oh,this.symm]
 |_=>exact h
theorem bQ.back{st b8:ak}{dJ:f5}(hle:ad.le cO)(bX:bQ X ad st dJ)(h:bQ X cO b8 w)(aw:∀b,b<st.ae->b8.h.get b=st.h.get b):bQ X ad st w:=by
 have lt:∀{i:Nat} {U:bx},st.h.get i=some U->i<st.ae:=λ{i U} af=>by
  obtain h|h:=gf i st.ae
  .exact h
  .rw[(bX.fresh i h).2]at af;cases af
 refine⟨λi U E bZ=>?_,λi J U p l m af Y V D I A O e=>(h.inj i J U p l m apt Y apt D (hle _ _ I) (hle _ _ A) O e),bX.fresh,λi l q=>h.fK i l<|hle _ _ q,bX.kB,bX.m0,bX.km⟩
 .obtain⟨l,q,hm⟩:=bX.eB i U E bZ;obtain⟨T,W,C⟩:=h.eB i U apt bZ;rw[hle _ _ q]at W;cases W;exact⟨l,q,hz.back hle hm C⟩
theorem bQ.name{st:ak}(F:bQ X ad st w)(E:hz X (gD ad st.ae l) w U l)(ay:l.cx<w.heap.size)(aj:∀i p m,st.h.get i=some p->p≠.dead->ad i=some m->(m.bF≠eU\/l.bF≠eU)->m.cx≠l.cx)(N:l.bF=eU->U.s8):
 bQ X (gD ad st.ae l) ⟨st.h.set st.ae U,st.ae+1⟩ w/\ad.le (gD ad st.ae l):=by
 have hle:ad.le (gD ad st.ae l):=by
  intro id T L;show(if id=st.ae then some l else ad id)=some T;rw[av];exact L;intro e;subst e;rw[(F.fresh _<|cf _).1]at L;cases L
 have al:gD ad st.ae l st.ae=some l:=aD j;have G:∀id,id≠st.ae->gD ad st.ae l id=ad id:=λid h=>av h;refine⟨⟨λid p hp bZ=>?_,λi J p q Z aa af Y V ah I A O e=>?_,λid ai=>?_,λid T W=>?_,λg O=>hle _ _<|F.kB g O,sO F.m0,λi Z p C M hp bZ=>?_⟩,hle⟩
 .rw[ao.eo]at hp;by_cases e:id=st.ae
  .grind
  .rw[av e]at hp;obtain⟨T,W,hm⟩:=F.eB id p hp bZ;exact⟨T,hle _ _ W,hz.mono X hm hle j⟩
 .rw[ao.eo]at af V;by_cases S:i=st.ae
  .grind
  .by_cases a':J=st.ae
   .grind
   .rw[av S]at af;rw[av a']at V;rw[G i S]at I;rw[G J a']at A;exact F.inj i J p q Z aa af Y V ah I A O e
 .have D:st.ae+1<=id:=ai;refine⟨?_,?_⟩
  .rw[G id R];exact(F.fresh id R).1
  .show(st.h.set st.ae U).get id=none;rw[ao.eo,av R];exact(F.fresh id R).2
 .by_cases e:id=st.ae
  .grind
  .rw[G id e]at W;exact F.fK id T W
 .rw[ao.eo]at hp;by_cases e:i=st.ae
  .grind
  .rw[av e]at hp;rw[G i e]at C;exact F.km i Z p C M hp bZ
theorem bQ.skip{st:ak}(F:bQ X ad st w):bQ X ad ⟨st.h,st.ae+1⟩ w:=
 ⟨F.eB,F.inj,λi af=>F.fresh i apt,F.fK,F.kB,sO F.m0,F.km⟩
def eb.name{aF:bH}{w':f5}(h:eb ad aF w w'){i:Nat}(af:ad i=none)(aB:w.heap.size<=l.cx\/∃J m,ad J=some m/\m.bF≠eU/\m.cx=l.cx):eb ad (gD aF i l) w w':=by
 refine⟨λJ m V=>?_,h.size,h.kept,λJ m V=>?_,h.fQ⟩
 .show(if J=i then some l else aF J)=some m;rw[av];exact h.le J m V;intro e;subst e;rw[af]at V;cases V
 .have V:(if J=i then some l else aF J)=some m:=V;by_cases e:J=i
  .rw[aD e]at V;cases V;exact .inr aB
  .rw[av e]at V;exact h.new J m V
def Gd(d:Nat):ac ag:=[.i .u32 (d:Int)]
def qa(t:Bool)(aM es:ac Nat):ag:=.agg [.b t,.b6 1 Nat Gd aM,.hq 1 Nat Gd es]
inductive fC where
 |lit (k u:Value)
 |num (k:Value) (t:Bool) (aM es:List Nat)
variable{b:Nat}
def fC.key:fC->bv
 |.lit k _=>k
 |.num k _ _ _=>k
def lX(aM:ac Nat):ac bv:=aM.map λ(d:Nat)=>.int .u32 (d:Int)
def zy(aM:ac Nat):bx:=.cells (lX aM) 0 (0,aM.length) true
def fC.val(n:Nat):fC->bv
 |.lit _ u=>u
 |.num _ t aM es=>.agg ⟨[.bool t,.slice (some ⟨n,0,none⟩) aM.length aM.length,match es with|[]=>.slice none 0 0|_::_=>.slice (some ⟨n+1,0,none⟩) es.length es.length]⟩
def ak.new(st:ak)(U:bx):ak:=⟨st.h.set st.ae U,st.ae+1⟩
def ak.one(st:ak)(aM:ac Nat):ak:=match aM with
 |[]=>⟨st.h,st.ae+1⟩
 |aM=>st.new<|zy aM
def fC.st(st:ak):fC->ak
 |.lit _ _=>st
 |.num _ _ aM es=>(st.one aM).one es
def fx:ac fC->ak->Nat->ac f7×ak
 |[],st,_=>([],st)
 |e::l,st,i=>(⟨e.key,e.val st.ae,i⟩::(fx l (e.st st)<|i+1).1,(fx l (e.st st)<|i+1).2)
theorem LF:∀(l:ac fC) (st:ak) (i:Nat),(fx l st i).1.length=l.length
 |[],_,_=>rfl
 |_::l,st,i=>by simp[fx,LF l]
theorem rb:∀(l:ac fC) (st:ak) (i J:Nat) (h:J<(fx l st i).1.length) (D:J<l.length),((fx l st i).1[J]).key=(l[J]).key/\((fx l st i).1[J]).born=i+J
 |[],_,_,_,_,D=>by simp at D
 |e::l,st,i,0,_,_=>fe
 |e::l,st,i,J+1,h,D=>by
  have:=rb l (e.st st) (i+1) J ar9 aq7;exact asi asi
def re(st:ak)(aM:ac Nat):(st.one aM).ae=st.ae+1:=by cases aM<;>rfl
def Ge(st:ak)(aM:ac Nat)(ay:b≠st.ae):(st.one aM).h.get b=st.h.get b:=by
 cases aM with
 |nil=>rfl
 |cons d aM=>exact ao.fk _ _ ay
def SG(st:ak){aM:ac Nat}(h:aM≠[]):(st.one aM).h.get st.ae=some (zy aM):=by
 cases aM with
 |nil=>exact absurd j h
 |cons d aM=>exact ao.mm _ _ _
def LG(st:ak)(e:fC):st.ae<=(e.st st).ae:=by
 cases e with
 |lit=>exact c5 _
 |num k t aM es=>show _<=((st.one aM).one es).ae;rw[re,re];omega
def agb(st:ak)(e:fC)(ay:b<st.ae):(e.st st).h.get b=st.h.get b:=by
 cases e with
 |lit=>rfl
 |num k t aM es=>
  show((st.one aM).one es).h.get b=_;rw[Ge _ _<|by rw[re];omega,Ge _ _ R]
theorem SH:∀(l:ac fC) (st:ak) (i:Nat),st.ae<=(fx l st i).2.ae
 |[],_,_=>c5 _
 |e::l,st,i=>ch (LG st e)<|SH l (e.st st)<|i+1
theorem Gf:∀(l:ac fC) (st:ak) (i:Nat) {b:Nat},b<st.ae->(fx l st i).2.h.get b=st.h.get b
 |[],_,_,_,_=>rfl
 |e::l,st,i,b,ay=>by
  show(fx l (e.st st)<|i+1).2.h.get b=_;rw[Gf l (e.st st) (i+1)<|e2 ay<|LG st e,agb st e ay]
def digits{H:bb}{b U c:Nat}{ab:ac bv}{l:ac Nat}(bZ:∀i x,l[i]? =some x->cG H (Gd x) [] ((ab.drop<|U+i*1).take 1)):∀i (h:i<l.length),ab[U+i]? =some (.int .u32 ((l[i]:Nat):Int)):=λi h=>by
 have⟨v,ws,e,Y,G⟩:=bZ i _<|aO h;subst Y G;have:=congrArg (λl=>l[0]?) e;exact apE
structure Way(X:Ctx)(ad:bH)(st b8:ak)(cO:bH)(dJ w:f5)(hH:ak)(aF:bH):Prop where
 wr:bQ X aF hH w
 sy:eb ad aF dJ w
 ae:st.ae<=hH.ae
 obj:∀i p m,hH.h.get i=some p->p≠.dead->aF i=some m->(i<st.ae∧ad i=some m∧st.h.get i=some p)∨(m.bF=eU∧∃b ab el bY aR l,b8.h.get b=some (.cells ab el bY aR)∧cO b=some l∧m.cx=l.cx)
section
variable{ad cO aF:bH}{st b8 hH:ak}{dJ w:f5}
variable{aM:ac Nat}
def Way.skip(h:Way X ad st b8 cO dJ w hH aF):Way X ad st b8 cO dJ w ⟨hH.h,hH.ae+1⟩ aF:=⟨h.wr.skip,h.sy,sO h.ae,h.obj⟩
theorem Way.hA(Z:eb ad cO dJ w)(E:bQ X cO b8 w)(D:∀i,st.ae<=i->ad i=none)(hold:∀b,b<st.ae->b8.h.get b=st.h.get b)(h:Way X ad st b8 cO dJ w hH aF){U c:Nat}(ar:aM≠[])(ay:st.ae<=b){ab:ac bv}{el:co}{I:Nat×Nat}{aR:Bool}(ai:b8.h.get b=some (.cells ab el I aR))
 (bZ:∀i (h:i<aM.length),ab[U+i]? =some (.int .u32 ((aM[i]:Nat):Int))) (aQ:aM.length<=c):
 ∃O,Way X ad st b8 cO dJ w (hH.one aM) O/\aF.le O/\∀u,bd cO (.slice (some ⟨b,U,none⟩) aM.length c) u->bd O (.slice (some ⟨hH.ae,0,none⟩) aM.length aM.length) u:=by
 obtain⟨l,a',C,az,L⟩:=E.eB _ _ ai au;have aC:0<aM.length:=by
  grind
 have aJ:U+aM.length<=ab.length:=by
  have:=bZ (aM.length-1) R
  grind
 have aO:=L.jK;have aH:∀i p m,hH.h.get i=some p->p≠.dead->aF i=some m->(m.bF≠eU\/eU≠eU)->m.cx≠l.cx:=λi p m hp aa hm V e=>by
  have V:=V.elim id λh=>absurd j h;rcases h.obj i p m hp aa hm with⟨Y,aB,A⟩|⟨Y,_⟩
  .have:=E.inj i b p _ m l (by rwa [hold i Y]) aa ai au (Z.le _ _ aB) a' (.inl V) e;omega
  .exact V Y
 have aE:∀O:bH,hz X O w (zy aM) ⟨l.cx,l.de+U,c+l.ex-aM.length,eU⟩:=λO=>by
  have ah:¬((0,aM.length).2<=(0,aM.length).1\/true=false):=λh=>by
   grind
  obtain⟨G,Y,_⟩:=L.there;refine⟨C,az,⟨G,Y,λh=>absurd h ah⟩,?_,λh=>absurd h ah,λi af=>?_,λh=>absurd (.inl h) ah,λh=>by cases h⟩
  .show l.de+U+(lX aM).length<=_;simp[lX];omega
  .have aK:i<aM.length:=by simpa[lX]using af
   obtain⟨u,aN,aj⟩:=L.cell (U+i) R;have S:ab[U+i]'R= .int .u32 ↑(aM[i]):=by
    grind
   rw[S]at aj;refine⟨u,by grind,?_⟩
   .cases aj;simp[lX,sP];exact .int _ _
 obtain⟨bJ,aw⟩:=bQ.name h.wr (aE _) (E.fK b l a') aH λ_=>aC;have F:hH.one aM=⟨hH.h.set hH.ae<|zy aM,hH.ae+1⟩:=by cases aM<;>first|exact absurd j ar|rfl
 have ak:=D _ ay;rw[F];refine⟨_,⟨bJ,h.sy.name (D _ h.ae) ?_,sO h.ae,λi p m hp aa hm=>?_⟩,aw,λu M=>?_⟩
 .rcases Z.new b l a' with q|q|q
  .rw[ak]at q;cases q
  .exact .inl q
  .exact .inr q
 .rw[ao.eo]at hp;have hm:(if i=hH.ae then some _ else aF i)=some m:=hm;by_cases e:i=hH.ae
  .grind
  .rw[av e]at hp hm;exact h.obj i p m hp aa hm
 .cases M with
  |ft _ T N _ _ W aI al=>
   rw[a']at W;cases W;cases al.elim id λh=>R
   have e:c+l.ex=aM.length+(c+l.ex-aM.length):=R
   have q:bd (gD aF hH.ae ⟨l.cx,l.de+U,c+l.ex-aM.length,eU⟩) (.slice (some ⟨hH.ae,0,none⟩) aM.length aM.length) (.slice (some ⟨l.cx,l.de+U,none⟩) aM.length<|aM.length+(c+l.ex-aM.length)):=
    .ft ⟨hH.ae,0,none⟩ ⟨l.cx,l.de+U,c+l.ex-aM.length,eU⟩ (l.de+U) _ _ (aD j) j m2
   rwa [<-e]at q
def Way.num(Z:eb ad cO dJ w)(E:bQ X cO b8 w)(D:∀i,st.ae<=i->ad i=none)(hold:∀b,b<st.ae->b8.h.get b=st.h.get b)(h:Way X ad st b8 cO dJ w hH aF){H:bb}(T:∀b U,H b=some U->b8.h.get b=some U){k:bv}{t:Bool}{es:ac Nat}(aa:aM≠[]){v:bv}(S:den (lE st.ae H) (qa t aM es) [] v):
 ∃O,Way X ad st b8 cO dJ w ((fC.num k t aM es).st hH) O/\aF.le O/\∀u,bd cO v u->bd O ((fC.num k t aM es).val hH.ae) u:=by
 obtain⟨a2,rfl,v1,R,rfl,au,aW,q,rfl,G,L,aD,rfl,A,ah⟩:=S;subst au ah;obtain⟨e,_⟩|⟨b,U,c,ab,el,aN,aR,rfl,ay,C,bZ⟩:=G
 .exact absurd e aa
 have⟨al,ar⟩:=mC.1 C;have⟨Y,cu,a',a0⟩:=Way.hA Z E D hold h aa al (T _ _ ar) (digits (b:=b) (c:=c) bZ) ay;have mk:∀{O:bH} {v0:bv},Y.le O->(∀u,bd cO L u->bd O v0 u)->∀u,bd cO (.agg ⟨[.bool t,.slice (some ⟨b,U,none⟩) aM.length c,L]⟩) u->bd O (.agg ⟨[.bool t,.slice (some ⟨hH.ae,0,none⟩) aM.length aM.length,v0]⟩) u:=λ{O v0} hle F u M=>by
  cases M with
  |agg xs aP bJ ak=>
   have⟨aP⟩:=aP;have I:=bI.uy bJ ak;obtain⟨N,aJ,rfl,W,I⟩:=I.cons_inv;obtain⟨aE,aH,rfl,cA,I⟩:=I.cons_inv;obtain⟨aI,aK,rfl,dG,I⟩:=I.cons_inv;have:=I.qL;subst this;cases W;exact bd.r5<|bI.cons (.bool _)<|bI.cons ((a0 _ cA).mono hle)<|bI.cons (F _ dG)<|bI.nil _
 obtain⟨rfl,rfl⟩|⟨aj,V,aS,ai,aQ,aY,aO,aV,rfl,aB,az,ao⟩:=A
 .exact⟨Y,cu.skip,a',mk (bH.le.refl _) λu M=>by cases M;exact .kl _ _⟩
 .have⟨af,ag⟩:=mC.1 az;have⟨aC,f1,f2,f3⟩:=Way.hA Z E D hold cu aj af (T _ _ ag) (digits (b:=V) (c:=ai) ao) aB;rw[re]at f3;refine⟨aC,f1,a'.trans f2,λu M=>?_⟩;have:=mk f2 f3 u M;cases es with
  |nil=>exact absurd j aj
  |cons x xs=>exact this
end
def agc(o:aK)(st:ak)(Y:ce):oo o st Y≠[]:=by
 intro e;rw[oo]at e;generalize o.ar Y=v at e;cases v<;>first|cases e|skip
 rename_i p;cases p with
 |none=>cases e
 |some a=>
  have e:bq a.spot (λ_=>[a2.no]) (dL a.off 0 (A2 (st.h.get a.block) (λm D V O=>bq m (λid=>jH (st.h.get id) (λes clock=>dL D clock (dL O clock (cond (V.all λs=>Nat.ble (Nat.succ s) clock)
   (wO o st a.block id D V<|es.filter λe=> !V.any (Nat.beq e.born)) [.no]) [.no]) [.no]) [.no]) [.ok (.tuple #[.bool false]) o st]) [.no]) [.no])=[]:=e
  cases M:a.spot with
  |some s=>rw[M]at e;cases e
  |none=>
   rw[M,mn]at e;split at e
   .generalize st.h.get a.block=j at e;cases j with
    |none=>cases e
    |some j=>
     cases j<;>first|cases e|skip
     rename_i m D V O;cases m with
     |none=>cases e
     |some id=>
      have e:jH (st.h.get id) (λes clock=>dL D clock (dL O clock (cond (V.all λs=>Nat.ble (Nat.succ s) clock) (wO o st a.block id D V<|es.filter λe=> !V.any (Nat.beq e.born)) [.no]) [.no]) [.no]) [.no]=[]:=e;generalize st.h.get id=j at e;cases j with
      |none=>cases e
      |some j=>
       cases j<;>first|cases e|skip
       rename_i es clock;have e:dL D clock (dL O clock (cond (V.all λs=>Nat.ble (Nat.succ s) clock) (wO o st a.block id D V<|es.filter λe=> !V.any (Nat.beq e.born)) [.no]) [.no]) [.no]=[]:=e;rw[mn]at e;split at e
       .rw[mn]at e;split at e
        .cases C:V.all (λs=>Nat.ble (Nat.succ s) clock)with
         |false=>rw[C]at e;cases e
         |true=>
          rw[C]at e;generalize es.filter (λe=> !V.any (Nat.beq e.born))=L at e;cases L with
          |_=>cases e
        .cases e
       .cases e
   .cases e
def LH{call:bN}{a6:Nat}{fn:d7}:∀(c:du) (o:aK) (st:ak),gU call a6 fn c o st≠[]:=by
 have N:∀{L:ac cN} {g:aK->ak->ac cN},L≠[]->(∀o st,g o st≠[])->L.flatMap (o6 g)≠[]:=λ{L g} A O=>by
  cases L with
  |nil=>exact absurd j A
  |cons r L=>
   intro e;have e:=(List.append_eq_nil_iff.1 e).1;cases r with
   |no=>cases e
   |out x o st=>cases x<;>first|exact O _ _ e|cases e
 intro c
 induction c with
 |gg ops=>
  intro o st;unfold gU;split
  .rename_i d Y h M;exactλe=>agc _ _ _<|vV.1 e
  all_goals first
   |exactλe=>by cases e
   |(rename_i M;cases M)
 |seq a b V q=>exactλo st=>N (V o st) q
 |cond x a b V q=>
  intro o st;show kj (o.ar x) (λt=>_root_.cond t (gU call a6 fn a o st)<|gU call a6 fn b o st) [.no]≠[];cases o.ar x with
  |bool t=>cases t<;>first|exact V o st|exact q o st
  |_=>exactλe=>by cases e
 |block i a I=>exactλo st e=>I o st (vV.1 e)
 |loop a I=>
  have key:∀n o st,tg (gU call a6 fn a) n o st≠[]:=by
   intro n
   induction n with
   |zero=>intro o st e;cases e
   |succ n R=>exactλo st=>N (I o st) R
  exactλo st=>key a6 o st
 |scope a I=>exact I
 |_=>exactλo st e=>by cases e
def fC.kn(ck:Nat):fC->ag
 |.lit _ u=>.v u
 |.num _ t aM es=>g0 ck<|qa t aM es
def Ct(H:bb)(e:fC)(a:ag):Prop:=∃t aM es,a=qa t aM es/\aM≠[]/\match e with
 |.lit _ u=>den H (qa t aM es) [] u
 |.num _ u3 u4 eO=>u3=t/\u4=aM/\eO=es
variable{H:bb}
def nc(H:bb):ac fC->ac (bv×ag)->Prop
 |[],[]=>True
 |e::cE,p::ms=>e.key=p.1/\Ct H e p.2/\nc H cE ms
 |_,_=>False
def nc.len:∀{cE:ac fC} {ms:ac (bv×ag)},nc H cE ms->cE.length=ms.length
 |[],[],_=>rfl
 |_::_,_::_,h=>by simp[nc.len h.2.2]
 |[],_::_,h=>h.elim
 |_::_,[],h=>h.elim
def nc.keys:∀{cE:ac fC} {ms:ac (bv×ag)},nc H cE ms->cE.map fC.key=ms.map (·.1)
 |[],[],_=>rfl
 |_::_,_::_,h=>by rw[jZ,jZ,h.1,nc.keys h.2.2]
 |[],_::_,h=>h.elim
 |_::_,[],h=>h.elim
def nc.get:∀{cE:ac fC} {ms:ac (bv×ag)},nc H cE ms->∀{e:fC},e∈cE->∃p∈ms,e.key=p.1/\Ct H e p.2
 |[],_,_,_,he=>by cases he
 |e::cE,p::ms,h,j,he=>by
  obtain rfl|he:=fh.1 he
  .exact⟨p,hT,h.1,h.2.1⟩
  .have⟨q,Y,G⟩:=nc.get h.2.2 he;exact⟨q,fq _ Y,G⟩
 |_::_,[],h,_,_=>h.elim
def qb:ac (bv×ag)->ac (bv×ag)->Prop
 |[],[]=>True
 |p::l,q::m=>p.1=q.1/\bz p.2 q.2/\qb l m
 |_,_=>False
def qb.keys:∀{l m:ac (bv×ag)},qb l m->l.map (·.1)=m.map (·.1)
 |[],[],_=>rfl
 |_::_,_::_,h=>by rw[jZ,jZ,h.1,qb.keys h.2.2]
 |[],_::_,h=>h.elim
 |_::_,[],h=>h.elim
def qb.mem:∀{l m:ac (bv×ag)},qb l m->∀p∈l,∃q∈m,p.1=q.1/\bz p.2 q.2
 |[],_,_,_,hp=>by cases hp
 |p::l,q::m,h,D,hp=>by
  obtain rfl|hp:=fh.1 hp
  .exact⟨q,hT,h.1,h.2.1⟩
  .have⟨j,Y,G⟩:=qb.mem h.2.2 D hp;exact⟨j,fq _ Y,G⟩
 |_::_,[],h,_,_=>h.elim
def hB.SI{es:ac f7}{clock:Nat}{ms iq:ac (bv×ag)}(h:hB H es clock ms)(aB:qb ms iq):hB H es clock iq:=by
 refine⟨h.born,h.jM,h.keys,by rw[<-aB.keys];exact h.cY,λe D=>?_,λp hp=>?_,?_⟩
 .have⟨a,Y,G⟩:=h.jy e D;have⟨q,cu,I,a0⟩:=aB.mem _ Y;have I:e.key=q.1:=I;exact⟨q.2,by rwa [I],a0 _ _ _ G⟩
 .have:p.1∈ms.map (·.1):=by rw[aB.keys];exact da.2 ⟨p,hp,j⟩
  have⟨q,E,R⟩:=da.1 this;have⟨e,D,L⟩:=h.to q E;exact⟨e,D,L.trans R⟩
 .have:=congrArg List.length aB.keys;simp at this;rw[h.len,this]
def LI(cE:ac fC)(ck:Nat)(res:ac gS)(x:c6)(s:cb):Prop:=(x= .norm\/x= .ret)/\∃k,Fin.kH s res=some (.mp k)/\∃Y R,s.own[k]? =some (.g<|h6 Y)/\qb Y R/\R.Perm (cE.map λe=>(e.key,e.kn ck))
variable{aM:ac Nat}{t:Bool}{es:ac Nat}{v:bv}{bA:bb}{u3:Bool}{u4 eO:ac Nat}
def hB.perm{es:ac f7}{clock:Nat}{ms iq:ac (bv×ag)}(h:hB H es clock ms)(hp:ms.Perm iq):hB H es clock iq:=
 ⟨h.born,h.jM,h.keys,(hp.map _).nodup_iff.1 h.cY,λe D=>let⟨a,Y,G⟩:=h.jy e D;⟨a,hp.mem_iff.1 Y,G⟩,λp E=>h.to p<|hp.mem_iff.2 E,h.len.trans hp.length_eq⟩
def num_inv(S:den H (qa t aM es) [] v)(ae:aM≠[]):
 ∃b U c ab el I aR x,v= .agg ⟨[.bool t,.slice (some ⟨b,U,none⟩) aM.length c,x]⟩/\H b=some (.cells ab el I aR)/\aM.length<=c/\(∀i (h:i<aM.length),ab[U+i]? =some (.int .u32 ((aM[i]:Nat):Int)))/\
  ((es=[]/\x= .slice none 0 0)\/es≠[]/\∃V cv E a' N aa O,x= .slice (some ⟨V,cv,none⟩) es.length E/\H V=some (.cells a' N aa O)/\es.length<=E/\∀i (h:i<es.length),a'[cv+i]? =some (.int .u32 ((es[i]:Nat):Int))):=by
 obtain⟨F,rfl,v1,R,rfl,Y,ag,q,rfl,G,L,Z,rfl,A,T⟩:=S;subst Y T;obtain⟨e,_⟩|⟨b,U,c,ab,el,I,aR,rfl,W,C,bZ⟩:=G
 .exact absurd e ae
 refine⟨b,U,c,ab,el,I,aR,L,j,C,W,digits (b:=b) (c:=c) bZ,?_⟩;obtain⟨rfl,rfl⟩|⟨aj,V,cv,E,a',N,aa,O,rfl,D,af,M⟩:=A
 .exact .inl fe
 .exact .inr ⟨aj,V,cv,E,a',N,aa,O,j,af,D,digits (b:=V) (c:=E) M⟩
theorem xm{ab:ac bv}{U:Nat}{l m:ac Nat}(aB:l.length=m.length)(h:∀i (h:i<l.length),ab[U+i]? =some (.int .u32 ((l[i]:Nat):Int)))(D:∀i (h:i<m.length),ab[U+i]? =some (.int .u32 ((m[i]:Nat):Int))):l=m:=by
 refine Au aB λi a b=>?_
 grind
theorem agd{g:Nat->be bx}(T:∀b U,H b=some U->g b=some U)(a':∀b U,bA b=some U->g b=some U)(aa:aM≠[])(R:u4≠[])(h:den H (qa t aM es) [] v)(D:den bA (qa u3 u4 eO) [] v):t=u3/\aM=u4/\es=eO:=by
 obtain⟨b,U,c,ab,el,al,aR,x,rfl,Y,_,G,A⟩:=num_inv h aa;have⟨V,W,E,ay,N,ao,O,az,e,bJ,_,ae,ag⟩:=num_inv D R;simp at e;obtain⟨rfl,⟨⟨rfl,rfl⟩,S,rfl⟩,rfl⟩:=e;obtain⟨rfl,_⟩:=(T _ _ Y).symm.trans<|a' _ _ bJ;refine⟨j,xm S G ae,?_⟩;obtain⟨rfl,rfl⟩|⟨aj,au,gw,ar,L,M,q,ak,rfl,f1,_,f2⟩:=A
 .grind
 .obtain⟨_,e⟩|⟨F,av,e7,aw,C,ai,Z,ah,e,cu,_,I⟩:=ag
  .cases e
  .simp at e;obtain⟨⟨rfl,rfl⟩,af,rfl⟩:=e;obtain⟨rfl,_⟩:=(T _ _ f1).symm.trans<|a' _ _ cu;exact xm af f2 I
def SJ{n:Nat}(aW:∀b U,H b=some U->b<n)(j:aM≠[])(R:u4≠[])(h:den H (qa t aM es) [] v)(D:den (lE n bA) (qa u3 u4 eO) [] v):False:=by
 obtain⟨b,U,c,ab,el,I,aR,x,rfl,Y,_⟩:=num_inv h j;have⟨V,W,E,A,N,q,O,C,e,bJ,_⟩:=num_inv D R;simp at e;have:=aW _ _ Y;have:=(mC.1 bJ).1;omega
def SK{g:bb}(h:g b=some (zy aM)):den g (.b6 1 Nat Gd aM) [] (.slice (some ⟨b,0,none⟩) aM.length aM.length):=by
 refine .inr ⟨b,0,aM.length,lX aM,0,(0,aM.length),true,j,c5 _,h,λi x O=>?_⟩;have af:=(dP.1 O).1;have q:(lX aM).length=aM.length:=by simp[lX]
 have e:((lX aM).drop<|0+i*1).take 1=[.int .u32 (x:Int)]:=by
  rw[show 0+i*1=i by omega,fj R];simp[IB,DE,lX,sP,((dP.1 O).2)]
 rw[e];exact ar4 ar4
theorem SL:∀(l:ac fC) (st:ak) (i J:Nat) (h:J<(fx l st i).1.length) (D:J<l.length) {k:bv} {t:Bool} {aM es:ac Nat},l[J]= .num k t aM es->aM≠[]->∀{g:bb},(∀b U,st.ae<=b->(fx l st i).2.h.get b=some U->g b=some U)->den g (qa t aM es) [] ((fx l st i).1[J]).val
 |[],_,_,_,_,D,_,_,_,_,_,_,_,_=>by simp at D
 |e::l,st,i,0,h,_,k,t,aM,es,he,A,g,O=>by
  subst he;have aC:=O _ _ (c5 _) (by
   show(fx l _<|i+1).2.h.get st.ae=_;rw[Gf _ _ _<|by show st.ae<((st.one aM).one es).ae;rw[re,re];omega];show((st.one aM).one es).h.get st.ae=_;rw[Ge _ _<|by rw[re];omega,SG _ A])
  refine⟨_,j,_,_,j,j,_,_,j,SK aC,?_⟩;cases q:es with
  |nil=>exact⟨_,_,j,.inl fe,j⟩
  |cons x xs=>
   have aj:es≠[]:=by grind
   have G:g (st.ae+1)=some (zy es):=O _ _ R (by
    show(fx l _<|i+1).2.h.get (st.ae+1)=_;rw[Gf _ _ _<|by show st.ae+1<((st.one aM).one es).ae;rw[re,re];omega];show((st.one aM).one es).h.get (st.ae+1)=_;rw[<-re st aM,SG _ aj])
   rw[q]at G;refine⟨_,_,j,?_,j⟩;obtain h|h:=SK G
   .cases h.1
   .exact .inr ⟨au,h⟩
 |e::l,st,i,J+1,h,D,k,t,aM,es,he,A,g,O=>by
  have:=SL l (e.st st) (i+1) J ar9 aq7 (by simpa using he) A λb U C E=>O b U (ch (LG st e) C) E;exact this
theorem SM:∀(l:ac fC) (st:ak) (i J:Nat) (h:J<(fx l st i).1.length) (D:J<l.length) {k u:bv},l[J]= .lit k u->((fx l st i).1[J]).val=u
 |[],_,_,_,_,D,_,_,_=>by simp at D
 |e::l,st,i,0,h,_,k,u,he=>by
  subst he;rfl
 |e::l,st,i,J+1,h,D,k,u,he=>SM l (e.st st) (i+1) J ar9 aq7<|by simpa using he
def SN{st:ak}(h:∀i,st.ae<=i->st.h.get i=none):∀i,(st.one aM).ae<=i->(st.one aM).h.get i=none:=λi af=>by
 rw[re]at af;rw[Ge _ _ R];exact h i R
theorem LJ:∀(l:ac fC) (st:ak) (i:Nat),(∀b,st.ae<=b->st.h.get b=none)->∀b,(fx l st i).2.ae<=b->(fx l st i).2.h.get b=none
 |[],_,_,h=>h
 |e::l,st,i,h=>LJ l (e.st st) (i+1) (by
  cases e with
  |lit=>exact h
  |num k t aM es=>exact SN<|SN h)
structure Out(st:ak)(H:bb)(cE:ac fC)(v:bv)(b8:ak)(r:Nat)(es:ac f7)(clock:Nat)(H1:bb):Prop where
 val:v= .map (some r)
 new:st.ae<=r
 obj:b8.h.get r=some (.map es clock)
 md:hB H1 es clock (cE.map fun e=>(e.key,e.kn st.ae))
 le:∀b U,H1 b=some U->b8.h.get b=some U
 hle:cH H H1
 eK:∀b,b<st.ae->b8.h.get b=st.h.get b
 ae:st.ae<=b8.ae
variable{b8:ak}{H1:bb}{cE:ac fC}{clock:Nat}{k u:bv}{r:Nat}
def Cu{n:Nat}(h:den H ((fC.num k t aM es).kn n) [] v):den (lE n H) (qa t aM es) [] v:=h
def age{aF:bH}{ct:fH}(aw:ct.ok k=true)(h:bd ad k u):bd aF k u:=by
 have:=fH.same aw h;subst this;cases ct with
 |int q=>obtain⟨L,n,rfl,_⟩:=od aw ai;exact .int _ _
 |str=>obtain⟨s,rfl,_⟩:=yC aw ai;exact .string _
 |arr q n=>
  obtain⟨xs,rfl,G⟩:=A9 aw ai;rw[c1,ia]at G;refine .agg xs xs j λi a b=>?_;have⟨L,m,he,_⟩:=od (G.2 xs[i] au) ai;rw[he];exact .int _ _
def agf{st:ak}(F:bQ X ad st w)(T:∀b U,H b=some U->st.h.get b=some U)(D:aM≠[])(M:den H (qa t aM es) [] u):∃c,bd ad u c:=by
 obtain⟨b,U,c,ab,el,I,aR,x,rfl,Y,_,_,A⟩:=num_inv M D;have⟨l,q,_⟩:=F.eB _ _ (T _ _ Y) au;have G:bd ad (.slice (some ⟨b,U,none⟩) aM.length c) (.slice (some ⟨l.cx,l.de+U,none⟩) aM.length<|c+l.ex):=.ft ⟨b,U,none⟩ l _ _ _ q j m2;obtain⟨_,rfl⟩|⟨_,V,L,E,S,N,R,O,rfl,bJ,_⟩:=A
 .exact aqW aqW
 .have⟨C,W,_⟩:=F.eB _ _ (T _ _ bJ) au;exact aqg aqg
def Way.all{st:ak}{dJ:f5}(R:bQ X ad st dJ)(Z:eb ad cO dJ w)(E:bQ X cO b8 w)(hold:∀b,b<st.ae->b8.h.get b=st.h.get b)(T:∀b U,H b=some U->st.h.get b=some U)(N:∀b U,H1 b=some U->b8.h.get b=some U):
 ∀(cE:ac fC) (ab:ac bv) (i:Nat) {hH:ak} {aF:bH},Way X ad st b8 cO dJ w hH aF->(∀e∈cE,∃a,Ct H e a)->cG H1 (cE.map<|fC.kn st.ae) [] ab->∃O,Way X ad st b8 cO dJ w (fx cE hH i).2 O/\aF.le O/\
  ∀(J:Nat) (h:J<(fx cE hH i).1.length) (D:J<ab.length),∀u,bd cO ab[J] u->bd O ((fx cE hH i).1[J]).val u
 |[],_,i,hH,aF,h,_,_=>⟨aF,h,bH.le.refl _,λJ aC _=>by simp[fx]at aC⟩
 |e::cE,_,i,hH,aF,h,C,⟨v,ab,G,S,W⟩=>by
  subst G;obtain⟨a,t,aM,es,_,A,q⟩:=C e hT;have one:∃Y,Way X ad st b8 cO dJ w (e.st hH) Y/\aF.le Y/\∀u,bd cO v u->bd Y (e.val hH.ae) u:=by
   cases e with
   |lit k aa=>
    obtain⟨a',F⟩:=agf R T A q;subst S;exact⟨aF,h,bH.le.refl _,λu M=>(M.back Z.le F).mono h.sy.le⟩
   |num k u3 u4 eO=>
    obtain⟨rfl,rfl,rfl⟩:=q;exact Way.num Z E (λi af=>(R.fresh i af).1) hold h N A<|Cu S
  have⟨Y,cu,I,a0⟩:=one;have⟨L,f1,f2,f3⟩:=Way.all R Z E hold T N cE ab (i+1) cu (λe V=>C e<|fq _ V) W;refine⟨L,f1,I.trans f2,λJ h D u M=>?_⟩;cases J with
  |zero=>exact(a0 u M).mono f2
  |succ J=>exact f3 J ar9 aq7 u M
theorem Out.agh{st:ak}{es:ac f7}(h:Out st H cE v b8 r es clock H1):∃l:ac f7,l.length=cE.length/\(∀(J:Nat) (ba:J<l.length) (L:J<cE.length),l[J]∈es/\l[J].key=cE[J].key)/\cG H1 (cE.map<|fC.kn st.ae) [] (l.map (·.val)):=by
 have key:∀R:ac fC,(∀e∈R,e∈cE)->∃l:ac f7,l.length=R.length/\(∀(J:Nat) ba (L:J<R.length),l[J]∈es/\l[J].key=R[J].key)/\cG H1 (R.map<|fC.kn st.ae) [] (l.map (·.val)):=by
  intro R
  induction R with
  |nil=>exactλ_=>⟨[],j,λJ ba=>by simp at ba,j⟩
  |cons e R I=>
   intro hm;obtain⟨l,Y,G,C⟩:=I λe D=>hm e<|fq _ D;have V:(e.key,e.kn st.ae)∈cE.map λe=>(e.key,e.kn st.ae):=da.2 ⟨e,hm e hT,j⟩;obtain⟨x,O,q⟩:=h.md.to _ V;obtain⟨a,A,bZ⟩:=h.md.jy x O;rw[q]at A;have:=LB h.md.cY A V;subst this;refine⟨x::l,by simp[Y],λJ ba L=>?_,⟨_,_,j,bZ,C⟩⟩
   grind
 exact key cE λ_ h=>h
def LK(cE:ac fC)(st:ak):bv:=.map<|some (fx cE st 0).2.ae
def u5(cE:ac fC)(st:ak):ak:=(fx cE st 0).2.new<|.map (fx cE st 0).1 cE.length
theorem LL{st:ak}(h:b≠(fx cE st 0).2.ae):(u5 cE st).h.get b=(fx cE st 0).2.h.get b:=ao.fk _ _ h
def SO{bF:Nat->Nat}(h:Jg bF clock):bF≠eU:=by
 intro e;have Y:=h.up 1;rw[e]at Y;simp[eU]at Y
theorem Out.can{st:ak}{b:dR}{bf:Bool->ac Frame}{s:Machine}{es:ac f7}(h:Out st H cE v b8 r es clock H1)(a':bQ X ad st w)(aJ:∀b U,H b=some U->st.h.get b=some U)
 (aU:∀e∈cE,∃a,Ct H e a) (jz:∀e∈cE,∃ct:fH,ct.ok e.key=true) (az:hn X ad w b bf s (.ret v b8 false)):hn X ad w b bf s (.ret (LK cE st) (u5 cE st) false):=by
 obtain⟨cO,bd,w',F,Y,E,Z,T,aE,aH,aI⟩:=az;obtain⟨l,bc,aK,aV⟩:=h.agh;have aW:∀{i:Nat} {p:bx},st.h.get i=some p->i<st.ae:=λ{i p} hp=>by
  rcases gf i st.ae with q|q
  .exact q
  .rw[(a'.fresh i q).2]at hp;cases hp
 obtain⟨aF,cu,a3,a0⟩:=Way.all a' Z E h.eK aJ h.le cE _ 0 aqb aU aV;cases h.val;cases Y with
 |map _ bG bF I=>
  obtain⟨aS,ao,aZ,bb,C,js,aN,D⟩:=E.eB _ _ h.obj au;rw[I]at ao;cases ao;have aQ:=LF cE st 0;have ar:(fx cE st 0).1.Pairwise (λa b=>a.key≠b.key):=by
   rw[lk];intro i J af V O e;have A:=h.md.cY;rw[qq]at A;have A:=oS.1 A;rw[lk]at A
   grind [rb]
  have aj:=SO D.mZ;have al:=Qh (aF:=gD aF (fx cE st 0).2.ae ⟨bG,0,0,sg bF (fx cE st 0).1 cE.length es clock⟩) aQ.symm (λi af=>by
   have:=(rb cE st 0 i af R).2;omega) ar (λe aa=>by
   obtain⟨J,V,rfl⟩:=mf aa;have ah:J<cE.length:=R
   have aw:J<l.length:=R
   obtain⟨W,cA⟩:=aK J aw ah;have N:=(rb cE st 0 J V ah).1;obtain⟨ct,aC⟩:=jz cE[J]<|dH ah;refine⟨l[J],W,cA.trans N.symm,E8 D.keys W<|cA.trans N.symm,λu M=>?_,λu M=>?_⟩
   .rw[cA]at M;simpa[N]using age aC M
   .have hle:aF.le (gD aF (fx cE st 0).2.ae ⟨bG,0,0,sg bF (fx cE st 0).1 cE.length es clock⟩):=by
     intro i aS af;show(if i=_ then _ else aF i)=_;rw[av];exact af;intro e;subst e;rw[(cu.wr.fresh _<|c5 _).1]at af;cases af
    refine(a0 J V (by simpa using aw) u ?_).mono hle;simpa using M) (λG ay=>by
   obtain⟨a,aO,_⟩:=h.md.jy G ay;obtain⟨e,aa,L⟩:=da.1 aO;obtain⟨J,V,rfl⟩:=mf aa;have N:=(rb cE st 0 J R V).1;rw[E8 ar (dH R)<|N.trans<|congrArg Prod.fst L];rfl) D
  have aB:=SO al.mZ;obtain⟨bJ,ba⟩:=bQ.name cu.wr (U:=.map (fx cE st 0).1 cE.length) (l:=⟨bG,0,0,sg bF (fx cE st 0).1 cE.length es clock⟩) ⟨j,j,C,js,aN,al⟩ apt (λi p m hp ai hm _ e=>by
   rcases cu.obj i p m hp ai hm with⟨W,cA,dG⟩|⟨_,S,a2,a5,a8,b',aY,W,cA,dG⟩
   .have:=E.inj i r p _ m _ (by rw[h.eK i W];exact dG) ai h.obj au (Z.le _ _ cA) I (.inr aj) e;have:=h.new;omega
   .have:=E.inj S r _ _ aY _ W au h.obj au cA I (.inr aj) (by rw[<-dG];exact e);subst this;rw[h.obj]at W;cases W) λe=>absurd e aB
  refine⟨_,.map<|some bG,w',F,.map _ bG _<|aD j,bJ,cu.sy.name ((a'.fresh _ cu.ae).1) ?_,T,aE,aH,aI⟩;rcases Z.new r _ I with q|q|q
  .rw[(a'.fresh _ h.new).1]at q;cases q
  .exact .inl q
  .exact .inr q
