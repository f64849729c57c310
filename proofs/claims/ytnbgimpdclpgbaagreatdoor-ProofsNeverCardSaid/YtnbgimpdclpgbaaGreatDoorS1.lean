/- Rules for what a function computes on abstract states (part 1); no condition. -/
import Derived.Test.YtnbgimpdclpgbaaGreatDoorM1
import Derived.Test.YtnbgimpdclpgbaaGreatDoorM2
noncomputable section
set_option linter.all false
namespace Go.bA
namespace Sym
section
variable{α β:Type}
variable{a:Nat}
def rU(r:a1)(k:bv->aJ->aj->cH)(p:bv->aj->cH):cH:=a1.rec (motive:=λ_=>cH) k p .no r
def wu(v:bv)(o:aJ)(st:aj)(k:bv->aJ->aj->cH)(p:bv->aj->cH):rU (.ok v o st) k p=k v o st:=rfl
def Qw(v:bv)(st:aj)(k:bv->aJ->aj->cH)(p:bv->aj->cH):rU (.aR v st) k p=p v st:=rfl
def ac4(k:bv->aJ->aj->cH)(p:bv->aj->cH):rU .no k p= .no:=rfl
def lv(r:dQ)(k:bv->aj->a1)(p:bv->aj->a1):a1:=dQ.rec (motive:=λ_=>a1) (λv st _=>k v st) (λv st _=>p v st) .no r
def Qx(v:bv)(st:aj)(t:Bool)(k p:bv->aj->a1):lv (.ret v st t) k p=k v st:=rfl
def Qy(v:bv)(st:aj)(t:Bool)(k p:bv->aj->a1):lv (.aR v st t) k p=p v st:=rfl
def Bf(o:aJ)(st:aj)(k:aJ->aj->cH):kf (.out .norm o st) k=k o st:=rfl
def ac5(id i:Nat)(o:aJ)(st:aj):pc id (.out (.exit i) o st)=if i=id then .out .norm o st else .out (.exit i) o st:=by
 show dz i id _ _=_;rw[lO]
@[congr] theorem arJ {v bD:bv} (h:v=bD) (k:f9->β) (z:β):hD v k z=hD bD k z:=by rw[h]
@[congr] theorem arK {v bD:bv} (h:v=bD) (k:be Addr->Nat->Nat->β) (z:β):hE v k z=hE bD k z:=by rw[h]
def mB(a:f6)(n:Int)(k:f6->Int->β)(z:β):fL (.int a n) k z=k a n:=rfl
def yM(s:f9)(k:f9->β)(z:β):hD (.string s) k z=k s:=rfl
def kZ(a:be Addr)(k:be Addr->β)(z:β):hi (.pointer a) k z=k a:=rfl
def ps(a:be Addr)(n c:Nat)(k:be Addr->Nat->Nat->β)(z:β):hE (.slice a n c) k z=k a n c:=rfl
def ac6(x:bi bv)(k:bi bv->β)(z:β):rq (.agg x) k z=k x:=rfl
@[congr] theorem arL {U cy:be α} (h:U=cy) (k:α->β) (z:β):bn U k z=bn cy k z:=by rw[h]
def eg(a:α)(k:α->β)(z:β):bn (some a) k z=k a:=rfl
def hU(k:α->β)(z:β):bn (none:be α) k z=z:=rfl
@[congr] theorem arM {a g b j:Nat} (h:a=g) (A:b=j) (x y:β):ek a b x y=ek g j x y:=by rw[h,A]
def ga{b:Nat}(h:a<=b)(x y:β):ek a b x y=x:=by rw[lg,aE h]
def ac7{b:Nat}(h:¬a<=b)(x y:β):ek a b x y=y:=by rw[lg,aw h]
def ig{b:Nat}(h:a=b)(x y:β):dz a b x y=x:=by rw[lO,aE h]
def pt{b:Nat}(h:¬a=b)(x y:β):dz a b x y=y:=by rw[lO,aw h]
def pv(n:Nat)(k:Nat->β)(z:β):ht (n:Int) k z=k n:=rfl
def ac8{n:Int}(h:0<=n)(k:Nat->β)(z:β):ht n k z=k n.toNat:=by
 obtain⟨m,rfl⟩:=NX h;rfl
def yN{l:ac α}{U n:Nat}(h:U+n<=l.length)(k:ac α->β)(z:β):hQ l U n k z=k ((l.drop U).take n):=by
 unfold hQ;rw[AN,AO,aE dA];rfl
@[congr] theorem arN {b g:Bool} (h:b=g) (x y:β):cond b x y=cond g x y:=by rw[h]
end
def Bv(o:aJ)(t:Tmp):o.ar (.tmp t)=o.tmp t:=rfl
def ac9(o:aJ)(v:bv):o.put none v=o:=rfl
theorem uj(o:aJ)(d:Tmp)(v:bv)(J:Nat):(o.put (some d) v).tmp J=if J=d then v else o.tmp J:=by
 rw[qi];by_cases h:J=d
 ·subst h;simp
 ·grind
def ada(o:aJ)(d:be Tmp)(v:bv):(o.put d v).c4=o.c4:=(qj o d v).1
def adb(o:aJ)(d:be Tmp)(v:bv):(o.put d v).cL=o.cL:=(qj o d v).2.2.1
def ade(o:aJ):dJ o []=[]:=rfl
def adf(o:aJ)(x:ce)(xs:ac ce):dJ o (x::xs)=o.ar x::dJ o xs:=rfl
section
variable(call:bM)(bb:Nat)(fn:d7)(o:aJ)(st:aj)
def adg:fV call [] o st= .out .norm o st:=rfl
def sJ(d:be Tmp)(U:c7)(xs:ac bm):fV call (⟨d,U,none⟩::xs) o st=
 rU (bw call U o st) (λv o st=>fV call xs (o.put d v) st) (λv st=>cond U.kU (.out (.aR v) o st) .no):=rfl
def adh{β:Type}(v:bv)(b:Bool)(yes qy z:β):β:=jX v (λc=>cond c (cond b yes qy)<|cond b qy yes)<|qd v (λ_=>qy) z
def JV(d:be Tmp)(U:c7)(t:Tmp)(b:Bool)(xs:ac bm):fV call (⟨d,U,some (t,b)⟩::xs) o st=
 adh (o.tmp t) b (rU (bw call U o st) (λv o st=>fV call xs (o.put d v) st) λv st=>cond U.kU (.out (.aR v) o st) .no) (fV call xs (o.put d undef) st) .no:=rfl
def Qz(ops:ac bm):cZ call bb fn (.fU ops) o st=fV call ops o st:=rfl
def E3(a b:dk):cZ call bb fn (.seq a b) o st=kf (cZ call bb fn a o st) (cZ call bb fn b):=rfl
def JW(c:ce)(a b:dk):cZ call bb fn (.cond c a b) o st=AI (o.ar c) (cZ call bb fn a o st) (cZ call bb fn b o st):=rfl
def QA(i:Nat)(a:dk):cZ call bb fn (.block i a) o st=pc i (cZ call bb fn a o st):=rfl
def Bw(b:dk)(n:Nat)(o:aJ)(st:aj):cH:=
 Nat.rec (motive:=λ_=>aJ->aj->cH) (λ_ _=>.no) (λ_ g o st=>kf (cZ call bb fn b o st) g) n o st
def adi(b:dk)(n:Nat):Bw call bb fn b (n+1) o st=kf (cZ call bb fn b o st) (Bw call bb fn b n):=rfl
end
section
variable(call:bM)(o:aJ)(st:aj)
def QB(c a b:ce):bw call (.pick c a b) o st=jX (o.ar c) (λt=>.ok (cond t (o.ar a)<|o.ar b) o st) .no:=rfl
def QC(x:ce):bw call (.o6 x) o st=hE (o.ar x) (λ_ n _=>.ok (.int .i64 (n:Int)) o st) (rr (o.ar x) (.ok (.int .i64<|.ofNat 0) o st) .no):=rfl
def adj(x:ce):bw call (.vK x) o st=hD (o.ar x) (λs=>.ok (.int .i64 (s.data.toList.length:Int)) o st) .no:=by
 show hD (o.ar x) (λs=>fK (du s.data.toList) λn=>a1.ok (.int .i64<|.ofNat n) o st) a1.no=_;simp only[vW,eP];rfl
def yO(f:ce)(args:ac ce):bw call (.call f args) o st=lv (call (o.ar f) (dJ o args) none st) (λv st=>.ok v o st) (λv st=>.aR v st):=rfl
def adk(b2:Nat)(x i:ce):bw call (.h3 b2 x i) o st=
 hE (o.ar x) (λb len _=>bn b (λa=>fL (o.ar i) (λ_ J=>ht J (λJ=>ek (J+1) len (.ok (.pointer<|some<|a.add<|J*b2) o st) .no) .no) .no) .no) .no:=rfl
def JX(x:ce):bw call (.h2 x) o st=hi (o.ar x) (λp=>bn p (λa=>st.load a 1 (λad=>one ad (λv=>.ok v o st) .no) .no) .no) .no:=rfl
def adl(n:Nat)(x:ce):bw call (.mi n x) o st=hi (o.ar x) (λp=>bn p (λa=>st.load a n (λad=>.ok (.agg ⟨ad⟩) o st) .no) .no) .no:=rfl
def adm(k:f6)(x:ce):bw call (.tK k x) o st=fL (o.ar x) (λ_ n=>.ok (.int k<|k.wrap n) o st) .no:=by
 show fL (o.ar x) (λ_ n=>ic k (nA k n) λv=>a1.ok v o st) a1.no=_;simp[iq,kS]
def Bx(op:BinOp)(x y:ce):bw call (.bin op x y) o st=Az op (o.ar x) (o.ar y) (λv=>.ok v o st):=rfl
def adn(op:BinOp)(k g:f6)(a b:Int)(c:bv->a1):Az op (.int k a) (.int g b) c=Ay op k a g b c:=rfl
def ado(op:BinOp)(a b:f9)(c:bv->a1):Az op (.string a) (.string b) c=Ax op a b c:=rfl
def adp(k:f6):jI k k=true:=by cases k<;>rfl
end
end Sym
end Go.bA
namespace Go.bA
open Sym
def W(r:cH)(Q:c1->aJ->aj->Prop):Prop:=∃e o st,r= .out e o st/\Q e o st
variable{Q:c1->aJ->aj->Prop}{r:cH}
def W.mk{e:c1}{o:aJ}{st:aj}(h:Q e o st):W (.out e o st) Q:=⟨e,o,st,j,h⟩
def W.of_eq{j:cH}(e:r=j)(h:W j Q):W r Q:=by rw[e];exact h
def W.mono{j:c1->aJ->aj->Prop}(h:W r Q)(cz:∀e o st,Q e o st->j e o st):W r j:=
 let⟨e,o,st,g,A⟩:=h;⟨e,o,st,g,cz _ _ _ A⟩
def adq(call:bM)(bb:Nat)(fn:d7)(b:dk)(Q:c1->aJ->aj->Prop):c1->aJ->aj->Prop
 |.norm,o,st=>W (cZ call bb fn b o st) Q
 |e,o,st=>Q e o st
def adr(id:Nat)(Q:c1->aJ->aj->Prop):c1->aJ->aj->Prop
 |.exit i,o,st=>if i=id then Q .norm o st else Q (.exit i) o st
 |e,o,st=>Q e o st
def Round(aa:Nat->aJ->aj->Prop)(m:Nat)(Q:c1->aJ->aj->Prop):c1->aJ->aj->Prop
 |.norm,o,st=>∃g,g<m/\aa g o st
 |e,o,st=>Q e o st
section
variable{call:bM}{bb:Nat}{fn:d7}{o:aJ}{st:aj}{Q:c1->aJ->aj->Prop}
variable{a:dk}{c:ce}{t:Bool}{v:bv}{i:Nat}{d:Tmp}
def QD{b:dk}(h:W (cZ call bb fn a o st) (adq call bb fn b Q)):W (cZ call bb fn (.seq a b) o st) Q:=by
 obtain⟨e,A,ak,j,g⟩:=h;rw[E3,j];cases e with
 |norm=>exact g
 |exit i=>exact .mk g
 |ret=>exact .mk g
 |aR v=>exact .mk g
def ads(h:Q .norm o st):W (cZ call bb fn .skip o st) Q:=.mk h
def adt(h:Q (.exit i) o st):W (cZ call bb fn (.exit i) o st) Q:=.mk h
def adu(h:Q .ret o st):W (cZ call bb fn .ret o st) Q:=.mk h
def adv(h:W (cZ call bb fn a o st) Q):W (cZ call bb fn (.scope a) o st) Q:=h
theorem adw(h:W (cZ call bb fn a o st) (adr i Q)):W (cZ call bb fn (.block i a) o st) Q:=by
 obtain⟨e,B,ak,C,g⟩:=h;rw[QA,C];cases e with
 |norm=>exact .mk g
 |exit J=>
  rw[ac5];have A:(if J=i then Q .norm B ak else Q (.exit J) B ak):=g;split at A
  ·rw[aE lh];exact .mk A
  ·rw[aw lh];exact .mk A
 |ret=>exact .mk g
 |aR v=>exact .mk g
def adx{ops:ac bm}(h:W (fV call ops o st) Q):W (cZ call bb fn (.fU ops) o st) Q:=h
def ady(h:Q .norm o st):W (fV call [] o st) Q:=.mk h
def adz{b:dk}(aS:o.ar c= .bool t)(D:t=true->W (cZ call bb fn a o st) Q)(aA:t=false->W (cZ call bb fn b o st) Q):W (cZ call bb fn (.cond c a b) o st) Q:=by
 rw[JW,aS];cases t
 ·exact aA j
 ·exact D j
def adA{b:dk}(aS:o.ar c= .bool t)(D:t=true)(j:W (cZ call bb fn a o st) Q):W (cZ call bb fn (.cond c a b) o st) Q:=by
 rw[JW,aS,D];exact j
def adB{b:dk}(aS:o.ar c= .bool t)(j:t=false)(aA:W (cZ call bb fn b o st) Q):W (cZ call bb fn (.cond c a b) o st) Q:=by
 rw[JW,aS,j];exact aA
theorem QE{b:dk}(aa:Nat->aJ->aj->Prop)
 (j:∀m o st,aa m o st->W (cZ call bb fn b o st) (Round aa m Q)):∀(n m:Nat) (o:aJ) (st:aj),m<n->aa m o st->W (Bw call bb fn b n o st) Q
 |0,m,_,_,h,_=>by omega
 |n+1,m,o,st,h,af=>by
  obtain⟨e,A,ak,aF,aL⟩:=j m o st af;rw[adi,aF];cases e with
  |norm=>
   obtain⟨B,hm,g⟩:=aL;exact QE aa j n B A ak R g
  |exit i=>exact .mk aL
  |ret=>exact .mk aL
  |aR v=>exact .mk aL
def adC{b:dk}(aa:Nat->aJ->aj->Prop)(m:Nat)(hm:m<bb)(bX:aa m o st)
 (j:∀m o st,aa m o st->W (cZ call bb fn b o st) (Round aa m Q)):W (cZ call bb fn (.loop b) o st) Q:=
 QE aa j bb m o st hm bX
def E:(o.put (some d) v).ar (.tmp d)=v:=by rw[Bv,uj,aE j]
def N{J:Tmp}{x:bv}(h:o.ar (.tmp J)=x)(D:Nat.beq J d=false:=by rfl):(o.put (some d) v).ar (.tmp J)=x:=by
 rw[Bv,uj,aw];exact h;intro e;subst e;simp at D
def C:o.ar (.const v)=v:=rfl
section
variable{xs:ac bm}{d:be Tmp}{U:c7}{x y i:ce}
def pw{ak:aj}(h:bw call U o st= .ok v o ak)(k:W (fV call xs (o.put d v) ak) Q):W (fV call (⟨d,U,none⟩::xs) o st) Q:=by
 rw[sJ,h];exact k
def adD{t:Tmp}{b c:Bool}(j:o.ar (.tmp t)= .bool c)(aS:c=b)(k:W (fV call (⟨d,U,none⟩::xs) o st) Q):W (fV call (⟨d,U,some (t,b)⟩::xs) o st) Q:=by
 subst aS;rw[JV,show o.tmp t= .bool c from j];cases c
 ·exact k
 ·exact k
def adE{t:Tmp}{b c:Bool}(j:o.ar (.tmp t)= .bool c)(aS:c= !b)(k:W (fV call xs (o.put d undef) st) Q):W (fV call (⟨d,U,some (t,b)⟩::xs) o st) Q:=by
 subst aS;rw[JV,show o.tmp t= .bool (!b)from j];cases b
 ·exact k
 ·exact k
def adF{t:Tmp}{b:Bool}{a:bi bv}(j:o.ar (.tmp t)= .tuple a)(k:W (fV call xs (o.put d undef) st) Q):W (fV call (⟨d,U,some (t,b)⟩::xs) o st) Q:=by
 rw[JV,show o.tmp t= .tuple a from j];exact k
end
section
variable{x y i c a b:ce}
variable{n m:Nat}{k:f6}{p:Addr}
def uk{p:be Addr}(h:o.ar x= .slice p n m):bw call (.o6 x) o st= .ok (.int .i64 (n:Int)) o st:=by rw[QC,h];rfl
def adG(h:o.ar x= .chan none):bw call (.o6 x) o st= .ok (.int .i64 0) o st:=by rw[QC,h];rfl
def adH{gw:f6}{n:Int}(h:o.ar x= .int gw n):bw call (.tK k x) o st= .ok (.int k<|k.wrap n) o st:=by rw[adm,h];rfl
def adI{b2:Nat}{J:Int}(h:o.ar x= .slice (some p) n m)(D:o.ar i= .int k J)(bX:0<=J)(aF:J<n):
 bw call (.h3 b2 x i) o st= .ok (.pointer<|some<|p.add<|J.toNat*b2) o st:=by
 rw[adk,h,D];show ht J (λJ=>ek (J+1) n _ _) _=_;rw[ac8 bX,ga R]
theorem adJ{cs:ac bv}{el:co}{bT:Nat×Nat}{aU:Bool}(h:o.ar x= .pointer (some p))(hp:p.spot=none)(D:st.h.get p.block=some (.cells cs el bT aU))(j:cs[p.off]? =some v):
 bw call (.h2 x) o st= .ok v o st:=by
 rw[JX,h];show st.load p 1 _ _=_;unfold aj.load aj.fM;rw[hp,D];show hQ cs p.off 1 _ _=_;have aT:p.off<cs.length:=by
  grind
 rw[yN R];have:(cs.drop p.off).take 1=[v]:=by
  rw[a0 aT]at j;cases j;rw[gp aT];rfl
 rw[this];rfl
end
end
end Go.bA
namespace Go.bA
open Sym
variable{X:Ctx}
structure dL where
 r:ac bv->aj->bv->aj->Prop
 p:ac bv->aj->bv->aj->Prop
def dL.no:dL:=⟨λ_ _ _ _=>False,λ_ _ _ _=>False⟩
def By(X:Ctx)(f:d7)(as:ac bv)(st:aj)(v:bv)(ak:aj):Prop:=
 ∀(g:bF) (h:ac bv) (w:f5),bI g as h->bN X g st w->
  (∀as w,(callFunc f as).run X.P w= .ok (.enter f as) w)/\
  ∀(K:CallKind) (bd:Bool->ac Frame),iX ⟨f,K,none⟩ none g bd->gZ X g w ⟨f,K,none⟩ bd (lone (Frame.enter X.P f h.toArray K) (bd false) w) (.aR v ak false)
def cj(X:Ctx)(K:d7->dL):nC:=λf as st=>
 open Classical in if h:∃p:bv×aj,(K f).r as st p.1 p.2/\ef X f ⟨as,st,p.1,p.2⟩then some (.ret (Classical.choose h).1 (Classical.choose h).2 false)
 else if h:∃p:bv×aj,(K f).p as st p.1 p.2/\By X f as st p.1 p.2 then some (.aR (Classical.choose h).1 (Classical.choose h).2 false)else none
def Bz(K:d7->dL):rK X (cj X K):=by
 intro f as st r g C A w j B _;unfold cj at g;split at g
 ·rename_i h;cases g;exact(Classical.choose_spec h).2 C A w j B
 ·split at g
  ·rename_i h;cases g;exact(Classical.choose_spec h).2 C A w j B
  ·cases g
def yP{K:d7->dL}{f:d7}{as:ac bv}{st:aj}(h:∃v ak,(K f).r as st v ak/\ef X f ⟨as,st,v,ak⟩):
 ∃v ak,cj X K f as st=some (.ret v ak false)/\(K f).r as st v ak:=by
 obtain⟨v,ak,g,j⟩:=h;have hp:∃p:bv×aj,(K f).r as st p.1 p.2/\ef X f ⟨as,st,p.1,p.2⟩:=⟨(v,ak),g,j⟩;refine⟨(Classical.choose hp).1,(Classical.choose hp).2,?_,(Classical.choose_spec hp).1⟩;unfold cj;rw[ra hp]
structure Spec where
 L:Type
 pre:L->ac bv->aj->Prop
 post:L->ac bv->aj->bv->aj->Prop
def Spec.K(S:Spec):dL:=⟨λas st v ak=>∀l,S.pre l as st->S.post l as st v ak,λ_ _ _ _=>False⟩
instance:Coe Spec dL:=⟨Spec.K⟩
def dY(X:Ctx)(f:d7)(S:Spec):Prop:=∀as st,(∃l,S.pre l as st)->∃v ak,S.K.r as st v ak/\ef X f ⟨as,st,v,ak⟩
structure wv where
 L:Type
 pre:L->ac bv->aj->Prop
 post:L->ac bv->aj->bv->aj->Prop
 JY:L->ac bv->aj->bv->aj->Prop
def wv.K(S:wv):dL:=⟨λas st v ak=>∀l,S.pre l as st->S.post l as st v ak,λas st v ak=>∀l,S.pre l as st->S.JY l as st v ak⟩
instance:Coe wv dL:=⟨wv.K⟩
def kD(X:Ctx)(f:d7)(S:wv):Prop:=∀as st,(∃l,S.pre l as st)->(∃v ak,S.K.r as st v ak/\ef X f ⟨as,st,v,ak⟩)\/∃v ak,S.K.p as st v ak/\By X f as st v ak
variable{f:d7}{as:ac bv}{aZ:cJ}{n:Nat}{v:bv}{ak:aj}
def adK{K:d7->dL}{st:aj}(h:(∃v ak,(K f).r as st v ak/\ef X f ⟨as,st,v,ak⟩)\/∃v ak,(K f).p as st v ak/\By X f as st v ak):
 (∃v ak,cj X K f as st=some (.ret v ak false)/\(K f).r as st v ak)\/∃v ak,cj X K f as st=some (.aR v ak false)/\(K f).p as st v ak:=by
 by_cases hp:∃p:bv×aj,(K f).r as st p.1 p.2/\ef X f ⟨as,st,p.1,p.2⟩
 ·exact .inl<|yP ⟨_,_,hp.choose_spec.1,hp.choose_spec.2⟩
 ·rcases h with⟨v,ak,j,A⟩|⟨v,ak,j,A⟩
  ·exact absurd ⟨(v,ak),j,A⟩ hp
  ·have g:∃p:bv×aj,(K f).p as st p.1 p.2/\By X f as st p.1 p.2:=⟨(v,ak),j,A⟩;refine .inr ⟨(Classical.choose g).1,(Classical.choose g).2,?_,(Classical.choose_spec g).1⟩;unfold cj;rw[dif_neg hp,ra g]
def bx:Nat:=4611686018427387904
def JZ{aI:ao cJ}(j:Good X)(D:iZ X aI){K:d7->dL}(E:aI.get f=some aZ){st:aj}
 (h:ie (b7 aI (cj X K) n) n f aZ as none st= .ret v ak false):ef X f ⟨as,st,v,ak⟩:=by
 obtain⟨I,c,ok⟩:=D f aZ E;obtain⟨C,g⟩:=uh j D (Bz K) n;intro N L w A F;refine⟨ok.enters,λG bd B=>?_⟩;have:=Jr j g C (λb aM bd _=>ug g b aM bd) ok n A F B;rw[h]at this;exact this
def adL{aI:ao cJ}(j:Good X)(D:iZ X aI){K:d7->dL}(E:aI.get f=some aZ){st:aj}
 (h:ie (b7 aI (cj X K) n) n f aZ as none st= .aR v ak false):By X f as st v ak:=by
 obtain⟨I,c,ok⟩:=D f aZ E;obtain⟨C,g⟩:=uh j D (Bz K) n;intro N L w A F;refine⟨ok.enters,λG bd B=>?_⟩;have:=Jr j g C (λb aM bd _=>ug g b aM bd) ok n A F B;rw[h]at this;exact this
structure um(o:aJ):Prop where
 c4:o.c4=[]
 aR:o.aR=none
 cL:o.cL=false
variable{call:bM}{k0:bv->aj->Prop}
def um.put{o:aJ}(h:um o)(d:be Tmp)(v:bv):um (o.put d v):=by
 obtain⟨j,A,g,B⟩:=qj o d v;exact⟨j.trans h.c4,A.trans h.aR,g.trans h.cL⟩
def dT(as:ac bv):aJ:=⟨ld as 0 .nil,[],none,false,none⟩
def um.zero(as:ac bv):um (dT as):=rD
def J0{st:aj}(aD:as.length<=aZ.aM)
 (h:W (cZ call n f aZ.body (dT as) st) λe o ak=>(e= .norm\/e= .ret)/\∃v,fv call aZ.res none o ak= .ret v ak false/\k0 v ak):
 ∃v ak,ie call n f aZ as none st= .ret v ak false/\k0 v ak:=by
 obtain⟨e,o,ak,A,B,v,g,j⟩:=h;refine⟨v,ak,?_,j⟩;unfold ie;rw[lg,aE<|by rw[eP];exact aD];show cH.rec (motive:=λ_=>dQ) _ _ (cZ call n f aZ.body (dT as) st)=_;rw[A];rcases B with rfl|rfl
 ·exact g
 ·exact g
def J1{aI:ao cJ}(E:Good X)(F:iZ X aI)(K:d7->dL)(D:aI.get f=some aZ){S:Spec}(aD:∀l as st,S.pre l as st->as.length<=aZ.aM)
 (h:∀l as st,S.pre l as st->W (cZ (b7 aI (cj X K)<|bx+1) (bx+1) f aZ.body (dT as) st)
  (λe o ak=>(e= .norm\/e= .ret)/\∃v,fv (b7 aI (cj X K)<|bx+1) aZ.res none o ak= .ret v ak false/\S.post l as st v ak)):dY X f S:=by
 intro as st ⟨l,hp⟩;obtain⟨v,ak,j,I⟩:=J0 (aD l as st hp)<|h l as st hp;refine⟨v,ak,λB A=>?_,JZ E F D j⟩;obtain⟨L,G,g,C⟩:=J0 (aD B as st A)<|h B as st A;rw[j]at g;cases g;exact C
def E4{st:aj}{J2:bv->aj->Prop}(aD:as.length<=aZ.aM)
 (h:W (cZ call n f aZ.body (dT as) st) λe o ak=>((e= .norm\/e= .ret)/\∃v,fv call aZ.res none o ak= .ret v ak false/\k0 v ak)\/∃v,e= .aR v/\fv call aZ.res (some v) o ak= .aR v ak false/\J2 v ak):
 (∃v ak,ie call n f aZ as none st= .ret v ak false/\k0 v ak)\/∃v ak,ie call n f aZ as none st= .aR v ak false/\J2 v ak:=by
 obtain⟨e,o,ak,B,h⟩:=h;have A:ie call n f aZ as none st=cH.rec (λe o st=>c1.rec (fv call aZ.res none o st) (λ_=>.no) (fv call aZ.res none o st) (λv=>fv call aZ.res (some v) o st) e) .no (cZ call n f aZ.body (dT as) st):=by
  unfold ie;rw[lg,aE<|by rw[eP];exact aD];rfl
 rw[B]at A;rcases h with⟨C,v,g,j⟩|⟨v,rfl,g,j⟩
 ·refine .inl ⟨v,ak,A.trans ?_,j⟩;rcases C with rfl|rfl
  ·exact g
  ·exact g
 ·exact .inr ⟨v,ak,A.trans g,j⟩
def adM{aI:ao cJ}(G:Good X)(I:iZ X aI)(K:d7->dL)(F:aI.get f=some aZ){S:wv}(aD:∀l as st,S.pre l as st->as.length<=aZ.aM)
 (h:∀l as st,S.pre l as st->W (cZ (b7 aI (cj X K)<|bx+1) (bx+1) f aZ.body (dT as) st)
  (λe o ak=>((e= .norm\/e= .ret)/\∃v,fv (b7 aI (cj X K)<|bx+1) aZ.res none o ak= .ret v ak false/\S.post l as st v ak)\/∃v,e= .aR v/\fv (b7 aI (cj X K)<|bx+1) aZ.res (some v) o ak= .aR v ak false/\S.JY l as st v ak)):kD X f S:=by
 intro as st ⟨l,hp⟩;rcases E4 (aD l as st hp) (h l as st hp)with⟨v,ak,j,L⟩|⟨v,ak,j,L⟩
 ·refine .inl ⟨v,ak,λC B=>?_,JZ G I F j⟩;rcases E4 (aD C as st B) (h C as st B)with⟨E,D,g,A⟩|⟨E,D,g,A⟩
  ·rw[j]at g;cases g;exact A
  ·rw[j]at g;cases g
 ·refine .inr ⟨v,ak,λC B=>?_,adL G I F j⟩;rcases E4 (aD C as st B) (h C as st B)with⟨E,D,g,A⟩|⟨E,D,g,A⟩
  ·rw[j]at g;cases g
  ·rw[j]at g;cases g;exact A
section
variable{call:bM}{o:aJ}{st:aj}{x y i:ce}
def kl{β:Type}(cs:ac bv)(e:co)(bT:Nat×Nat)(aU:Bool)(k:ac bv->co->Nat×Nat->Bool->β)(z:β):yb (some<|.cells cs e bT aU) k z=k cs e bT aU:=rfl
end
def eI:ac Nat->ac Nat
 |[]=>[]
 |d::aN=>match eI aN with
  |[]=>if d=0 then[]else[d]
  |r=>d::r
end Go.bA
namespace Go.bA
open Sym
section
variable{call:bM}{o:aJ}{st:aj}{Q:c1->aJ->aj->Prop}{bb:Nat}{fn:d7}
variable{ops:ac (bm×cr)}{fi:sx}{cv:ac (ao bz)}{c a:ce}{t:Bool}{u:bv}{n:Int}
def O{ay:ac Tmp}{J:Tmp}{x:bv}(h:o.ar (.tmp J)=x)(ba:ay.contains J=true:=by rfl):(o.only ay).ar (.tmp J)=x:=by
 rw[Bv,Pl,aE<|by simpa using ba];exact h
def adN{D j ms:ac Nat}(h:W (gX call (ry call ms<|du ops) ops [st.h] (pb o j) st) Q):W (cZ call bb fn (.qc ops D j ms) o st) Q:=h
def QF(h:Q .norm o st):W (gX call fi [] cv o st) Q:=.mk h
theorem QG{U:c7}{f:aJ}{v:bv}{ae:Nat}:∀(n:Nat) (cv:ac (ao bz)),n<=cv.length->(∀h∈cv.take n,∃j g,bw call U f ⟨h,ae⟩= .ok v j g)->sameAt call U f v ae n cv=true
 |0,_,_,_=>rfl
 |n+1,[],h,_=>by simp at h
 |n+1,h::cv,aD,cA=>by
  obtain⟨j,g,e⟩:=cA h av;show a1.rec (λB _ _=>cond (dm v B) (sameAt call U f v ae n cv) false) (λ_ _=>false) false (bw call U f ⟨h,ae⟩)=true;rw[e];show cond (dm v v) (sameAt call U f v ae n cv) false=true;rw[oj];exact QG n cv (by simpa using aD) λA hm=>cA A<|by simp[hm]
def adO{U:c7}{d:be Tmp}{ay:ac Tmp}{back:Nat}{v:bv}(j:∀h∈st.h::cv.take (back+1),bw call U (o.only ay) ⟨h,st.ae⟩= .ok v (o.only ay) ⟨h,st.ae⟩)(aD:back<cv.length)
 (k:W (gX call fi ops cv (o.put d v) st) Q):W (gX call fi ((⟨d,U,none⟩,.read back ay)::ops) cv o st) Q:=by
 refine W.of_eq ?_ k;show jq o.t ay (λt=>gW ⟨t,[],none,false,none⟩ none
  (a1.rec (λv _ _=>cond (sameAt call U ⟨t,[],none,false,none⟩ v st.ae (Nat.succ back) cv) (gX call fi ops cv (o.put d v) st) .no) (λ_ _=>.no) .no<|bw call U ⟨t,[],none,false,none⟩ st)
  (gX call fi ops cv (o.put d undef) st) .no)=_
 rw[nI];have e:=j st.h av;have e:bw call U ⟨Eu o.t ay,[],none,false,none⟩ st= .ok v (o.only ay) st:=e;rw[e];show cond (sameAt call U (o.only ay) v st.ae (Nat.succ back) cv) _ _=_;rw[QG _ _ R λh hm=>⟨_,_,j h<|by simp[hm]⟩];rfl
def adP{b:ce}(aS:o.ar c= .bool t)(D:t=true)(j:o.ar a=u):bw call (.pick c a b) o st= .ok u o st:=by
 rw[QB,aS,j,D];rfl
def adQ{b:ce}(aS:o.ar c= .bool t)(j:t=false)(aA:o.ar b=u):bw call (.pick c a b) o st= .ok u o st:=by
 rw[QB,aS,aA,j];rfl
def BA{x i:ce}{b2 id D n m J:Nat}{k:f6}(h:o.ar x= .slice (some ⟨id,D,none⟩) n m)(E:o.ar i= .int k (J:Int))(ba:J<n):
 bw call (.h3 b2 x i) o st= .ok (.pointer<|some ⟨id,D+J*b2,none⟩) o st:=by
 rw[adI h E R R];rw[xK];congr 3;unfold Addr.add;split
 ·rename_i g;rw[g];rfl
 ·rfl
def fP(h: -9223372036854775808<=n)(j:n<9223372036854775808):IntKind.i64.wrap n=n:=by
 rw[<-kS];show vL 18446744073709551616 9223372036854775808 n=n;rw[x5 _ _ _ al];split<;>omega
def J3(h:0<=n)(j:n<18446744073709551616):IntKind.u64.wrap n=n:=by
 rw[<-kS];show x4 18446744073709551616 n=n;rw[rn _ _ al];omega
end
abbrev Env:=ac<|Nat×bv
def eF(L:ac Nat)(e:Env):Env:=e.filter λp=>L.any<|Nat.beq p.1
abbrev adR:=c1->Env->aj->Prop
end Go.bA
namespace Go.bA
open Sym
variable{X:Ctx}
theorem QH:∀(ad:ac bv) (i:Nat) (t:ao bv) (J:Nat),(ld ad i t).get J=if i<=J/\J<i+ad.length then ad[J-i]? else t.get J
 |[],i,t,J=>by rw[aw av];rfl
 |v::ad,i,t,J=>by
  have e:ld (v::ad) i t=ld ad (i+1) (t.set i v):=by
   show ao.im (Nat.succ i) t i v (λt=>ld ad (Nat.succ i) t)=_;rw[ao.vV]
  rw[e,QH ad (i+1) _ J,ao.ee];by_cases h:J=i
  ·subst h;rw[aw R,aE j,aE av];simp
  ·rw[aw h];by_cases g:i+1<=J/\J<i+1+ad.length
   ·rw[aE g,aE dA];have:J-i=(J-(i+1))+1:=by omega
    rw[this];simp
   ·rw[aw g,aw dA]
end Go.bA
namespace Go.bA
open Sym
section
variable{call:bM}{o:aJ}{st:aj}{x y i:ce}
variable{k:f6}{m n:Nat}
def yQ{op:BinOp}{m n:Int}{v:bv}(aF:op≠.shl)(aL:op≠.shr)(h:o.ar x= .int k m)(D:o.ar y= .int k n)(E:qq op k m n=some v):bw call (.bin op x y) o st= .ok v o st:=by
 rw[Bx,h,D,adn];have:Ay op k m k n (λv=>a1.ok v o st)=cond (jI k k) (Aw op k m n λv=>a1.ok v o st) .no:=by
  cases op<;>first|rfl|(exact absurd j aF)|(exact absurd j aL)
 rw[this,adp,OF,E];rfl
def QI(h:o.ar x= .int k (m:Int))(j:o.ar y= .int k (n:Int))(ah:n≠0):bw call (.bin .quo x y) o st= .ok (.int k<|k.wrap ((m/n:Nat):Int)) o st:=
 yQ al al h j (by
  show(if(n:Int)=0 then none else _)=_;rw[aw R];rfl)
def adS(h:o.ar x= .int k (m:Int))(j:o.ar y= .int k (n:Int))(ah:n≠0):bw call (.bin .rem x y) o st= .ok (.int k ((m%n:Nat):Int)) o st:=
 yQ al al h j (by
  show(if(n:Int)=0 then none else _)=_;rw[aw R];rfl)
end
section
variable{call:bM}{bb:Nat}{fn:d7}{e:Env}{st:aj}{Q:adR}
variable{o:aJ}{t:Tmp}{yes qy z:cH}
def J4{b:Bool}(h:o.tmp t= .bool b):gW o (some (t,b)) yes qy z=yes:=by
 show jX (o.tmp t) (λc=>cond c (cond b yes qy)<|cond b qy yes) _=_;rw[h];cases b<;>rfl
def adT{b:Bool}(h:o.tmp t= .bool (!b)):gW o (some (t,b)) yes qy z=qy:=by
 show jX (o.tmp t) (λc=>cond c (cond b yes qy)<|cond b qy yes) _=_;rw[h];cases b<;>rfl
end
end Go.bA
namespace Go.bA
structure BB where
 P:(Nat->be bz)->bv->Prop
 mono:∀{H bC:Nat->be bz},(∀b U,H b=some U->bC b=some U)->∀{v},P H v->P bC v
 QJ:Bool
 ok:QJ=true->∀H v,P H v->ml v=true
inductive ag:Type 1
 |i (k:IntKind) (n:Int)
 |b (t:Bool)
 |s (l:List UInt8)
 |nl
 |v (x:Value)
 |p (k U:Nat)
 |fk (k z J U:Nat)
 |aK (k z U n c:Nat)
 |cU (z:Nat) (α:Type) (ai:α->List ag) (l:List α)
 |gb (z:Nat) (α:Type) (ai:α->List ag) (l:List α)
 |c6 (z:Nat) (α:Type) (ai:α->List ag) (l:List α)
 |ip (cs:List ag)
 |mp (k:Nat)
 |g (p:BB)
 |fn (f:Fn) (bO cs:List ag)
 |agg (cs:List ag)
 |bq (cs:List ag)
 |bad
abbrev bh:=Nat->be bz
mutual
def den(H:bh):ag->ac Nat->bv->Prop
 |.i k n,_,v=>v= .int k n
 |.b t,_,v=>v= .bool t
 |.s l,_,v=>v= .string ⟨⟨l⟩⟩
 |.nl,_,v=>v= .slice none 0 0
 |.v x,_,v=>v=x
 |.p k U,ids,v=>∃b,ids[k]? =some b/\v= .pointer (some ⟨b,U,none⟩)
 |.fk k z J U,ids,v=>∃b,ids[k]? =some b/\v= .pointer (some ⟨b,J*z+U,none⟩)
 |.aK k z U n c,ids,v=>∃b,ids[k]? =some b/\v= .slice (some ⟨b,U*z,none⟩) n c
 |.cU z _ ai l,_,v=>(l=[]/\v= .slice none 0 0)\/∃b U c ad el bT aU,v= .slice (some ⟨b,U,none⟩) l.length c/\l.length<=c/\H b=some (.cells ad el bT aU)/\∀i x,l[i]? =some x->cB H (ai x) [] ((ad.drop<|U+i*z).take z)
 |.gb z _ ai l,_,v=>(l=[]/\v= .slice none 0 0)\/(l≠[]/\∃b U c ad el bT aU,v= .slice (some ⟨b,U,none⟩) l.length c/\l.length<=c/\H b=some (.cells ad el bT aU)/\∀i x,l[i]? =some x->cB H (ai x) [] ((ad.drop<|U+i*z).take z))
 |.c6 z _ ai l,_,v=>(l=[]/\v= .chan none)\/(l=[]/\v= .slice none 0 0)\/∃b U c ad el bT aU,v= .slice (some ⟨b,U,none⟩) l.length c/\l.length<=c/\H b=some (.cells ad el bT aU)/\∀i x,l[i]? =some x->cB H (ai x) [] ((ad.drop<|U+i*z).take z)
 |.ip cs,_,v=>∃b U ad el bT aU,v= .pointer (some ⟨b,U,none⟩)/\H b=some (.cells ad el bT aU)/\cB H cs [] ((ad.drop U).take cs.length)
 |.mp k,ids,v=>∃b,ids[k]? =some b/\v= .map (some b)
 |.g p,_,v=>p.P H v
 |.fn f bO cs,ids,v=>∃ad ws,v= .func f ⟨ad⟩ ⟨ws⟩/\cB H bO ids ad/\cB H cs ids ws
 |.agg cs,ids,v=>∃ad,v= .agg ⟨ad⟩/\cB H cs ids ad
 |.bq cs,ids,v=>∃ad,v= .tuple ⟨ad⟩/\cB H cs ids ad
 |.bad,_,_=>False
def cB(H:bh):ac ag->ac Nat->ac bv->Prop
 |[],_,ad=>ad=[]
 |c::cs,ids,ad=>∃v ws,ad=v::ws/\den H c ids v/\cB H cs ids ws
end
def cF(H g:bh):Prop:=∀b U,H b=some U->g b=some U
def cF.refl(H:bh):cF H H:=λ_ _ h=>h
def cF.trans{H j g:bh}(h:cF H j)(D:cF j g):cF H g:=λb U e=>D b U<|h b U e
def cf(i J:ac Nat):Prop:=∀k b:Nat,i[k]? =some b->J[k]? =some b
def cf.refl(i:ac Nat):cf i i:=λ_ _ h=>h
def cf.nil(i:ac Nat):cf [] i:=λk b h=>by simp at h
theorem cf.app(i J:ac Nat):cf i (i++J):=λk b h=>by
 grind
mutual
theorem iw{H E:bh}(h:cF H E):∀(a:ag) {i J:ac Nat} {v:bv},cf i J->den H a i v->den E a J v
 |.i _ _,_,_,_,_,d=>d
 |.b _,_,_,_,_,d=>d
 |.s _,_,_,_,_,d=>d
 |.nl,_,_,_,_,d=>d
 |.v _,_,_,_,_,d=>d
 |.p _ _,_,_,_,af,⟨b,e,d⟩=>⟨b,af _ _ e,d⟩
 |.fk _ _ _ _,_,_,_,af,⟨b,e,d⟩=>⟨b,af _ _ e,d⟩
 |.aK _ _ _ _ _,_,_,_,af,⟨b,e,d⟩=>⟨b,af _ _ e,d⟩
 |.cU _ _ _ _,_,_,_,_,.inl d=>.inl d
 |.cU _ _ ai _,_,_,_,_,.inr ⟨b,U,c,ad,el,bT,aU,A,iW,B,D⟩=>.inr ⟨b,U,c,ad,el,bT,aU,A,iW,h _ _ B,λi x C=>lx h (ai x) (cf.refl _)<|D i x C⟩
 |.gb _ _ _ _,_,_,_,_,.inl d=>.inl d
 |.gb _ _ ai _,_,_,_,_,.inr ⟨ah,b,U,c,ad,el,bT,aU,A,iW,B,D⟩=>.inr ⟨ah,b,U,c,ad,el,bT,aU,A,iW,h _ _ B,λi x C=>lx h (ai x) (cf.refl _)<|D i x C⟩
 |.c6 _ _ _ _,_,_,_,_,.inl d=>.inl d
 |.c6 _ _ _ _,_,_,_,_,.inr (.inl d)=>.inr (.inl d)
 |.c6 _ _ ai _,_,_,_,_,.inr (.inr ⟨b,U,c,ad,el,bT,aU,A,iW,B,D⟩)=>.inr (.inr ⟨b,U,c,ad,el,bT,aU,A,iW,h _ _ B,λi x C=>lx h (ai x) (cf.refl _)<|D i x C⟩)
 |.ip cs,_,_,_,_,⟨b,U,ad,el,bT,aU,A,iW,B⟩=>⟨b,U,ad,el,bT,aU,A,h _ _ iW,lx h cs (cf.refl _) B⟩
 |.mp _,_,_,_,af,⟨b,e,d⟩=>⟨b,af _ _ e,d⟩
 |.g p,_,_,_,_,d=>p.mono h d
 |.fn _ bO cs,_,_,_,af,⟨ad,ws,e,F,G⟩=>⟨ad,ws,e,lx h bO af F,lx h cs af G⟩
 |.agg cs,_,_,_,af,⟨ad,e,d⟩=>⟨ad,e,lx h cs af d⟩
 |.bq cs,_,_,_,af,⟨ad,e,d⟩=>⟨ad,e,lx h cs af d⟩
 |.bad,_,_,_,_,d=>d.elim
theorem lx{H g:bh}(h:cF H g):∀(a:ac ag) {i J:ac Nat} {v:ac bv},cf i J->cB H a i v->cB g a J v
 |[],_,_,_,_,d=>d
 |a::as,_,_,_,af,⟨v,ws,e,A,B⟩=>⟨v,ws,e,iw h a af A,lx h as af B⟩
end
mutual
def jL(f:ac Nat):ag->ag
 |.p k U=>match f[k]? with|some J=>.p J U|none=>.bad
 |.fk k z J U=>match f[k]? with|some m=>.fk m z J U|none=>.bad
 |.aK k z U n c=>match f[k]? with|some m=>.aK m z U n c|none=>.bad
 |.mp k=>match f[k]? with|some m=>.mp m|none=>.bad
 |.g p=>.g p
 |.fn g bO cs=>.fn g (k1 f bO) (k1 f cs)
 |.agg cs=>.agg (k1 f cs)
 |.bq cs=>.bq (k1 f cs)
 |.i k n=>.i k n
 |.b t=>.b t
 |.s l=>.s l
 |.nl=>.nl
 |.v x=>.v x
 |.cU z α ai l=>.cU z α ai l
 |.gb z α ai l=>.gb z α ai l
 |.c6 z α ai l=>.c6 z α ai l
 |.ip cs=>.ip cs
 |.bad=>.bad
def k1(f:ac Nat):ac ag->ac ag
 |[]=>[]
 |a::as=>jL f a::k1 f as
end
def pick(f ids:ac Nat):ac Nat:=f.map λk=>(ids[k]?).getD 0
def uo{f ids:ac Nat}{k m b:Nat}(j:f[k]? =some m)(aA:ids[m]? =some b):(pick f ids)[k]? =some b:=by
 unfold pick;rw[vr,j];simp[aA]
mutual
theorem J5{H:bh}(f:ac Nat){ids:ac Nat}:∀(a:ag) {v:bv},den H (jL f a) ids v->den H a (pick f ids) v
 |.i _ _,_,d=>d
 |.b _,_,d=>d
 |.s _,_,d=>d
 |.nl,_,d=>d
 |.v _,_,d=>d
 |.p k U,v,d=>by
  unfold jL at d;cases h:f[k]? with
  |none=>rw[h]at d;exact d.elim
  |some J=>rw[h]at d;obtain⟨b,e,d⟩:=d;exact⟨b,uo h e,d⟩
 |.fk k z J U,v,d=>by
  unfold jL at d;cases h:f[k]? with
  |none=>rw[h]at d;exact d.elim
  |some J=>rw[h]at d;obtain⟨b,e,d⟩:=d;exact⟨b,uo h e,d⟩
 |.aK k z U n c,v,d=>by
  unfold jL at d;cases h:f[k]? with
  |none=>rw[h]at d;exact d.elim
  |some J=>rw[h]at d;obtain⟨b,e,d⟩:=d;exact⟨b,uo h e,d⟩
 |.cU _ _ _ _,_,d=>d
 |.gb _ _ _ _,_,d=>d
 |.c6 _ _ _ _,_,d=>d
 |.ip _,_,d=>d
 |.mp k,v,d=>by
  unfold jL at d;cases h:f[k]? with
  |none=>rw[h]at d;exact d.elim
  |some J=>rw[h]at d;obtain⟨b,e,d⟩:=d;exact⟨b,uo h e,d⟩
 |.g _,_,d=>d
 |.fn _ bO cs,_,⟨ad,C,e,A,B⟩=>⟨ad,C,e,uq f bO A,uq f cs B⟩
 |.agg cs,_,⟨ad,e,d⟩=>⟨ad,e,uq f cs d⟩
 |.bq cs,_,⟨ad,e,d⟩=>⟨ad,e,uq f cs d⟩
 |.bad,_,d=>d.elim
theorem uq{H:bh}(f:ac Nat){ids:ac Nat}:∀(a:ac ag) {v:ac bv},cB H (k1 f a) ids v->cB H a (pick f ids) v
 |[],_,d=>d
 |a::as,_,⟨v,ws,e,g,h⟩=>⟨v,ws,e,J5 f a g,uq f as h⟩
end
mutual
def iV:ag->Bool
 |.p _ _|.fk _ _ _ _|.aK _ _ _ _ _|.mp _=>false
 |.fn _ bO cs=>g9 bO&&g9 cs
 |.agg cs=>g9 cs
 |.bq cs=>g9 cs
 |_=>true
def g9:ac ag->Bool
 |[]=>true
 |a::as=>iV a&&g9 as
end
mutual
theorem sK{H:bh}{ids:ac Nat}:∀(a:ag) {v:bv},iV a=true->den H a ids v->∀J,den H a J v
 |.i _ _,_,_,d,_=>d
 |.b _,_,_,d,_=>d
 |.s _,_,_,d,_=>d
 |.nl,_,_,d,_=>d
 |.v _,_,_,d,_=>d
 |.p _ _,_,h,_,_=>by cases h
 |.fk _ _ _ _,_,h,_,_=>by cases h
 |.aK _ _ _ _ _,_,h,_,_=>by cases h
 |.cU _ _ _ _,_,_,d,_=>d
 |.gb _ _ _ _,_,_,d,_=>d
 |.c6 _ _ _ _,_,_,d,_=>d
 |.ip _,_,_,d,_=>d
 |.mp _,_,h,_,_=>by cases h
 |.g _,_,_,d,_=>d
 |.fn _ bO cs,_,h,⟨ad,ws,e,A,B⟩,J=>by
  have h:(g9 bO&&g9 cs)=true:=h;rw[cO]at h;exact⟨ad,ws,e,px bO h.1 A J,px cs h.2 B J⟩
 |.agg cs,_,h,⟨ad,e,d⟩,J=>⟨ad,e,px cs h d J⟩
 |.bq cs,_,h,⟨ad,e,d⟩,J=>⟨ad,e,px cs h d J⟩
 |.bad,_,_,d,_=>d.elim
theorem px{H:bh}{ids:ac Nat}:∀(a:ac ag) {v:ac bv},g9 a=true->cB H a ids v->∀J,cB H a J v
 |[],_,_,d,_=>d
 |a::as,_,h,⟨v,ws,e,g,A⟩,J=>by
  have h:(iV a&&g9 as)=true:=h;rw[cO]at h;exact⟨v,ws,e,sK a h.1 g J,px as h.2 A J⟩
end
variable{v:bv}
def qz:ag->Bool
 |.v x=>ml x
 |.g p=>p.QJ
 |.agg _|.bq _|.bad=>false
 |_=>true
def py:ac ag->Bool
 |[]=>true
 |a::as=>qz a&&py as
def E5{H:bh}{ids:ac Nat}{a:ag}(h:qz a=true)(d:den H a ids v):ml v=true:=by
 cases a<;>first
  |(cases h;done)
  |(rename_i p;exact p.ok h _ _ d)
  |(rfl)
  |(rcases d with⟨_,rfl⟩|⟨b,U,c,_,_,_,_,rfl,_⟩<;>rfl)
  |(rcases d with⟨_,rfl⟩|⟨_,b,U,c,_,_,_,_,rfl,_⟩<;>rfl)
  |(rcases d with⟨_,rfl⟩|⟨_,rfl⟩|⟨b,U,c,_,_,_,_,rfl,_⟩<;>rfl)
  |(obtain⟨b,U,c,_,_,_,rfl,_⟩:=d;rfl)
  |(obtain⟨b,_,rfl,_⟩:=d;rfl)
  |(have g:=d;subst g;first|rfl|exact h)
def adU(h:ml v=true):hB v=[v]:=by
 cases v<;>first|rfl|cases h
theorem BC{H:bh}{ids:ac Nat}:∀{as:ac ag} {ad:ac bv},py as=true->cB H as ids ad->gV ad=true
 |[],_,_,d=>by cases d;rfl
 |a::as,_,h,⟨v,ws,e,g,j⟩=>by
  subst e;have h:(qz a&&py as)=true:=h;rw[cO]at h;show cond (ml v) (gV ws) false=true;rw[E5 h.1 g,BC h.2 j];rfl
theorem gd{H:bh}{ids:ac Nat}:∀{as:ac ag} {ad:ac bv},cB H as ids ad->ad.length=as.length
 |[],_,d=>by cases d;rfl
 |a::as,_,⟨v,ws,e,g,j⟩=>by subst e;simp[gd j]
theorem sL{H:bh}{ids:ac Nat}:∀{as:ac ag} {ad:ac bv} {k:Nat} {a:ag},cB H as ids ad->as[k]? =some a->∃v,ad[k]? =some v/\den H a ids v
 |[],_,_,_,_,h=>by simp at h
 |a::as,_,0,_,⟨v,ws,e,g,A⟩,h=>by subst e;simp at h;subst h;exact⟨v,j,g⟩
 |a::as,_,k+1,c,⟨v,ws,e,g,A⟩,h=>by
  subst e;obtain⟨u,aF,aL⟩:=sL A (by simpa using h);exact⟨u,by simpa using aF,aL⟩
theorem yR{H:bh}{ids:ac Nat}:∀{as bZ:ac ag} {ad ws:ac bv},cB H as ids ad->cB H bZ ids ws->cB H (as++bZ) ids (ad++ws)
 |[],_,_,_,d,g=>by cases d;exact g
 |a::as,_,_,_,⟨v,ws,e,h,A⟩,g=>by subst e;exact⟨v,_,j,h,yR A g⟩
theorem m0{H:bh}{ids:ac Nat}:∀{as:ac ag} {ad:ac bv} (n:Nat),cB H as ids ad->cB H (as.drop n) ids (ad.drop n)
 |_,_,0,d=>d
 |[],_,n+1,d=>by cases d;exact j
 |a::as,_,n+1,⟨v,ws,e,h,g⟩=>by subst e;exact m0 n g
theorem rV{H:bh}{ids:ac Nat}:∀{as:ac ag} {ad:ac bv} (n:Nat),cB H as ids ad->cB H (as.take n) ids (ad.take n)
 |_,_,0,d=>rfl
 |[],_,n+1,d=>by cases d;exact j
 |a::as,_,n+1,⟨v,ws,e,g,h⟩=>by subst e;exact⟨v,_,j,g,rV n h⟩
theorem QK{H:bh}{ids:ac Nat}:∀{as:ac ag} {ad:ac bv} (n:Nat) {a:ag} {v:bv},cB H as ids ad->den H a ids v->cB H (as.set n a) ids (ad.set n v)
 |[],_,_,_,_,d,_=>by cases d;exact j
 |a::as,_,0,_,_,⟨v,ws,e,A,g⟩,h=>by subst e;exact⟨_,_,j,h,g⟩
 |a::as,_,n+1,_,_,⟨v,ws,e,A,g⟩,h=>by subst e;exact⟨_,_,j,A,QK n g h⟩
def bJ(a b:ag):Prop:=∀(H:bh) (i:ac Nat) (v:bv),den H a i v->den H b i v
variable{z:Nat}{α:Type}{a:ag}{as:ac ag}{l:ac α}
def gf:ac ag->ac ag->Prop
 |[],[]=>True
 |a::as,b::bZ=>bJ a b/\gf as bZ
 |_,_=>False
def bJ.refl(a:ag):bJ a a:=λ_ _ _ d=>d
def bJ.of{b:ag}(h:a=b):bJ a b:=h▸bJ.refl a
def gf.refl:∀l:ac ag,gf l l
 |[]=>trivial
 |a::as=>⟨bJ.refl a,gf.refl as⟩
def gf.den{H:bh}{i:ac Nat}:∀{as bZ:ac ag} {ad:ac bv},gf as bZ->cB H as i ad->cB H bZ i ad
 |[],[],_,_,d=>d
 |[],_::_,_,h,_=>h.elim
 |_::_,[],_,h,_=>h.elim
 |_::_,_::_,_,⟨aF,aL⟩,⟨v,ws,e,g,j⟩=>⟨v,ws,e,aF _ _ _ g,gf.den aL j⟩
def bJ.agg{bZ:ac ag}(h:gf as bZ):bJ (.agg as) (.agg bZ):=λ_ _ _ ⟨ad,e,d⟩=>⟨ad,e,h.den d⟩
def bJ.bq{bZ:ac ag}(h:gf as bZ):bJ (.bq as) (.bq bZ):=λ_ _ _ ⟨ad,e,d⟩=>⟨ad,e,h.den d⟩
def bJ.nl{ai:α->ac ag}:bJ .nl (.cU z α ai []):=λ_ _ _ d=>.inl ⟨j,d⟩
def bJ.jx{ai:α->ac ag}:bJ .nl (.gb z α ai []):=λ_ _ _ d=>.inl ⟨j,d⟩
def bJ.kW{ai:α->ac ag}(h:l≠[]):bJ (.c6 z α ai l) (.cU z α ai l):=λ_ _ _ d=>d.elim (λd=>absurd d.1 h) id
def bJ.c6{ai:α->ac ag}:bJ (.cU z α ai l) (.c6 z α ai l):=λ_ _ _ d=>.inr d
def bJ.BD{ai:α->ac ag}:bJ (.gb z α ai l) (.cU z α ai l):=λ_ _ _ d=>d.elim .inl λd=>.inr d.2
def bJ.gb{ai:α->ac ag}(h:l≠[]):bJ (.cU z α ai l) (.gb z α ai l):=λ_ _ _ d=>d.elim .inl λd=>.inr ⟨h,d⟩
def bJ.trans{b c:ag}(h:bJ a b)(j:bJ b c):bJ a c:=λH i v d=>j H i v<|h H i v d
open Sym
section
abbrev bU:=ac<|Nat×ag
def dp:bU->Nat->be ag
 |[],_=>none
 |(i,a)::l,J=>cond (Nat.beq i J) (some a)<|dp l J
def lW(p:Nat×ag)(l:bU)(J:Nat):dp (p::l) J=cond (Nat.beq p.1 J) (some p.2) (dp l J):=rfl
def BE:bv->ag
 |.int k n=>.i k n
 |.bool t=>.b t
 |.string ⟨⟨l⟩⟩=>.s l
 |.slice none 0 0=>.nl
 |x=>.v x
def yS:ac bv->ac ag
 |[]=>[]
 |v::ad=>BE v::yS ad
def adV(H:bh)(ids:ac Nat)(v:bv):den H (BE v) ids v:=by
 unfold BE;split<;>rfl
theorem wx(H:bh)(ids:ac Nat):∀ad:ac bv,cB H (yS ad) ids ad
 |[]=>rfl
 |v::ad=>⟨v,ad,j,adV H ids v,wx H ids ad⟩
def J6:bv->be ag
 |.agg ⟨l⟩=>some (.agg<|yS l)
 |.int k n=>some (.i k n)
 |.bool t=>some (.b t)
 |.string ⟨⟨l⟩⟩=>some (.s l)
 |.slice none 0 0=>some .nl
 |.tuple ⟨[]⟩=>some (.bq [])
 |x=>some<|.v x
def adW(h:J6 v=some a)(H:bh)(ids:ac Nat):den H a ids v:=by
 unfold J6 at h;split at h<;>cases h
 ·exact⟨_,j,wx H ids _⟩
 all_goals first|rfl|exact⟨[],j,j⟩
def a6(e:bU):ce->be ag
 |.tmp J=>dp e J
 |.const v=>J6 v
 |.global g=>some (.v<|.pointer<|some ⟨g,0,none⟩)
 |.func f=>some<|.v<|.func (.func f) #[] #[]
def ha(e:bU):ac ce->be (ac ag)
 |[]=>some []
 |x::xs=>match a6 e x with
  |some a=>match ha e xs with
   |some as=>some (a::as)
   |none=>none
  |none=>none
structure cN(o:aJ)(H:bh)(ids:ac Nat)(e:bU):Prop where
 pl:um o
 get:∀J a,dp e J=some a->den H a ids (o.tmp J)
variable{o:aJ}{H:bh}{ids:ac Nat}{e:bU}
def cN.ar(h:cN o H ids e){x:ce}(D:a6 e x=some a):den H a ids (o.ar x):=by
 cases x with
 |tmp J=>exact h.get J a D
 |const w=>exact adW D H ids
 |global g=>cases D;rfl
 |func f=>cases D;rfl
theorem cN.dJ{o:aJ}{H:bh}{ids:ac Nat}{e:bU}(h:cN o H ids e):∀{xs:ac ce} {as:ac ag},ha e xs=some as->cB H as ids (dJ o xs)
 |[],_,g=>by cases g;rfl
 |x::xs,_,g=>by
  unfold ha at g;cases aF:a6 e x with
  |none=>rw[aF]at g;cases g
  |some a=>
   cases aL:ha e xs with
   |none=>rw[aF,aL]at g;cases g
   |some as=>
    rw[aF,aL]at g;cases g;exact⟨_,_,j,h.ar aF,h.dJ aL⟩
theorem cN.put(h:cN o H ids e)(d:Tmp)(D:den H a ids v):cN (o.put (some d) v) H ids ((d,a)::e):=by
 refine⟨h.pl.put _ _,λJ w A=>?_⟩;rw[lW]at A;rw[uj];cases g:Nat.beq d J with
 |true=>
  simp_all
 |false=>
  rw[g]at A;rw[aw λe=>by rw[e,kO]at g;cases g];exact h.get J w A
def j6(d:Nat):bU->bU
 |[]=>[]
 |p::l=>cond (Nat.beq p.1 d) (j6 d l)<|p::j6 d l
theorem E6(d:Nat):∀(e:bU) (J:Nat) (a:ag),dp (j6 d e) J=some a->J≠d/\dp e J=some a
 |[],_,_,h=>by cases h
 |p::e,J,a,h=>by
  unfold j6 at h;cases aA:Nat.beq p.1 d with
  |true=>
   rw[aA]at h;obtain⟨aF,aL⟩:=E6 d e J a h;refine⟨aF,?_⟩;rw[lW];have:Nat.beq p.1 J=false:=by
    cases g:Nat.beq p.1 J with
    |false=>rfl
    |true=>exact absurd ((dM g).symm.trans<|dM aA) aF
   rw[this];exact aL
  |false=>
   rw[aA]at h;have h:cond (Nat.beq p.1 J) (some p.2) (dp (j6 d e) J)=some a:=h;rw[lW];cases g:Nat.beq p.1 J with
   |true=>
    grind
   |false=>rw[g]at h;exact E6 d e J a h
def cN.adX(h:cN o H ids e)(d:Tmp)(v:bv):cN (o.put (some d) v) H ids (j6 d e):=by
 refine⟨h.pl.put _ _,λJ w B=>?_⟩;obtain⟨g,A⟩:=E6 d e J w B;rw[uj,aw g];exact h.get J w A
def cN.mono{D:bh}{E:ac Nat}(h:cN o H ids e)(cA:cF H D)(af:cf ids E):cN o D E e:=⟨h.pl,λJ a g=>iw cA a af<|h.get J a g⟩
def dZ(L:ac Nat):bU->bU
 |[]=>[]
 |p::l=>cond (L.any<|Nat.beq p.1) (p::dZ L l)<|dZ L l
theorem J7(L:ac Nat):∀(e:bU) (J:Nat) (a:ag),dp (dZ L e) J=some a->L.contains J=true/\dp e J=some a
 |[],_,_,h=>by cases h
 |p::e,J,a,h=>by
  unfold dZ at h;cases aA:L.any (Nat.beq p.1)with
  |true=>
   rw[aA]at h;have h:cond (Nat.beq p.1 J) (some p.2) (dp (dZ L e) J)=some a:=h;rw[lW];cases A:Nat.beq p.1 J with
   |true=>
    simp_all
   |false=>rw[A]at h;exact J7 L e J a h
  |false=>
   rw[aA]at h;obtain⟨g,B⟩:=J7 L e J a h;refine⟨g,?_⟩;rw[lW]
   grind
def cN.only(h:cN o H ids e)(ay:ac Tmp):cN (o.only ay) H ids (dZ ay e):=
 ⟨rD,λJ a B=>by
  obtain⟨g,A⟩:=J7 ay e J a B;have:=O (o:=o) j g;rw[Bv]at this;rw[this];exact h.get J a A⟩
def qA(op:BinOp)(k:f6)(a b:Int):be ag:=
 match op with
 |.add=>some (.i k<|k.wrap<|a+b)
 |.sub=>some (.i k<|k.wrap<|a-b)
 |.mul=>some (.i k<|k.wrap<|a*b)
 |.quo=>if b=0 then none else some (.i k<|k.wrap<|a.tdiv b)
 |.rem=>if b=0 then none else some (.i k<|a.tmod b)
 |.and=>some (.i k<|k.wrap (BitVec.ofInt k.bits a&&&BitVec.ofInt k.bits b).toNat)
 |.or=>some (.i k<|k.wrap (BitVec.ofInt k.bits a|||BitVec.ofInt k.bits b).toNat)
 |.xor=>some (.i k<|k.wrap (BitVec.ofInt k.bits a^^^BitVec.ofInt k.bits b).toNat)
 |.andNot=>some (.i k<|k.wrap (BitVec.ofInt k.bits a&&& ~~~(BitVec.ofInt k.bits b)).toNat)
 |.eql=>some (.b<|decide (a=b))
 |.neq=>some (.b<|decide (a≠b))
 |.lss=>some (.b<|decide (a<b))
 |.leq=>some (.b<|decide (a<=b))
 |.gtr=>some (.b<|decide (b<a))
 |.geq=>some (.b<|decide (b<=a))
 |_=>none
def yT(op:BinOp)(k:f6)(M:Nat)(a b:Int):be ag:=
 match op with
 |.add=>match a,b with
  |.ofNat m,.ofNat n=>some (.i k (((m+n)%M:Nat):Int))
  |a,b=>qA .add k a b
 |.sub=>match a,b with
  |.ofNat m,.ofNat n=>some (.i k (((m+(M*n-n))%M:Nat):Int))
  |a,b=>qA .sub k a b
 |.mul=>match a,b with
  |.ofNat m,.ofNat n=>some (.i k ((m*n%M:Nat):Int))
  |a,b=>qA .mul k a b
 |.quo=>match a,b with
  |.ofNat m,.ofNat n=>if n=0 then none else some (.i k ((m/n%M:Nat):Int))
  |a,b=>qA .quo k a b
 |.rem=>match a,b with
  |.ofNat m,.ofNat n=>if n=0 then none else some (.i k ((m%n:Nat):Int))
  |a,b=>qA .rem k a b
 |.and=>match a,b with
  |.ofNat m,.ofNat n=>some (.i k (((m%M)&&&(n%M):Nat):Int))
  |a,b=>qA .and k a b
 |.or=>match a,b with
  |.ofNat m,.ofNat n=>some (.i k (((m%M)|||(n%M):Nat):Int))
  |a,b=>qA .or k a b
 |op=>qA op k a b
def J8(op:BinOp)(k:f6)(a b:Int):be ag:=
 match k with
 |.u8=>yT op .u8 256 a b
 |.u16=>yT op .u16 65536 a b
 |.u32=>yT op .u32 4294967296 a b
 |.u64=>yT op .u64 18446744073709551616 a b
 |k=>qA op k a b
def yU(k:f6)(M:Nat)(n:Int):be ag:=
 match n with
 |.ofNat m=>some (.i k ((m%M:Nat):Int))
 |n=>some<|.i k<|k.wrap n
def J9(k:f6)(n:Int):be ag:=
 match k with
 |.u8=>yU .u8 256 n
 |.u16=>yU .u16 65536 n
 |.u32=>yU .u32 4294967296 n
 |.u64=>yU .u64 18446744073709551616 n
 |k=>some<|.i k<|k.wrap n
def yV(k:f6)(M:Nat)(a b:Int):be ag:=
 match a,b with
 |.ofNat m,.ofNat n=>some (.i k ((m*2^n%M:Nat):Int))
 |_,_=>none
def Ka(k:f6)(a b:Int):be ag:=
 match b with
 |.ofNat n=>match Nat.ble n k.bits with
  |true=>some (.i k<|k.wrap<|a*2^n)
  |false=>none
 |_=>none
def Kb(k:f6)(a b:Int):be ag:=
 match k with
 |.u8=>yV .u8 256 a b
 |.u16=>yV .u16 65536 a b
 |.u32=>yV .u32 4294967296 a b
 |.u64=>yV .u64 18446744073709551616 a b
 |k=>Ka k a b
def Kc(k:f6)(a b:Int):be ag:=
 match b with
 |.ofNat n=>match Nat.ble n k.bits with
  |true=>match a with
   |.ofNat m=>some (.i k ((m/2^n:Nat):Int))
   |a=>some (.i k<|a.fdiv<|2^n)
  |false=>none
 |_=>none
def QL(op:BinOp)(k gw:f6)(a b:Int):be ag:=
 match op with
 |.shl=>Kb k a b
 |.shr=>Kc k a b
 |op=>match jI k gw with
  |true=>J8 op k a b
  |false=>none
def Kd(op:BinOp):ag->ag->be ag
 |.i k a,.i gw b=>QL op k gw a b
 |.s x,.s y=>match op with
  |.eql=>some (.b<|x==y)
  |.neq=>some (.b<|!(x==y))
  |_=>none
 |_,_=>none
def Ke(op:UnOp):ag->be ag
 |.i k n=>match op with
  |.neg=>some (.i k<|k.wrap<|-n)
  |.xor=>some (.i k<|k.wrap (BitVec.ofInt k.bits (if k.signed then -1 else k.max)^^^BitVec.ofInt k.bits n).toNat)
  |_=>none
 |.b t=>match op with
  |.not=>some (.b<|!t)
  |_=>none
 |_=>none
def mC(neg:Bool)(b:Bool):Bool:=cond neg (!b) b
def Kf(neg:Bool):p9->ag->ag->be ag
 |.xZ,.b x,.b y=>some (.b<|mC neg<|x==y)
 |.xZ,.i k x,.i gw y=>match jI k gw with
  |true=>some (.b<|mC neg<|decide (x=y))
  |false=>none
 |.xZ,.s x,.s y=>some (.b<|mC neg<|x==y)
 |.lL,.nl,.nl=>some (.b<|mC neg true)
 |.lL,.gb _ _ _ l,.nl=>some (.b<|mC neg l.isEmpty)
 |.lL,.aK _ _ _ _ _,.nl=>some (.b<|mC neg false)
 |.lL,.nl,.aK _ _ _ _ _=>some (.b<|mC neg false)
 |.ptr,.p _ _,.v (.pointer none)=>some (.b<|mC neg false)
 |.ptr,.fk _ _ _ _,.v (.pointer none)=>some (.b<|mC neg false)
 |.ptr,.ip _,.v (.pointer none)=>some (.b<|mC neg false)
 |.DB,.fn _ _ _,.v .nilFunc=>some (.b<|mC neg false)
 |_,_,_=>none
def E7(e:bU)(k:f6):ac ce->Int->be ag
 |[],m=>some (.i k m)
 |x::xs,m=>match a6 e x with
  |some (.i gw y)=>match jI k gw with
   |true=>E7 e k xs (max m y)
   |false=>none
  |_=>none
def E8(e:bU)(k:f6):ac ce->Int->be ag
 |[],m=>some (.i k m)
 |x::xs,m=>match a6 e x with
  |some (.i gw y)=>match jI k gw with
   |true=>E8 e k xs (min m y)
   |false=>none
  |_=>none
def E9{β:Type _}:ac ag->Nat->(ac ag->be β)->be β
 |_,0,K=>K []
 |[],_+1,_=>none
 |a::as,n+1,K=>E9 as n λr=>K<|a::r
def BF:ac ag->Nat->Bool
 |[],0=>true
 |_::as,n+1=>BF as n
 |_,_=>false
def qB{β:Type _}(cs:ac ag)(U n:Nat)(K:ac ag->be β):be β:=
 match U with
 |0=>match BF cs n with
  |true=>K cs
  |false=>E9 cs n K
 |U=>E9 (cs.drop U) n K
def Fa(j:Bool):ac ag->be ag
 |[a]=>match j with
  |true=>some (.agg [a])
  |false=>some a
 |cs=>match j with
  |true=>some (.agg cs)
  |false=>none
def Kg(e:bU):c7->be ag
 |.jl x=>a6 e x
 |.kR x=>a6 e x
 |.bin op x y=>match a6 e x with
  |some a=>match a6 e y with
   |some b=>Kd op a b
   |none=>none
  |none=>none
 |.eqv neg t x y=>match a6 e x with
  |some a=>match a6 e y with
   |some b=>Kf neg t a b
   |none=>none
  |none=>none
 |.un op x=>match a6 e x with
  |some a=>Ke op a
  |none=>none
 |.tK k x=>match a6 e x with
  |some (.i _ n)=>J9 k n
  |_=>none
 |.x2 x=>match a6 e x with
  |some (.s l)=>some (.s l)
  |_=>none
 |.rj f bO cs=>match ha e bO with
  |some as=>match ha e cs with
   |some bZ=>some (.fn f as bZ)
   |none=>none
  |none=>none
 |.rm x i=>match a6 e x with
  |some (.bq ad)=>ad[i]?
  |_=>none
 |.o6 x=>match a6 e x with
  |some .nl=>some (.i .i64 0)
  |some (.aK _ _ _ n _)=>some (.i .i64 (n:Int))
  |some (.cU _ _ _ l)=>some (.i .i64 (l.length:Int))
  |some (.gb _ _ _ l)=>some (.i .i64 (l.length:Int))
  |some (.c6 _ _ _ l)=>some (.i .i64 (l.length:Int))
  |_=>none
 |.vK x=>match a6 e x with
  |some (.s l)=>some (.i .i64 (l.length:Int))
  |_=>none
 |.Aq n=>some (.i .i64 (n:Int))
 |.qb h x=>match a6 e x with
  |some (.p k U)=>some (.p k<|U+h)
  |some (.fk k z J U)=>some (.fk k z J<|U+h)
  |some (.ip cs)=>some (.ip<|cs.drop h)
  |_=>none
 |.o5 h b2 D x=>match a6 e x with
  |some (.agg cs)=>qB cs h b2 (Fa D)
  |_=>none
 |.tJ x=>match a6 e x with
  |some (.p k U)=>some (.p k U)
  |some (.fk k z J U)=>some (.fk k z J U)
  |some (.ip cs)=>some (.ip cs)
  |some (.v<|.func (.func g) a b)=>some (.v<|.func (.func g) a b)
  |_=>none
 |.pick c x y=>match a6 e c with
  |some (.b true)=>a6 e x
  |some (.b false)=>a6 e y
  |_=>none
 |.gN x xs=>match a6 e x with
  |some (.i k n)=>E7 e k xs n
  |_=>none
 |.Ar x xs=>match a6 e x with
  |some (.i k n)=>E8 e k xs n
  |_=>none
 |_=>none
end
section
variable{call:bM}{o:aJ}{x y i:ce}
variable{k:f6}
def QM{gw:f6}(h:jI k gw=true):k=gw:=by cases k<;>cases gw<;>first|rfl|cases h
def sM{op:BinOp}{a b:Int}{r:ag}(h:qA op k a b=some r)(aF:op≠.shl)(aL:op≠.shr)(D:o.ar x= .int k a)(E:o.ar y= .int k b):
 ∃v,(∀H ids,den H r ids v)/\∀st,bw call (.bin op x y) o st= .ok v o st:=by
 have key:∀v,qq op k a b=some v->(∀H ids,den H r ids v)->∃v,(∀H ids,den H r ids v)/\∀st,bw call (.bin op x y) o st= .ok v o st:=
  λv e d=>⟨v,d,λst=>yQ aF aL D E e⟩
 cases op<;>simp only[qA]at h
 case quo=>split at h<;>cases h;rename_i g;exact key _ (by simp[qq,aw g]) λ_ _=>j
 case rem=>split at h<;>cases h;rename_i g;exact key _ (by simp[qq,aw g]) λ_ _=>j
 all_goals first
  |(cases h;done)
  |(cases h;exact key _ j λ_ _=>j)
  |(cases h;exact key _ j λ_ _=>by congr 1;rw[oX];simp)
def wy(k:f6)(M:Nat):Prop:=(∀n:Int,k.wrap n=n%(M:Int))/\M=2^k.bits
variable{r:ag}{gw:f6}{H:bh}{ids:ac Nat}{op:BinOp}{n M:Nat}{cs:ac ag}{U:Nat}
def Kh:wy .u8 256:=⟨λn=>by rw[<-kS];exact rn _ _ al,j⟩
def Ki:wy .u16 65536:=⟨λn=>by rw[<-kS];exact rn _ _ al,j⟩
def Kj:wy .u32 4294967296:=⟨λn=>by rw[<-kS];exact rn _ _ al,j⟩
def Kk:wy .u64 18446744073709551616:=⟨λn=>by rw[<-kS];exact rn _ _ al,j⟩
theorem Fb(F:wy k M){a b:Int}(h:yT op k M a b=some r)(aF:op≠.shl)(aL:op≠.shr)(D:o.ar x= .int k a)(E:o.ar y= .int k b):
 ∃v,(∀H ids,den H r ids v)/\∀st,bw call (.bin op x y) o st= .ok v o st:=by
 have hp:0<M:=by rw[F.2];exact la _
 have key:∀v,qq op k a b=some v->(∀H ids,den H r ids v)->∃v,(∀H ids,den H r ids v)/\∀st,bw call (.bin op x y) o st= .ok v o st:=
  λv e d=>⟨v,d,λst=>yQ aF aL D E e⟩
 have ur:∀{m n:Int},m=n->∀(H:bh) ids,den H (.i k n) ids (.int k m):=λe _ _=>by rw[e];rfl
 have wn:∀n:Nat,k.wrap (n:Int)=((n%M:Nat):Int):=λn=>by rw[F.1];rfl
 unfold yT at h;split at h
 ·split at h
  ·rename_i m n;cases h;exact key _ j<|ur<|wn<|m+n
  ·exact sM h aF aL D E
 ·split at h
  ·rename_i m n;cases h;refine key _ j<|ur ?_;rw[F.1];have e:((m+(M*n-n):Nat):Int)=(m-n)+M*n:=by
    have:=Nat.le_mul_of_pos_left n hp
    grind
   simp_all
  ·exact sM h aF aL D E
 ·split at h
  ·rename_i m n;cases h;exact key _ j<|ur<|wn<|m*n
  ·exact sM h aF aL D E
 ·split at h
  ·rename_i m n;split at h<;>cases h;refine key (.int k (k.wrap<|(m:Int).tdiv n)) (by show(if(n:Int)=0 then none else _)=_;rw[aw R];rfl)<|ur ?_;exact wn<|m/n
  ·exact sM h aF aL D E
 ·split at h
  ·rename_i m n;split at h<;>cases h;exact key (.int k<|(m:Int).tmod n) (by show(if(n:Int)=0 then none else _)=_;rw[aw R];rfl)<|ur j
  ·exact sM h aF aL D E
 ·split at h
  ·rename_i m n;cases h;refine key _ j<|ur ?_;show k.wrap ((BitVec.ofInt k.bits m&&&BitVec.ofInt k.bits n).toNat:Nat)=_;rw[BitVec.toNat_and,xP,xP,xQ,xQ,<-F.2,wn,gn];rw[F.2];exact Nat.and_lt_two_pow _ R
  ·exact sM h aF aL D E
 ·split at h
  ·rename_i m n;cases h;refine key _ j<|ur ?_;show k.wrap ((BitVec.ofInt k.bits m|||BitVec.ofInt k.bits n).toNat:Nat)=_;rw[BitVec.toNat_or,xP,xP,xQ,xQ,<-F.2,wn,gn];rw[F.2];exact Nat.or_lt_two_pow R R
  ·exact sM h aF aL D E
 ·exact sM h aF aL D E
def adY{a b:Int}(h:J8 op k a b=some r)(aF:op≠.shl)(aL:op≠.shr)(j:o.ar x= .int k a)(D:o.ar y= .int k b):
 ∃v,(∀H ids,den H r ids v)/\∀st,bw call (.bin op x y) o st= .ok v o st:=by
 unfold J8 at h;split at h
 ·exact Fb Kh h aF aL j D
 ·exact Fb Ki h aF aL j D
 ·exact Fb Kj h aF aL j D
 ·exact Fb Kk h aF aL j D
 ·exact sM h aF aL j D
def adZ{n:Int}(h:J9 k n=some r)(H:bh)(ids:ac Nat):den H r ids (.int k<|k.wrap n):=by
 have u:∀{k:f6} {M:Nat},wy k M->yU k M n=some r->den H r ids (.int k<|k.wrap n):=λg h=>by
  unfold yU at h;split at h<;>cases h
  ·show Value.int _ _=Value.int _ _;rw[g.1];rfl
  ·rfl
 unfold J9 at h;split at h
 ·exact u Kh h
 ·exact u Ki h
 ·exact u Kj h
 ·exact u Kk h
 ·cases h;rfl
def QN{a:Int}(j:o.ar x= .int k a)(D:o.ar y= .int gw (n:Int))(st:aj):bw call (.bin .shl x y) o st= .ok (.int k<|k.wrap<|a*2^(min n k.bits)) o st:=by
 rw[Bx,j,D];show ht n (λn=>ic k (x9 k a n) λv=>a1.ok v o st) a1.no=_;rw[pv,iq];have:x9 k a n=k.wrap (a*2^(min n k.bits)):=by
  unfold x9;rw[kS,Iu];simp
 rw[this]
def Fc(j:wy k M){a b:Int}(h:yV k M a b=some r)(D:o.ar x= .int k a)(E:o.ar y= .int gw b):
 ∃v,(∀H ids,den H r ids v)/\∀st,bw call (.bin .shl x y) o st= .ok v o st:=by
 unfold yV at h;split at h
 ·rename_i m n;cases h;refine⟨_,λH ids=>?_,λst=>QN D E st⟩;congr 1;have e:(m*2^(min n k.bits))=((m*2^(min n k.bits):Nat):Int):=by simp
  show k.wrap (m*2^(min n k.bits))=_;rw[e,j.1,<-Int.natCast_emod];congr 1;rcases Nat.le_total n k.bits with ah|ah
  ·rw[jF ah]
  ·rw[Nat.min_eq_right ah,<-j.2];have:2^n=M*2^(n-k.bits):=by rw[j.2,<-h8];congr 1;omega
   rw[this,Nat.mul_mod_left,<-h9,fT m M,h9,Nat.mul_mod_right]
 ·cases h
def ad0{a b:Int}(h:Ka k a b=some r)(j:o.ar x= .int k a)(D:o.ar y= .int gw b):
 ∃v,(∀H ids,den H r ids v)/\∀st,bw call (.bin .shl x y) o st= .ok v o st:=by
 unfold Ka at h;cases b with
 |negSucc n=>cases h
 |ofNat n=>
  simp only at h;split at h<;>cases h;rename_i ah;refine⟨_,λ_ _=>?_,λst=>QN j D st⟩;rw[jF<|hP ah];rfl
def ad1{a b:Int}(h:Kb k a b=some r)(j:o.ar x= .int k a)(D:o.ar y= .int gw b):
 ∃v,(∀H ids,den H r ids v)/\∀st,bw call (.bin .shl x y) o st= .ok v o st:=by
 unfold Kb at h;split at h
 ·exact Fc Kh h j D
 ·exact Fc Ki h j D
 ·exact Fc Kj h j D
 ·exact Fc Kk h j D
 ·exact ad0 h j D
def QO{a b:Int}(h:Kc k a b=some r)(j:o.ar x= .int k a)(D:o.ar y= .int gw b):
 ∃v,(∀H ids,den H r ids v)/\∀st,bw call (.bin .shr x y) o st= .ok v o st:=by
 unfold Kc at h;cases b with
 |negSucc n=>cases h
 |ofNat n=>
  simp only at h;split at h<;>try cases h
  rename_i ah;have ah:=hP ah;have e:∀st,bw call (.bin .shr x y) o st= .ok (.int k<|vN k a n) o st:=λst=>by
   rw[Bx,j,D];show ht n (λn=>ic k (vN k a n) λv=>a1.ok v o st) a1.no=_;rw[pv,iq]
  refine⟨_,?_,e⟩;intro H ids;cases a with
  |ofNat m=>
   cases h;congr 1;show vN k m n=_;unfold vN;rw[jF ah];rfl
  |negSucc m=>
   cases h;congr 1;unfold vN;rw[jF ah];rfl
def ad2{b:ag}(h:Kd op a b=some r)(D:den H a ids (o.ar x))(E:den H b ids (o.ar y)):
 ∃v,(∀H ids,den H r ids v)/\∀st,bw call (.bin op x y) o st= .ok v o st:=by
 unfold Kd at h;split at h
 ·rename_i k m gw n;unfold QL at h;split at h
  ·exact ad1 h D E
  ·exact QO h D E
  ·rename_i A B;split at h
   ·rename_i g;cases QM g;exact adY h R R D E
   ·cases h
 ·rename_i l m;have e:∀st,bw call (.bin op x y) o st=Ax op ⟨⟨l⟩⟩ ⟨⟨m⟩⟩ (λv=>.ok v o st):=λst=>by rw[Bx,D,E,ado]
  split at h<;>cases h
  ·exact⟨_,λ_ _=>j,e⟩
  ·exact⟨_,λ_ _=>j,e⟩
 ·cases h
def ad3{op:UnOp}(h:Ke op a=some r)(D:den H a ids (o.ar x)):
 ∃v,(∀H ids,den H r ids v)/\∀st,bw call (.un op x) o st= .ok v o st:=by
 unfold Ke at h;split at h
 ·rename_i k n;have e:∀st,bw call (.un op x) o st=ya op (.int k n) (λv=>.ok v o st):=λst=>by
   have:bw call (.un op x) o st=ya op (o.ar x) (λv=>.ok v o st):=rfl;rw[this,D]
  split at h<;>cases h
  ·refine⟨_,λ_ _=>j,λst=>?_⟩;rw[e];simp[ya,mB,iq,kS,It]
  ·refine⟨_,λ_ _=>j,λst=>?_⟩;rw[e];simp[ya,mB,iq]
 ·rename_i t;split at h<;>cases h;refine⟨_,λ_ _=>j,λst=>?_⟩;have:bw call (.un .not x) o st=ya .not (o.ar x) (λv=>.ok v o st):=rfl;rw[this,D];rfl
 ·cases h
theorem ad4{neg:Bool}{t:p9}{b:ag}(h:Kf neg t a b=some r)(D:den H a ids (o.ar x))(E:den H b ids (o.ar y)):
 ∃v,(∀H ids,den H r ids v)/\∀st,bw call (.eqv neg t x y) o st= .ok v o st:=by
 have key:∀c,jY 8 t (o.ar x) (o.ar y)=some c->r= .b (mC neg c)->∃v,(∀H ids,den H r ids v)/\∀st,bw call (.eqv neg t x y) o st= .ok v o st:=by
  intro c A g;subst g;refine⟨_,λ_ _=>j,λst=>?_⟩;show bn (jY 8 t (o.ar x)<|o.ar y) (λb=>a1.ok (.bool<|cond neg (!b) b) o st) .no=_;rw[A];rfl
 unfold Kf at h;split at h
 ·cases h;exact key _ (by rw[show o.ar x=_ from D,show o.ar y=_ from E];simp[jY,AA]) j
 ·split at h<;>cases h;rename_i B;cases QM B;refine key _ ?_ j;rw[show o.ar x=_ from D,show o.ar y=_ from E];simp[jY,AA];congr 1
 ·cases h;exact key _ (by rw[show o.ar x=_ from D,show o.ar y=_ from E];simp[jY,AA]) j
 ·cases h;exact key true (by rw[show o.ar x=_ from D,show o.ar y=_ from E];simp[jY,ru]) j
 ·cases h;rcases D with⟨rfl,D⟩|⟨ah,b,U,c,ad,el,bT,aU,D,_⟩
  ·exact key true (by rw[D,show o.ar y=_ from E];simp[jY,ru]) j
  ·exact key false (by rw[D,show o.ar y=_ from E];simp[jY,ru])<|by grind
 ·cases h;obtain⟨b,_,D⟩:=D;exact key false (by rw[D,show o.ar y=_ from E];simp[jY,ru]) j
 ·cases h;obtain⟨b,_,E⟩:=E;exact key false (by rw[show o.ar x=_ from D,E];simp[jY,ru]) j
 ·cases h;obtain⟨b,_,D⟩:=D;exact key false (by rw[D,show o.ar y=_ from E];simp[jY,vP]) j
 ·cases h;obtain⟨b,_,D⟩:=D;exact key false (by rw[D,show o.ar y=_ from E];simp[jY,vP]) j
 ·cases h;obtain⟨b,U,ad,el,bT,aU,D,_⟩:=D;exact key false (by rw[D,show o.ar y=_ from E];simp[jY,vP]) j
 ·cases h;obtain⟨b,U,D,_⟩:=D;exact key false (by rw[D,show o.ar y=_ from E];simp[jY,Iw]) j
 ·cases h
theorem QP{H:bh}{ids:ac Nat}{e:bU}(D:cN o H ids e){k:f6}:∀{xs:ac ce} {m:Int} {r:ag},E7 e k xs m=some r->∃n,r= .i k n/\AB k o xs m=some n
 |[],m,r,h=>by cases h;exact⟨m,j,j⟩
 |x::xs,m,r,h=>by
  unfold E7 at h;split at h<;>try cases h
  rename_i gw z g;split at h<;>try cases h
  rename_i ax;obtain⟨n,aF,aL⟩:=QP D h;refine⟨n,aF,?_⟩;have A:=D.ar g;show fL (o.ar x) (λgw y=>cond (jI k gw) (AB k o xs<|cond (lM y m) m y) none) none=_;rw[A,mB,ax];congr 1;rw[o9]
  grind
theorem QQ{H:bh}{ids:ac Nat}{e:bU}(D:cN o H ids e){k:f6}:∀{xs:ac ce} {m:Int} {r:ag},E8 e k xs m=some r->∃n,r= .i k n/\AD k o xs m=some n
 |[],m,r,h=>by cases h;exact⟨m,j,j⟩
 |x::xs,m,r,h=>by
  unfold E8 at h;split at h<;>try cases h
  rename_i gw z g;split at h<;>try cases h
  rename_i ax;obtain⟨n,aF,aL⟩:=QQ D h;refine⟨n,aF,?_⟩;have A:=D.ar g;show fL (o.ar x) (λgw y=>cond (jI k gw) (AD k o xs<|cond (lM m y) m y) none) none=_;rw[A,mB,ax];congr 1;rw[o9]
  grind
theorem Kl{β:Type _}{r:β}:∀{cs:ac ag} {n:Nat} {K:ac ag->be β},E9 cs n K=some r->n<=cs.length/\K (cs.take n)=some r
 |cs,0,K,h=>by
  have h:K []=some r:=by cases cs<;>exact h
  exact⟨dw _,by simpa using h⟩
 |[],n+1,K,h=>by cases h
 |a::as,n+1,K,h=>by
  obtain⟨g,j⟩:=Kl (n:=n) h;exact⟨by simpa using g,by simpa using j⟩
theorem Fe:∀{cs:ac ag} {n:Nat},BF cs n=true->cs.length=n
 |[],0,_=>rfl
 |[],n+1,h=>by cases h
 |_::_,0,h=>by cases h
 |a::as,n+1,h=>by simp[Fe (n:=n) h]
theorem wz{β:Type _}{r:β}{K:ac ag->be β}(h:qB cs U n K=some r):n<=(cs.drop U).length/\K ((cs.drop U).take n)=some r:=by
 unfold qB at h;split at h
 ·split at h
  ·rename_i g;have:=Fe g
   grind
  ·exact Kl h
 ·exact Kl h
def rW{β:Type}(h:n<=(l.drop U).length)(k:ac α->β)(z:β):hQ l U n k z=k ((l.drop U).take n):=by
 unfold hQ;rw[AN,AO,aE h];rfl
theorem QR{j:Bool}(h:Fa j cs=some r):(j=true/\r= .agg cs)\/(j=false/\cs=[r]):=by
 unfold Fa at h
 grind
def m1(b U n:Nat):(⟨b,U,none⟩:Addr).add n=⟨b,U+n,none⟩:=by
 unfold Addr.add;split
 ·rename_i h;rw[h];rfl
 ·rfl
theorem ad5{e:bU}(D:cN o H ids e){U:c7}(h:Kg e U=some r):∃v,den H r ids v/\∀st,bw call U o st= .ok v o st:=by
 have up:∀{r:ag} {U:c7},(∃v,(∀H ids,den H r ids v)/\∀st,bw call U o st= .ok v o st)->∃v,den H r ids v/\∀st,bw call U o st= .ok v o st:=λ⟨v,G,F⟩=>⟨v,G _ _,F⟩;cases U<;>simp[Kg]at h
 case jl x=>exact⟨_,D.ar h,λst=>j⟩
 case kR x=>exact⟨_,D.ar h,λst=>j⟩
 case bin op x y=>
  split at h<;>try cases h
  split at h<;>try cases h
  rename_i A _ _ L;exact up<|ad2 h (D.ar A)<|D.ar L
 case eqv neg t x y=>
  split at h<;>try cases h
  split at h<;>try cases h
  rename_i A _ _ L;exact up<|ad4 h (D.ar A)<|D.ar L
 case un op x=>
  split at h<;>try cases h
  rename_i A;exact up<|ad3 h<|D.ar A
 case tK k x=>
  split at h<;>try (cases h)
  rename_i gw n A;have A:=D.ar A;exact⟨_,adZ h H ids,λst=>adH A⟩
 case x2 x=>
  split at h<;>try cases h
  rename_i l A;have A:=D.ar A;refine⟨_,j,λst=>?_⟩;show hD (o.ar x) _ _=_;rw[A];rfl
 case rj f bO cs=>
  split at h<;>try cases h
  split at h<;>try cases h
  rename_i G _ _ F;exact⟨_,⟨_,_,j,D.dJ G,D.dJ F⟩,λst=>j⟩
 case rm x i=>
  split at h<;>try cases h
  rename_i ad A;obtain⟨I,A,B⟩:=D.ar A;obtain⟨v,N,B⟩:=sL B h;refine⟨v,B,λst=>?_⟩;show qd (o.ar x) (λad=>hQ ad.toList i 1 (λl=>one l (λv=>a1.ok v o st) .no) .no) .no=_;rw[A];obtain⟨aT,T⟩:=dN.1 N;show hQ I i 1 _ _=_;rw[yN R,gp aT,T];rfl
 case o6 x=>
  split at h<;>try cases h
  ·rename_i A;have A:=D.ar A;exact⟨_,j,λst=>uk A⟩
  ·rename_i A;obtain⟨b,_,A⟩:=D.ar A;exact⟨_,j,λst=>uk A⟩
  ·rename_i A;rcases D.ar A with⟨E,A⟩|⟨b,U,c,ad,el,bT,aU,A,_⟩
   ·rw[E];exact⟨_,j,λst=>uk A⟩
   ·exact⟨_,j,λst=>uk A⟩
  ·rename_i A;rcases D.ar A with⟨E,A⟩|⟨_,b,U,c,ad,el,bT,aU,A,_⟩
   ·rw[E];exact⟨_,j,λst=>uk A⟩
   ·exact⟨_,j,λst=>uk A⟩
  ·rename_i A;rcases D.ar A with⟨E,A⟩|⟨E,A⟩|⟨b,U,c,ad,el,bT,aU,A,_⟩
   ·rw[E];exact⟨_,j,λst=>adG A⟩
   ·rw[E];exact⟨_,j,λst=>uk A⟩
   ·exact⟨_,j,λst=>uk A⟩
 case vK x=>
  split at h<;>try cases h
  rename_i l A;have A:=D.ar A;exact⟨_,j,λst=>by rw[adj,A,yM]⟩
 case Aq n=>cases h;exact⟨_,j,λst=>j⟩
 case qb off x=>
  have e:∀{b U:Nat},o.ar x= .pointer (some ⟨b,U,none⟩)->∀st,bw call (.qb off x) o st= .ok (.pointer<|some ⟨b,U+off,none⟩) o st:=λA st=>by
   show hi (o.ar x) (λp=>bn p (λa=>a1.ok (.pointer<|some<|a.add off) o st) .no) .no=_;rw[A];show a1.ok (.pointer<|some<|Addr.add _ off) o st=_;rw[m1]
  split at h<;>try cases h
  ·rename_i A;obtain⟨b,C,A⟩:=D.ar A;exact⟨_,⟨b,C,j⟩,e A⟩
  ·rename_i k z J U A;obtain⟨b,C,A⟩:=D.ar A;exact⟨_,⟨b,C,by rw[q7]⟩,e A⟩
  ·rename_i cs A;obtain⟨b,U,ad,el,bT,aU,A,C,B⟩:=D.ar A;refine⟨_,⟨b,U+off,ad,el,bT,aU,j,C,?_⟩,e A⟩;have:=m0 off B;rw[z8,p3]at this;rw[k7];exact this
 case o5 off b2 S x=>
  split at h<;>try cases h
  rename_i cs A;obtain⟨I,A,B⟩:=D.ar A;obtain⟨G,F⟩:=wz h;have B:=rV b2<|m0 off B;have E:=gd B;have e:∀st,bw call (.o5 off b2 S x) o st=bn (cond S (some<|.agg ⟨(I.drop off).take b2⟩)<|one ((I.drop off).take b2) (λv=>some v) none) (λv=>.ok v o st) .no:=λst=>by
   show rq (o.ar x) (λcs=>bn (vO off b2 S cs.toList) (λv=>a1.ok v o st) .no) .no=_;rw[A,ac6];unfold vO;rw[rW<|by grind]
  rcases QR F with⟨rfl,rfl⟩|⟨rfl,V⟩
  ·exact⟨_,⟨_,j,B⟩,λst=>by rw[e];rfl⟩
  ·rw[V]at B;obtain⟨v,W,N,B,ah⟩:=B;cases ah;rw[N]at e;exact⟨v,B,λst=>by rw[e];rfl⟩
 case tJ x=>
  have e:∀{a:Addr},o.ar x= .pointer (some a)->∀st,bw call (.tJ x) o st= .ok (.pointer<|some a) o st:=λA st=>by
   show hi (o.ar x) (λp=>bn p (λa=>a1.ok (.pointer<|some a) o st) .no) _=_;rw[A];rfl
  split at h<;>try cases h
  ·rename_i A;obtain⟨b,C,A⟩:=D.ar A;exact⟨_,⟨b,C,j⟩,e A⟩
  ·rename_i A;obtain⟨b,C,A⟩:=D.ar A;exact⟨_,⟨b,C,j⟩,e A⟩
  ·rename_i A;obtain⟨b,U,ad,el,bT,aU,A,B⟩:=D.ar A;exact⟨_,⟨b,U,ad,el,bT,aU,j,B⟩,e A⟩
  ·rename_i g a b A;have A:=D.ar A;refine⟨_,j,λst=>?_⟩;have:bw call (.tJ x) o st=hi (o.ar x) (λp=>bn p (λa=>a1.ok (.pointer<|some a) o st) .no) (x7 (o.ar x) (λf a b=>match f with|.func g=>.ok (.func (.func g) a b) o st|_=>.no) .no):=rfl;rw[this,A];rfl
 case pick c x y=>
  split at h
  ·rename_i O;exact⟨_,D.ar h,λst=>adP (D.ar O) j j⟩
  ·rename_i O;exact⟨_,D.ar h,λst=>adQ (D.ar O) j j⟩
  ·cases h
 case gN x xs=>
  split at h<;>try cases h
  rename_i k n A;have A:=D.ar A;obtain⟨m,rfl,hm⟩:=QP D h;refine⟨_,j,λst=>?_⟩;show fL (o.ar x) (λk n=>bn (AB k o xs n) (λm=>ic k m λv=>a1.ok v o st) .no) .no=_;rw[A,mB,hm,Sym.eg,iq]
 case Ar x xs=>
  split at h<;>try cases h
  rename_i k n A;have A:=D.ar A;obtain⟨m,rfl,hm⟩:=QQ D h;refine⟨_,j,λst=>?_⟩;show fL (o.ar x) (λk n=>bn (AD k o xs n) (λm=>ic k m λv=>a1.ok v o st) .no) .no=_;rw[A,mB,hm,Sym.eg,iq]
 all_goals cases h
end
structure Km where
 P:bh->be bz->Prop
 mono:∀{H bC:bh},cF H bC->∀{U},P H U->P bC U
inductive a4:Type 1
 |c (el:TypeId) (cs:List ag)
 |a (el:TypeId) (aU:Bool) (z:Nat) (α:Type) (ai:α->List ag) (l:List α)
 |g (p:Km)
 |x
def a4.live:a4->Bool
 |.x=>false
 |_=>true
def mD(H:bh)(ids:ac Nat):a4->be bz->Prop
 |.c el cs,gg=>∃ad,gg=some (.cells ad el (0,0) false)/\cB H cs ids ad
 |.a el aU z _ ai l,gg=>∃ad,gg=some (.cells ad el (0,0) aU)/\ad.length=l.length*z/\∀i x,l[i]? =some x->cB H (ai x) ids ((ad.drop<|i*z).take z)
 |.g p,gg=>p.P H gg
 |.x,_=>True
def rX{H A:bh}{i J:ac Nat}(h:cF H A)(af:cf i J):∀{U:a4} {gg:be bz},mD H i U gg->mD A J U gg
 |.c _ _,_,⟨ad,e,d⟩=>⟨ad,e,lx h _ af d⟩
 |.a _ _ _ _ _ _,_,⟨ad,e,kA,d⟩=>⟨ad,e,kA,λk x B=>lx h _ af<|d k x B⟩
 |.g p,_,d=>p.mono h d
 |.x,_,_=>trivial
structure cl where
 own:ac a4
 n:Nat
 env:bU
structure Fit(H:bh)(ids:ac Nat)(st:aj)(own:ac a4)(n:Nat):Prop where
 wf:∀i,st.ae<=i->st.h.get i=none
 le:∀b U,H b=some U->st.h.get b=some U
 cV:own.length=n
 len:ids.length=n
 cT:ids.Nodup
 lt:∀b∈ids,b<st.ae
 own:∀(k:Nat) (U:a4) (b:Nat),own[k]? =some U->ids[k]? =some b->mD H ids U (st.h.get b)∧(U.live=true->H b=none)
structure cQ(a5:bh)(i0:ac Nat)(au:aj)(H:bh)(ids:ac Nat)(st:aj):Prop where
 hle:cF a5 H
 hold:∀b,b<au.ae->b∉i0->H b=a5 b
 eF:∀b,b<au.ae->b∉i0->st.h.get b=au.h.get b
 ae:au.ae<=st.ae
 jy:cf i0 ids
 new:∀b∈ids,b∈i0∨au.ae<=b
variable{H:bh}{ids:ac Nat}{n:Nat}{U:a4}{gg:bz}{a5:bh}{i0:ac Nat}{au:aj}
def Fit.aT{st:aj}{own:ac a4}(h:Fit H ids st own n){b:Nat}{U:bz}(aA:H b=some U):b<st.ae:=by
 rcases fS b st.ae with g|g
 ·exact g
 ·have:=h.le b U aA;rw[h.wf b g]at this;cases this
def Fit.mY{st:aj}{own:ac a4}(h:Fit H ids st own n){b:Nat}(aA:st.ae<=b):H b=none:=by
 cases e:H b with
 |none=>rfl
 |some U=>have:=h.aT e;omega
theorem Fit.add{st:aj}{own:ac a4}(h:Fit H ids st own n)(d:mD H (ids++[st.ae]) U (some gg)):
 Fit H (ids++[st.ae]) ⟨st.h.set st.ae gg,st.ae+1⟩ (own++[U]) (n+1):=by
 have F:st.ae∉ids:=λhm=>by have:=h.lt _ hm;omega
 refine⟨?_,?_,by simp[h.cV],by simp[h.len],?_,?_,?_⟩
 ·intro i af;have af:st.ae+1<=i:=af;rw[ao.fa _ _ R];exact h.wf i R
 ·intro b cy g;have:=h.aT g;rw[ao.fa _ _ R];exact h.le b cy g
 ·rw[z9];refine⟨h.cT,av,?_⟩
  grind
 ·intro b g;simp at g;show b<st.ae+1;rcases g with g|g
  ·have:=h.lt b g;omega
  ·omega
 ·intro k cy b j g;by_cases A:k<own.length
  ·rw[sk A]at j;rw[sk<|by rw[h.len,<-h.cV];exact A]at g;obtain⟨B,C⟩:=h.own k cy b j g;have:b≠st.ae:=λe=>F<|e▸hg g;rw[ao.fa _ _ this];exact⟨rX (cF.refl _) (cf.app _ _) B,C⟩
  ·have E:=(dN.1 j).1;simp at E;have A:k=own.length:=by omega
   subst A;have D:own.length=ids.length:=by rw[h.len,h.cV]
   rw[D]at g;simp at j g;subst j g;rw[ao.mn];exact⟨d,λ_=>h.mY<|cn _⟩
def cQ.add{st:aj}(h:cQ a5 i0 au H ids st)(gg:bz):cQ a5 i0 au H (ids++[st.ae]) ⟨st.h.set st.ae gg,st.ae+1⟩:=by
 refine⟨h.hle,h.hold,?_,by have:=h.ae;show au.ae<=st.ae+1;omega,λk b e=>cf.app _ _ k b<|h.jy k b e,?_⟩
 ·intro b g ah;have:=h.ae;rw[ao.fa _ _ R];exact h.eF b g ah
 ·intro b g;simp at g;rcases g with g|g
  ·exact h.new b g
  ·right;rw[g];exact h.ae
theorem Fit.eO{st:aj}{own:ac a4}(h:Fit H ids st own n){k b:Nat}{cy:a4}(ax:own[k]? =some U)(aD:U.live=true)(aA:ids[k]? =some b)(d:mD H ids cy (some gg)):
 Fit H ids ⟨st.h.set b gg,st.ae⟩ (own.set k cy) n:=by
 have aT:=h.lt b<|hg aA;have C:=(h.own k U b ax aA).2 aD;refine⟨?_,?_,by simp[h.cV],h.len,h.cT,h.lt,?_⟩
 ·intro i af;have af:st.ae<=i:=af;rw[ao.fa _ _ R];exact h.wf i af
 ·intro c q g;rw[ao.fa _ _ λe=>by rw[e,C]at g;cases g];exact h.le c q g
 ·intro J q c A g;rw[o0]at A;by_cases B:k=J
  ·simp_all
  ·rw[aw B]at A;have:c≠b:=λe=>by
    subst e;have D:=(dN.1 aA);have E:=(dN.1 g);exact B<|(vs h.cT).1<|D.2.trans E.2.symm
   rw[ao.fa _ _ this];exact h.own J q c A g
def cQ.eO{st:aj}(h:cQ a5 i0 au H ids st){b:Nat}(aA:b∈ids)(gg:bz):cQ a5 i0 au H ids ⟨st.h.set b gg,st.ae⟩:=by
 refine⟨h.hle,h.hold,?_,h.ae,h.jy,h.new⟩;intro c j ah;rw[ao.fa _ _ (λe=>by
  subst e;rcases h.new _ aA with g|g
  ·exact ah g
  ·omega)]
 exact h.eF c j ah
section
def uu(own:ac a4)(e:bU):c7->be ag
 |.h2 x=>match a6 e x with
  |some (.p k U)=>match own[k]? with
   |some (.c _ cs)=>cs[U]?
   |_=>none
  |some (.fk k z J U)=>match own[k]? with
   |some (.c _ cs)=>cs[J*z+U]?
   |_=>none
  |some (.ip cs)=>cs[0]?
  |_=>none
 |.mi n x=>match a6 e x with
  |some (.p k U)=>match own[k]? with
   |some (.c _ cs)=>qB cs U n λl=>some (.agg l)
   |_=>none
  |some (.fk k z J U)=>match own[k]? with
   |some (.c _ cs)=>qB cs (J*z+U) n λl=>some (.agg l)
   |_=>none
  |some (.ip cs)=>qB cs 0 n λl=>some (.agg l)
  |_=>none
 |_=>none
def pz(e:bU):c7->be Nat
 |.h2 x|.mi _ x=>match a6 e x with
  |some (.p k _)|some (.fk k _ _ _)=>some k
  |_=>none
 |_=>none
end
section
variable{call:bM}{o:aJ}{x y i:ce}
variable{ad:ac bv}{el:co}{bT:Nat×Nat}{aU:Bool}{e:bU}{r:ag}
def yW{b U:Nat}{st:aj}(h:o.ar x= .pointer (some ⟨b,U,none⟩))(D:st.h.get b=some (.cells ad el bT aU))(E:ad[U]? =some v):bw call (.h2 x) o st= .ok v o st:=adJ h j D E
def BG{b U:Nat}{st:aj}(h:o.ar x= .pointer (some ⟨b,U,none⟩))(j:st.h.get b=some (.cells ad el bT aU))(aD:n<=(ad.drop U).length):bw call (.mi n x) o st= .ok (.agg ⟨(ad.drop U).take n⟩) o st:=by
 rw[adl,h];show st.load ⟨b,U,none⟩ n _ _=_;unfold aj.load aj.fM;rw[Sym.hU,j,kl,rW aD]
theorem ad6{U:Nat}{v:α}(h:((l.drop U).take n)[0]? =some v):l[U]? =some v:=by
 grind
theorem Kn{own:ac a4}{st:aj}(N:cN o H ids e)(Z:own.length<=ids.length)(Y:∀(k:Nat) (U:a4) (b:Nat),own[k]? =some U->U.live=true->ids[k]? =some b->mD H ids U (st.h.get b)){U:c7}(h:uu own e U=some r):
 ∃v,den H r ids v/\∀F:aj,((∀b U,H b=some U->F.h.get b=some U)\/∃k,pz e U=some k)->(∀k b,pz e U=some k->ids[k]? =some b->F.h.get b=st.h.get b)->bw call U o F= .ok v o F:=by
 have obj:∀{k:Nat} {el:co} {cs:ac ag},own[k]? =some (.c el cs)->∃b ad,ids[k]? =some b/\st.h.get b=some (.cells ad el (0,0) false)/\cB H cs ids ad:=λ{k el cs} G=>by
  have aT:=(dN.1 G).1;have af:k<ids.length:=R
  obtain⟨ad,C,D⟩:=Y k _ _ G j<|a0 af;exact⟨_,ad,a0 af,C,D⟩
 cases U<;>simp[uu]at h
 case h2 x=>
  split at h<;>try cases h
  ·rename_i k U B;split at h<;>try cases h
   rename_i el cs G;obtain⟨b,ad,E,I,g⟩:=obj G;obtain⟨v,L,g⟩:=sL g h;obtain⟨T,C,D⟩:=N.ar B;rw[E]at C;cases C;exact⟨v,g,λF _ A=>yW D ((A k b (by simp[pz,B]) E).trans I) L⟩
  ·rename_i k z J U B;split at h<;>try cases h
   rename_i el cs G;obtain⟨b,ad,E,I,g⟩:=obj G;obtain⟨v,L,g⟩:=sL g h;obtain⟨T,C,D⟩:=N.ar B;rw[E]at C;cases C;exact⟨v,g,λF _ A=>yW D ((A k b (by simp[pz,B]) E).trans I) L⟩
  ·rename_i cs B;obtain⟨b,U,ad,el,bT,aU,C,D,g⟩:=N.ar B;obtain⟨v,L,g⟩:=sL g h;refine⟨v,iw (cF.refl _) _ (cf.nil _) g,λF A _=>?_⟩;rcases A with A|⟨k,A⟩
   ·exact yW C (A _ _ D)<|ad6 L
   ·simp[pz,B]at A
 case mi m x=>
  split at h<;>try cases h
  ·rename_i k U B;split at h<;>try cases h
   rename_i el cs G;obtain⟨b,ad,E,I,g⟩:=obj G;obtain⟨S,O⟩:=wz h;cases O;obtain⟨T,C,D⟩:=N.ar B;rw[E]at C;cases C;have W:=gd<|m0 U g;exact⟨_,⟨_,j,rV m<|m0 U g⟩,λF _ A=>BG D ((A k b (by simp[pz,B]) E).trans I) R⟩
  ·rename_i k z J U B;split at h<;>try cases h
   rename_i el cs G;obtain⟨b,ad,E,I,g⟩:=obj G;obtain⟨S,O⟩:=wz h;cases O;obtain⟨T,C,D⟩:=N.ar B;rw[E]at C;cases C;have W:=gd<|m0 (J*z+U) g;exact⟨_,⟨_,j,rV m<|m0 (J*z+U) g⟩,λF _ A=>BG D ((A k b (by simp[pz,B]) E).trans I) R⟩
  ·rename_i cs B;obtain⟨b,U,ad,el,bT,aU,C,D,g⟩:=N.ar B;obtain⟨S,O⟩:=wz h;cases O;have W:=gd g;rw[iQ]at S;have V:=rV m g;rw[xR,jF S]at V;refine⟨.agg ⟨(ad.drop U).take m⟩,⟨_,j,?_⟩,λF A _=>?_⟩
   ·exact lx (cF.refl _) _ (cf.nil _) V
   rcases A with A|⟨k,A⟩
   ·exact BG C (A _ _ D)<|by grind
   ·simp[pz,B]at A
 all_goals cases h
theorem ad7{own:ac a4}{U:c7}{k:Nat}(h:uu own e U=some r)(ax:pz e U=some k):∃cy,own[k]? =some cy/\cy.live=true:=by
 cases U<;>simp[pz]at ax
 case h2 x=>
  simp[uu]at h;split at ax<;>cases ax
  ·rename_i g;rw[g]at h;simp only at h;split at h<;>try cases h
   exact⟨_,lh,j⟩
  ·rename_i g;rw[g]at h;simp only at h;split at h<;>try cases h
   exact⟨_,lh,j⟩
 case mi n x=>
  simp[uu]at h;split at ax<;>cases ax
  ·rename_i g;rw[g]at h;simp only at h;split at h<;>try cases h
   exact⟨_,lh,j⟩
  ·rename_i g;rw[g]at h;simp only at h;split at h<;>try cases h
   exact⟨_,lh,j⟩
 all_goals cases ax
end
section
variable{β:Type _}
def Ko(v:bv)(K:ag->be β):be β:=
 match v with
 |.int k n=>K (.i k n)
 |.bool t=>K (.b t)
 |.string ⟨⟨l⟩⟩=>K (.s l)
 |.slice none 0 0=>K .nl
 |x=>K<|.v x
def yX:ac bv->(ac ag->be β)->be β
 |[],K=>K []
 |v::ad,K=>Ko v λa=>yX ad λr=>K<|a::r
def sN:ag->be (ac ag)
 |.agg cs=>some cs
 |a=>match qz a with
  |true=>some [a]
  |false=>none
def wA:ac ag->Nat->ac ag->(ac ag->be β)->be β
 |cs,0,[],K=>K cs
 |_::cs,0,d::aN,K=>wA cs 0 aN λr=>K (d::r)
 |c::cs,n+1,aN,K=>wA cs n aN λr=>K (c::r)
 |[],_,_,_=>none
def yY(e:bU):ac (Nat×Nat×ce)->ac ag->(ac ag->be β)->be β
 |[],cs,K=>K cs
 |(U,b2,x)::a8,cs,K=>match a6 e x with
  |some a=>match sN a with
   |some aN=>match BF aN b2 with
    |true=>wA cs U aN λg=>yY e a8 g K
    |false=>none
   |none=>none
  |none=>none
def mE:ac a4->a4->(ac a4->be β)->be β
 |[],U,K=>K [U]
 |a::as,U,K=>mE as U λr=>K<|a::r
def hn:ac a4->Nat->a4->(ac a4->be β)->be β
 |[],_,_,_=>none
 |_::as,0,U,K=>K (U::as)
 |a::as,n+1,U,K=>hn as n U λr=>K<|a::r
def ad8:ac Nat:=[1,2,3,4,5,6,7,8,9,10,11,12,13,14,15,16,17,18,19,20,21,22,23,24,25,26,27,28,29,30,31,32]
def QS:ac Nat->Nat->be Nat
 |[],_=>none
 |a::_,0=>some a
 |_::as,n+1=>QS as n
def mF(n:Nat)(K:Nat->be β):be β:=
 match QS ad8 n with
 |some m=>match Nat.beq m (n+1)with
  |true=>K m
  |false=>K (n+1)
 |none=>K<|n+1
def ad9:ac (Nat×Nat×ce)->Nat
 |(_,b2,_)::_=>b2
 |[]=>1
def Ff(own:ac a4)(aB:Nat)(e:bU)(k U n:Nat)(x:ce)(K:ag->ac a4->Nat->be β):be β:=
 match own[k]? with
 |some (.c el cs)=>match a6 e x with
  |some a=>match sN a with
   |some aN=>match BF aN n with
    |true=>match py aN with
     |true=>wA cs U aN λg=>hn own k (.c el g) λbo=>K (.bq []) bo aB
     |false=>none
    |false=>none
   |none=>none
  |none=>none
 |_=>none
def Fg(own:ac a4)(aB:Nat)(e:bU)(K:ag->ac a4->Nat->be β):c7->be β
 |.alloc z el=>yX z λcs=>mE own (.c el cs) λbo=>mF aB λcR=>K (.p aB 0) bo cR
 |.box el x=>match a6 e x with
  |some a=>match sN a with
   |some aN=>mE own (.c el aN) λbo=>mF aB λcR=>K (.p aB 0) bo cR
   |none=>none
  |none=>none
 |.qa el len z a8=>yX z λcs=>yY e a8 cs λg=>mE own (.c el g) λbo=>mF aB λcR=>K (.aK aB (ad9 a8) 0 len len) bo cR
 |.build z a8=>yX z λcs=>yY e a8 cs λg=>K (.agg g) own aB
 |.store n a x=>match a6 e a with
  |some (.p k U)=>Ff own aB e k U n x K
  |some (.fk k z J U)=>Ff own aB e k (J*z+U) n x K
  |_=>none
 |_=>none
def BH(e:bU):c7->be ag
 |.build z a8=>yX z λcs=>yY e a8 cs λg=>some (.agg g)
 |U=>Kg e U
def g0(e:bU):c7->be Nat
 |.store _ a _=>match a6 e a with
  |some (.p k _)|some (.fk k _ _ _)=>some k
  |_=>none
 |.app _ _ _ x _|.ss _ x _=>match a6 e x with
  |some (.aK k _ _ _ _)=>some k
  |_=>none
 |.tN _ x _=>match a6 e x with
  |some (.p k _)=>some k
  |_=>none
 |.ext (.eO _ m _ _)|.ext (.del _ m _)=>match a6 e m with
  |some (.mp k)=>some k
  |_=>none
 |_=>none
end
section
variable{β:Type _}{r:β}
variable{aN:ac ag}
theorem aea{K:ag->be β}(h:Ko v K=some r):K (BE v)=some r:=by
 unfold Ko at h;unfold BE
 grind
theorem BI:∀{ad:ac bv} {K:ac ag->be β},yX ad K=some r->K (yS ad)=some r
 |[],_,h=>h
 |_::ad,_,h=>BI (ad:=ad)<|aea h
def Fh(h:sN a=some aN)(d:den H a ids v):su v=false/\cB H aN ids (hB v):=by
 unfold sN at h;split at h
 ·cases h;obtain⟨ad,rfl,d⟩:=d;exact⟨j,d⟩
 ·split at h<;>cases h;rename_i g;have:=E5 g d;refine⟨?_,?_⟩
  ·cases v<;>first|rfl|(done)|(rename_i r;cases r<;>first|rfl|cases this)
  ·rw[adU this];exact⟨v,[],j,d,j⟩
theorem Fi:∀{cs:ac ag} {n:Nat} {aN:ac ag} {K:ac ag->be β},wA cs n aN K=some r->n+aN.length<=cs.length/\K (cs.take n++(aN++cs.drop (n+aN.length)))=some r
 |cs,0,[],K,h=>by
  have h:K cs=some r:=by cases cs<;>exact h
  exact⟨av,by simpa using h⟩
 |[],0,d::aN,K,h=>by cases h
 |c::cs,0,d::aN,K,h=>by
  have h:wA cs 0 aN (λr=>K<|d::r)=some r:=h;obtain⟨g,j⟩:=Fi h
  grind
 |[],n+1,aN,K,h=>by cases aN<;>cases h
 |c::cs,n+1,aN,K,h=>by
  have h:wA cs n aN (λr=>K<|c::r)=some r:=by cases aN<;>exact h
  obtain⟨g,j⟩:=Fi h
  grind
def Kp{cs:ac ag}{ad ws:ac bv}(n:Nat)(d:cB H cs ids ad)(j:cB H aN ids ws):
 cB H (cs.take n++(aN++cs.drop (n+aN.length))) ids (ad.take n++(ws++ad.drop (n+ws.length))):=by
 rw[gd j];exact yR (rV n d)<|yR j<|m0 _ d
theorem m2:∀{own:ac a4} {U:a4} {K:ac a4->be β},mE own U K=some r->K (own++[U])=some r
 |[],_,_,h=>h
 |_::as,_,_,h=>m2 (own:=as) h
theorem ih:∀{own:ac a4} {k:Nat} {U:a4} {K:ac a4->be β},hn own k U K=some r->K (own.set k U)=some r
 |[],_,_,_,h=>by cases h
 |_::_,0,_,_,h=>h
 |_::as,k+1,_,_,h=>ih (k:=k) h
def nN{K:Nat->be β}(h:mF n K=some r):K (n+1)=some r:=by
 unfold mF at h;split at h
 ·split at h
  ·rename_i g;rw[<-dM g];exact h
  ·exact h
 ·exact h
def BJ(e:bU):ac (Nat×Nat×ce)->ac ag->be (ac ag)
 |[],cs=>some cs
 |(U,b2,x)::a8,cs=>match a6 e x with
  |some a=>match sN a with
   |some aN=>if aN.length=b2/\U+aN.length<=cs.length then BJ e a8 (cs.take U++(aN++cs.drop (U+aN.length)))else none
   |none=>none
  |none=>none
theorem Fj{e:bU}:∀{a8:ac (Nat×Nat×ce)} {cs:ac ag} {K:ac ag->be β},yY e a8 cs K=some r->∃g,BJ e a8 cs=some g/\K g=some r
 |[],cs,K,h=>⟨cs,j,h⟩
 |(U,b2,x)::a8,cs,K,h=>by
  unfold yY at h;unfold BJ;split at h<;>try cases h
  split at h<;>try cases h
  split at h<;>try cases h
  rename_i aD;obtain⟨aF,aL⟩:=Fi h;rw[aE ⟨Fe aD,aF⟩];exact Fj aL
theorem Fk{o:aJ}{H:bh}{ids:ac Nat}{e:bU}(D:cN o H ids e):∀{a8:ac (Nat×Nat×ce)} {cs g:ac ag} {ad:ac bv},BJ e a8 cs=some g->cB H cs ids ad->
 ∃A,cB H g ids A/\∀c,nB o a8 ad c=c A
 |[],cs,_,ad,h,d=>by cases h;exact⟨ad,d,λ_=>j⟩
 |(U,b2,x)::a8,cs,g,ad,h,d=>by
  unfold BJ at h;split at h<;>try cases h
  rename_i a C;split at h<;>try cases h
  rename_i aN G;split at h<;>try cases h
  obtain⟨hp,B⟩:=Fh G<|D.ar C;have L:=gd B;have I:=gd d;obtain⟨A,E,a2⟩:=Fk D h<|Kp U d B;refine⟨A,E,λc=>?_⟩;have F:nB o ((U,b2,x)::a8) ad c=cond (su<|o.ar x) .no (dz (du<|hB<|o.ar x) b2 (ek (U+b2) (du ad) (o8 ad U (hB<|o.ar x) (λg=>nB o a8 g c) .no) .no) .no):=rfl;rw[F,hp,cond_false,eP,eP,ig R,ga R,pf,aE R,a2]
end
def Kq{call:bM}{o:aJ}{e:bU}(D:cN o H ids e){U:c7}{r:ag}(h:BH e U=some r):∃v,den H r ids v/\∀st,bw call U o st= .ok v o st:=by
 unfold BH at h;split at h
 ·rename_i z g;obtain⟨E,C,A⟩:=Fj<|BI h;cases A;obtain⟨B,d,a2⟩:=Fk D C<|wx H ids z;refine⟨.agg ⟨B⟩,⟨_,j,d⟩,λst=>?_⟩;have:bw call (.build z g) o st=nB o g z λcs=>.ok (.agg ⟨cs⟩) o st:=rfl;rw[this,a2]
 ·exact ad5 D h
def fj(call:bM)(U:c7)(s:cl)(a:ag)(bo:ac a4)(cR:Nat):Prop:=
 ∀(H:bh) (ids:ac Nat) (st:aj) (o:aJ),Fit H ids st s.own s.n->cN o H ids s.env->
  ∃v ak j g,bw call U o st= .ok v o ak/\Fit g j ak bo cR/\den g a j v/\cF H g/\cf ids j/\(∀a5 i0 au,cQ a5 i0 au H ids st->cQ a5 i0 au g j ak)/\
   st.ae<=ak.ae/\∀b,b<st.ae->(∀k,g0 s.env U=some k->ids[k]? ≠some b)->ak.h.get b=st.h.get b
def pA(a5:bh)(call:bM)(U:c7)(s:cl)(a:ag)(bo:ac a4)(cR:Nat):Prop:=
 ∀(H:bh) (ids:ac Nat) (st:aj) (o:aJ),cF a5 H->Fit H ids st s.own s.n->cN o H ids s.env->
  ∃v ak j g,bw call U o st= .ok v o ak/\Fit g j ak bo cR/\den g a j v/\cF H g/\cf ids j/\(∀a5 i0 au,cQ a5 i0 au H ids st->cQ a5 i0 au g j ak)/\
   st.ae<=ak.ae/\∀b,b<st.ae->(∀k,g0 s.env U=some k->ids[k]? ≠some b)->ak.h.get b=st.h.get b
def fj.g{call:bM}{U:c7}{s:cl}{bo:ac a4}{cR:Nat}(h:fj call U s a bo cR):pA a5 call U s a bo cR:=λH ids st o _ A j=>h H ids st o A j
def BK(call:bM)(U:c7)(s:cl)(a:ag)(bo:ac a4)(cR:Nat):Prop:=
 ∀(H:bh) (ids:ac Nat) (st:aj) (o:aJ),Fit H ids st s.own s.n->cN o H ids s.env->
  ∃v ak g,bw call U o st= .ok v o ak/\Fit H g ak bo cR/\den H a g v/\cf ids g/\(∀a5 i0 au,cQ a5 i0 au H ids st->cQ a5 i0 au H g ak)/\
   st.ae<=ak.ae/\∀b,b<st.ae->(∀k,g0 s.env U=some k->ids[k]? ≠some b)->ak.h.get b=st.h.get b
def BK.to{call:bM}{U:c7}{s:cl}{bo:ac a4}{cR:Nat}(h:BK call U s a bo cR):fj call U s a bo cR:=λH ids st o B j=>
 let⟨v,ak,C,G,I,A,g,D,E,F⟩:=h H ids st o B j
 ⟨v,ak,C,H,G,I,A,cF.refl _,g,D,E,F⟩
section
variable{call:bM}{β:Type _}{r:β}
variable{s:cl}
def Kr{st:aj}{own:ac a4}(D:Fit H ids st own n){el:co}{cs:ac ag}{ad:ac bv}(d:cB H cs ids ad):
 Fit H (ids++[st.ae]) ⟨st.h.set st.ae<|.cells ad el (0,0) false,st.ae+1⟩ (own++[.c el cs]) (n+1)/\(ids++[st.ae])[n]? =some st.ae:=by
 refine⟨D.add ⟨ad,j,lx (cF.refl _) _ (cf.app _ _) d⟩,?_⟩;rw[<-D.len];simp
def sO{st:aj}{b:Nat}(aA:b<st.ae):(ao.set st.h st.ae gg).get b=st.h.get b:=ao.fa _ _ R
def QT{k U m:Nat}{a x:ce}{K:ag->ac a4->Nat->be β}(h:Ff s.own s.n s.env k U m x K=some r)(hm:g0 s.env (.store m a x)=some k)
 (N:∀{H:bh} {ids:ac Nat} {o:aJ},cN o H ids s.env->∃b,ids[k]? =some b/\o.ar a= .pointer (some ⟨b,U,none⟩)):∃E bo cR,K E bo cR=some r/\BK call (.store m a x) s E bo cR:=by
 unfold Ff at h;split at h<;>try cases h
 rename_i el cs F;split at h<;>try cases h
 rename_i c I;split at h<;>try cases h
 rename_i aN Y;split at h<;>try cases h
 rename_i G;split at h<;>try cases h
 rename_i W;obtain⟨aa,V⟩:=Fi h;have L:=ih V;refine⟨_,_,_,L,?_⟩;intro H ids st o D C;obtain⟨b,g,O⟩:=N C;obtain⟨⟨ad,T,d⟩,_⟩:=D.own k _ b F g;obtain⟨hp,A⟩:=Fh Y<|C.ar I;have G:=Fe G;have ab:=gd A;have Z:=gd d;refine⟨undef,_,ids,?_,D.eO F j g ⟨_,j,Kp U d A⟩,⟨[],j,j⟩,cf.refl _,λ_ _ _ B=>B.eO (hg g) _,cn _,?_⟩
 ·have:bw call (.store m a x) o st=hi (o.ar a) (λp=>bn p (λa=>dz (du<|hB<|o.ar x) m (cond (gV<|hB<|o.ar x) (st.store a (hB<|o.ar x) (λst=>a1.ok undef o st) .no) .no) .no) .no) .no:=rfl;rw[this,O,kZ,Sym.eg,eP,ig R,BC W A,cond_true];unfold aj.store aj.fM;rw[Sym.hU,T,kl,ga<|cn _,pf,aE<|by show U+_<=_;omega,iH]
 ·intro a' _ S;exact ao.fa _ _ λe=>S k hm<|e▸g
def QU{K:ag->ac a4->Nat->be β}{U:c7}(h:Fg s.own s.n s.env K U=some r):∃a bo cR,K a bo cR=some r/\BK call U s a bo cR:=by
 cases U<;>simp[Fg]at h
 case alloc z el=>
  refine⟨_,_,_,nN<|m2<|BI h,?_⟩;intro H ids st o D g;obtain⟨A,C⟩:=Kr D<|wx H ids z;refine⟨_,_,_,?_,A,⟨_,C,j⟩,cf.app _ _,λ_ _ _ B=>B.add _,k9 _,λb E _=>sO E⟩;have:bw call (.alloc z el) o st=st.ib (.cells z el (0,0) false) λid st=>.ok (.pointer<|some ⟨id,0,none⟩) o st:=rfl;rw[this,gF]
 case box el x=>
  split at h<;>try cases h
  rename_i a O;split at h<;>try cases h
  rename_i aN S;refine⟨_,_,_,nN<|m2 h,?_⟩;intro H ids st o D g;obtain⟨hp,d⟩:=Fh S<|g.ar O;obtain⟨A,C⟩:=Kr D d;refine⟨_,_,_,?_,A,⟨_,C,j⟩,cf.app _ _,λ_ _ _ B=>B.add _,k9 _,λb E _=>sO E⟩;have:bw call (.box el x) o st=cond (su<|o.ar x) .no (st.ib (.cells (hB<|o.ar x) el (0,0) false) λid st=>.ok (.pointer<|some ⟨id,0,none⟩) o st):=rfl;rw[this,hp,cond_false,gF]
 case qa el len z G=>
  obtain⟨R,L,I⟩:=Fj<|BI h;refine⟨_,_,_,nN<|m2 I,?_⟩;intro H ids st o D g;obtain⟨N,d,a2⟩:=Fk g L<|wx H ids z;obtain⟨A,C⟩:=Kr D d;refine⟨_,_,_,?_,A,⟨_,C,j⟩,cf.app _ _,λ_ _ _ B=>B.add _,k9 _,λb E _=>sO E⟩;have:bw call (.qa el len z G) o st=nB o G z λcs=>st.ib (.cells cs el (0,0) false) λid st=>.ok (.slice (some ⟨id,0,none⟩) len len) o st:=rfl;rw[this,a2,gF,jk]
 case build z G=>
  obtain⟨R,L,I⟩:=Fj<|BI h;refine⟨_,_,_,I,?_⟩;intro H ids st o D g;obtain⟨N,d,a2⟩:=Fk g L<|wx H ids z;refine⟨.agg ⟨N⟩,st,ids,?_,D,⟨_,j,d⟩,cf.refl _,λ_ _ _ B=>B,cn _,λb E _=>j⟩;have:bw call (.build z G) o st=nB o G z λcs=>.ok (.agg ⟨cs⟩) o st:=rfl;rw[this,a2]
 case store m a x=>
  split at h<;>try cases h
  ·rename_i k U F;exact QT h (by simp[g0,F]) λg=>by obtain⟨b,A,C⟩:=g.ar F;exact⟨b,A,C⟩
  ·rename_i k z J U F;exact QT h (by simp[g0,F]) λg=>by obtain⟨b,A,C⟩:=g.ar F;exact⟨b,A,C⟩
 all_goals cases h
end
structure eX where
 call:bM
 bb:Nat
 fn:d7
 a5:bh
 i0:ac Nat
 au:aj
 Q:c1->cl->Prop
inductive dH where
 |seq (c:dk)
 |ct (i:Nat)
 |b1 (arO:cl->Prop)
 |wB (ms:List Nat) (n:Nat)
inductive bd where
 |c (c:dk)
 |U (l:List bm)
 |x (e:c1)
 |d (l:List (bm×cr)) (bf:List a4) (a7:bU) (aX b0:Nat)
variable(aq:eX)
def qC(Q:c1->cl->Prop):c1->aJ->aj->Prop:=λx o st=>∃H ids s,cQ aq.a5 aq.i0 aq.au H ids st/\Fit H ids st s.own s.n/\cN o H ids s.env/\Q x s
def QV(Q:c1->cl->Prop)(c:dk)(s:cl):Prop:=∀H ids st o,cQ aq.a5 aq.i0 aq.au H ids st->Fit H ids st s.own s.n->cN o H ids s.env->W (cZ aq.call aq.bb aq.fn c o st) (qC aq Q)
def aeb(Q:c1->cl->Prop)(l:ac bm)(s:cl):Prop:=∀H ids st o,cQ aq.a5 aq.i0 aq.au H ids st->Fit H ids st s.own s.n->cN o H ids s.env->W (fV aq.call l o st) (qC aq Q)
structure aec(gh H:bh)(ids:ac Nat)(st:aj)(bf:ac a4)(a7:bU)(aX b0:Nat)(cv:ac (ao bz))(o:aJ):Prop where
 len:cv.length=aX
 hle:cF gh H
 dT:∀J a,dp a7 J=some a->den gh a ids (o.tmp J)
 pB:bf.length<=ids.length
 wC:b0<=ids.length
 bf:∀(k:Nat) (U:a4) (b:Nat),bf[k]? =some U->U.live=true->ids[k]? =some b->mD gh ids U (st.h.get b)∧∀h∈cv,h.get b=st.h.get b
 hj:∀h∈cv,∀b U,gh b=some U->h.get b=some U
 top:∀h,cv.head?=some h->(∀b U,H b=some U->h.get b=some U)∧∀k b:Nat,k<b0->ids[k]? =some b->h.get b=st.h.get b
def Ks(K:ac dH)(fi:sx):Prop:=
 match K with
 |.wB ms n::_=>fi=ry aq.call ms n
 |_=>True
def aed(C:sx->Prop)(Q:c1->cl->Prop)(l:ac (bm×cr))(bf:ac a4)(a7:bU)(aX b0:Nat)(s:cl):Prop:=∀fi,C fi->∀H ids st o gh cv,cQ aq.a5 aq.i0 aq.au H ids st->Fit H ids st s.own s.n->cN o H ids s.env->aec gh H ids st bf a7 aX b0 cv o->W (gX aq.call fi l cv o st) (qC aq Q)
def Sem:ac dH->c1->cl->Prop
 |[]=>aq.Q
 |.seq c::K=>λx s=>match x with
  |.norm=>QV aq (Sem K) c s
  |x=>Sem K x s
 |.ct i::K=>λx s=>match x with
  |.exit J=>if J=i then Sem K .norm s else Sem K (.exit J) s
  |x=>Sem K x s
 |.b1 g::K=>λx s=>match x with
  |.norm=>g s
  |x=>Sem K x s
 |.wB _ _::K=>Sem K
def ai(K:ac dH)(c:bd)(s:cl):Prop:=
 match c with
 |.c c=>QV aq (Sem aq K) c s
 |.U l=>aeb aq (Sem aq K) l s
 |.x e=>Sem aq K e s
 |.d l bf a7 aX b0=>aed aq (Ks aq K) (Sem aq K) l bf a7 aX b0 s
structure b5 where
 K:ac dH
 c:bd
 s:cl
def b5.ok(g:b5):Prop:=ai aq g.K g.c g.s
abbrev eQ(K:ac dH)(c:bd)(own:ac a4)(n:Nat)(e:bU):Prop:=b5.ok aq ⟨K,c,⟨own,n,e⟩⟩
abbrev cI(K:ac dH)(l:ac bm)(own:ac a4)(n:Nat)(e:bU):Prop:=eQ aq K (.U l) own n e
abbrev gx(K:ac dH)(d:Tmp)(U:c7)(l:ac bm)(own:ac a4)(n:Nat)(e:bU):Prop:=cI aq K (⟨some d,U,none⟩::l) own n e
abbrev dy(K:ac dH)(l:ac (bm×cr))(bf:ac a4)(a7:bU)(aX b0:Nat)(own:ac a4)(n:Nat)(e:bU):Prop:=eQ aq K (.d l bf a7 aX b0) own n e
def dU(d:be Tmp)(a:ag)(e:bU):bU:=
 match d with
 |none=>e
 |some d=>(d,a)::e
section
def BL(own:ac a4)(n:Nat)(e:bU)(U:c7)(K:ag->ac a4->Nat->be b5):be b5:=
 match BH e U with
 |some a=>K a own n
 |none=>match uu own e U with
  |some a=>K a own n
  |none=>Fg own n e K U
def pC(d:be Tmp)(e:bU):bU:=
 match d with
 |none=>e
 |some d=>j6 d e
def Kt:ac Nat->bU->bU
 |[],e=>e
 |d::aN,e=>Kt aN<|j6 d e
def yZ{β:Type _}(bf:ac a4)(m:be Nat)(K:ac a4->be β):be β:=
 match m with
 |none=>K bf
 |some k=>match bf[k]? with
  |some _=>hn bf k .x K
  |none=>K bf
def QW(bf:ac a4)(e:bU)(U:c7):be ag:=
 match BH e U with
 |some a=>some a
 |none=>uu bf e U
def y0{β:Type _}(d:Nat):bU->(bU->be β)->be β
 |[],K=>K []
 |p::l,K=>match Nat.beq p.1 d with
  |true=>y0 d l K
  |false=>y0 d l λr=>K<|p::r
def pD(K:ac dH)(d:be Tmp)(l:ac (bm×cr))(bf:ac a4)(a7:bU)(aX b0:Nat)(own:ac a4)(n:Nat)(a:ag)(e:bU)(j:be ag):be b5:=
 match d with
 |none=>some ⟨K,.d l bf a7 aX b0,⟨own,n,e⟩⟩
 |some d=>match j with
  |some j=>some ⟨K,.d l bf ((d,j)::a7) aX b0,⟨own,n,(d,a)::e⟩⟩
  |none=>y0 d a7 λg=>some ⟨K,.d l bf g aX b0,⟨own,n,(d,a)::e⟩⟩
def Ku(K:ac dH)(d:be Tmp)(U:c7)(c:cr)(l:ac (bm×cr))(bf:ac a4)(a7:bU)(aX b0:Nat)(own:ac a4)(n:Nat)(e:bU):be b5:=
 match c with
 |.dF=>BL own n e U λa bo cR=>yZ bf (g0 e U) λgy=>mF aX λh=>pD K d l gy a7 h cR bo cR a e none
 |.gq ay=>Fg own n (dZ ay e) (λa bo cR=>match g0 (dZ ay e) U with
  |none=>pD K d l bf a7 aX b0 bo cR a e none
  |some _=>none) U
 |.read back ay=>match Nat.ble (back+1) aX with
  |true=>match QW bf (dZ ay a7) U with
   |some g=>pD K d l bf a7 aX b0 own n g e (some g)
   |none=>match BH (dZ ay e) U with
    |some a=>pD K d l bf a7 aX b0 own n a e none
    |none=>match back with
     |0=>match uu own (dZ ay e) U with
      |some a=>match pz (dZ ay e) U with
       |none=>pD K d l bf a7 aX b0 own n a e none
       |some k=>match Nat.ble (k+1) b0 with
        |true=>pD K d l bf a7 aX b0 own n a e none
        |false=>none
      |none=>none
     |_=>none
  |false=>none
def Fl(c:cr)(e:bU):bU:=
 match c with
 |.dF=>e
 |.gq ay=>dZ ay e
 |.read _ ay=>dZ ay e
def BM(K:ac dH)(d:be Tmp)(c:cr)(l:ac (bm×cr))(bf:ac a4)(a7:bU)(aX b0:Nat)(own:ac a4)(n:Nat)(e:bU):be b5:=
 match c with
 |.dF=>mF aX λg=>pD K d l bf a7 g n own n (.bq []) e none
 |_=>pD K d l bf a7 aX b0 own n (.bq []) e none
def BN(K:ac dH)(l:ac bm)(d:be Tmp)(own:ac a4)(n:Nat)(e:bU):be b5:=
 match d with
 |none=>some ⟨K,.U l,⟨own,n,e⟩⟩
 |some d=>some ⟨K,.U l,⟨own,n,(d,.bq [])::e⟩⟩
def Kv{β:Type _}:ac (bm×cr)->Nat->(Nat->be β)->be β
 |[],n,K=>K n
 |_::l,n,K=>mF n λn=>Kv l n K
def Kw{β:Type _}:ac Nat->bU->(bU->be β)->be β
 |[],e,K=>K e
 |d::aN,e,K=>y0 d e λkA=>Kw aN kA K
def BO:b5->be b5
 |⟨K,.c .skip,s⟩=>some ⟨K,.x .norm,s⟩
 |⟨K,.c<|.fU l,s⟩=>some ⟨K,.U l,s⟩
 |⟨K,.c<|.seq a b,s⟩=>some ⟨.seq b::K,.c a,s⟩
 |⟨K,.c<|.block i a,s⟩=>some ⟨.ct i::K,.c a,s⟩
 |⟨K,.c<|.exit i,s⟩=>some ⟨K,.x<|.exit i,s⟩
 |⟨K,.c .ret,s⟩=>some ⟨K,.x .ret,s⟩
 |⟨K,.c<|.scope a,s⟩=>some ⟨K,.c a,s⟩
 |⟨K,.c<|.cond c a b,s⟩=>match a6 s.env c with
  |some (.b true)=>some ⟨K,.c a,s⟩
  |some (.b false)=>some ⟨K,.c b,s⟩
  |_=>none
 |⟨K,.U [],s⟩=>some ⟨K,.x .norm,s⟩
 |⟨K,.U<|⟨some d,U,none⟩::l,⟨own,n,e⟩⟩=>BL own n e U λa bo cR=>some ⟨K,.U l,⟨bo,cR,(d,a)::e⟩⟩
 |⟨K,.U<|⟨none,U,none⟩::l,⟨own,n,e⟩⟩=>BL own n e U λ_ bo cR=>some ⟨K,.U l,⟨bo,cR,e⟩⟩
 |⟨K,.U<|⟨d,U,some (t,b)⟩::l,⟨own,n,e⟩⟩=>match dp e t with
  |some (.b true)=>match b with
   |true=>some ⟨K,.U<|⟨d,U,none⟩::l,⟨own,n,e⟩⟩
   |false=>BN K l d own n e
  |some (.b false)=>match b with
   |false=>some ⟨K,.U<|⟨d,U,none⟩::l,⟨own,n,e⟩⟩
   |true=>BN K l d own n e
  |some (.bq _)=>BN K l d own n e
  |_=>none
 |⟨K,.c<|.qc l _ g ms,⟨own,n,e⟩⟩=>Kw g e λkA=>Kv l 0 λm=>some ⟨.wB ms m::K,.d l own kA 1 n,⟨own,n,kA⟩⟩
 |⟨.wB _ _::K,.d [] _ _ _ _,s⟩=>some ⟨K,.x .norm,s⟩
 |⟨K,.d [] _ _ _ _,s⟩=>some ⟨K,.x .norm,s⟩
 |⟨K,.d ((⟨d,U,none⟩,c)::l) bf a7 aX b0,⟨own,n,e⟩⟩=>Ku K d U c l bf a7 aX b0 own n e
 |⟨K,.d ((⟨d,U,some (t,b)⟩,c)::l) bf a7 aX b0,⟨own,n,e⟩⟩=>match dp (Fl c e) t with
  |some (.b true)=>match b with
   |true=>some ⟨K,.d ((⟨d,U,none⟩,c)::l) bf a7 aX b0,⟨own,n,e⟩⟩
   |false=>BM K d c l bf a7 aX b0 own n e
  |some (.b false)=>match b with
   |false=>some ⟨K,.d ((⟨d,U,none⟩,c)::l) bf a7 aX b0,⟨own,n,e⟩⟩
   |true=>BM K d c l bf a7 aX b0 own n e
  |some (.bq _)=>BM K d c l bf a7 aX b0 own n e
  |_=>none
 |⟨.seq c::K,.x .norm,s⟩=>some ⟨K,.c c,s⟩
 |⟨.seq _::K,.x<|.exit i,s⟩=>some ⟨K,.x<|.exit i,s⟩
 |⟨.seq _::K,.x .ret,s⟩=>some ⟨K,.x .ret,s⟩
 |⟨.ct _::K,.x .norm,s⟩=>some ⟨K,.x .norm,s⟩
 |⟨.ct i::K,.x<|.exit J,s⟩=>match Nat.beq J i with
  |true=>some ⟨K,.x .norm,s⟩
  |false=>some ⟨K,.x<|.exit J,s⟩
 |⟨.ct _::K,.x .ret,s⟩=>some ⟨K,.x .ret,s⟩
 |⟨.b1 _::K,.x<|.exit i,s⟩=>some ⟨K,.x<|.exit i,s⟩
 |⟨.b1 _::K,.x .ret,s⟩=>some ⟨K,.x .ret,s⟩
 |⟨.seq _::K,.x<|.aR v,s⟩=>some ⟨K,.x<|.aR v,s⟩
 |⟨.ct _::K,.x<|.aR v,s⟩=>some ⟨K,.x<|.aR v,s⟩
 |⟨.b1 _::K,.x<|.aR v,s⟩=>some ⟨K,.x<|.aR v,s⟩
 |⟨.wB _ _::K,.x e,s⟩=>some ⟨K,.x e,s⟩
 |_=>none
end
section
variable{aq:eX}{K:ac dH}{s:cl}
def cN.dU{o:aJ}{e:bU}(h:cN o H ids e)(d:be Tmp)(j:den H a ids v):cN (o.put d v) H ids (Go.bA.dU d a e):=by
 cases d with
 |none=>exact h
 |some d=>exact h.put d j
def Kx{call:bM}{U:c7}{C:ag->ac a4->Nat->be b5}{r:b5}(h:BL s.own s.n s.env U C=some r):∃a bo cR,C a bo cR=some r/\fj call U s a bo cR:=by
 unfold BL at h;split at h
 ·rename_i a A;refine⟨a,_,_,h,λH ids st o g D=>?_⟩;obtain⟨v,E,F⟩:=Kq D A;exact⟨v,st,ids,H,F st,g,E,cF.refl _,cf.refl _,λ_ _ _ B=>B,cn _,λ_ _ _=>j⟩
 ·split at h
  ·rename_i a A;refine⟨a,_,_,h,λH ids st o g D=>?_⟩;obtain⟨v,E,F⟩:=Kn D (by rw[g.len,g.cV];exact cn _) (λk U b N _ L=>(g.own k U b N L).1) A;exact⟨v,st,ids,H,F st (.inl g.le) λ_ _ _ _=>j,g,E,cF.refl _,cf.refl _,λ_ _ _ B=>B,cn _,λ_ _ _=>j⟩
  ·obtain⟨a,bo,cR,G,I⟩:=QU h;exact⟨a,bo,cR,G,I.to⟩
def BP(aq:eX)(U:c7)(s:cl)(a:ag)(bo:ac a4)(cR:Nat):Prop:=
 ∀(H:bh) (ids:ac Nat) (st:aj) (o:aJ),cQ aq.a5 aq.i0 aq.au H ids st->Fit H ids st s.own s.n->cN o H ids s.env->
  ∃v ak j g,bw aq.call U o st= .ok v o ak/\Fit g j ak bo cR/\den g a j v/\cF H g/\cf ids j/\cQ aq.a5 aq.i0 aq.au g j ak/\
   st.ae<=ak.ae/\∀b,b<st.ae->(∀k,g0 s.env U=some k->ids[k]? ≠some b)->ak.h.get b=st.h.get b
variable{d:be Tmp}{a7:bU}{bf:ac a4}{b0:Nat}{bo:ac a4}{cR:Nat}{gy:ac a4}{o:aJ}{e:bU}{back:Nat}{c:cr}{t:Bool}{gh:bh}
def pA.b{U:c7}(h:pA aq.a5 aq.call U s a bo cR):BP aq U s a bo cR:=λH ids st o g D B=>
 let⟨v,ak,E,A,L,N,C,j,F,G,I⟩:=h H ids st o g.hle D B
 ⟨v,ak,E,A,L,N,C,j,F,G _ _ _ g,I⟩
def QX{U:c7}{l:ac bm}(h:BP aq U s a bo cR)(k:ai aq K (.U l) ⟨bo,cR,dU d a s.env⟩):ai aq K (.U<|⟨d,U,none⟩::l) s:=by
 intro H ids st o B D g;obtain⟨v,ak,E,A,I,L,C,G,j,F,_⟩:=h H ids st o B D g;exact pw I<|k A E ak _ F L<|(g.mono G j).dU d C
def sP{U:c7}{l:ac bm}(h:pA aq.a5 aq.call U s a bo cR)(k:ai aq K (.U l) ⟨bo,cR,dU d a s.env⟩):ai aq K (.U<|⟨d,U,none⟩::l) s:=QX h.b k
def wD{U:c7}{l:ac bm}(h:fj aq.call U s a bo cR)(k:ai aq K (.U l) ⟨bo,cR,dU d a s.env⟩):ai aq K (.U<|⟨d,U,none⟩::l) s:=sP h.g k
def wE(h:∀J a,dp a7 J=some a->den gh a ids (o.tmp J))(d:be Tmp)(v:bv):∀J a,dp (pC d a7) J=some a->den gh a ids ((o.put d v).tmp J):=by
 cases d with
 |none=>exact h
 |some d=>
  intro J a B;obtain⟨g,A⟩:=E6 d a7 J a B;rw[uj,aw g];exact h J a A
theorem aee(h:∀J a,dp a7 J=some a->den gh a ids (o.tmp J))(d:be Tmp){b:ag}(D:den gh b ids v):∀J a,dp (dU d b a7) J=some a->den gh a ids ((o.put d v).tmp J):=by
 cases d with
 |none=>exact h
 |some d=>
  intro J a g;have g:cond (Nat.beq d J) (some b) (dp a7 J)=some a:=g;rw[uj];cases A:Nat.beq d J with
  |true=>
   simp_all
  |false=>
   rw[A]at g;rw[aw λe=>by rw[e,kO]at A;cases A];exact h J a g
theorem Fm{β:Type _}{r:β}{d:Nat}:∀{e:bU} {C:bU->be β},y0 d e C=some r->C (j6 d e)=some r
 |[],_,h=>h
 |p::l,C,h=>by
  unfold y0 at h;unfold j6;cases aA:Nat.beq p.1 d with
  |true=>rw[aA]at h;exact Fm h
  |false=>rw[aA]at h;exact Fm h
theorem QY{β:Type _}{r:β}:∀{l:ac (bm×cr)} {n:Nat} {C:Nat->be β},Kv l n C=some r->C (n+du l)=some r
 |[],_,_,h=>h
 |x::l,n,C,h=>by
  have h:=QY<|nN h;have e:n+du (x::l)=n+1+du l:=by
   rw[eP,eP,hN];omega
  rw[e];exact h
theorem QZ{β:Type _}{r:β}:∀{aN:ac Nat} {e:bU} {C:bU->be β},Kw aN e C=some r->C (Kt aN e)=some r
 |[],_,_,h=>h
 |_::aN,_,_,h=>QZ (aN:=aN)<|Fm h
def wF{l:ac (bm×cr)}{aX:Nat}{own:ac a4}{g:b5}(h:pD K d l bf a7 aX b0 own n a e none=some g)(k:g.ok aq):ai aq K (.d l bf (pC d a7) aX b0) ⟨own,n,dU d a e⟩:=by
 unfold pD at h;split at h
 ·cases h;exact k
 ·have:=Fm h;cases this;exact k
def aef{l:ac (bm×cr)}{aX:Nat}{own:ac a4}{g:b5}(h:pD K d l bf a7 aX b0 own n a e (some a)=some g)(k:g.ok aq):ai aq K (.d l bf (dU d a a7) aX b0) ⟨own,n,dU d a e⟩:=by
 unfold pD at h;split at h
 ·cases h;exact k
 ·cases h;exact k
def Ky{l:ac bm}{own:ac a4}{g:b5}(h:BN K l d own n e=some g)(k:g.ok aq):ai aq K (.U l) ⟨own,n,dU d (.bq []) e⟩:=by
 unfold BN at h;split at h
 ·cases h;exact k
 ·cases h;exact k
theorem Fo{β:Type _}{r:β}{m:be Nat}{C:ac a4->be β}(h:yZ bf m C=some r):∃gy,C gy=some r/\gy.length=bf.length/\∀(k:Nat) (U:a4),gy[k]? =some U->U.live=true->bf[k]? =some U/\m≠some k:=by
 unfold yZ at h;split at h
 ·grind
 ·rename_i m;split at h
  ·refine⟨_,ih h,av,λk U g A=>?_⟩;rw[o0]at g;by_cases j:m=k
   ·rw[aE j]at g;split at g<;>cases g;cases A
   ·grind
  ·grind
theorem Q0{U:c7}{l:ac (bm×cr)}{aX:Nat}(h:∀(H:bh) (ids:ac Nat) (st:aj) (o:aJ),cQ aq.a5 aq.i0 aq.au H ids st->Fit H ids st s.own s.n->cN o H ids s.env->∃v ak g C,bw aq.call U o st= .ok v o ak/\Fit C g ak bo cR/\den C a g v/\cF H C/\cf ids g/\cQ aq.a5 aq.i0 aq.au C g ak/\st.ae<=ak.ae/\∀(k b:Nat) (cy:a4),gy[k]? =some cy->cy.live=true->ids[k]? =some b->ak.h.get b=st.h.get b)(aD:gy.length=bf.length)(aF:∀(k:Nat) (cy:a4),gy[k]? =some cy->cy.live=true->bf[k]? =some cy)
 (k:ai aq K (.d l gy (pC d a7) (aX+1) cR) ⟨bo,cR,dU d a s.env⟩):ai aq K (.d ((⟨d,U,none⟩,.dF)::l) bf a7 aX b0) s:=by
 intro fi aa H ids st o gh cv T V I B;obtain⟨v,ak,g,C,Z,E,a2,cD,cX,et,fs,my⟩:=h H ids st o T V I;have N:∀(k:Nat) b,k<ids.length->g[k]? =some b->ids[k]? =some b:=λk b D A=>by
  have:=cX k _<|a0 D;rw[A]at this;rw[a0 D,this]
 have Y:=k fi aa C g ak (o.put d v) gh (ak.h::cv) et E ((I.mono cD cX).dU d a2) ⟨by simp[B.len],B.hle.trans cD,wE (λJ a a'=>iw (cF.refl _) _ cX<|B.dT J a a') d v,?_,by rw[E.len];exact cn _,?_,?_,?_⟩
 ·refine W.of_eq ?_ Y;show a1.rec (motive:=λ_=>cH) (λv F ak=>ek st.ae ak.ae (gX aq.call fi l (ak.h::cv) (aJ.put ⟨o.t,F.c4,F.aR,F.cL,F.b1⟩ d v) ak) .no) (λv ak=>cond U.kU (cond (fi l (st.h::cv) (o.put d undef) st) (.out (.aR v) o ak) .no) .no) .no (bw aq.call U o st)=_;rw[Z];show ek st.ae ak.ae _ _=_;rw[ga fs]
 ·rw[aD];have:ids.length<=g.length:=by
   rcases fS g.length ids.length with aT|ag
   ·have:=cX g.length _<|a0 aT;simp at this
   ·exact ag
  exact cC B.pB this
 ·intro k cy b D G A;have L:=aF k cy D G;have O:=eR (dN.1 L).1 B.pB;have A:=N k b O A;obtain⟨S,ah⟩:=B.bf k cy b L G A;have e:=my k b cy D G A;rw[e];refine⟨rX (cF.refl _) cX S,λh hm=>?_⟩
  grind
 ·intro h hm b cy A;rcases e1.1 hm with rfl|hm
  ·exact E.le _ _<|cD _ _<|B.hle _ _ A
  ·exact B.hj h hm b cy A
 ·intro h hm;simp at hm;subst hm;exact⟨E.le,λ_ _ _ _=>j⟩
def Kz{U:c7}{l:ac (bm×cr)}{aX:Nat}(h:BP aq U s a bo cR)(aD:gy.length=bf.length)(aF:∀(k:Nat) (cy:a4),gy[k]? =some cy->cy.live=true->bf[k]? =some cy/\g0 s.env U≠some k)
 (k:ai aq K (.d l gy (pC d a7) (aX+1) cR) ⟨bo,cR,dU d a s.env⟩):ai aq K (.d ((⟨d,U,none⟩,.dF)::l) bf a7 aX b0) s:=
 Q0 (λH ids st o D g E=>by
  obtain⟨v,ak,F,B,I,C,a2,cD,cX,et,fs,my⟩:=h H ids st o D g E;refine⟨v,ak,F,B,I,C,a2,cD,cX,et,fs,λk b cy L aD j=>my b (g.lt b<|hg j) λgw O N=>?_⟩;have A:=dN.1 j;have G:=dN.1 N;have:=(vs g.cT).1<|A.2.trans G.2.symm;exact(aF k cy L aD).2<|this▸O) aD (λk cy a b=>(aF k cy a b).1) k
def Fp{U:c7}{l:ac (bm×cr)}{aX:Nat}(h:pA aq.a5 aq.call U s a bo cR)(aD:gy.length=bf.length)(aF:∀(k:Nat) (cy:a4),gy[k]? =some cy->cy.live=true->bf[k]? =some cy/\g0 s.env U≠some k)
 (k:ai aq K (.d l gy (pC d a7) (aX+1) cR) ⟨bo,cR,dU d a s.env⟩):ai aq K (.d ((⟨d,U,none⟩,.dF)::l) bf a7 aX b0) s:=Kz h.b aD aF k
def y1{U:c7}{l:ac (bm×cr)}{aX:Nat}(h:fj aq.call U s a bo cR)(aD:gy.length=bf.length)(aF:∀(k:Nat) (cy:a4),gy[k]? =some cy->cy.live=true->bf[k]? =some cy/\g0 s.env U≠some k)
 (k:ai aq K (.d l gy (pC d a7) (aX+1) cR) ⟨bo,cR,dU d a s.env⟩):ai aq K (.d ((⟨d,U,none⟩,.dF)::l) bf a7 aX b0) s:=Fp h.g aD aF k
def Q1{i J:ac Nat}(h:cf i J):i.length<=J.length:=by
 rcases fS J.length i.length with aT|g
 ·have:=h J.length _<|a0 aT;simp at this
 ·exact g
def Q2{U:c7}{ay:ac Tmp}{l:ac (bm×cr)}{aX:Nat}(h:BK aq.call U ⟨s.own,s.n,dZ ay s.env⟩ a bo cR)(hm:g0 (dZ ay s.env) U=none)
 (k:ai aq K (.d l bf (pC d a7) aX b0) ⟨bo,cR,dU d a s.env⟩):ai aq K (.d ((⟨d,U,none⟩,.gq ay)::l) bf a7 aX b0) s:=by
 intro fi ah H ids st o gh cv T F D A;obtain⟨v,ak,G,Z,S,a2,cX,et,fs,my⟩:=h H ids st (o.only ay) F<|D.only ay;have C:∀(k:Nat) b,k<ids.length->G[k]? =some b->ids[k]? =some b:=λk b B g=>by
  have:=cX k _<|a0 B;rw[g]at this;rw[a0 B,this]
 have E:∀(k:Nat) b,ids[k]? =some b->ak.h.get b=st.h.get b:=λk b g=>my b (F.lt b<|hg g) λgw I=>by rw[hm]at I;cases I
 have Y:=k fi ah H G ak (o.put d v) gh cv (et _ _ _ T) S ((D.mono (cF.refl _) cX).dU d a2) ⟨A.len,A.hle,wE (λJ a ag=>iw (cF.refl _) _ cX<|A.dT J a ag) d v,cC A.pB<|Q1 cX,cC A.wC<|Q1 cX,?_,A.hj,?_⟩
 ·refine W.of_eq ?_ Y;show jq o.t ay (λt=>a1.rec (motive:=λ_=>cH) (λv _ ak=>gX aq.call fi l cv (o.put d v) ak) (λ_ _=>.no) .no<|bw aq.call U ⟨t,[],none,false,none⟩ st)=_;rw[nI];have e:bw aq.call U ⟨Eu o.t ay,[],none,false,none⟩ st= .ok v (o.only ay) ak:=Z;rw[e]
 ·intro k cy b B L g;have N:=eR (dN.1 B).1 A.pB;have g:=C k b N g;obtain⟨O,V⟩:=A.bf k cy b B L g;rw[E k b g];exact⟨rX (cF.refl _) cX O,V⟩
 ·intro h ae;obtain⟨a',aa⟩:=A.top h ae;refine⟨a',λk b B g=>?_⟩;have g:=C k b (eR B A.wC) g;rw[E k b g];exact aa k b B g
def KA{fi:sx}{U:c7}{ay:ac Tmp}{l:ac (bm×cr)}{cv:ac (ao bz)}{st:aj}{Q:c1->aJ->aj->Prop}(aF:bw aq.call U (o.only ay) st= .ok v (o.only ay) st)(aL:∀h∈cv.take (back+1),bw aq.call U (o.only ay) ⟨h,st.ae⟩= .ok v (o.only ay) ⟨h,st.ae⟩)(aD:back<cv.length)
 (k:W (gX aq.call fi l cv (o.put d v) st) Q):W (gX aq.call fi ((⟨d,U,none⟩,.read back ay)::l) cv o st) Q:=by
 refine adO (λh hm=>?_) aD k;rcases e1.1 hm with rfl|hm
 ·exact aF
 ·exact aL h hm
def k2{U:c7}{ay:ac Tmp}{l:ac (bm×cr)}{aX:Nat}(aA:back<aX)
 (h:∀(H:bh) (ids:ac Nat) (st:aj) (o:aJ),cN o H ids (dZ ay a7)->bf.length<=ids.length->(∀(k:Nat) (U:a4) (b:Nat),bf[k]? =some U->U.live=true->ids[k]? =some b->mD H ids U (st.h.get b))->
  ∃v,den H a ids v/\∀A:aj,(∀b U,H b=some U->A.h.get b=some U)->(∀(k:Nat) (U:a4) (b:Nat),bf[k]? =some U->U.live=true->ids[k]? =some b->A.h.get b=st.h.get b)->bw aq.call U o A= .ok v o A)
 (k:ai aq K (.d l bf (dU d a a7) aX b0) ⟨s.own,s.n,dU d a s.env⟩):ai aq K (.d ((⟨d,U,none⟩,.read back ay)::l) bf a7 aX b0) s:=by
 intro fi S H ids st o gh cv L E D g;have I:cN o gh ids a7:=⟨D.pl,g.dT⟩;obtain⟨v,F,G⟩:=h gh ids st (o.only ay) (I.only ay) g.pB λk U b B C aA=>(g.bf k U b B C aA).1;have O:=k fi S H ids st (o.put d v) gh cv L E (D.dU d<|iw g.hle _ (cf.refl _) F) ⟨g.len,g.hle,aee g.dT d F,g.pB,g.wC,g.bf,g.hj,g.top⟩;refine KA (G st (λb U N=>E.le _ _<|g.hle _ _ N) λ_ _ _ _ _ _=>j) (λh hm=>?_) (by rw[g.len];exact aA) O;have hm:=p4 hm;exact G ⟨h,st.ae⟩ (g.hj h hm) λk U b B C aA=>(g.bf k U b B C aA).2 h hm
def aeg{U:c7}{ay:ac Tmp}{l:ac (bm×cr)}{aX:Nat}(aA:back<aX)
 (h:∀(H:bh) (ids:ac Nat) (o:aJ),cN o H ids (dZ ay s.env)->∃v,den H a ids v/\∀st,bw aq.call U o st= .ok v o st)
 (k:ai aq K (.d l bf (pC d a7) aX b0) ⟨s.own,s.n,dU d a s.env⟩):ai aq K (.d ((⟨d,U,none⟩,.read back ay)::l) bf a7 aX b0) s:=by
 intro fi F H ids st o gh cv B C j g;obtain⟨v,E,A⟩:=h H ids (o.only ay)<|j.only ay;have D:=k fi F H ids st (o.put d v) gh cv B C (j.dU d E) ⟨g.len,g.hle,wE g.dT d v,g.pB,g.wC,g.bf,g.hj,g.top⟩;exact KA (A st) (λh hm=>A _) (by rw[g.len];exact aA) D
def aeh{U:c7}{ay:ac Tmp}{l:ac (bm×cr)}{aX:Nat}(aA:0<aX)
 (h:∀(H:bh) (ids:ac Nat) (st:aj) (o:aJ),Fit H ids st s.own s.n->cN o H ids (dZ ay s.env)->∃v,den H a ids v/\∀A:aj,(∀b U,H b=some U->A.h.get b=some U)->(∀k b:Nat,k<b0->ids[k]? =some b->A.h.get b=st.h.get b)->bw aq.call U o A= .ok v o A)
 (k:ai aq K (.d l bf (pC d a7) aX b0) ⟨s.own,s.n,dU d a s.env⟩):ai aq K (.d ((⟨d,U,none⟩,.read 0 ay)::l) bf a7 aX b0) s:=by
 intro fi O H ids st o gh cv G B D g;obtain⟨v,N,E⟩:=h H ids st (o.only ay) B<|D.only ay;have I:=k fi O H ids st (o.put d v) gh cv G B (D.dU d N) ⟨g.len,g.hle,wE g.dT d v,g.pB,g.wC,g.bf,g.hj,g.top⟩;refine KA (E st B.le λ_ _ _ _=>j) (λh hm=>?_) (by rw[g.len];exact aA) I;have C:=g.len
 match cv,C,hm with
 |[],C,_=>simp at C;omega
 |S::cv,_,hm=>
  simp at hm;subst hm;obtain⟨L,F⟩:=g.top h j;exact E ⟨h,st.ae⟩ L F
theorem aei{U:c7}{l:ac (bm×cr)}{aX:Nat}{g:b5}(h:Ku K d U c l bf a7 aX b0 s.own s.n s.env=some g)(k:g.ok aq):ai aq K (.d ((⟨d,U,none⟩,c)::l) bf a7 aX b0) s:=by
 unfold Ku at h;split at h
 ·obtain⟨a,bo,cR,j,D⟩:=Kx h;obtain⟨gy,O,L,T⟩:=Fo j;exact y1 D L T<|wF (nN O) k
 ·rename_i ay;obtain⟨a,bo,cR,j,D⟩:=QU (s:=⟨s.own,s.n,dZ ay s.env⟩) h;split at j
  ·rename_i hm;exact Q2 D hm<|wF j k
  ·cases j
 ·rename_i back ay;split at h<;>try cases h
  rename_i C;have C:=hP C;split at h
  ·rename_i a' B;refine k2 C (λH ids st o E Y S=>?_)<|aef h k;unfold QW at B;split at B
   ·rename_i I;cases B;obtain⟨v,j,D⟩:=Kq E I;exact⟨v,j,λG _ _=>D G⟩
   ·obtain⟨v,j,D⟩:=Kn E Y S B;refine⟨v,j,λG W N=>D G (.inl W) λk b A C=>?_⟩;obtain⟨cy,Z,V⟩:=ad7 B A;exact N k cy b Z V C
  ·split at h
   ·rename_i a B;exact aeg C (λH ids o E=>Kq E B)<|wF h k
   ·split at h<;>try cases h
    split at h<;>try cases h
    rename_i a B;have key:(∀k,pz (dZ ay s.env) U=some k->k<b0)->dy aq K l bf (pC d a7) aX b0 s.own s.n (dU d a s.env)->ai aq K (.d ((⟨d,U,none⟩,.read 0 ay)::l) bf a7 aX b0) s:=λA k=>by
     refine aeh C (λH ids st o F E=>?_) k;obtain⟨v,j,D⟩:=Kn (call:=aq.call) E (by rw[F.len,F.cV];exact cn _) (λk U b A _ C=>(F.own k U b A C).1) B
     grind
    split at h
    ·rename_i ah;exact key (λk A=>by rw[ah]at A;cases A)<|wF h k
    ·rename_i a9 ah;split at h
     ·rename_i aT;exact key (λk A=>by rw[ah]at A;cases A;exact hP aT)<|wF h k
     ·cases h
theorem KB{U:c7}{t:Tmp}{b:Bool}{l:ac (bm×cr)}{aX:Nat}{g:b5}(D:dp (Fl c s.env) t=some (.b<|!b)\/∃ad,dp (Fl c s.env) t=some (.bq ad))(h:BM K d c l bf a7 aX b0 s.own s.n s.env=some g)(k:g.ok aq):ai aq K (.d ((⟨d,U,some (t,b)⟩,c)::l) bf a7 aX b0) s:=by
 have I:∀{o:aJ} {H:bh} {ids:ac Nat} {e:bU} {y n z:cH},cN o H ids e->(dp e t=some (.b<|!b)\/∃ad,dp e t=some (.bq ad))->gW o (some (t,b)) y n z=n:=λ{o H ids e y n z} B D=>by
  rcases D with D|⟨ad,D⟩
  ·exact adT<|B.get _ _ D
  ·obtain⟨a',O,_⟩:=B.get _ _ D;show jX (o.tmp t) (λc=>cond c (cond b y n)<|cond b n y) (qd (o.tmp t) (λ_=>n) z)=_;rw[O];rfl
 unfold BM at h;intro fi N H ids st o gh cv L C B A;split at h
 ·have k:=wF (nN h) k;have E:=k fi N H ids st (o.put d undef) gh (st.h::cv) L C (B.dU d ⟨[],j,j⟩) ⟨by simp[A.len],A.hle,wE A.dT d _,A.pB,by rw[C.len];exact cn _,λk U b T V G=>?_,λh hm=>?_,λh hm=>?_⟩
  ·refine W.of_eq ?_ E;exact I B D
  ·obtain⟨Y,Z⟩:=A.bf k U b T V G
   grind
  ·rcases e1.1 hm with rfl|hm
   ·exactλb U G=>C.le _ _<|A.hle _ _ G
   ·exact A.hj h hm
  ·simp at hm;subst hm;exact⟨C.le,λ_ _ _ _=>j⟩
 ·rename_i S;have k:=wF h k;have E:=k fi N H ids st (o.put d undef) gh cv L C (B.dU d ⟨[],j,j⟩) ⟨A.len,A.hle,wE A.dT d _,A.pB,A.wC,A.bf,A.hj,A.top⟩;refine W.of_eq ?_ E;cases c with
  |dF=>exact absurd j S
  |gq ay=>
   show jq o.t ay (λF=>gW ⟨F,[],none,false,none⟩ (some (t,b)) _ _ _)=_;rw[nI];exact I (B.only ay) D
  |read back ay=>
   show jq o.t ay (λF=>gW ⟨F,[],none,false,none⟩ (some (t,b)) _ _ _)=_;rw[nI];exact I (B.only ay) D
def Q3{U:c7}{t:Tmp}{b:Bool}{l:ac (bm×cr)}{aX:Nat}(j:dp (Fl c s.env) t=some (.b b))(k:ai aq K (.d ((⟨d,U,none⟩,c)::l) bf a7 aX b0) s):ai aq K (.d ((⟨d,U,some (t,b)⟩,c)::l) bf a7 aX b0) s:=by
 intro fi D H ids st o gh cv A B h C;refine W.of_eq ?_ (k fi D H ids st o gh cv A B h C);cases c with
 |dF=>
  exact J4 (h.get _ _ j)
 |gq ay=>
  show jq o.t ay (λg=>gW ⟨g,[],none,false,none⟩ (some (t,b)) _ _ _)=jq o.t ay λg=>gW ⟨g,[],none,false,none⟩ none _ _ _;rw[nI,nI];exact J4 ((h.only ay).get _ _ j)
 |read back ay=>
  show jq o.t ay (λg=>gW ⟨g,[],none,false,none⟩ (some (t,b)) _ _ _)=jq o.t ay λg=>gW ⟨g,[],none,false,none⟩ none _ _ _;rw[nI,nI];exact J4<|(h.only ay).get _ _ j
def cN.Q4:∀(j:ac Tmp) {o:aJ} {e:bU},cN o H ids e->cN (pb o j) H ids (Kt j e)
 |[],_,_,h=>h
 |d::j,_,_,h=>cN.Q4 j<|h.adX d iR
theorem fz{g Z:b5}(h:BO g=some Z)(k:Z.ok aq):g.ok aq:=by
 unfold BO at h;split at h
 ·cases h;exactλH ids st o C B A=>ads ⟨H,ids,_,C,B,A,k⟩
 ·cases h;exactλH ids st o C B A=>adx<|k H ids st o C B A
 ·cases h;intro H ids st o C B A;refine QD<|(k H ids st o C B A).mono ?_;rintro x Y ak ⟨F,G,O,L,I,N,E⟩;cases x with
  |norm=>exact E F G ak Y L I N
  |exit i=>exact⟨F,G,O,L,I,N,E⟩
  |ret=>exact⟨F,G,O,L,I,N,E⟩
  |aR v=>exact⟨F,G,O,L,I,N,E⟩
 ·cases h;rename_i i a s;intro H ids st o C B A;refine adw<|(k H ids st o C B A).mono ?_;rintro x Y ak ⟨F,G,O,L,I,N,E⟩;cases x with
  |norm=>exact⟨F,G,O,L,I,N,E⟩
  |exit J=>
   show(if J=i then _ else _);have E:(if J=i then _ else _):=E;split at E
   ·rw[aE lh];exact⟨F,G,O,L,I,N,E⟩
   ·rw[aw lh];exact⟨F,G,O,L,I,N,E⟩
  |ret=>exact⟨F,G,O,L,I,N,E⟩
  |aR v=>exact⟨F,G,O,L,I,N,E⟩
 ·cases h;exactλH ids st o C B A=>adt ⟨H,ids,_,C,B,A,k⟩
 ·cases h;exactλH ids st o C B A=>adu ⟨H,ids,_,C,B,A,k⟩
 ·cases h;exactλH ids st o C B A=>adv<|k H ids st o C B A
 ·split at h<;>cases h
  ·rename_i W;exactλH ids st o C B A=>adA (A.ar W) j<|k H ids st o C B A
  ·rename_i W;exactλH ids st o C B A=>adB (A.ar W) j<|k H ids st o C B A
 ·cases h;exactλH ids st o C B A=>ady ⟨H,ids,_,C,B,A,k⟩
 ·rename_i K d U l own n e;obtain⟨a,bo,cR,T,V⟩:=Kx (s:=⟨own,n,e⟩) h;cases T;exact wD V k
 ·rename_i K U l own n e;obtain⟨a,bo,cR,T,V⟩:=Kx (s:=⟨own,n,e⟩) h;cases T;exact wD V k
 ·rename_i K d U t b l own n e;have aa:∀{b:Bool},dp e t=some (.b b)->ai aq K (.U<|⟨d,U,none⟩::l) ⟨own,n,e⟩->ai aq K (.U<|⟨d,U,some (t,b)⟩::l) ⟨own,n,e⟩:=λD k H ids st o C B A=>adD (A.get _ _ D) j<|k H ids st o C B A;have a':∀{b:Bool},dp e t=some (.b<|!b)->ai aq K (.U l) ⟨own,n,dU d (.bq []) e⟩->ai aq K (.U<|⟨d,U,some (t,b)⟩::l) ⟨own,n,e⟩:=λD k H ids st o C B A=>adE (A.get _ _ D) j<|k H ids st _ C B<|A.dU d ⟨[],j,j⟩;split at h
  ·rename_i D;cases b
   ·exact a' D<|Ky h k
   ·cases h;exact aa D k
  ·rename_i D;cases b
   ·cases h;exact aa D k
   ·exact a' D<|Ky h k
  ·rename_i D;have k:=Ky h k;intro H ids st o C B A;obtain⟨ad,ae,_⟩:=A.get _ _ D;exact adF ae<|k H ids st _ C B<|A.dU d ⟨[],j,j⟩
  ·cases h
 ·rename_i K l az ah ms own n e;have h:=QY<|QZ h;cases h;intro H ids st o C B A;have A:=A.Q4 ah;exact adN<|k _ (show ry aq.call ms (du l)=ry aq.call ms (0+du l) by rw[iE]) H ids st _ H [st.h] C B A ⟨j,cF.refl _,A.get,by rw[B.len,<-B.cV];exact cn _,by rw[B.len];exact cn _,λk U b aj aA S=>⟨(B.own k U b aj S).1,λh hm=>by simp at hm;rw[hm]⟩,λh hm=>by simp at hm;subst hm;exact B.le,λh hm=>by simp at hm;subst hm;exact⟨B.le,λ_ _ _ _=>j⟩⟩
 ·cases h;exactλfi ax H ids st o gh cv C B A ag=>QF ⟨H,ids,_,C,B,A,k⟩
 ·cases h;exactλfi ax H ids st o gh cv C B A ag=>QF ⟨H,ids,_,C,B,A,k⟩
 ·exact aei h k
 ·split at h
  ·rename_i D;split at h
   ·cases h;exact Q3 D k
   ·exact KB (.inl D) h k
  ·rename_i D;split at h
   ·cases h;exact Q3 D k
   ·exact KB (.inl D) h k
  ·rename_i D;exact KB (.inr ⟨_,D⟩) h k
  ·cases h
 ·cases h;exact k
 ·cases h;exact k
 ·cases h;exact k
 ·cases h;exact k
 ·split at h<;>cases h
  ·rename_i S;show(if _ then _ else _);rw[aE<|dM S];exact k
  ·rename_i S;show(if _ then _ else _);rw[aw λe=>by rw[e,kO]at S;cases S];exact k
 ·cases h;exact k
 ·cases h;exact k
 ·cases h;exact k
 ·cases h;exact k
 ·cases h;exact k
 ·cases h;exact k
 ·cases h;exact k
 ·cases h
def wG{c:ce}{a b:dk}(aS:a6 s.env c=some (.b t))(D:t=true->b5.ok aq ⟨K,.c a,s⟩)(aA:t=false->b5.ok aq ⟨K,.c b,s⟩):b5.ok aq ⟨K,.c<|.cond c a b,s⟩:=λH ids st o j A g=>
 adz (g.ar aS) (λh=>D h H ids st o j A g) λh=>aA h H ids st o j A g
def Q5{c:ce}{a b:dk}(aS:a6 s.env c=some (.b t))(D:t=true)(j:b5.ok aq ⟨K,.c a,s⟩):b5.ok aq ⟨K,.c<|.cond c a b,s⟩:=wG aS (λ_=>j) λh=>by rw[D]at h;cases h
def aej{c:ce}{a b:dk}(aS:a6 s.env c=some (.b t))(j:t=false)(aA:b5.ok aq ⟨K,.c b,s⟩):b5.ok aq ⟨K,.c<|.cond c a b,s⟩:=wG aS (λh=>by rw[j]at h;cases h) λ_=>aA
def aek{a b:dk}(E:cl->Prop)(aF:b5.ok aq ⟨.b1 E::K,.c a,s⟩)(aL:∀g,E g->b5.ok aq ⟨K,.c b,g⟩):b5.ok aq ⟨K,.c<|.seq a b,s⟩:=by
 intro H ids st o F I G;refine QD<|(aF H ids st o F I G).mono ?_;rintro x L ak ⟨h,j,g,B,A,C,D⟩;cases x with
 |norm=>exact aL g D h j ak L B A C
 |exit i=>exact⟨h,j,g,B,A,C,D⟩
 |ret=>exact⟨h,j,g,B,A,C,D⟩
 |aR v=>exact⟨h,j,g,B,A,C,D⟩
def ael{L:Type _}{b:dk}(aa:L->cl->Prop)(D:L->Nat)(G:L)(bX:aa G s)(hm:D G<aq.bb)(h:∀l g,aa l g->b5.ok aq ⟨.b1 (λt=>∃bp,D bp<D l/\aa bp t)::K,.c b,g⟩):b5.ok aq ⟨K,.c<|.loop b,s⟩:=by
 intro H ids st o N R O;refine adC (λm o st=>∃l H ids s,D l=m/\aa l s/\cQ aq.a5 aq.i0 aq.au H ids st/\Fit H ids st s.own s.n/\cN o H ids s.env) (D G) hm ⟨G,H,ids,s,j,bX,N,R,O⟩ ?_;rintro m o st ⟨l,H,ids,g,rfl,af,N,R,O⟩;refine(h l g af H ids st o N R O).mono ?_;rintro x V ak ⟨A,B,g,E,C,F,I⟩;cases x with
 |norm=>obtain⟨bp,S,T⟩:=I;exact⟨_,S,bp,A,B,g,j,T,E,C,F⟩
 |exit i=>exact⟨A,B,g,E,C,F,I⟩
 |ret=>exact⟨A,B,g,E,C,F,I⟩
 |aR v=>exact⟨A,B,g,E,C,F,I⟩
end
end Go.bA
namespace Go.bA
open Sym
variable{f:ac Nat}
def pE(f:ac Nat):bU->bU->Prop
 |[],_=>True
 |p::l,e=>dp e p.1=some (jL f p.2)/\pE f l e
def pE.get:∀{l e:bU},pE f l e->∀{J:Nat} {a:ag},dp l J=some a->dp e J=some (jL f a)
 |[],_,_,_,_,h=>by cases h
 |p::l,e,cv,J,v,h=>by
  rw[lW]at h;cases aA:Nat.beq p.1 J with
  |true=>rw[aA]at h;cases h;rw[<-dM aA];exact cv.1
  |false=>rw[aA]at h;exact pE.get cv.2 h
def km(f:ac Nat):a4->a4->Prop
 |.c el cs,U=>U= .c el (k1 f cs)
 |.a el aU z α ai l,U=>U= .a el aU z α ai l/\∀x,k1 f (ai x)=ai x
 |.g p,U=>U= .g p
 |.x,_=>True
def rY(f:ac Nat)(own:ac a4):ac Nat->ac a4->Prop
 |[],[]=>True
 |m::ms,U::os=>(∃cy,own[m]? =some cy/\km f U cy)/\rY f own ms os
 |_,_=>False
def rY.len{own:ac a4}:∀{ms:ac Nat} {os:ac a4},rY f own ms os->os.length=ms.length
 |[],[],_=>rfl
 |[],_::_,h=>h.elim
 |_::_,[],h=>h.elim
 |_::ms,_::os,h=>by simp[rY.len h.2]
def rY.get{own:ac a4}:∀{ms:ac Nat} {os:ac a4},rY f own ms os->∀{k:Nat} {U:a4},os[k]? =some U->∃m cy,ms[k]? =some m/\own[m]? =some cy/\km f U cy
 |[],[],_,_,_,h=>by simp at h
 |[],_::_,h,_,_,_=>h.elim
 |_::_,[],h,_,_,_=>h.elim
 |m::ms,U::os,⟨⟨cy,aF,aL⟩,g⟩,0,q,h=>by simp at h;subst h;exact⟨m,cy,j,aF,aL⟩
 |m::ms,U::os,⟨_,g⟩,k+1,q,h=>rY.get g<|by simpa using h
def pinned:Nat->ac Nat->Nat->Bool
 |0,_,_=>true
 |n+1,m::f,k=>Nat.beq m k&&pinned n f (k+1)
 |_+1,[],_=>false
theorem KC:∀{n:Nat} {f:ac Nat} {k:Nat},pinned n f k=true->∀i,i<n->f[i]? =some (k+i)
 |0,_,_,_,i,h=>by omega
 |n+1,[],k,h,_,_=>by cases h
 |n+1,m::f,k,h,i,af=>by
  have h:(Nat.beq m k&&pinned n f (k+1))=true:=h;rw[cO]at h;cases i with
  |zero=>simp[dM h.1]
  |succ i=>rw[show k+(i+1)=(k+1)+i by omega];simpa using KC h.2 i R
structure Sub(p:Nat)(f:ac Nat)(s t:cl):Prop where
 cT:f.Nodup
 n:t.n=f.length
 own:rY f s.own f t.own
 env:pE f t.env s.env
 Q6:pinned p f 0=true
section
variable{H:bh}{ids:ac Nat}{st:aj}{o:aJ}{s t:cl}{f:ac Nat}
variable{U cy:a4}{p:Nat}
theorem aem{gg:be bz}(h:km f U cy)(d:mD H ids cy gg):mD H (pick f ids) U gg:=by
 cases U with
 |c el cs=>cases h;obtain⟨ad,e,d⟩:=d;exact⟨ad,e,uq f cs d⟩
 |a el aU z α ai l=>
  obtain⟨h,hp⟩:=h;cases h;obtain⟨ad,j,A,d⟩:=d;exact⟨ad,j,A,λi x B=>uq f _<|by grind⟩
 |g p=>cases h;exact d
 |x=>trivial
def km.live(h:km f U cy)(aD:U.live=true):cy.live=true:=by
 cases U with
 |c el cs=>cases h;rfl
 |a el aU z α ai l=>cases h.1;rfl
 |g p=>cases h;rfl
 |x=>cases aD
def Sub.fit(h:Sub p f s t)(D:Fit H ids st s.own s.n):Fit H (pick f ids) st t.own t.n:=by
 have C:∀{k m:Nat},f[k]? =some m->(∃U,s.own[m]? =some U)->∃b,ids[m]? =some b/\(pick f ids)[k]? =some b:=λ{k m} A ⟨U,W⟩=>by
  have aT:=(dN.1 W).1;have af:m<ids.length:=by rw[D.len,<-D.cV];exact aT
  exact⟨_,a0 af,uo A<|a0 af⟩
 have I:∀k m:Nat,f[k]? =some m->∃U,s.own[m]? =some U:=λk m A=>by
  have T:=h.own.len;have aT:=(dN.1 A).1;obtain⟨Z,cy,B,g,_⟩:=h.own.get<|a0 (show k<t.own.length by omega);rw[A]at B;cases B;exact⟨cy,g⟩
 have R:(pick f ids).length=f.length:=by simp[pick]
 refine⟨D.wf,D.le,by rw[h.n,h.own.len],by rw[h.n,R],?_,?_,?_⟩
 ·rw[List.Nodup,kP];intro i J af O a';rw[R]at af O;obtain⟨b,B,g⟩:=C (a0 af)<|I _ _<|a0 af;obtain⟨c,E,F⟩:=C (a0 O)<|I _ _<|a0 O;have V:=(dN.1 g).2;have Y:=(dN.1 F).2;rw[V,Y];intro e;subst e;have L:=dN.1 B;have G:=dN.1 E;have:=(vs D.cT).1<|L.2.trans G.2.symm;have:=(vs h.cT).1 this;omega
 ·intro b N;obtain⟨k,A⟩:=vt.1 N;have aT:=(dN.1 A).1;rw[R]at aT;obtain⟨c,B,g⟩:=C (a0 aT)<|I _ _<|a0 aT;rw[A]at g;cases g;exact D.lt _<|hg B
 ·intro k U b A N;obtain⟨m,cy,B,g,E⟩:=h.own.get A;obtain⟨c,F,S⟩:=C B ⟨cy,g⟩;rw[N]at S;cases S;obtain⟨L,G⟩:=D.own m cy b g F;exact⟨aem E L,λT=>G<|E.live T⟩
def Sub.Fq(h:Sub p f s t)(D:cN o H ids s.env):cN o H (pick f ids) t.env:=⟨D.pl,λJ a g=>J5 f a<|D.get J _<|h.env.get g⟩
def Sub.bZ{a5:bh}{i0:ac Nat}{au:aj}(h:Sub i0.length f s t)(D:Fit H ids st s.own s.n)(j:cQ a5 i0 au H ids st):cQ a5 i0 au H (pick f ids) st:=by
 refine⟨j.hle,j.hold,j.eF,j.ae,?_,?_⟩
 ·intro k b g;have aT:=(dN.1 g).1;have:=KC h.Q6 k aT;rw[iE]at this;exact uo this<|j.jy k b g
 ·intro b E;obtain⟨k,g⟩:=vt.1 E;unfold pick at g;rw[vr]at g;cases A:f[k]? with
  |none=>rw[A]at g;cases g
  |some m=>
   rw[A]at g;have g:some ((ids[m]?).getD 0)=some b:=g;have G:=h.own.len;have aT:=(dN.1 A).1;obtain⟨F,cy,B,C,_⟩:=h.own.get<|a0 (show k<t.own.length by omega);rw[A]at B;cases B;have af:m<ids.length:=by rw[D.len,<-D.cV];exact(dN.1 C).1
   rw[a0 af]at g;cases g;exact j.new _<|dx af
end
section
variable{aq:eX}{K:ac dH}{s t:cl}{f:ac Nat}
def qC.sub{Q j:c1->cl->Prop}{x:c1}{o:aJ}{st:aj}(cz:∀s,Q x s->∃f t,Sub aq.i0.length f s t/\j x t)(h:qC aq Q x o st):qC aq j x o st:=by
 obtain⟨H,ids,s,B,g,C,h⟩:=h;obtain⟨f,t,cv,A⟩:=cz s h;exact⟨H,_,t,cv.bZ g B,cv.fit g,cv.Fq C,A⟩
def Fs{c:dk}(f:ac Nat)(t:cl)(h:Sub aq.i0.length f s t)(k:b5.ok aq ⟨K,.c c,t⟩):b5.ok aq ⟨K,.c c,s⟩:=λH ids st o j g A=>k H _ st o (h.bZ g j) (h.fit g)<|h.Fq A
def ly(p:Nat){L:Type _}(P:L->Prop)(T:L->cl)(s:cl):Prop:=∃f l,P l/\Sub p f s (T l)
variable{e:bU}{a:ag}{aB p:Nat}{c:bd}
def KD{L:Type _}{a b:dk}(P:L->Prop)(T:L->cl)(aF:b5.ok aq ⟨.b1 (ly aq.i0.length P T)::K,.c a,s⟩)(aL:∀l,P l->b5.ok aq ⟨K,.c b,T l⟩):b5.ok aq ⟨K,.c<|.seq a b,s⟩:=
 aek _ aF λ_ ⟨f,l,hp,cv⟩=>Fs f _ cv<|aL l hp
def eu{L:Type _}{b:dk}(P:L->Prop)(T:L->cl)(j:L->Nat)(f0:ac Nat)(D:L)(S:P D)(hm:j D<aq.bb)(bX:Sub aq.i0.length f0 s (T D))
 (h:∀l,P l->b5.ok aq ⟨.b1 (ly aq.i0.length (λbp=>j bp<j l/\P bp) T)::K,.c b,T l⟩):b5.ok aq ⟨K,.c<|.loop b,s⟩:=
 ael (λl s=>P l/\∃f,Sub aq.i0.length f s<|T l) j D ⟨S,f0,bX⟩ hm λl A ⟨hp,f,cv⟩=>Fs f _ cv (by
  refineλH ids st o C G E=>(h l hp H ids st o C G E).mono ?_;rintro x Z ak ⟨B,I,A,O,N,R,g⟩;refine⟨B,I,A,O,N,R,?_⟩;cases x with
  |norm=>obtain⟨Y,bp,⟨V,W⟩,F⟩:=g;exact⟨bp,V,W,Y,F⟩
  |exit i=>exact g
  |ret=>exact g
  |aR v=>exact g)
def bW{L:Type _}{P:L->Prop}{T:L->cl}(f:ac Nat)(l:L)(j:P l)(h:Sub p f s (T l)):b5.ok aq ⟨.b1 (ly p P T)::K,.x .norm,s⟩:=⟨f,l,j,h⟩
def an{e:c1}(h:aq.Q e s):b5.ok aq ⟨[],.x e,s⟩:=h
def oA{o:aJ}{H:bh}{ids:ac Nat}{t:Nat}{b:ag}(h:dp e t=some a)(ah:∀H ids v,den H a ids v->den H b ids v)(D:cN o H ids e):cN o H ids ((t,b)::e):=⟨D.pl,λJ c g=>by
 rw[lW]at g;cases A:Nat.beq t J with
 |true=>rw[A]at g;cases g;rw[<-dM A];exact ah _ _ _ (D.get t _ h)
 |false=>rw[A]at g;exact D.get J c g⟩
def bd.m3:bd->Bool
 |.x _=>true
 |_=>false
def aP(t:Nat)(b:ag){own:ac a4}(h:dp e t=some a)(D:a=b)(bG:eQ aq K c own aB ((t,b)::e))(aS:c.m3=false:=by rfl):eQ aq K c own aB e:=by
 subst D;cases c with
 |c c=>exactλH ids st o j A g=>bG H ids st o j A (oA h (λ_ _ _ d=>d) g)
 |U l=>exactλH ids st o j A g=>bG H ids st o j A (oA h (λ_ _ _ d=>d) g)
 |x e=>cases aS
 |d l bf a7 aX b0=>exactλfi C H ids st o gh cv j A g B=>bG fi C H ids st o gh cv j A (oA h (λ_ _ _ d=>d) g) B
def ix(t:Nat)(b:ag){own:ac a4}(h:dp e t=some a)(D:bJ a b)(bG:eQ aq K c own aB ((t,b)::e))(aS:c.m3=false:=by rfl):eQ aq K c own aB e:=by
 cases c with
 |c c=>exactλH ids st o j A g=>bG H ids st o j A (oA h D g)
 |U l=>exactλH ids st o j A g=>bG H ids st o j A (oA h D g)
 |x e=>cases aS
 |d l bf a7 aX b0=>exactλfi C H ids st o gh cv j A g B=>bG fi C H ids st o gh cv j A (oA h D g) B
def dD(t:Nat)(b:ag){own bf:ac a4}{aX b0:Nat}{a7:bU}{l:ac (bm×cr)}(h:dp e t=some a)(bX:dp a7 t=some a)(D:a=b)(bG:dy aq K l bf ((t,b)::a7) aX b0 own aB ((t,b)::e)):dy aq K l bf a7 aX b0 own aB e:=by
 subst D;exactλfi C H ids st o gh cv A B j g=>bG fi C H ids st o gh cv A B (oA h (λ_ _ _ d=>d) j) ⟨g.len,g.hle,(oA bX (λ_ _ _ d=>d) ⟨j.pl,g.dT⟩).get,g.pB,g.wC,g.bf,g.hj,g.top⟩
def m4{own:ac a4}{n:Nat}{kA:bU}(h:pE [] kA e)(hp:pinned p [] 0=true:=by rfl):Sub p [] ⟨own,n,e⟩ ⟨[],0,kA⟩:=⟨oc,j,aC,h,hp⟩
end
section
variable{aq:eX}{K:ac dH}{own bo:ac a4}{aB cR:Nat}{e:bU}
variable{U:c7}{l:ac bm}{a:ag}
def eL{d:Tmp}(h:fj aq.call U ⟨own,aB,e⟩ a bo cR)(k:cI aq K l bo cR ((d,a)::e)):gx aq K d U l own aB e:=wD h k
def aen(h:fj aq.call U ⟨own,aB,e⟩ a bo cR)(k:cI aq K l bo cR e):cI aq K (⟨none,U,none⟩::l) own aB e:=wD h k
end
section
variable{call:bM}{s:cl}{x y i:ce}{a b:ag}
variable{z J k:Nat}{α:Type}{el:co}{aU:Bool}{q:Nat}{H:bh}{ids:ac Nat}{m:Nat}{aN:ac ag}{l:ac α}{w:α}
def jM{U:c7}(h:∀H ids st o,Fit H ids st s.own s.n->cN o H ids s.env->∃v,den H a ids v/\bw call U o st= .ok v o st):fj call U s a s.own s.n:=λH ids st o g A=>
 let⟨v,C,D⟩:=h H ids st o g A
 ⟨v,st,ids,H,D,g,C,cF.refl _,cf.refl _,λ_ _ _ B=>B,cn _,λ_ _ _=>j⟩
def Q7{U n c:Nat}{bG:f6}(D:a6 s.env x=some (.aK k z U n c))(af:a6 s.env i=some (.i bG (J:Int)))(ba:J<n):fj call (.h3 z x i) s (.fk k z (U+J) 0) s.own s.n:=jM λH ids st o C g=>by
 obtain⟨b,A,B⟩:=g.ar D;have h:=g.ar af;exact⟨_,⟨b,A,by rw[e2,oZ]⟩,BA B h ba⟩
theorem KE{ai:α->ac ag}{q:α}{bG:f6}(D:a6 s.env x=some (.cU z α ai l))(af:a6 s.env i=some (.i bG (J:Int)))(ba:l[J]? =some q):fj call (.h3 z x i) s (.ip<|ai q) s.own s.n:=jM λH ids st o G g=>by
 have B:=g.ar af;have aT:=(dN.1 ba).1;rcases g.ar D with⟨h,_⟩|⟨b,U,c,ad,el,bT,aU,F,I,A,E⟩
 ·subst h;simp at aT
 ·refine⟨_,⟨b,U+J*z,ad,el,bT,aU,j,A,?_⟩,BA F B aT⟩;have C:=E J q ba;have h:=gd C
  grind
def oD{st:aj}{ai:α->ac ag}(j:Fit H ids st s.own s.n)(ax:s.own[k]? =some (.a el aU z α ai l)){b:Nat}(aA:ids[k]? =some b):∃ad,st.h.get b=some (.cells ad el (0,0) aU)/\ad.length=l.length*z/\∀i x,l[i]? =some x->cB H (ai x) ids ((ad.drop<|i*z).take z):=(j.own k _ b ax aA).1
theorem aeo{ai:α->ac ag}(D:a6 s.env x=some (.fk k z J q))(ax:s.own[k]? =some (.a el aU z α ai l))(ba:l[J]? =some w)(cz:(ai w)[q]? =some a):fj call (.h2 x) s a s.own s.n:=jM λH ids st o A g=>by
 obtain⟨b,E,F⟩:=g.ar D;obtain⟨ad,h,G,C⟩:=oD A ax E;obtain⟨v,I,B⟩:=sL (C J w ba) cz;refine⟨v,B,yW F h ?_⟩
 grind
def aep{ai:α->ac ag}{cs:ac ag}(D:a6 s.env x=some (.fk k z J q))(ax:s.own[k]? =some (.a el aU z α ai l))(ba:l[J]? =some w)(cz:qB (ai w) q m (λl=>some l)=some cs):fj call (.mi m x) s (.agg cs) s.own s.n:=jM λH ids st o E B=>by
 obtain⟨b,G,I⟩:=B.ar D;obtain⟨ad,C,O,F⟩:=oD E ax G;have g:=F J w ba;obtain⟨L,N⟩:=wz cz;cases N;have h:=rV m<|m0 q g;have A:=gd g;rw[iF]at A;rw[k7]at L;have e:((List.take z<|List.drop (J*z) ad).drop q).take m=(ad.drop<|J*z+q).take m:=by
  rw[z8,p3,xR,jF R]
 rw[e]at h;refine⟨_,⟨_,j,h⟩,BG I C ?_⟩;rw[k7]at A⊢;omega
def aeq{v:bv}(h:sN a=some aN)(aS:py aN=true)(d:den H a ids v):cB H aN ids (hB v)/\gV (hB v)=true:=by
 obtain⟨_,g⟩:=Fh h d;exact⟨g,BC aS g⟩
theorem aer{ad ws:ac bv}(i:Nat)(D:(J+1)*z<=ad.length)(cz:q+ws.length<=z):
 ((ad.take (J*z+q)++(ws++ad.drop (J*z+q+ws.length))).drop<|i*z).take z=if i=J then((ad.drop<|J*z).take z).take q++(ws++((ad.drop<|J*z).take z).drop (q+ws.length))else(ad.drop<|i*z).take z:=by
 rw[e2]at D;apply p0;intro p;rw[n7,oa];by_cases hp:p<z
 ·rw[aE hp];have get:∀m,(ad.take (J*z+q)++(ws++ad.drop (J*z+q+ws.length)))[m]? =if m<J*z+q then ad[m]? else if m<J*z+q+ws.length then ws[m-(J*z+q)]? else ad[m]? :=by
   intro m;by_cases g:m<J*z+q
   ·rw[aE g,sk dA,n7,aE g]
   ·rw[vu dA,iF,jF R]
    grind
  rw[get];by_cases A:i=J
  ·subst A;rw[aE j];by_cases g:p<q
   ·grind
   ·rw[aw R,vu dA];have e:(((ad.drop<|i*z).take z).take q).length=q:=by simp;omega
    by_cases B:p<q+ws.length
    ·rw[aE R,sk R];congr 1;omega
    ·rw[aw R,vu R,oa,n7,aE R,oa];congr 1;omega
  ·rw[aw A,n7,aE hp,oa];have:i*z+p<J*z\/J*z+z<=i*z+p:=by
    rcases Nat.lt_or_gt_of_ne A with h|h
    ·left;have:(i+1)*z<=J*z:=hA z h;rw[e2]at this;omega
    ·right;have:(J+1)*z<=i*z:=hA z h;rw[e2]at this;omega
   rcases this with h|h
   ·rw[aE R]
   ·rw[aw R,aw R]
 ·rw[aw hp]
  symm
  split
  ·simp;omega
  ·simp;omega
theorem Q8{ai:α->ac ag}(w':α)(D:a6 s.env x=some (.fk k z J q))(I:a6 s.env y=some a)(aS:sN a=some aN)(aD:aN.length=m)(Y:py aN=true)
 (ax:s.own[k]? =some (.a el aU z α ai l)) (ba:l[J]? =some w) (O:ai w'=(ai w).take q++(aN++(ai w).drop (q+aN.length))) (a':q+m<=z):
 fj call (.store m x y) s (.bq []) (s.own.set k<|.a el aU z α ai<|l.set J w') s.n:=λH ids st o C A=>by
 obtain⟨b,g,W⟩:=A.ar D;obtain⟨ad,L,G,V⟩:=oD C ax g;obtain⟨E,S⟩:=aeq aS Y<|A.ar I;have ab:=gd E;have aT:=(dN.1 ba).1;have F:(J+1)*z<=ad.length:=by rw[G];exact hA z aT
 have N:=F;rw[e2]at N;refine⟨undef,⟨st.h.set b<|.cells (ad.take (J*z+q)++(hB (o.ar y)++ad.drop (J*z+q+(hB<|o.ar y).length))) el (0,0) aU,st.ae⟩,ids,H,?_,C.eO ax j g ⟨_,j,?_,?_⟩,⟨[],j,j⟩,cF.refl _,cf.refl _,λ_ _ _ B=>B.eO (hg g) _,cn _,?_⟩
 ·have:bw call (.store m x y) o st=hi (o.ar x) (λp=>bn p (λa=>dz (du<|hB<|o.ar y) m (cond (gV<|hB<|o.ar y) (st.store a (hB<|o.ar y) (λst=>a1.ok undef o st) .no) .no) .no) .no) .no:=rfl;rw[this,W,kZ,Sym.eg,eP,ig R,S,cond_true];unfold aj.store aj.fM;rw[Sym.hU,L,kl,ga<|cn _,pf,aE<|by grind,iH]
 ·grind
 ·intro i p hp;rw[aer i F R];rw[o0]at hp;by_cases Z:J=i
  ·subst Z;rw[aE j,aE aT]at hp;cases hp;rw[aE j,O];exact Kp q (V J w ba) E
  ·grind
 ·intro aa _ T;exact ao.fa _ _ λe=>T k (by simp[g0,D])<|e▸g
theorem Q9{ai:α->ac ag}(w':α)(D:a6 s.env x=some (.fk k 1 J 0))(E:a6 s.env y=some a)(ax:s.own[k]? =some (.a el aU 1 α ai l))(F:ai w'=[a])(ba:J<l.length)(aS:qz a=true)(aF:∀w,(ai w).length=1):
 fj call (.store 1 x y) s (.bq []) (s.own.set k<|.a el aU 1 α ai<|l.set J w') s.n:=by
 refine Q8 w' D E (aN:=[a]) ?_ j ?_ ax (a0 ba) ?_ al
 ·cases a<;>first|rfl|cases aS|(show(match qz _ with|true=>_|false=>_)=_;rw[aS])
 ·show(qz a&&true)=true;rw[aS];rfl
 ·grind
end
set_option maxRecDepth 10000
section
variable{call:bM}{s:cl}{x y i:ce}{a b:ag}
def ja(H:bh)(ids:ac Nat){α:Type}(ai:α->ac ag)(z:Nat)(l:ac α)(ad:ac bv):Prop:=ad.length=l.length*z/\∀i x,l[i]? =some x->cB H (ai x) ids ((ad.drop<|i*z).take z)
variable{α:Type}{z:Nat}{H:bh}{ids:ac Nat}{ad:ac bv}{l:ac α}
def wH(H:bh)(ids:ac Nat)(ai:α->ac ag)(z:Nat):ja H ids ai z [] []:=⟨av,λi x h=>by simp at h⟩
theorem rZ{ai:α->ac ag}{m:ac α}{ws:ac bv}(h:ja H ids ai z l ad)(j:ja H ids ai z m ws):ja H ids ai z (l++m) (ad++ws):=by
 refine⟨by rw[kz,kz,h.1,j.1,e2],λi x g=>?_⟩;by_cases af:i<l.length
 ·rw[sk af]at g;have A:=h.2 i x g;have hle:(i+1)*z<=ad.length:=by rw[h.1];exact hA z af
  grind
 ·rw[vu R]at g;have A:=j.2 _ x g;have e:i*z=ad.length+(i-l.length)*z:=by rw[h.1,<-e2];congr 1;omega
  simp_all
def Ft{ai:α->ac ag}(h:ja H ids ai z l ad)(n:Nat)(ah:n<=l.length):ja H ids ai z (l.take n) (ad.take<|n*z):=by
 have j:=hA z ah;refine⟨by rw[iF,iF,h.1,jF j,jF ah],λi x g=>?_⟩;rw[n7]at g;split at g
 ·rename_i af;have hle:(i+1)*z<=n*z:=hA z af;rw[e2]at hle;rw[z8,xR,jF R];exact h.2 i x g
 ·cases g
def y2{ai:α->ac ag}(h:ja H ids ai z l ad)(n:Nat):ja H ids ai z (l.drop n) (ad.drop<|n*z):=by
 refine⟨by rw[k7,k7,h.1,Nat.sub_mul],λi x g=>?_⟩;rw[oa]at g;rw[p3,<-e2];exact h.2 _ x g
def BQ{ai:α->ac ag}{w:α}(h:cB H (ai w) ids ad)(j:(ai w).length=z):ja H ids ai z [w] ad:=by
 have A:=gd h;refine⟨by simp;omega,λi x g=>?_⟩;cases i with
 |zero=>simp at g;subst g;rw[jk,iQ,iG R];exact h
 |succ i=>simp at g
theorem Ra{H:bh}{ids:ac Nat}{α:Type}{ai:α->ac ag}{w:α}{j:ac bv}(h:cB H (ai w) ids j):∀n,ja H ids ai j.length (List.replicate n w) (qe j n)
 |0=>wH _ _ _ _
 |n+1=>by
  have e:qe j (n+1)=j++qe j n:=by show fe j (qe j n)=_;rw[qn]
  rw[e];exact rZ (BQ h<|by rw[gd h])<|Ra h n
theorem KF{H:bh}{ids:ac Nat}{α:Type}{ai:α->ac ag}{z:Nat}(j:∀w,(ai w).length=z):∀{l:ac α} {ad:ac bv},cB H (l.flatMap ai) ids ad->ja H ids ai z l ad
 |[],ad,d=>by cases d;exact wH _ _ _ _
 |w::l,ad,d=>by
  rw[tx]at d;have aF:=rV z d;have g:=m0 z d;rw[HX<|j w]at aF;rw[Da<|j w]at g;rw[<-ob z ad];exact rZ (BQ aF<|j w)<|KF j g
def mk{el:co}{dE n c:Nat}{D:ac bv}{k gw:f6}(ai:α->ac ag)(w:α)(E:a6 s.env x=some (.i k (n:Int)))(G:a6 s.env y=some (.i gw (c:Int)))(F:D.length=z)(I:yS D=ai w)(ah:n<=c)(aS:c*(dE+1)<=1099511627776):
 fj call (.rk el dE D x y) s (.aK s.n z 0 n c) (s.own++[.a el false z α ai<|List.replicate c w]) (s.n+1):=λH ids st o h g=>by
 have L:=g.ar E;have N:=g.ar G;subst F;have A:=wx H (ids++[st.ae]) D;rw[I]at A;have C:=Ra A c;refine⟨_,_,_,H,?_,h.add ⟨_,j,C.1,C.2⟩,⟨st.ae,by rw[<-h.len];simp,j⟩,cF.refl _,cf.app _ _,λ_ _ _ B=>B.add _,k9 _,λb O _=>sO O⟩;show AH el dE D x y call o st=_;unfold AH;rw[L,N,mB,mB,pv,pv,ga ah,ga (show Nat.mul c (Nat.succ dE)<=2^40 from aS),gF,jk]
def nO(s:cl)(x:ce){α:Type}(ai:α->ac ag)(z:Nat)(l:ac α):Prop:=∀(H:bh) (ids:ac Nat) (st:aj) (o:aJ),Fit H ids st s.own s.n->cN o H ids s.env->
 (l=[]/\∃c,o.ar x= .slice none 0 c)\/∃b U c ad el bT aU,o.ar x= .slice (some ⟨b,U,none⟩) l.length c/\st.h.get b=some (.cells ad el bT aU)/\l.length*z<=(ad.drop U).length/\ja H ids ai z l ((ad.drop U).take<|l.length*z)/\gV ((ad.drop U).take<|l.length*z)=true
variable{U:Nat}
theorem Rb:∀(ad:ac bv) (n:Nat),gV ad=true->gV (ad.take n)=true
 |[],n,_=>by simp[gV]
 |v::ad,0,_=>rfl
 |v::ad,n+1,h=>by
  have h:cond (ml v) (gV ad) false=true:=h;show cond (ml v) (gV<|ad.take n) false=true;cases g:ml v with
  |false=>rw[g]at h;cases h
  |true=>rw[g]at h;exact Rb ad n h
theorem Rc:∀(ad ws:ac bv),gV ad=true->gV ws=true->gV (ad++ws)=true
 |[],ws,_,h=>h
 |v::ad,ws,h,j=>by
  have h:cond (ml v) (gV ad) false=true:=h;show cond (ml v) (gV<|ad++ws) false=true;cases g:ml v with
  |false=>rw[g]at h;cases h
  |true=>rw[g]at h;exact Rc ad ws h j
def aes{k n c:Nat}{el:co}{cs:ac ag}{ai:α->ac ag}(l:ac α)(D:a6 s.env x=some (.aK k z U l.length c))(F:U=0)(ax:s.own[k]? =some (.c el cs))(j:cs=l.flatMap ai)(E:∀w,(ai w).length=z)(aS:py cs=true)(ah:l.length=n):nO s x ai z l:=by
 intro H ids st o C A;subst F;obtain⟨b,I,h⟩:=A.ar D;obtain⟨⟨ad,B,d⟩,_⟩:=C.own k _ b ax I;rw[j]at d;have g:=KF E d;have G:=BC (j▸aS) d;rw[jk]at h;refine .inr ⟨b,0,c,ad,el,_,_,h,B,by simp[g.1],?_,Rb _ _<|by simpa using G⟩;rw[iQ,iG<|by rw[g.1];exact cn _];exact g
theorem aet{ai:α->ac ag}(j:∀w,(ai w).length=z):∀{l:ac α},(∀i x,l[i]? =some x->cB H (ai x) [] ((ad.drop<|U+i*z).take z))->∀n,n<=l.length->n*z<=(ad.drop U).length/\ja H [] ai z (l.take n) ((ad.drop U).take<|n*z):=by
 intro l h n
 induction n with
 |zero=>intro _;exact⟨av,by simpa using wH _ _ _ _⟩
 |succ n B=>
  intro ah;obtain⟨D,C⟩:=B R;have A:l[n]? =some l[n]:=a0 R;have g:=h n _ A;have E:=gd g;have hle:(n+1)*z<=(ad.drop U).length:=by
   grind
  refine⟨hle,?_⟩;rw[kd R];have e:(ad.drop U).take ((n+1)*z)=(ad.drop U).take (n*z)++(ad.drop<|U+n*z).take z:=by
   rw[e2,vv,List.take_add,p3]
  rw[e];exact rZ C<|BQ g<|j _
def Fu{D:bh}{i J:ac Nat}(cA:cF H D)(af:cf i J){ai:α->ac ag}(h:ja H i ai z l ad):ja D J ai z l ad:=⟨h.1,λk x g=>lx cA _ af<|h.2 k x g⟩
theorem KG{H:bh}{ids:ac Nat}{α:Type}{ai:α->ac ag}{z:Nat}(D:∀w,(ai w).length=z)(aS:∀w,py (ai w)=true):∀{l:ac α} {ad:ac bv},ja H ids ai z l ad->gV ad=true
 |[],ad,h=>by
  have:=nr (by rw[h.1];simp);subst this;rfl
 |w::l,ad,h=>by
  rw[<-ob z ad];have g:=h.2 0 w av;rw[jk]at g;have j:=y2 h 1;rw[vv]at j;exact Rc _ _ (BC (aS w) g)<|KG D aS j
def Fv{ai:α->ac ag}(D:a6 s.env x=some (.cU z α ai l))(j:∀w,(ai w).length=z)(aS:∀w,py (ai w)=true):nO s x ai z l:=by
 intro H ids st o C B;rcases B.ar D with⟨G,h⟩|⟨b,U,c,ad,el,bT,aU,h,I,A,E⟩
 ·exact .inl ⟨G,0,h⟩
 ·obtain⟨F,g⟩:=aet j E l.length<|cn _;rw[o1]at g;exact .inr ⟨b,U,c,ad,el,bT,aU,h,C.le _ _ A,F,Fu (cF.refl _) (cf.nil _) g,KG j aS g⟩
def uv(call:bM)(el:co)(dE:Nat)(s:cl)(y:ce){α:Type}(ai:α->ac ag)(z:Nat)(l:ac α):Prop:=∀(H:bh) (ids:ac Nat) (st:aj) (o:aJ),Fit H ids st s.own s.n->cN o H ids s.env->∀(x:ce) (p:be Addr) (n c:Nat),o.ar x= .slice p n c->
 ∃new,ja H ids ai z l new/\gV new=true/\bw call (.app el z dE x y) o st=jn o st el z dE p n c l.length new
variable{b2 dE:Nat}{el:co}{k n c:Nat}{m:ac α}
def wI{ai:α->ac ag}(cv:nO s y ai b2 l):uv call el dE s y ai b2 l:=λH ids st o F D x p n c B=>by
 have e:bw call (.app el b2 dE x y) o st=hE (o.ar x) (λbase len g=>hE (o.ar y) (λb n _=>bn b (λb=>st.load b (Nat.mul n b2) (λnew=>cond (gV new) (jn o st el b2 dE base len g n new) .no) .no)<|dz n 0 (jn o st el b2 dE base len g 0 []) .no)<|rr (o.ar y) (jn o st el b2 dE base len g 0 [])<|hD (o.ar y) (λs=>dz b2 1 (jn o st el b2 dE base len g (du s.data.toList)<|mW s.data.toList) .no) .no) .no:=rfl;rw[e,B,ps];rcases cv H ids st o F D with⟨rfl,G,h⟩|⟨b,U,G,ad,L,bT,aU,h,I,E,C,A⟩
 ·refine⟨[],wH _ _ _ _,j,?_⟩;rw[h,ps,Sym.hU,ig j];rfl
 ·refine⟨_,C,A,?_⟩;rw[h];show st.load ⟨b,U,none⟩ (l.length*b2) _ _=_;unfold aj.load aj.fM;rw[I,kl,rW E,A];rfl
def KH{ai:α->ac ag}(D:a6 s.env x=some .nl)(cv:uv call el dE s y ai b2 l)(bX:l≠[])(aA:(5*l.length+1792)*(dE+1)<=1125899906842624):
 fj call (.app el b2 dE x y) s (.aK s.n b2 0 l.length l.length) (s.own++[.a el true b2 α ai l]) (s.n+1):=λH ids st o g h=>by
 obtain⟨new,E,F,C⟩:=cv H ids st o g h x _ _ _<|h.ar D;have A:=Fu (cF.refl H) (cf.app ids [st.ae]) E;have G:=o2.2 bX;refine⟨_,_,_,H,?_,g.add ⟨_,j,A.1,A.2⟩,⟨st.ae,by rw[<-g.len];simp,j⟩,cF.refl _,cf.app _ _,λ_ _ _ B=>B.add _,k9 _,λb aA _=>sO aA⟩;rw[C];unfold jn;simp only[Aa,Ab,iE];rw[ga<|aA,Sym.hU,ig j,ig j,pt R,gF,jk]
def KI{ai:α->ac ag}(D:a6 s.env x=some (.aK k b2 0 n c))(ax:s.own[k]? =some (.a el true b2 α ai l))(cv:uv call el dE s y ai b2 m)(bX:m≠[])(ah:n<=l.length)(T:n<=c)(aS:c<=l.length)(aA:(5*(n+m.length)+1792)*(dE+1)<=1125899906842624):
 fj call (.app el b2 dE x y) s (.aK s.n b2 0 (n+m.length)<|n+m.length) (s.own.set k .x++[.a el true b2 α ai<|l.take n++m]) (s.n+1):=λH ids st o g C=>by
 obtain⟨b,A,F⟩:=C.ar D;obtain⟨ad,a2,cD,cX⟩:=oD g ax A;obtain⟨new,N,Y,G⟩:=cv H ids st o g C x _ _ _ F;have Z:=o2.2 bX;have S:Fit H ids ⟨st.h.set b .dead,st.ae⟩ (s.own.set k .x) s.n:=g.eO ax j A aC;have O:=rZ (Ft ⟨cD,cX⟩ n ah) N;have E:=Fu (cF.refl H) (cf.app ids [st.ae]) O;have V:=hA b2 aS;have W:=hA b2 ah;refine⟨.slice (some ⟨st.ae,0,none⟩) (n+m.length)<|n+m.length,_,_,H,?_,S.add ⟨_,j,E.1,E.2⟩,⟨st.ae,by rw[<-g.len];simp,by rw[jk]⟩,cF.refl _,cf.app _ _,λ_ _ _ B=>(B.eO (hg A) .dead).add _,k9 _,?_⟩
 ·rw[G];unfold jn aj.fM;simp only[Aa,Ab,Sym.eg,Sym.hU,a2,kl,jk];rw[ga<|aA,ga<|cn _,ga T,ga<|by rw[eP,cD];omega,ig j,pt R,cond_true,rW dA,iH,gF,qn,iQ]
 ·intro L a' I;show((st.h.set b .dead).set st.ae _).get L=_;rw[ao.fa _ _ R];exact ao.fa _ _ λe=>I k (by simp[g0,D])<|e▸A
def aeu{ai:α->ac ag}(D:a6 s.env x=some (.aK k b2 0 n c))(ax:s.own[k]? =some (.a el false b2 α ai l))(cv:uv call el dE s y ai b2 m)(bX:m≠[])(ah:n+m.length<=c)(aS:c<=l.length)(aA:(5*(n+m.length)+1792)*(dE+1)<=1125899906842624):
 fj call (.app el b2 dE x y) s (.aK k b2 0 (n+m.length) c) (s.own.set k<|.a el false b2 α ai<|l.take n++(m++l.drop (n+m.length))) s.n:=λH ids st o h A=>by
 obtain⟨b,g,G⟩:=A.ar D;obtain⟨ad,a2,cD,cX⟩:=oD h ax g;obtain⟨new,C,S,I⟩:=cv H ids st o h A x _ _ _ G;have T:=o2.2 bX;have E:=rZ (Ft ⟨cD,cX⟩ n R)<|rZ C<|y2 ⟨cD,cX⟩<|n+m.length;have F:=hA b2 aS;have N:(n+m.length)*b2<=l.length*b2:=hA b2 R;have e:n*b2+new.length=(n+m.length)*b2:=by rw[C.1,e2]
 refine⟨.slice (some ⟨b,0,none⟩) (n+m.length) c,_,ids,H,?_,h.eO ax j g (gg:=.cells (ad.take (n*b2)++(new++ad.drop (n*b2+new.length))) el (0,0) false) ⟨_,j,by rw[e];exact E.1,by rw[e];exact E.2⟩,⟨b,g,by rw[jk]⟩,cF.refl _,cf.refl _,λ_ _ _ B=>B.eO (hg g) _,cn _,?_⟩
 ·rw[I];unfold jn aj.fM;simp only[Aa,Ab,Sym.eg,Sym.hU,a2,kl,jk,iE];rw[ga<|aA,ga<|cn _,ga R,ga<|by rw[eP,cD];exact F,ig j,pt R,cond_false,ga ah,pf,aE R,iH]
 ·intro O _ L;exact ao.fa _ _ λe=>L k (by simp[g0,D])<|e▸g
end
section
variable{call:bM}{s:cl}{x y i:ce}{a b:ag}
def fl(s:cl)(x:be ce)(vQ n:Nat):Prop:=
 match x with
 |none=>n=vQ
 |some x=>∃bG,a6 s.env x=some (.i bG (n:Int))
variable{p q:Nat}{bg af:be ce}{n z:Nat}{α:Type}{k:f6}{H:bh}{ids:ac Nat}{o:aJ}{m:Int}{l:ac α}
def fl.ar{x:be ce}{vQ y:Nat}(h:fl s x vQ n)(D:cN o H ids s.env)(j:n<=y)(k:Nat->a1):ff o x vQ y k=k n:=by
 cases x with
 |none=>cases h;rfl
 |some x=>
  obtain⟨bG,h⟩:=h;have h:=D.ar h;show fL (o.ar x) (λ_ n=>ht n (λn=>ek n y (k n) .no) .no) .no=_;rw[h,mB,pv,ga j]
def r0(o:aJ)(d y:Nat)(k:Nat->a1):ff o none d y k=k d:=rfl
theorem Rd{ai:α->ac ag}(E:a6 s.env x=some (.cU z α ai l))(G:fl s bg 0 p)(F:fl s af l.length q)(hp:p<=q)(cz:q<=l.length)(D:cN o H ids s.env):
 ∃v,den H (.cU z α ai<|(l.drop p).take<|q-p) ids v/\∀st:aj,(∀b U,H b=some U->st.h.get b=some U)->bw call (.ny z x bg af none) o st= .ok v o st:=by
 have C:((l.drop p).take<|q-p).length=q-p:=by simp;omega
 have e:∀st:aj,bw call (.ny z x bg af none) o st=hE (o.ar x) (λb len g=>bn b (λa=>st.fM a (λ_ _ _ aU=>cond aU (ek len g (ff o af len len λh=>ff o bg 0 h λl=>.ok (.slice (some<|a.add<|l*z) (h-l)<|g-l) o st) .no)<|ff o none g g λm=>ff o af len m λh=>ff o bg 0 h λl=>.ok (.slice (some<|dz m l a<|a.add<|l*z) (h-l)<|m-l) o st) .no)<|ff o none g g λm=>ff o af len m λh=>ff o bg 0 h λl=>.ok (.slice none (h-l)<|m-l) o st) .no:=λst=>j;rcases D.ar E with⟨ah,B⟩|⟨b,U,c,ad,el,bT,aU,B,T,A,V⟩
 ·subst ah;simp at cz;subst cz;have:p=0:=by omega
  subst this;refine⟨.slice none 0 0,.inl ⟨av,j⟩,λst _=>?_⟩;rw[e,B,ps,Sym.hU];rw[r0,fl.ar (vQ:=0) F D<|cn _,fl.ar G D<|cn _]
 ·have N:∀st:aj,(∀b U,H b=some U->st.h.get b=some U)->bw call (.ny z x bg af none) o st=cond aU (ek l.length c (ff o af l.length l.length λh=>ff o bg 0 h λl=>.ok (.slice (some<|(⟨b,U,none⟩:Addr).add<|l*z) (h-l)<|c-l) o st) .no) (ff o none c c λm=>ff o af l.length m λh=>ff o bg 0 h λl=>.ok (.slice (some (dz m l ⟨b,U,none⟩<|(⟨b,U,none⟩:Addr).add<|l*z)) (h-l)<|m-l) o st):=λst hle=>by
   rw[e,B,ps,Sym.eg];unfold aj.fM;rw[Sym.hU,hle _ _ A,kl]
  have I:∀i x,((l.drop p).take<|q-p)[i]? =some x->cB H (ai x) [] ((ad.drop<|U+p*z+i*z).take z):=λi x E=>by
   grind
  cases aU with
  |true=>
   exact⟨_,.inr ⟨b,U+p*z,c-p,ad,el,bT,true,by rw[C],R,A,I⟩,λst hle=>by rw[N st hle,cond_true,ga T,fl.ar F D cz,fl.ar G D hp,m1]⟩
  |false=>
   have L:∀st:aj,(∀b U,H b=some U->st.h.get b=some U)->bw call (.ny z x bg af none) o st= .ok (.slice (some (dz c p ⟨b,U,none⟩<|(⟨b,U,none⟩:Addr).add<|p*z)) (q-p)<|c-p) o st:=λst hle=>by
    rw[N st hle,cond_false,r0,fl.ar F D R,fl.ar G D hp]
   by_cases O:c=p
   ·have S:q=p:=by omega
    refine⟨_,.inr ⟨b,U,c-p,ad,el,bT,false,by rw[C],R,A,λi x E=>?_⟩,λst hle=>by rw[L st hle,ig O]⟩;rw[S]at E;simp at E
   ·exact⟨_,.inr ⟨b,U+p*z,c-p,ad,el,bT,false,by rw[C],R,A,I⟩,λst hle=>by rw[L st hle,pt O,m1]⟩
def Re{ai:α->ac ag}(j:a6 s.env x=some (.cU z α ai l))(E:fl s bg 0 p)(D:fl s af l.length q)(hp:p<=q)(cz:q<=l.length):
 fj call (.ny z x bg af none) s (.cU z α ai<|(l.drop p).take<|q-p) s.own s.n:=jM λH ids st o h g=>
 let⟨v,A,B⟩:=Rd j E D hp cz g
 ⟨v,A,B st h.le⟩
theorem aev{k U c:Nat}{el:co}{aU:Bool}{ai:α->ac ag}(F:a6 s.env x=some (.aK k z U n c))(ax:s.own[k]? =some (.a el aU z α ai l))(E:fl s bg 0 p)(D:fl s af n q)(hp:p<=q)(cz:q<=n)(ah:n<=c)(aS:p<c\/p=0):
 fj call (.ny z x bg af none) s (.aK k z (U+p) (q-p)<|c-p) s.own s.n:=jM λH ids st o I A=>by
 have e:bw call (.ny z x bg af none) o st=hE (o.ar x) (λb len g=>bn b (λa=>st.fM a (λ_ _ _ aU=>cond aU (ek len g (ff o af len len λh=>ff o bg 0 h λl=>.ok (.slice (some<|a.add<|l*z) (h-l)<|g-l) o st) .no)<|ff o none g g λm=>ff o af len m λh=>ff o bg 0 h λl=>.ok (.slice (some<|dz m l a<|a.add<|l*z) (h-l)<|m-l) o st) .no)<|ff o none g g λm=>ff o af len m λh=>ff o bg 0 h λl=>.ok (.slice none (h-l)<|m-l) o st) .no:=rfl;obtain⟨b,B,G⟩:=A.ar F;obtain⟨ad,a2,cD,cX⟩:=oD I ax B;refine⟨_,⟨b,B,j⟩,?_⟩;rw[e,G,ps,Sym.eg];unfold aj.fM;rw[Sym.hU,a2,kl];cases aU with
 |true=>rw[cond_true,ga ah,fl.ar D A cz,fl.ar E A hp,m1,e2]
 |false=>
  rw[cond_false];rw[r0,fl.ar D A R,fl.ar E A hp];by_cases C:c=p
  ·rw[ig C]
   grind
  ·rw[pt C,m1,e2]
def aew{l:ac ci}{J:Nat}{bG:f6}{eW:ci}(D:a6 s.env x=some (.s l))(af:a6 s.env i=some (.i bG (J:Int)))(ba:l[J]? =some eW):fj call (.tL x i) s (.i .u8 (eW.toNat:Int)) s.own s.n:=jM λH ids st o C g=>by
 have A:=g.ar D;have B:=g.ar af;refine⟨_,j,?_⟩;have e:bw call (.tL x i) o st=hD (o.ar x) (λs=>fL (o.ar i) (λ_ J=>ht J (λJ=>hQ s.data.toList J 1 (λbZ=>one bZ (λb=>.ok (.int .u8<|.ofNat b.toNat) o st) .no) .no) .no) .no) .no:=rfl;obtain⟨aT,h⟩:=dN.1 ba;rw[e,A,yM,B];show hQ l J 1 _ _=_;rw[yN R,gp aT,h];rfl
theorem aex{l:ac ci}(D:a6 s.env x=some (.s l))(F:fl s bg 0 p)(E:fl s af l.length q)(hp:p<=q)(cz:q<=l.length):fj call (.sr x bg af) s (.s<|(l.drop p).take<|q-p) s.own s.n:=jM λH ids st o B g=>by
 have A:=g.ar D;refine⟨_,j,?_⟩;have e:bw call (.sr x bg af) o st=hD (o.ar x) (λs=>ff o af (du s.data.toList) (du s.data.toList) λh=>ff o bg 0 h λl=>hQ s.data.toList l (h-l) (λbZ=>.ok (.string ⟨⟨bZ⟩⟩) o st) .no) .no:=rfl;rw[e,A,yM];rw[eP,fl.ar E g cz,fl.ar F g hp,yN<|by grind]
def aey{l m:ac ci}(D:a6 s.env x=some (.s l))(E:a6 s.env y=some (.s m))(aD:l.length+m.length<=1099511627776):fj call (.bin .add x y) s (.s<|l++m) s.own s.n:=jM λH ids st o B g=>by
 have h:=g.ar D;have A:=g.ar E;refine⟨_,j,?_⟩;rw[Bx,h,A];show ek (du l+du m) (2^40) _ _=_;rw[eP,eP,ga<|aD,qn]
def aez{n:Int}(D:a6 s.env x=some (.i k m))(E:a6 s.env y=some (.i k n))(ah:n≠0):fj call (.bin .quo x y) s (.i k<|k.wrap<|m.tdiv n) s.own s.n:=jM λH ids st o h g=>
 ⟨_,j,yQ al al (g.ar D) (g.ar E)<|by show(if n=0 then none else _)=_;rw[aw ah]⟩
def aeA{n:Int}(D:a6 s.env x=some (.i k m))(E:a6 s.env y=some (.i k n))(ah:n≠0):fj call (.bin .rem x y) s (.i k<|m.tmod n) s.own s.n:=jM λH ids st o h g=>
 ⟨_,j,yQ al al (g.ar D) (g.ar E)<|by show(if n=0 then none else _)=_;rw[aw ah]⟩
def aeB{gw:f6}{m:Nat}(j:a6 s.env x=some (.i k (m:Int)))(D:a6 s.env y=some (.i gw (n:Int)))(ah:n<=k.bits):fj call (.bin .shr x y) s (.i k ((m/2^n:Nat):Int)) s.own s.n:=jM λH ids st o B g=>by
 obtain⟨v,h,A⟩:=QO (by show(match Nat.ble n k.bits with|true=>_|false=>_)=_;rw[C0 ah]) (g.ar j)<|g.ar D;exact⟨v,h _ _,A st⟩
end
def fA(H:bh)(st:aj)(b:Nat):bh:=λc=>open Classical in if c=b then st.h.get b else H c
section
variable{H:bh}{ids:ac Nat}{st:aj}{own:ac a4}{n:Nat}
variable{k:Nat}{U:a4}
def r1{b:Nat}(j:Fit H ids st own n)(ax:own[k]? =some U)(aD:U.live=true)(aA:ids[k]? =some b):cF H (fA H st b):=λc q g=>by
 unfold fA;rw[aw]
 ·exact g
 ·intro e;rw[e,(j.own k U b ax aA).2 aD]at g;cases g
def Fit.fA{b:Nat}(D:Fit H ids st own n)(ax:own[k]? =some U)(aD:U.live=true)(aA:ids[k]? =some b):Fit (Go.bA.fA H st b) ids st (own.set k .x) n:=by
 refine⟨D.wf,?_,by simp[D.cV],D.len,D.cT,D.lt,?_⟩
 ·intro c q g;unfold Go.bA.fA at g;split at g
  ·rename_i e;rw[e];exact g
  ·exact D.le c q g
 ·intro J q c A g;rw[o0]at A;by_cases B:k=J
  ·rw[aE B]at A;split at A<;>cases A;exact⟨aC,λh=>by cases h⟩
  ·rw[aw B]at A;obtain⟨F,G⟩:=D.own J q c A g;refine⟨rX (r1 D ax aD aA) (cf.refl _) F,λI=>?_⟩;unfold Go.bA.fA;rw[aw]
   ·exact G I
   ·intro e;subst e;have E:=dN.1 aA;have C:=dN.1 g;exact B<|(vs D.cT).1<|E.2.trans C.2.symm
def cQ.fA{a5:bh}{i0:ac Nat}{au:aj}{b:Nat}(j:cQ a5 i0 au H ids st)(D:Fit H ids st own n)(ax:own[k]? =some U)(aD:U.live=true)(aA:ids[k]? =some b):cQ a5 i0 au (Go.bA.fA H st b) ids st:=by
 refine⟨j.hle.trans<|r1 D ax aD aA,?_,j.eF,j.ae,j.jy,j.new⟩;intro c g ah;unfold Go.bA.fA;rw[aw]
 ·exact j.hold c g ah
 ·intro e;subst e;rcases j.new _ (hg aA)with h|h
  ·exact ah h
  ·omega
end
section
variable{aq:eX}{K:ac dH}{own:ac a4}{aB:Nat}{e:bU}
variable{z:Nat}{el:co}{α:Type}{k U n c:Nat}{aU:Bool}{t:Nat}{p:ac bm}{cs:ac ag}{l:ac α}
def aeC{ai:α->ac ag}(bp:ac α)(I:dp e t=some (.aK k z U n c))(ax:own[k]? =some (.a el aU z α ai l))(aD:(l.drop U).take n=bp)(ah:bp.length=n)(aS:n<=c)(hp:∀x,g9 (ai x)=true)
 {H:bh} {ids:ac Nat} {st:aj} {o:aJ} (G:cQ aq.a5 aq.i0 aq.au H ids st) (D:Fit H ids st own aB) (E:cN o H ids e):
 ∃A,cQ aq.a5 aq.i0 aq.au A ids st/\Fit A ids st (own.set k .x) aB/\cN o A ids ((t,.cU z α ai bp)::e)/\cF H A:=by
 obtain⟨b,B,F⟩:=E.get t _ I;obtain⟨⟨ad,a2,cD,cX⟩,_⟩:=D.own k _ b ax B;have hle:=r1 D ax j B;refine⟨fA H st b,G.fA D ax j B,D.fA ax j B,⟨(E.mono hle<|cf.refl _).pl,λJ q h=>?_⟩,hle⟩;rw[lW]at h;cases C:Nat.beq t J with
 |false=>rw[C]at h;exact(E.mono hle<|cf.refl _).get J q h
 |true=>
  rw[C]at h;cases h;rw[<-dM C];refine .inr ⟨b,U*z,c,ad,el,(0,0),aU,by rw[ah];exact F,by rw[ah];exact aS,by unfold fA;rw[aE j];exact a2,λi x g=>?_⟩;rw[<-aD,n7]at g;split at g
  ·rw[oa]at g;rw[<-e2];exact lx hle _ (cf.refl _)<|px _ (hp x) (cX _ x g) []
  ·cases g
def Rf{ai:α->ac ag}(bp:ac α)(D:dp e t=some (.aK k z U n c))(ax:own[k]? =some (.a el aU z α ai l))(aD:(l.drop U).take n=bp)(ah:bp.length=n)(aS:n<=c)(hp:∀x,g9 (ai x)=true)
 {H:bh} {ids:ac Nat} {st:aj} {o:aJ} (j:cQ aq.a5 aq.i0 aq.au H ids st) (F:Fit H ids st own aB) (E:cN o H ids e):
 ∃g,cQ aq.a5 aq.i0 aq.au g ids st/\Fit g ids st (own.set k .x) aB/\cN o g ids ((t,.cU z α ai bp)::e):=let⟨g,A,B,h,_⟩:=aeC bp D ax aD ah aS hp j F E;⟨g,A,B,h⟩
def aeD(t:Nat){ai:α->ac ag}(bp:ac α){p:dk}(j:dp e t=some (.aK k z U n c))(ax:own[k]? =some (.a el aU z α ai l))(aD:(l.drop U).take n=bp)(ah:bp.length=n)(aS:n<=c)(hp:∀x,g9 (ai x)=true)
 (bG:eQ aq K (.c p) (own.set k .x) aB ((t,.cU z α ai bp)::e)):eQ aq K (.c p) own aB e:=λH ids st o h C A=>by
 obtain⟨g,D,E,B⟩:=Rf bp j ax aD ah aS hp h C A;exact bG g ids st o D E B
def Rg(t:Nat){ai:α->ac ag}(bp:ac α)(j:dp e t=some (.aK k z U n c))(ax:own[k]? =some (.a el aU z α ai l))(aD:(l.drop U).take n=bp)(ah:bp.length=n)(aS:n<=c)(hp:∀x,g9 (ai x)=true)
 (bG:cI aq K p (own.set k .x) aB ((t,.cU z α ai bp)::e)):cI aq K p own aB e:=λH ids st o h C A=>by
 obtain⟨g,D,E,B⟩:=Rf bp j ax aD ah aS hp h C A;exact bG g ids st o D E B
def aeE{ai:α->ac ag}(l:ac α)(ax:own[k]? =some (.c el cs))(F:cs=l.flatMap ai)(E:∀w,(ai w).length=z){H:bh}{ids:ac Nat}{st:aj}(D:Fit H ids st own aB):Fit H ids st (own.set k<|.a el false z α ai l) aB:=by
 refine⟨D.wf,D.le,by simp[D.cV],D.len,D.cT,D.lt,?_⟩;intro J q c g h;rw[o0]at g;by_cases A:k=J
 ·subst A;rw[aE j]at g;split at g<;>cases g;obtain⟨⟨ad,C,d⟩,B⟩:=D.own k _ c ax h;rw[F]at d;have:=KF E d;exact⟨⟨ad,C,this.1,this.2⟩,λ_=>B j⟩
 ·rw[aw A]at g;exact D.own J q c g h
def Rh(k:Nat){ai:α->ac ag}(l:ac α)(ax:own[k]? =some (.c el cs))(D:cs=l.flatMap ai)(j:∀w,(ai w).length=z)(bG:cI aq K p (own.set k<|.a el false z α ai l) aB e):cI aq K p own aB e:=λH ids st o g A h=>
 bG H ids st o g (aeE l ax D j A) h
end
structure bl where
 L:Type
 args:L->ac ag
 pre:L->Prop
 res:L->ag
 hp:bh->Prop:=fun _=>True
 hm:∀{H bC:bh},cF H bC->hp H->hp bC:=by exact fun _ _=>trivial
abbrev pF(hp:bh->Prop)(hm:∀{H g:bh},cF H g->hp H->hp g){L:Type}(f:L->ac ag×Prop×ag):bl where
 L:=L
 args:=λl=>(f l).1
 pre:=λl=>(f l).2.1
 res:=λl=>(f l).2.2
 hp:=hp
 hm:=hm
abbrev b3{L:Type}(f:L->ac ag×Prop×ag):bl:=pF (λ_=>True) (λ_ _=>trivial) f
def bl.spec(S:bl):Spec where
 L:=S.L×bh
 pre:=λl ad st=>S.pre l.1/\S.hp l.2/\Fit l.2 [] st [] 0/\cB l.2 (S.args l.1) [] ad
 post:=λl ad st v ak=>∃g,Fit g [] ak [] 0/\cQ l.2 [] st g [] ak/\den g (S.res l.1) [] v
instance:Coe bl Spec:=⟨bl.spec⟩
instance:Coe bl dL:=⟨λS=>S.spec.K⟩
def Fin(S:bl)(l:S.L)(res:ac gU)(x:c1)(s:cl):Prop:=(x= .norm\/x= .ret)/\∃r,m5 s res=some r/\iV r=true/\bJ r (S.res l)
where
 KJ (s:cl):gU->be ag
  |.tmp t=>dp s.env t
  |.cell a g n=>match dp s.env a with
   |some (.p k U)=>match s.own[k]? with
    |some (.c _ cs)=>qB cs U n (Fa g)
    |_=>none
   |_=>none
 Fw (s:cl):ac gU->be (ac ag)
  |[]=>some []
  |r::rs=>match KJ s r with
   |some a=>match Fw s rs with
    |some as=>some (a::as)
    |none=>none
   |none=>none
 m5 (s:cl) (l:ac gU):be ag:=match Fw s l with
  |some [a]=>some a
  |some as=>some (.bq as)
  |none=>none
variable{H:bh}{ids:ac Nat}{s:cl}{o:aJ}
def Fit.less{st:aj}{own:ac a4}{n:Nat}(h:Fit H ids st own n):Fit H [] st [] 0:=⟨h.wf,h.le,j,j,oc,λb g=>by simp at g,λk U b A=>by simp at A⟩
def cQ.refl(H:bh)(i:ac Nat)(st:aj):cQ H i st H i st:=⟨cF.refl _,λ_ _ _=>j,λ_ _ _=>j,cn _,cf.refl _,λb g=>.inl g⟩
def cQ.less{a5:bh}{au:aj}{st:aj}(h:cQ a5 [] au H ids st):cQ a5 [] au H [] st:=⟨h.hle,h.hold,h.eF,h.ae,cf.refl _,λb g=>.inl g⟩
theorem aeF{st:aj}(G:Fit H ids st s.own s.n)(D:cN o H ids s.env){r:gU}{a:ag}(h:Fin.KJ s r=some a):
 ∃v,den H a ids v/\∀ad:ac bv,(gU.rec (motive:=λ_=>be<|ac bv) (λt=>some<|o.tmp t::ad) (λa agg n=>hi (o.tmp a) (λp=>bn p (λca=>st.load ca n (λcs=>cond agg (some<|.agg ⟨cs⟩::ad)<|one cs (λv=>some<|v::ad) none) none) none) none) r:be (ac bv))=some (v::ad):=by
 cases r with
 |tmp t=>exact⟨_,D.get t a h,λad=>j⟩
 |cell t A n=>
  simp[Fin.KJ]at h;split at h<;>try cases h
  rename_i k U E;split at h<;>try cases h
  rename_i el cs O;obtain⟨b,L,C⟩:=D.get t _ E;obtain⟨⟨B,a2,d⟩,_⟩:=G.own k _ b O L;obtain⟨R,N⟩:=wz h;have g:=rV n<|m0 U d;have S:=gd<|m0 U d;have e:∀ad:ac bv,hi (o.tmp t) (λp=>bn p (λca=>st.load ca n (λcs=>cond A (some<|.agg ⟨cs⟩::ad)<|one cs (λv=>some<|v::ad) none) none) none) none=cond A (some<|.agg ⟨(B.drop U).take n⟩::ad) (one ((B.drop U).take n) (λv=>some<|v::ad) none):=λad=>by
   rw[C,kZ,Sym.eg];unfold aj.load aj.fM;rw[Sym.hU,a2,kl,rW<|by grind]
  rcases QR N with⟨rfl,rfl⟩|⟨rfl,F⟩
  ·exact⟨_,⟨_,j,g⟩,λad=>e ad⟩
  ·rw[F]at g;obtain⟨v,T,I,g,ah⟩:=g;cases ah;refine⟨v,g,λad=>(e ad).trans ?_⟩;rw[I];rfl
theorem KK{s:cl}{H:bh}{ids:ac Nat}{st:aj}{o:aJ}(F:Fit H ids st s.own s.n)(E:cN o H ids s.env):∀{D:ac gU} {as:ac ag},Fin.Fw s D=some as->∃ad,cB H as ids ad/\pd o st D=some ad
 |[],as,h=>by cases h;exact⟨[],j,j⟩
 |r::D,as,h=>by
  unfold Fin.Fw at h;split at h<;>try cases h
  rename_i a aF;split at h<;>try cases h
  rename_i gG aL;obtain⟨v,cE,g⟩:=aeF F E aF;obtain⟨ad,a2,cD⟩:=KK F E aL;refine⟨v::ad,⟨v,ad,j,cE,a2⟩,?_⟩;show bn (pd o st D) _ none=_;rw[cD];exact g ad
def r2{st:aj}{call:bM}(F:Fit H ids st s.own s.n)(E:cN o H ids s.env){D:ac gU}{r:ag}(h:Fin.m5 s D=some r):∃v,den H r ids v/\fv call D none o st= .ret v st false:=by
 have e:∀ad,pd o st D=some ad->fv call D none o st=one ad (λv=>.ret v st false) (.ret (.tuple ⟨ad⟩) st false):=λad C=>by
  unfold fv;rw[E.pl.c4,E.pl.cL];show bn (pd o st D) _ _=_;rw[C];rfl
 unfold Fin.m5 at h;split at h
 ·rename_i a g;cases h;obtain⟨ad,⟨v,L,rfl,A,G⟩,B⟩:=KK F E g;cases G;exact⟨v,A,(e _ B).trans j⟩
 ·rename_i as ah g;cases h;obtain⟨ad,A,B⟩:=KK F E g;refine⟨_,⟨ad,j,A⟩,(e _ B).trans ?_⟩;have I:=gd A
  match ad,as,I with
  |[],_,_=>rfl
  |[v],[a],_=>exact absurd g (by intro _;exact ah a j)
  |_::_::_,_,_=>rfl
 ·cases h
def hJ:Nat->ac ag->bU
 |_,[]=>[]
 |i,a::as=>(i,a)::hJ (i+1) as
theorem Ri:∀(as:ac ag) (i J:Nat) (a:ag),dp (hJ i as) J=some a->i<=J/\as[J-i]? =some a
 |[],_,_,_,h=>by cases h
 |w::as,i,J,a,h=>by
  rw[hJ,lW]at h;cases aA:Nat.beq i J with
  |true=>
   simp_all
  |false=>
   rw[aA]at h;obtain⟨aF,aL⟩:=Ri as (i+1) J a h
   grind
def cN.zero{as:ac ag}{ad:ac bv}(d:cB H as ids ad):cN (dT ad) H ids (hJ 0 as):=by
 refine⟨um.zero _,λJ a h=>?_⟩;obtain⟨_,B⟩:=Ri as 0 J a h;obtain⟨v,g,A⟩:=sL d B;have C:=(dN.1 g).1;have:(dT ad).tmp J=v:=by
  show Option.rec _ _ ((ld ad 0 .nil).get J)=v;rw[QH,aE R,g]
 rw[this];exact A
variable{X:Ctx}
variable{aZ:cJ}
def KL{aI:ao cJ}(G:Good X)(I:iZ X aI)(bk:d7->dL){f:d7}(j:aI.get f=some aZ){S:bl}(aD:∀l,(S.args l).length<=aZ.aM)
 (h:∀l,S.pre l->∀H au,S.hp H->eQ ⟨b7 aI (cj X bk)<|bx+1,bx+1,f,H,[],au,Fin S l aZ.res⟩ [] (.c aZ.body) [] 0 (hJ 0<|S.args l)):dY X f S.spec:=by
 refine J1 G I bk j (λl ad st ⟨_,_,_,d⟩=>by rw[gd d];exact aD l.1) ?_;rintro⟨l,H⟩ ad st ⟨hp,O,F,d⟩;refine(h l hp H st O H [] st (dT ad) (cQ.refl _ _ _) F<|cN.zero d).mono ?_;rintro x o ak ⟨B,ids,s,C,g,D,j,r,L,N,hle⟩;obtain⟨v,E,A⟩:=r2 g D L;exact⟨j,v,A,B,g.less,C.less,hle _ _ _<|sK _ N E _⟩
def aeG{aI:ao cJ}(D:Good X)(E:iZ X aI)(bk:d7->dL){f:d7}(j:aI.get f=some aZ){S:bl}(aD:∀l,(S.args l).length<=aZ.aM)
 (h:∀l,S.pre l->∀H au,eQ ⟨b7 aI (cj X bk)<|bx+1,bx+1,f,H,[],au,Fin S l aZ.res⟩ [] (.c aZ.body) [] 0<|hJ 0<|S.args l):dY X f S.spec:=KL D E bk j aD λl hp H au _=>h l hp H au
def Rj{aI:ao cJ}{bk:d7->dL}{g:d7}{S:bl}(aS:dY X g S.spec)(G:bk g=S.spec.K){bP:ac ce}{as:ac ag}{n:Nat}(l:S.L)(O:ha s.env bP=some as)(fH:g9 as=true)(he:gf as (S.args l))(hp:S.pre l){a5:bh}(cA:S.hp a5):
 pA a5 (b7 aI (cj X bk)<|n+1) (.call (.func g) bP) s (S.res l) s.own s.n:=λH ids st o I A T=>by
 have D:=he.den<|px _ fH (T.dJ O) [];obtain⟨v,ak,Z,a'⟩:=aS _ st ⟨(l,H),hp,S.hm I cA,A.less,D⟩;obtain⟨v1,E,Y,C⟩:=yP (K:=bk) ⟨v,ak,by rw[G];exact Z,a'⟩;rw[G]at C;obtain⟨R,F,j,W⟩:=C (l,H) ⟨hp,S.hm I cA,A.less,D⟩;have a2:b7 aI (cj X bk) (n+1) (.func (.func g) #[] #[]) (dJ o bP) none st= .ret v1 E false:=by
  rw[ox];have e:fe (#[]:bi bv).toList (fe (dJ o bP) (#[]:bi bv).toList)=dJ o bP:=av
  rw[e,Y];rfl
 have hle:=j.hle;refine⟨v1,E,ids,R,?_,?_,iw (cF.refl _) _ (cf.nil _) W,hle,cf.refl _,?_,j.ae,λb h _=>j.eF b h av⟩
 ·rw[yO];show lv (b7 aI (cj X bk) (n+1) (.func (.func g) #[] #[]) (dJ o bP) none st) _ _=_;rw[a2];rfl
 ·refine⟨F.wf,F.le,A.cV,A.len,A.cT,λb h=>eR (A.lt b h) j.ae,λk U b aa h=>?_⟩;obtain⟨V,N⟩:=A.own k U b aa h;have aT:=A.lt b<|hg h;rw[j.eF b aT av];exact⟨rX hle (cf.refl _) V,λab=>by rw[j.hold b aT av];exact N ab⟩
 ·intro a5 i0 au B;refine⟨B.hle.trans hle,λb h ah=>?_,λb h ah=>?_,cC B.ae j.ae,B.jy,B.new⟩
  ·rw[j.hold b (eR h B.ae) av];exact B.hold b h ah
  ·rw[j.eF b (eR h B.ae) av];exact B.eF b h ah
abbrev gP(X:Ctx)(aI:ao cJ)(bk:d7->dL)(n bb:Nat)(fn:d7)(a5:bh)(i0:ac Nat)(au:aj)(Q:c1->cl->Prop):eX:=⟨b7 aI (cj X bk)<|n+1,bb,fn,a5,i0,au,Q⟩
section
variable{aI:ao cJ}{bk:d7->dL}{bb n:Nat}{fn:d7}{a5:bh}{i0:ac Nat}{au:aj}{Q:c1->cl->Prop}{K:ac dH}{own:ac a4}{aB:Nat}{e:bU}
variable{bP:ac ce}{as:ac ag}{d:Tmp}
def aV{g:d7}{S:bl}(aS:dY X g S.spec){xs:ac bm}(l:S.L)(hp:S.pre l)(k:cI (gP X aI bk n bb fn a5 i0 au Q) K xs own aB ((d,S.res l)::e))
 (j:ha e bP=some as:=by rfl) (he:gf as (S.args l):=by exact gf.refl _) (fH:g9 as=true:=by rfl) (D:bk g=S.spec.K:=by rfl) (cA:S.hp a5:=by exact aC):
 gx (gP X aI bk n bb fn a5 i0 au Q) K d (.call (.func g) bP) xs own aB e:=sP (Rj aS D l j fH he hp cA) k
def cm{g:d7}{S:bl}(aS:dY X g S.spec){xs:ac (bm×cr)}{bf:ac a4}{a7:bU}{aX b0:Nat}(l:S.L)(hp:S.pre l)(k:dy (gP X aI bk n bb fn a5 i0 au Q) K xs bf (j6 d a7) (aX+1) aB own aB ((d,S.res l)::e))
 (D:ha e bP=some as:=by rfl) (he:gf as (S.args l):=by exact gf.refl _) (fH:g9 as=true:=by rfl) (E:bk g=S.spec.K:=by rfl) (cA:S.hp a5:=by exact aC):
 dy (gP X aI bk n bb fn a5 i0 au Q) K ((⟨some d,.call (.func g) bP,none⟩,.dF)::xs) bf a7 aX b0 own aB e:=
 Fp (Rj aS E l D fH he hp cA) j (λ_ _ h _=>⟨h,by simp[g0]⟩) k
end
def bG:ac (Nat×dL)->d7->dL
 |[],_=>dL.no
 |p::l,g=>cond (Nat.beq p.1 g) p.2<|bG l g
def az{S:bl}{l:S.L}{res:ac gU}{r:ag}{e:c1}(aF:Fin.m5 s res=some r)(aL:iV r=true)(D:bJ r (S.res l))(he:e= .ret\/e= .norm:=by first|exact .inl j|exact .inr j):Fin S l res e s:=⟨he.symm,r,aF,aL,D⟩
end Go.bA
namespace Go.bA
open Sym
section
variable{aq:eX}{K:ac dH}{own bo:ac a4}{aB cR:Nat}{e:bU}{d:Tmp}{xs:ac bm}{x y i:ce}
variable{α:Type}{el:co}{z n c J:Nat}{aU:Bool}{q dE U:Nat}{cs:ac ag}{p:Nat}{bg af:be ce}{b2:Nat}{a:ag}{l:ac α}
def pG{ai:α->ac ag}(q:α){bG:f6}(ba:l[J]? =some q)(k:cI aq K xs own aB ((d,.ip<|ai q)::e))(D:a6 e x=some (.cU z α ai l):=by rfl)(af:a6 e i=some (.i bG (J:Int)):=by rfl):gx aq K d (.h3 z x i) xs own aB e:=
 eL (KE D af ba) k
def mG{a9:Nat}{bG:f6}(k:cI aq K xs own aB ((d,.fk a9 z (U+J) 0)::e))(D:a6 e x=some (.aK a9 z U n c):=by rfl)(af:a6 e i=some (.i bG (J:Int)):=by rfl)(ba:J<n:=by omega):gx aq K d (.h3 z x i) xs own aB e:=
 eL (Q7 D af ba) k
theorem y3{a9:Nat}{bG:f6}(k:cI aq K xs own aB ((d,.fk a9 z J 0)::e))(D:a6 e x=some (.aK a9 z 0 n c):=by rfl)(af:a6 e i=some (.i bG (J:Int)):=by rfl)(ba:J<n:=by omega):gx aq K d (.h3 z x i) xs own aB e:=
 eL (Q7 D af ba)<|by grind
def nP{a9:Nat}{ai:α->ac ag}(w:α)(ba:l[J]? =some w)(k:cI aq K xs own aB ((d,a)::e))(D:a6 e x=some (.fk a9 z J q):=by rfl)(ax:own[a9]? =some (.a el aU z α ai l):=by rfl)(cz:(ai w)[q]? =some a:=by rfl):gx aq K d (.h2 x) xs own aB e:=
 eL (aeo D ax ba cz) k
def Fx{a9 m:Nat}{ai:α->ac ag}(w:α)(ba:l[J]? =some w)(k:cI aq K xs own aB ((d,.agg cs)::e))(D:a6 e x=some (.fk a9 z J q):=by rfl)(ax:own[a9]? =some (.a el aU z α ai l):=by rfl)(cz:qB (ai w) q m (λl=>some l)=some cs:=by rfl):gx aq K d (.mi m x) xs own aB e:=
 eL (aep D ax ba cz) k
def kE{a9:Nat}{ai:α->ac ag}(w':α)(k:cI aq K xs bo aB e)(D:a6 e x=some (.fk a9 1 J 0):=by rfl)(E:a6 e y=some a:=by rfl)(ax:own[a9]? =some (.a el aU 1 α ai l):=by rfl)(G:ai w'=[a]:=by rfl)(aS:qz a=true:=by rfl)(aF:∀w,(ai w).length=1:=by exactλ_=>j)
 (F:hn own a9 (.a el aU 1 α ai<|l.set J w') some=some bo:=by rfl) (ba:J<l.length:=by first|omega|(simp;done)|(simp;omega)):cI aq K (⟨none,.store 1 x y,none⟩::xs) own aB e:=by
 have:=ih F;cases this;exact aen (Q9 w' D E ax G ba aS aF) k
def KM:ac bv->be Nat
 |[]=>some 0
 |[_]=>some 1
 |[_,_]=>some 2
 |[_,_,_]=>some 3
 |[_,_,_,_]=>some 4
 |[_,_,_,_,_]=>some 5
 |[_,_,_,_,_,_]=>some 6
 |[_,_,_,_,_,_,_]=>some 7
 |l=>some l.length
def aeH{l:ac bv}(h:KM l=some n):l.length=n:=by
 unfold KM at h;split at h<;>cases h<;>rfl
def oE{j:ac bv}{a9 gw:f6}(ai:α->ac ag)(w:α)(k:cI aq K xs bo cR ((d,.aK aB z 0 n c)::e))(D:a6 e x=some (.i a9 (n:Int)):=by rfl)(F:a6 e y=some (.i gw (c:Int)):=by rfl)(E:KM j=some z:=by rfl)(I:yS j=ai w:=by rfl)
 (G:mE own (.a el false z α ai<|List.replicate c w) some=some bo:=by rfl) (N:mF aB some=some cR:=by rfl) (ah:n<=c:=by omega) (aS:c*(dE+1)<=1099511627776:=by omega):gx aq K d (.rk el dE j x y) xs own aB e:=by
 have g:=m2 G;have h:=nN N;cases g;cases h;exact eL (mk ai w D F (aeH E) I ah aS) k
def Fy{a9:Nat}(t:Nat){ai:α->ac ag}(bp:ac α)(k:cI aq K xs bo aB ((t,.cU z α ai bp)::e))(D:dp e t=some (.aK a9 z U n c):=by rfl)(ax:own[a9]? =some (.a el aU z α ai l):=by rfl)(hp:∀x,g9 (ai x)=true:=by exactλ_=>j)
 (E:hn own a9 .x some=some bo:=by rfl) (aD:(l.drop U).take n=bp:=by first|rfl|simp) (ah:bp.length=n:=by first|omega|(simp;done)|(simp;omega)) (aS:n<=c:=by omega):cI aq K xs own aB e:=by
 have g:=ih E;cases g;exact Rg t bp D ax aD ah aS hp k
theorem kn{a9:Nat}(t:Nat){ai:α->ac ag}(k:cI aq K xs bo aB ((t,.cU z α ai l)::e))(D:dp e t=some (.aK a9 z 0 n c):=by rfl)(ax:own[a9]? =some (.a el aU z α ai l):=by rfl)(hp:∀x,g9 (ai x)=true:=by exactλ_=>j)
 (E:hn own a9 .x some=some bo:=by rfl) (ah:l.length=n:=by first|omega|(simp;done)|(simp;omega)) (aS:n<=c:=by omega):cI aq K xs own aB e:=
 Fy t l k D ax hp E (by grind) ah aS
def kF(a9:Nat)(ai:α->ac ag)(l:ac α)(k:cI aq K xs bo aB e)(ax:own[a9]? =some (.c el cs):=by rfl)(D:∀w,(ai w).length=z:=by exactλ_=>j)
 (E:hn own a9 (.a el false z α ai l) some=some bo:=by rfl) (F:cs=l.flatMap ai:=by rfl):cI aq K xs own aB e:=by
 have g:=ih E;cases g;exact Rh a9 l ax F D k
def aeI{a9:Nat}{ai:α->ac ag}(k:cI aq K xs own aB ((d,.aK a9 z (U+p) (q-p)<|c-p)::e))(D:a6 e x=some (.aK a9 z U n c):=by rfl)(ax:own[a9]? =some (.a el aU z α ai l):=by rfl)(F:fl ⟨own,aB,e⟩ bg 0 p:=by first|exact j|exact dC)(E:fl ⟨own,aB,e⟩ af n q:=by first|exact j|exact dC)(hp:p<=q:=by omega)(cz:q<=n:=by omega)(ah:n<=c:=by omega)(aS:p<c\/p=0:=by omega):gx aq K d (.ny z x bg af none) xs own aB e:=
 eL (aev D ax F E hp cz ah aS) k
theorem Rk{a9:Nat}{ai:α->ac ag}(k:cI aq K xs own aB ((d,.aK a9 z p (q-p)<|c-p)::e))(D:a6 e x=some (.aK a9 z 0 n c):=by rfl)(ax:own[a9]? =some (.a el aU z α ai l):=by rfl)(F:fl ⟨own,aB,e⟩ bg 0 p:=by first|exact j|exact dC)(E:fl ⟨own,aB,e⟩ af n q:=by first|exact j|exact dC)(hp:p<=q:=by omega)(cz:q<=n:=by omega)(ah:n<=c:=by omega)(aS:p<c\/p=0:=by omega):gx aq K d (.ny z x bg af none) xs own aB e:=
 aeI (by grind) D ax F E hp cz ah aS
def y4(ai:α->ac ag)(l:ac α)(cv:nO ⟨own,aB,e⟩ y ai b2 l)(k:cI aq K xs bo cR ((d,.aK aB b2 0 l.length l.length)::e))(j:a6 e x=some .nl:=by rfl)
 (D:mE own (.a el true b2 α ai l) some=some bo:=by rfl) (E:mF aB some=some cR:=by rfl) (bX:l≠[]:=by first|rfl|simp) (aA:(5*l.length+1792)*(dE+1)<=1125899906842624:=by first|omega|(simp;done)|(simp;omega)):gx aq K d (.app el b2 dE x y) xs own aB e:=by
 have g:=m2 D;have h:=nN E;cases g;cases h;exact eL (KH j (wI cv) bX aA) k
def y5{a9:Nat}{ai:α->ac ag}{gy:ac a4}(m:ac α)(cv:nO ⟨own,aB,e⟩ y ai b2 m)(k:cI aq K xs bo cR ((d,.aK aB b2 0 (n+m.length)<|n+m.length)::e))(j:a6 e x=some (.aK a9 b2 0 n c):=by rfl)(ax:own[a9]? =some (.a el true b2 α ai l):=by rfl)
 (E:hn own a9 .x some=some gy:=by rfl) (D:mE gy (.a el true b2 α ai<|l++m) some=some bo:=by rfl) (F:mF aB some=some cR:=by rfl) (bX:m≠[]:=by first|rfl|simp) (ah:n=l.length:=by first|omega|(simp;done)|(simp;omega)) (G:n=c:=by omega) (aA:(5*(n+m.length)+1792)*(dE+1)<=1125899906842624:=by first|omega|(simp;done)|(simp;omega)):gx aq K d (.app el b2 dE x y) xs own aB e:=by
 have A:=ih E;cases A;have g:=m2 D;have h:=nN F;cases g;cases h;have:=KI (call:=aq.call) j ax (wI cv) bX R R R aA;rw[ah,o1]at this;rw[ah]at k;exact eL this k
def Rl{a9:Nat}{ai:α->ac ag}(m:ac α)(cv:nO ⟨own,aB,e⟩ y ai b2 m)(bp:ac α)(k:cI aq K xs bo aB ((d,.aK a9 b2 0 (n+m.length) c)::e))(j:a6 e x=some (.aK a9 b2 0 n c):=by rfl)(ax:own[a9]? =some (.a el false b2 α ai l):=by rfl)
 (D:hn own a9 (.a el false b2 α ai bp) some=some bo:=by rfl) (bX:m≠[]:=by first|rfl|simp) (ah:n+m.length<=c:=by first|omega|(simp;done)|(simp;omega)) (aS:c<=l.length:=by first|omega|(simp;done)|(simp;omega)) (aA:(5*(n+m.length)+1792)*(dE+1)<=1125899906842624:=by first|omega|(simp;done)|(simp;omega)) (aD:l.take n++(m++l.drop (n+m.length))=bp:=by first|rfl|simp):gx aq K d (.app el b2 dE x y) xs own aB e:=by
 subst aD;have g:=ih D;cases g;exact eL (aeu j ax (wI cv) bX ah aS aA) k
def jt{a9:Nat}{ai:α->ac ag}(l:ac α)(F:cs=l.flatMap ai)(D:a6 e x=some (.aK a9 z 0 l.length c):=by rfl)(ax:own[a9]? =some (.c el cs):=by rfl)(E:∀w,(ai w).length=z:=by exactλ_=>j)(aS:py cs=true:=by rfl):nO ⟨own,aB,e⟩ x ai z l:=aes l D j ax F E aS j
def mH{l:ac ci}{bG:f6}(eW:ci)(ba:l[J]? =some eW)(k:cI aq K xs own aB ((d,.i .u8 (eW.toNat:Int))::e))(D:a6 e x=some (.s l):=by rfl)(af:a6 e i=some (.i bG (J:Int)):=by rfl):gx aq K d (.tL x i) xs own aB e:=eL (aew D af ba) k
def qD{l:ac ci}(bp:ac ci)(k:cI aq K xs own aB ((d,.s bp)::e))(D:a6 e x=some (.s l):=by rfl)(F:fl ⟨own,aB,e⟩ bg 0 p:=by first|exact j|exact dC)(E:fl ⟨own,aB,e⟩ af l.length q:=by first|exact j|exact dC)(aD:(l.drop p).take (q-p)=bp:=by first|rfl|simp)(hp:p<=q:=by omega)(cz:q<=l.length:=by first|omega|(simp;done)|(simp;omega)):gx aq K d (.sr x bg af) xs own aB e:=by
 subst aD;exact eL (aex D F E hp cz) k
def r3{l m:ac ci}(k:cI aq K xs own aB ((d,.s<|l++m)::e))(j:a6 e x=some (.s l):=by rfl)(D:a6 e y=some (.s m):=by rfl)(aD:l.length+m.length<=1099511627776:=by first|omega|(simp;done)|(simp;omega)):gx aq K d (.bin .add x y) xs own aB e:=eL (aey j D aD) k
end
section
variable{aq:eX}{K:ac dH}{own:ac a4}{aB:Nat}{e:bU}{d:Tmp}{xs:ac bm}{x y:ce}
variable{m n:Nat}
def aeJ(k:cI aq K xs own aB ((d,.i .u64 ((m/n:Nat):Int))::e))(j:a6 e x=some (.i .u64 (m:Int)):=by rfl)(D:a6 e y=some (.i .u64 (n:Int)):=by rfl)(ah:n≠0:=by omega)(hm:m<18446744073709551616:=by omega):gx aq K d (.bin .quo x y) xs own aB e:=by
 have h:=aez (call:=aq.call) (s:=⟨own,aB,e⟩) j D R;have g:IntKind.u64.wrap ((m:Int).tdiv n)=((m/n:Nat):Int):=by
  show IntKind.u64.wrap ((m/n:Nat):Int)=_;have:=jW m n;generalize m/n=q at *;exact J3 R R
 rw[g]at h;exact eL h k
def aeK{a9:f6}(k:cI aq K xs own aB ((d,.i a9 ((m%n:Nat):Int))::e))(j:a6 e x=some (.i a9 (m:Int)):=by rfl)(D:a6 e y=some (.i a9 (n:Int)):=by rfl)(ah:n≠0:=by omega):gx aq K d (.bin .rem x y) xs own aB e:=
 eL (aeA j D R) k
def aeL{a9 bH:f6}(k:cI aq K xs own aB ((d,.i a9 ((m/2^n:Nat):Int))::e))(j:a6 e x=some (.i a9 (m:Int)):=by rfl)(D:a6 e y=some (.i bH (n:Int)):=by rfl)(ah:n<=a9.bits:=by first|decide|(show _<=64;omega)):gx aq K d (.bin .shr x y) xs own aB e:=
 eL (aeB j D ah) k
end
variable{aq:eX}{s:cl}{n m:Int}{c:bd}{a:dk}{P:Prop}{k:f6}{p:Nat}{e kA:bU}{U:a4}
def KN(d:Nat):b5->be b5
 |⟨K,c,⟨own,n,(t,a)::e⟩⟩=>match Nat.beq t d with
  |true=>none
  |false=>BO ⟨K,c,⟨own,n,(t,a)::e⟩⟩
 |g=>BO g
def aeM(d:Nat){g j:b5}(h:KN d g=some j)(k:j.ok aq):g.ok aq:=by
 unfold KN at h;split at h
 ·split at h
  ·cases h
  ·exact fz h k
 ·exact fz h k
def ai.mono{K B:ac dH}(h:∀x s,Sem aq K x s->Sem aq B x s)(k:ai aq K c s)(F:∀fi,Ks aq B fi->Ks aq K fi:=by exactλ_ h=>h):ai aq B c s:=by
 have up:∀x o st,qC aq (Sem aq K) x o st->qC aq (Sem aq B) x o st:=λx o st ⟨H,ids,s,G,I,D,C⟩=>⟨H,ids,s,G,I,D,h x s C⟩;cases c with
 |c c=>exactλH ids st o g A j=>(k H ids st o g A j).mono up
 |U l=>exactλH ids st o g A j=>(k H ids st o g A j).mono up
 |x e=>exact h e s k
 |d l bf a7 aX b0=>exactλfi L H ids st o gh cv g A j E=>(k fi (F fi L) H ids st o gh cv g A j E).mono up
def cG{K:ac dH}{c:ce}{b:dk}[D:Decidable P](j:P->b5.ok aq ⟨K,.c a,s⟩)(aA:¬P->b5.ok aq ⟨K,.c b,s⟩)(aS:a6 s.env c=some (.b<|decide P):=by rfl):b5.ok aq ⟨K,.c<|.cond c a b,s⟩:=wG aS (λh=>j<|hO h) λh=>aA<|of_decide_eq_false h
def y6{K:ac dH}{c:ce}{b:dk}[D:Decidable P](j:¬P->b5.ok aq ⟨K,.c a,s⟩)(aA:P->b5.ok aq ⟨K,.c b,s⟩)(aS:a6 s.env c=some (.b<|!decide P):=by rfl):b5.ok aq ⟨K,.c<|.cond c a b,s⟩:=wG aS (λh=>j<|by simpa using h) λh=>aA<|by simpa using h
def gQ{K:ac dH}{b:dk}{L:Type _}(P:L->Prop)(T:L->cl)(aF:b5.ok aq ⟨.b1 (ly aq.i0.length P T)::K,c,s⟩)(aL:∀l,P l->b5.ok aq ⟨K,.c b,T l⟩):b5.ok aq ⟨.seq b::K,c,s⟩:=by
 refine ai.mono (λx s g=>?_) aF;cases x with
 |norm=>obtain⟨f,l,hp,cv⟩:=g;exact Fs f _ cv (aL l hp)
 |exit i=>exact g
 |ret=>exact g
 |aR v=>exact g
def nQ(h:n=m:=by omega)(aF: -9223372036854775808<=n:=by omega)(aL:n<9223372036854775808:=by omega):some (ag.i .i64<|IntKind.i64.wrap n)=some (ag.i .i64 m):=by rw[fP aF aL,h]
def eM(h:n=m:=by omega)(aF: -9223372036854775808<=n:=by omega)(aL:n<9223372036854775808:=by omega):ag.i .i64 (IntKind.i64.wrap n)=ag.i .i64 m:=by rw[fP aF aL,h]
def rL(h:n=m:=by omega):some (ag.i k n)=some (ag.i k m):=by rw[h]
def fu(h:n=m:=by omega):ag.i k n=ag.i k m:=by rw[h]
def hV{own:ac a4}{n:Nat}(h:pE [0] kA e)(D:∃cy,own[0]? =some cy/\km [0] U cy)(hp:pinned p [0] 0=true:=by rfl):Sub p [0] ⟨own,n,e⟩ ⟨[U],1,kA⟩:=⟨av,j,⟨D,aC⟩,h,hp⟩
def Rm{own:ac a4}{n:Nat}{q:a4}(h:pE [0,1] kA e)(D:∃cy,own[0]? =some cy/\km [0,1] U cy)(cz:∃cy,own[1]? =some cy/\km [0,1] q cy)(hp:pinned p [0,1] 0=true:=by rfl):Sub p [0,1] ⟨own,n,e⟩ ⟨[U,q],2,kA⟩:=⟨av,j,⟨D,cz,aC⟩,h,hp⟩
section
variable{call:bM}{o:aJ}{H:bh}{ids:ac Nat}{e:bU}{x y i:ce}
variable{z J:Nat}
theorem aeN{α:Type}{ai:α->ac ag}{l:ac α}{q:α}{bG:f6}(D:cN o H ids e)(E:a6 e x=some (.cU z α ai l))(af:a6 e i=some (.i bG (J:Int)))(ba:l[J]? =some q):∃v,den H (.ip<|ai q) ids v/\∀st,bw call (.h3 z x i) o st= .ok v o st:=by
 have A:=D.ar af;have aT:=(dN.1 ba).1;rcases D.ar E with⟨g,_⟩|⟨b,U,c,ad,el,bT,aU,F,G,h,C⟩
 ·subst g;simp at aT
 ·refine⟨_,⟨b,U+J*z,ad,el,bT,aU,j,h,?_⟩,λst=>BA F A aT⟩;have B:=C J q ba;have g:=gd B
  grind
def aeO{k U n c:Nat}{bG:f6}(D:cN o H ids e)(E:a6 e x=some (.aK k z U n c))(af:a6 e i=some (.i bG (J:Int)))(ba:J<n):∃v,den H (.fk k z (U+J) 0) ids v/\∀st,bw call (.h3 z x i) o st= .ok v o st:=by
 obtain⟨b,h,A⟩:=D.ar E;have g:=D.ar af;exact⟨_,⟨b,h,by rw[e2,oZ]⟩,λst=>BA A g ba⟩
end
section
variable{aq:eX}{K:ac dH}{own bf:ac a4}{aB aX b0 back:Nat}{e a7:bU}{d:Tmp}{ay:ac Tmp}{xs:ac (bm×cr)}{x y i:ce}
variable{J z:Nat}{α:Type}{el:co}{aU:Bool}{l:ac α}
def Fz{ai:α->ac ag}(q:α){bG:f6}(ba:l[J]? =some q)(k:dy aq K xs bf ((d,.ip<|ai q)::a7) aX b0 own aB ((d,.ip<|ai q)::e))(D:a6 (dZ ay a7) x=some (.cU z α ai l):=by rfl)(af:a6 (dZ ay a7) i=some (.i bG (J:Int)):=by rfl)(aA:back<aX:=by decide):dy aq K ((⟨some d,.h3 z x i,none⟩,.read back ay)::xs) bf a7 aX b0 own aB e:=
 k2 aA (λH ids st o g _ _=>let⟨v,A,B⟩:=aeN g D af ba;⟨v,A,λh _ _=>B h⟩) k
def aeP{a9 U n c:Nat}{bG:f6}(k:dy aq K xs bf ((d,.fk a9 z (U+J) 0)::a7) aX b0 own aB ((d,.fk a9 z (U+J) 0)::e))(D:a6 (dZ ay a7) x=some (.aK a9 z U n c):=by rfl)(af:a6 (dZ ay a7) i=some (.i bG (J:Int)):=by rfl)(ba:J<n:=by omega)(aA:back<aX:=by decide):dy aq K ((⟨some d,.h3 z x i,none⟩,.read back ay)::xs) bf a7 aX b0 own aB e:=
 k2 aA (λH ids st o g _ _=>let⟨v,A,B⟩:=aeO g D af ba;⟨v,A,λh _ _=>B h⟩) k
theorem FA{a9 n c:Nat}{bG:f6}(k:dy aq K xs bf ((d,.fk a9 z J 0)::a7) aX b0 own aB ((d,.fk a9 z J 0)::e))(D:a6 (dZ ay a7) x=some (.aK a9 z 0 n c):=by rfl)(af:a6 (dZ ay a7) i=some (.i bG (J:Int)):=by rfl)(ba:J<n:=by omega)(aA:back<aX:=by decide):dy aq K ((⟨some d,.h3 z x i,none⟩,.read back ay)::xs) bf a7 aX b0 own aB e:=
 aeP (by grind) D af ba aA
def FB{a9 q:Nat}{ai:α->ac ag}(w:α){a:ag}(ba:l[J]? =some w)(k:dy aq K xs bf ((d,a)::a7) aX b0 own aB ((d,a)::e))(D:a6 (dZ ay a7) x=some (.fk a9 z J q):=by rfl)(ax:bf[a9]? =some (.a el aU z α ai l):=by rfl)(cz:(ai w)[q]? =some a:=by rfl)(aA:back<aX:=by decide):dy aq K ((⟨some d,.h2 x,none⟩,.read back ay)::xs) bf a7 aX b0 own aB e:=
 k2 aA (λH ids st o A N E=>by
  obtain⟨b,h,G⟩:=A.ar D;obtain⟨ad,B,I,F⟩:=E a9 _ b ax j h;obtain⟨v,g,C⟩:=sL (F J w ba) cz;refine⟨v,C,λL _ cv=>yW G ((cv a9 _ b ax j h).trans B) ?_⟩;rw[n7]at g;split at g
  ·rw[oa]at g;exact g
  ·cases g) k
def nR{a9:Nat}{ai:α->ac ag}{a:ag}{bo gy:ac a4}(w':α)(k:dy aq K xs gy a7 (aX+1) aB bo aB e)(D:a6 e x=some (.fk a9 1 J 0):=by rfl)(E:a6 e y=some a:=by rfl)(ax:own[a9]? =some (.a el aU 1 α ai l):=by rfl)(G:ai w'=[a]:=by rfl)(aS:qz a=true:=by rfl)(aF:∀w,(ai w).length=1:=by exactλ_=>j)
 (F:hn own a9 (.a el aU 1 α ai<|l.set J w') some=some bo:=by rfl) (I:yZ bf (some a9) some=some gy:=by rfl) (ba:J<l.length:=by first|omega|(simp;done)|(simp;omega)):dy aq K ((⟨none,.store 1 x y,none⟩,.dF)::xs) bf a7 aX b0 own aB e:=by
 have h:=ih F;cases h;obtain⟨L,A,g,a2⟩:=Fo I;cases A;exact y1 (Q9 w' D E ax G ba aS aF) g (λk U C B=>by
  have:=a2 k U C B;simp only[g0,D];exact this) k
end
structure ev where
 L:Type
 own:L->ac a4
 args:L->ac ag
 pre:L->Prop
 bo:L->ac a4
 res:L->ag
 hp:bh->Prop:=fun _=>True
 hm:∀{H bC:bh},cF H bC->hp H->hp bC:=by exact fun _ _=>trivial
abbrev aeQ(hp:bh->Prop)(hm:∀{H g:bh},cF H g->hp H->hp g){L:Type}(f:L->ac a4×ac ag×Prop×ac a4×ag):ev where
 L:=L
 own:=λl=>(f l).1
 args:=λl=>(f l).2.1
 pre:=λl=>(f l).2.2.1
 bo:=λl=>(f l).2.2.2.1
 res:=λl=>(f l).2.2.2.2
 hp:=hp
 hm:=hm
abbrev ko{L:Type}(f:L->ac a4×ac ag×Prop×ac a4×ag):ev:=aeQ (λ_=>True) (λ_ _=>trivial) f
def ev.spec(S:ev):Spec where
 L:=S.L×bh×ac Nat
 pre:=λl ad st=>S.pre l.1/\S.hp l.2.1/\Fit l.2.1 l.2.2 st (S.own l.1) (S.own l.1).length/\cB l.2.1 (S.args l.1) l.2.2 ad
 post:=λl ad st v ak=>∃g,Fit g l.2.2 ak (S.bo l.1) (S.own l.1).length/\cQ l.2.1 l.2.2 st g l.2.2 ak/\den g (S.res l.1) l.2.2 v
instance:Coe ev Spec:=⟨ev.spec⟩
instance:Coe ev dL:=⟨λS=>S.spec.K⟩
def y7(S:ev)(l:S.L)(res:ac gU)(x:c1)(s:cl):Prop:=(x= .norm\/x= .ret)/\(∃r,Fin.m5 s res=some r/\iV r=true/\bJ r (S.res l))/\∃f,f.length=(S.own l).length/\Sub (S.own l).length f s ⟨S.bo l,(S.own l).length,[]⟩
def aeR{f ids i0:ac Nat}(D:f.length=i0.length)(hp:pinned i0.length f 0=true)(af:cf i0 ids):pick f ids=i0:=by
 apply p0;intro k;by_cases g:k<i0.length
 ·have h:=KC hp k g;rw[iE]at h;have j:=af k _<|a0 g;rw[uo h j,a0 g]
 ·rw[sm<|by simp[pick];omega,sm R]
variable{X:Ctx}
variable{f:d7}{aZ:cJ}
def ev.sp(S:ev)(P:S.spec.L->ac bv->aj->Prop):Spec:=⟨S.spec.L,P,S.spec.post⟩
theorem Rn{aI:ao cJ}(Y:Good X)(Z:iZ X aI)(bk:d7->dL)(D:aI.get f=some aZ){S:ev}{P:S.spec.L->ac bv->aj->Prop}(F:∀a ad st,P a ad st->S.spec.pre a ad st)(aD:∀l,(S.args l).length<=aZ.aM)
 (h:∀l H i0 au ad,P (l,H,i0) ad au->i0.length=(S.own l).length->eQ ⟨b7 aI (cj X bk)<|bx+1,bx+1,f,H,i0,au,y7 S l aZ.res⟩ [] (.c aZ.body) (S.own l) ((S.own l).length) (hJ 0<|S.args l)):dY X f (S.sp P):=by
 refine J1 Y Z bk D (λl ad st hp=>by rw[gd (F l ad st hp).2.2.2];exact aD l.1) ?_;rintro⟨l,H,i0⟩ ad st I;obtain⟨hp,ae,j,d⟩:=F _ _ _ I;simp only at hp ae j d;refine(h l H i0 st ad I j.len H i0 st (dT ad) (cQ.refl _ _ _) j<|cN.zero d).mono ?_;rintro x o ak ⟨T,ids,s,E,A,V,D,⟨r,a',aa,hle⟩,g,ag,cv⟩;obtain⟨v,W,O⟩:=r2 A V a';have ah:=j.len;have B:Sub i0.length g s ⟨S.bo l,(S.own l).length,[]⟩:=by grind
 have N:=aeR R B.Q6 E.jy;have G:=B.fit A;have C:=B.bZ A E;rw[N]at G C;exact⟨D,v,O,T,G,C,hle _ _ _<|sK _ aa W _⟩
def aeS{aI:ao cJ}(D:Good X)(E:iZ X aI)(bk:d7->dL)(j:aI.get f=some aZ){S:ev}(aD:∀l,(S.args l).length<=aZ.aM)
 (h:∀l,S.pre l->∀H i0 au,S.hp H->i0.length=(S.own l).length->eQ ⟨b7 aI (cj X bk)<|bx+1,bx+1,f,H,i0,au,y7 S l aZ.res⟩ [] (.c aZ.body) (S.own l) ((S.own l).length) (hJ 0<|S.args l)):dY X f S.spec:=
 Rn D E bk j (λ_ _ _ h=>h) aD λl H i0 au _ hp aD=>h l hp.1 H i0 au hp.2.1 aD
def ev.jb(S:ev)(ae:S.L->Nat):Spec:=S.sp λa ad st=>S.spec.pre a ad st/\ae a.1<=st.ae
def aeT{aI:ao cJ}(D:Good X)(E:iZ X aI)(bk:d7->dL)(j:aI.get f=some aZ){S:ev}{ae:S.L->Nat}(aD:∀l,(S.args l).length<=aZ.aM)
 (h:∀l,S.pre l->∀H i0 au,S.hp H->i0.length=(S.own l).length->ae l<=au.ae->eQ ⟨b7 aI (cj X bk)<|bx+1,bx+1,f,H,i0,au,y7 S l aZ.res⟩ [] (.c aZ.body) (S.own l) ((S.own l).length) (hJ 0<|S.args l)):dY X f (S.jb ae):=
 Rn D E bk j (λ_ _ _ h=>h.1) aD λl H i0 au _ hp aD=>h l hp.1.1 H i0 au hp.1.2.1 aD hp.2
def aeU{aI:ao cJ}(D:Good X)(E:iZ X aI)(bk:d7->dL)(j:aI.get f=some aZ){S:ev}(aD:∀l,(S.args l).length<=aZ.aM)
 (h:∀l,S.pre l->∀H i0 au,i0.length=(S.own l).length->eQ ⟨b7 aI (cj X bk)<|bx+1,bx+1,f,H,i0,au,y7 S l aZ.res⟩ [] (.c aZ.body) (S.own l) ((S.own l).length) (hJ 0<|S.args l)):dY X f S.spec:=aeS D E bk j aD λl hp H i0 au _ aD=>h l hp H i0 au aD
mutual
theorem Ro{H:bh}{f ids:ac Nat}(D:∀k m:Nat,f[k]? =some m->m<ids.length):∀(a:ag) {v:bv},den H a (pick f ids) v->den H (jL f a) ids v
 |.i _ _,_,d=>d
 |.b _,_,d=>d
 |.s _,_,d=>d
 |.nl,_,d=>d
 |.v _,_,d=>d
 |.p k U,v,⟨b,e,d⟩=>by
  obtain⟨m,aF,aL⟩:=wJ D e;unfold jL;rw[aF];exact⟨b,aL,d⟩
 |.fk k z J U,v,⟨b,e,d⟩=>by
  obtain⟨m,aF,aL⟩:=wJ D e;unfold jL;rw[aF];exact⟨b,aL,d⟩
 |.aK k z U n c,v,⟨b,e,d⟩=>by
  obtain⟨m,aF,aL⟩:=wJ D e;unfold jL;rw[aF];exact⟨b,aL,d⟩
 |.cU _ _ _ _,_,d=>d
 |.gb _ _ _ _,_,d=>d
 |.c6 _ _ _ _,_,d=>d
 |.ip _,_,d=>d
 |.mp k,v,⟨b,e,d⟩=>by
  obtain⟨m,aF,aL⟩:=wJ D e;unfold jL;rw[aF];exact⟨b,aL,d⟩
 |.g _,_,d=>d
 |.fn _ bO cs,_,⟨ad,B,e,h,A⟩=>⟨ad,B,e,wK D bO h,wK D cs A⟩
 |.agg cs,_,⟨ad,e,d⟩=>⟨ad,e,wK D cs d⟩
 |.bq cs,_,⟨ad,e,d⟩=>⟨ad,e,wK D cs d⟩
 |.bad,_,d=>d.elim
theorem wK{H:bh}{f ids:ac Nat}(j:∀k m:Nat,f[k]? =some m->m<ids.length):∀(a:ac ag) {v:ac bv},cB H a (pick f ids) v->cB H (k1 f a) ids v
 |[],_,d=>d
 |a::as,_,⟨v,ws,e,g,h⟩=>⟨v,ws,e,Ro j a g,wK j as h⟩
theorem wJ{f ids:ac Nat}(j:∀k m:Nat,f[k]? =some m->m<ids.length){k b:Nat}(h:(pick f ids)[k]? =some b):∃m,f[k]? =some m/\ids[m]? =some b:=by
 unfold pick at h
 grind
end
def oF(f:ac Nat):a4->a4->Prop
 |.c el cs,U=>U= .c el (k1 f cs)
 |.a el aU z α ai l,U=>U= .a el aU z α ai l/\∀x,k1 f (ai x)=ai x
 |.g p,U=>U= .g p
 |.x,U=>U= .x
def oF.den{H:bh}{f ids:ac Nat}(D:∀k m:Nat,f[k]? =some m->m<ids.length){cy:a4}{gg:be bz}(h:oF f U cy)(d:mD H (pick f ids) U gg):mD H ids cy gg/\cy.live=U.live:=by
 cases U with
 |c el cs=>cases h;obtain⟨ad,e,d⟩:=d;exact⟨⟨ad,e,wK D cs d⟩,j⟩
 |a el aU z α ai l=>
  obtain⟨h,hp⟩:=h;cases h;obtain⟨ad,B,C,d⟩:=d;exact⟨⟨ad,B,C,λi x A=>by have:=wK D _<|d i x A;rw[hp x]at this;exact this⟩,j⟩
 |g p=>cases h;exact⟨d,j⟩
 |x=>cases h;exact⟨aC,j⟩
def BR(f:ac Nat)(own bo:ac a4)(os:ac a4):Prop:=bo.length=own.length/\(∀J:Nat,J∉f->bo[J]? =own[J]?)/\∀(i k:Nat) (cy:a4),f[i]? =some k->bo[k]? =some cy->∃U,os[i]? =some U/\oF f U cy
variable{bo:ac a4}{bk:d7->dL}{a5:bh}{i0:ac Nat}{au:aj}{aB:Nat}{bP:ac ce}{as:ac ag}{cy:a4}{bb:Nat}{Q:c1->cl->Prop}{d:be Tmp}{xs:ac bm}
theorem KO{k:Nat}{own:ac a4}(h:hn own k cy some=some bo)(aA:oF [k] U cy):BR [k] own bo [U]:=by
 have:=ih h;cases this;refine⟨av,λJ g=>mU<|by grind,λi gw q A B=>?_⟩
 grind
theorem KP{aI:ao cJ}{n:Nat}{own:ac a4}{g:d7}{S:ev}{P:S.spec.L->ac bv->aj->Prop}(aS:dY X g (S.sp P))(f:ac Nat)(l:S.L)(an:∀H i ad st,au.ae<=st.ae->S.spec.pre (l,H,i) ad st->P (l,H,i) ad st)(hp:S.pre l)(cA:S.hp a5)
 (cv:Sub 0 f ⟨own,aB,e⟩ ⟨S.own l,(S.own l).length,[]⟩) (aA:BR f own bo (S.bo l))
 (aK:ha e bP=some as) (he:as=k1 f (S.args l)) (ai:bk g=(S.sp P).K) {H:bh} {ids:ac Nat} {st:aj} {o:aJ} (D:cQ a5 i0 au H ids st) (E:Fit H ids st own aB) (aL:cN o H ids e):
 ∃v ak N G,bw (b7 aI (cj X bk)<|n+1) (.call (.func g) bP) o st= .ok v o ak/\Fit G N ak bo aB/\den G (jL f<|S.res l) N v/\cF H G/\cf ids N/\cQ a5 i0 au G N ak/\st.ae<=ak.ae:=by
 subst he;have aD:=cv.fit E;have a':=uq f _<|aL.dJ aK;obtain⟨v,ak,ar,O⟩:=aS _ st ⟨(l,H,pick f ids),an _ _ _ _ D.ae ⟨hp,S.hm D.hle cA,aD,a'⟩⟩;obtain⟨v1,aa,aY,Z⟩:=yP (K:=bk) ⟨v,ak,by rw[ai];exact ar,O⟩;rw[ai]at Z;obtain⟨G,V,A,aW⟩:=Z (l,H,pick f ids)<|an _ _ _ _ D.ae ⟨hp,S.hm D.hle cA,aD,a'⟩;have aT:∀k m:Nat,f[k]? =some m->m<ids.length:=λk m I=>by
  have ax:(S.own l).length=f.length:=cv.own.len;have ar:=(dN.1 I).1;obtain⟨bd,cy,O,B,_⟩:=cv.own.get<|a0 (show k<(S.own l).length by omega);rw[I]at O;cases O;rw[E.len,<-E.cV];exact(dN.1 B).1
 have aG:∀(J b:Nat),J∉f->ids[J]? =some b->b∉pick f ids:=λJ b C aA hm=>by
  obtain⟨k,I⟩:=vt.1 hm;obtain⟨m,B,F⟩:=wJ aT I;have aH:=dN.1 aA;have aR:=dN.1 F;have:=(vs E.cT).1<|aH.2.trans aR.2.symm;exact C<|this▸hg B
 have a2:b7 aI (cj X bk) (n+1) (.func (.func g) #[] #[]) (dJ o bP) none st= .ret v1 aa false:=by
  rw[ox];have e:fe (#[]:bi bv).toList (fe (dJ o bP) (#[]:bi bv).toList)=dJ o bP:=av
  rw[e,aY];rfl
 have hle:=A.hle;refine⟨v1,aa,ids,G,?_,?_,Ro aT _ aW,hle,cf.refl _,?_,A.ae⟩
 ·rw[yO];show lv (b7 aI (cj X bk) (n+1) (.func (.func g) #[] #[]) (dJ o bP) none st) _ _=_;rw[a2];rfl
 ·obtain⟨aV,a1,aM⟩:=aA;refine⟨V.wf,V.le,by rw[aV];exact E.cV,E.len,E.cT,λb aA=>eR (E.lt b aA) A.ae,λJ U b C R=>?_⟩;by_cases T:J∈f
  ·obtain⟨i,af⟩:=vt.1 T;obtain⟨gR,aQ,a6⟩:=aM i J U af C;have aF:=uo af R;obtain⟨B,F⟩:=V.own i gR b aQ aF;obtain⟨b',ba⟩:=a6.den aT B
   grind
  ·have C:=C;rw[a1 J T]at C;obtain⟨B,F⟩:=E.own J U b C R;have W:=E.lt b<|hg R;have Y:=aG J b T R;rw[A.eF b W Y];exact⟨rX hle (cf.refl _) B,λax=>by rw[A.hold b W Y];exact F ax⟩
 ·have aE:∀b,b∈pick f ids->b∈ids:=λb aA=>by
   obtain⟨k,I⟩:=vt.1 aA;obtain⟨m,_,F⟩:=wJ aT I;exact hg F
  have az:∀b,b<au.ae->b∉i0->b∉pick f ids:=λb aA ah hm=>by
   rcases D.new b (aE b hm)with h|h
   ·exact ah h
   ·have h:=h;omega
  refine⟨D.hle.trans hle,λb aA ah=>?_,λb aA ah=>?_,cC D.ae A.ae,D.jy,D.new⟩
  ·rw[A.hold b (eR aA D.ae)<|az b aA ah];exact D.hold b aA ah
  ·rw[A.eF b (eR aA D.ae)<|az b aA ah];exact D.eF b aA ah
def Rp{aI:ao cJ}{n:Nat}{own:ac a4}{g:d7}{S:ev}(aS:dY X g S.spec)(f:ac Nat)(l:S.L)(hp:S.pre l)(cA:S.hp a5)
 (cv:Sub 0 f ⟨own,aB,e⟩ ⟨S.own l,(S.own l).length,[]⟩) (aA:BR f own bo (S.bo l))
 (D:ha e bP=some as) (he:as=k1 f (S.args l)) (I:bk g=S.spec.K) {H:bh} {ids:ac Nat} {st:aj} {o:aJ} (E:cQ a5 i0 au H ids st) (G:Fit H ids st own aB) (F:cN o H ids e):
 ∃v ak A j,bw (b7 aI (cj X bk)<|n+1) (.call (.func g) bP) o st= .ok v o ak/\Fit j A ak bo aB/\den j (jL f<|S.res l) A v/\cF H j/\cf ids A/\cQ a5 i0 au j A ak/\st.ae<=ak.ae:=
 KP aS f l (λ_ _ _ _ _ h=>h) hp cA cv aA D he I E G F
def Rq{aI:ao cJ}{n:Nat}{fn:d7}{K:ac dH}{own:ac a4}{g:d7}{S:ev}(aS:dY X g S.spec)(f:ac Nat)(l:S.L)(hp:S.pre l)
 (cv:Sub 0 f ⟨own,aB,e⟩ ⟨S.own l,(S.own l).length,[]⟩) (aA:BR f own bo (S.bo l)) (k:cI (gP X aI bk n bb fn a5 i0 au Q) K xs bo aB (dU d (jL f<|S.res l) e))
 (D:ha e bP=some as) (he:as=k1 f (S.args l)) (G:bk g=S.spec.K) (cA:S.hp a5):
 cI (gP X aI bk n bb fn a5 i0 au Q) K (⟨d,.call (.func g) bP,none⟩::xs) own aB e:=λH ids st o B C h=>by
 obtain⟨v,ak,E,A,F,cw,dg,fY,nS,j,_⟩:=Rp aS f l hp cA cv aA D he G B C h;exact pw F<|k A E ak _ j cw<|(h.mono fY nS).dU d dg
theorem k3{aI:ao cJ}{n:Nat}{fn:d7}{K:ac dH}{own:ac a4}{g:d7}{S:ev}(aS:dY X g S.spec)(a9:Nat)(l:S.L)(hp:S.pre l)
 (k:cI (gP X aI bk n bb fn a5 i0 au Q) K xs bo aB (dU d (jL [a9]<|S.res l) e)) (D:S.own l=[U]:=by rfl) (G:S.bo l=[cy]:=by rfl)
 (ax:∃gi,own[a9]? =some gi/\km [a9] U gi:=by exact jN) (cv:hn own a9 cy some=some bo:=by rfl) (aA:oF [a9] cy cy:=by exact r4)
 (E:ha e bP=some as:=by rfl) (he:as=k1 [a9] (S.args l):=by rfl) (F:bk g=S.spec.K:=by rfl) (cA:S.hp a5:=by first|exact aC|assumption):
 cI (gP X aI bk n bb fn a5 i0 au Q) K (⟨d,.call (.func g) bP,none⟩::xs) own aB e:=
 Rq aS [a9] l hp ⟨av,by rw[D];rfl,by rw[D];exact⟨ax,aC⟩,aC,j⟩ (by rw[G];exact KO cv aA) k E he F cA
end Go.bA
namespace Go.bA
open Sym
set_option maxRecDepth 10000
section
variable{aq:eX}{K:ac dH}{own bo:ac a4}{aB:Nat}{e:bU}
theorem KQ{a9 z n c:Nat}(t:Nat){el:co}{aU:Bool}{α:Type}{ai:α->ac ag}{l:ac α}{p:dk}(k:eQ aq K (.c p) bo aB ((t,.cU z α ai l)::e))(D:dp e t=some (.aK a9 z 0 n c):=by rfl)(ax:own[a9]? =some (.a el aU z α ai l):=by rfl)(hp:∀x,g9 (ai x)=true:=by exactλ_=>j)
 (E:hn own a9 .x some=some bo:=by rfl) (ah:l.length=n:=by first|omega|(simp;done)|(simp;omega)) (aS:n<=c:=by omega):eQ aq K (.c p) own aB e:=by
 have g:=ih E;cases g;exact aeD t l D ax (by grind) ah aS hp k
end
section
variable{call:bM}{s:cl}{x y:ce}
theorem aeV{k z n c:Nat}{el:co}{aU:Bool}{α:Type}{ai:α->ac ag}{l m:ac α}(E:a6 s.env x=some (.aK k z 0 n c))(ax:s.own[k]? =some (.a el aU z α ai l))(cv:nO s y ai z m)(aF:m.length<=n)(aL:n<=l.length)(T:0<z):
 fj call (.ss z x y) s (.i .i64 (m.length:Nat)) (s.own.set k<|.a el aU z α ai<|m++l.drop m.length) s.n:=λH ids st o h F=>by
 obtain⟨b,A,I⟩:=F.ar E;obtain⟨ad,a2,cD,cX⟩:=oD h ax A;have e:bw call (.ss z x y) o st=hE (o.ar x) (λa g _=>hE (o.ar y) (λb aK _=>bn a (λa=>bn b (λb=>st.load b (Nat.mul (ek aK g aK g) z) (λad=>cond (gV ad) (st.store a ad (λst=>.ok (.int .i64<|.ofNat<|ek aK g aK g) o st) .no) .no) .no)<|dz aK 0 (.ok (.int .i64 0) o st) .no)<|dz g 0 (.ok (.int .i64 0) o st) .no) .no) .no:=rfl;rw[e,I,ps,jk];rcases cv H ids st o h F with⟨rfl,O,D⟩|⟨S,U,O,C,a',bT,Z,D,cw,dg,fY,nS⟩
 ·refine⟨.int .i64 0,st,ids,H,by rw[D,ps,Sym.eg,Sym.hU,ig j],?_,j,cF.refl _,cf.refl _,λ_ _ _ B=>B,cn _,λ_ _ _=>j⟩;rw[show([]++l.drop ([]:ac α).length)=l by simp,show s.own.set k (.a el aU z α ai l)=s.own from ?_]
  ·exact h
  ·apply p0
   grind
 ·have Y:((C.drop U).take<|m.length*z).length=m.length*z:=by grind
  have V:m.length*z<=l.length*z:=hA z R;have G:=rZ fY<|y2 (n:=m.length) ⟨cD,cX⟩;have L:ad.take 0++((C.drop U).take (m.length*z)++ad.drop (0+((C.drop U).take<|m.length*z).length))=(C.drop U).take (m.length*z)++ad.drop (m.length*z):=by grind
  refine⟨_,_,ids,H,?_,h.eO ax j A ⟨_,j,G.1,G.2⟩,j,cF.refl _,cf.refl _,λ_ _ _ B=>B.eO (hg A) _,cn _,λW _ N=>ao.fa _ _ λe=>N k (by simp[g0,E])<|e▸A⟩;rw[D,ps,ga aF];show aj.load st ⟨S,U,none⟩ (m.length*z) _ _=_;unfold aj.load aj.fM;rw[cw,kl,rW dg,nS];unfold aj.store aj.fM;rw[a2,kl,pf,aE<|by grind,iH,L];rfl
end
section
variable{aq:eX}{K:ac dH}{own bo:ac a4}{aB:Nat}{e:bU}{d:Tmp}{xs:ac bm}{x y:ce}
def aeW{a9 z n c:Nat}{el:co}{aU:Bool}{α:Type}{ai:α->ac ag}{l:ac α}(m:ac α)(cv:nO ⟨own,aB,e⟩ y ai z m)(k:cI aq K xs bo aB ((d,.i .i64 (m.length:Nat))::e))(j:a6 e x=some (.aK a9 z 0 n c):=by rfl)(ax:own[a9]? =some (.a el aU z α ai l):=by rfl)
 (E:hn own a9 (.a el aU z α ai<|m++l.drop m.length) some=some bo:=by rfl) (aF:m.length<=n:=by omega) (aL:n<=l.length:=by first|omega|(simp;done)|(simp;omega)) (D:0<z:=by decide):gx aq K d (.ss z x y) xs own aB e:=by
 have h:=ih E;cases h;exact eL (aeV j ax cv aF aL D) k
end
section
variable{aq:eX}{K:ac dH}{own bf:ac a4}{aB aX b0 back:Nat}{e a7:bU}{d:Tmp}{ay:ac Tmp}{xs:ac (bm×cr)}{x y i:ce}
variable{m n:Nat}
def aeX(k:dy aq K xs bf ((d,.i .u64 ((m/n:Nat):Int))::a7) aX b0 own aB ((d,.i .u64 ((m/n:Nat):Int))::e))(D:a6 (dZ ay a7) x=some (.i .u64 (m:Int)):=by rfl)(E:a6 (dZ ay a7) y=some (.i .u64 (n:Int)):=by rfl)(aA:back<aX:=by decide)(ah:n≠0:=by omega)(hm:m<18446744073709551616:=by omega):dy aq K ((⟨some d,.bin .quo x y,none⟩,.read back ay)::xs) bf a7 aX b0 own aB e:=
 k2 (a:=.i .u64 ((m/n:Nat):Int)) aA (λH ids st o g _ _=>⟨.int .u64 ((m/n:Nat):Int),j,λh _ _=>by
  rw[QI (g.ar D) (g.ar E) ah];have:=jW m n;generalize m/n=q at *;rw[J3 R R]⟩) k
def aeY{a9:f6}(k:dy aq K xs bf ((d,.i a9 ((m%n:Nat):Int))::a7) aX b0 own aB ((d,.i a9 ((m%n:Nat):Int))::e))(D:a6 (dZ ay a7) x=some (.i a9 (m:Int)):=by rfl)(E:a6 (dZ ay a7) y=some (.i a9 (n:Int)):=by rfl)(aA:back<aX:=by decide)(ah:n≠0:=by omega):dy aq K ((⟨some d,.bin .rem x y,none⟩,.read back ay)::xs) bf a7 aX b0 own aB e:=
 k2 (a:=.i a9 ((m%n:Nat):Int)) aA (λH ids st o g _ _=>⟨.int a9 ((m%n:Nat):Int),j,λh _ _=>adS (g.ar D) (g.ar E) ah⟩) k
def aeZ{z p q:Nat}{α:Type}{ai:α->ac ag}{l:ac α}{bg af:be ce}(bp:ac α)(k:dy aq K xs bf ((d,.cU z α ai bp)::a7) aX b0 own aB ((d,.cU z α ai bp)::e))(D:a6 (dZ ay a7) x=some (.cU z α ai l):=by rfl)(F:fl ⟨[],0,dZ ay a7⟩ bg 0 p:=by first|exact j|exact dC)(E:fl ⟨[],0,dZ ay a7⟩ af l.length q:=by first|exact j|exact dC)(aA:back<aX:=by decide)(aD:(l.drop p).take (q-p)=bp:=by first|rfl|simp)(hp:p<=q:=by omega)(cz:q<=l.length:=by first|omega|(simp;done)|(simp;omega)):dy aq K ((⟨some d,.ny z x bg af none,none⟩,.read back ay)::xs) bf a7 aX b0 own aB e:=by
 subst aD;refine k2 aA (λH ids st o g _ _=>?_) k;obtain⟨v,A,B⟩:=Rd D F E hp cz g;exact⟨v,A,λh hle _=>B h hle⟩
end
section
variable{call:bM}{s:cl}{x y:ce}
variable{b2 dE k n c:Nat}{el:co}{α:Type}{l:ac α}
def Rr{aU:Bool}{ai:α->ac ag}(D:a6 s.env x=some (.aK k b2 0 n c))(ax:s.own[k]? =some (.a el aU b2 α ai l))(cv:uv call el dE s y ai b2 [])(F:n<=c)(aS:c<=l.length)(aA:(5*n+1792)*(dE+1)<=1125899906842624):
 fj call (.app el b2 dE x y) s (.aK k b2 0 n c) s.own s.n:=λH ids st o g h=>by
 obtain⟨b,A,C⟩:=h.ar D;obtain⟨ad,a2,cD,cX⟩:=oD g ax A;obtain⟨new,I,L,E⟩:=cv H ids st o g h x _ _ _ C;have G:=hA b2 aS;refine⟨_,st,ids,H,?_,g,⟨b,A,j⟩,cF.refl _,cf.refl _,λ_ _ _ B=>B,cn _,λ_ _ _=>j⟩;rw[E];unfold jn aj.fM;simp only[Aa,Ab,Sym.eg,Sym.hU,a2,kl,Db,oZ];rw[ga<|aA,ga<|cn _,ga F,ga<|by rw[eP,cD];omega,ig j,ig j]
def ae0{ai:α->ac ag}{m:ac α}(D:a6 s.env x=some (.aK k b2 0 n c))(ax:s.own[k]? =some (.a el false b2 α ai l))(cv:uv call el dE s y ai b2 m)(bX:m≠[])(N:n<=c)(S:c<n+m.length)(aS:c<=l.length)(aA:(5*(n+m.length)+1792)*(dE+1)<=1125899906842624):
 fj call (.app el b2 dE x y) s (.aK s.n b2 0 (n+m.length)<|n+m.length) (s.own++[.a el true b2 α ai<|l.take n++m]) (s.n+1):=λH ids st o g h=>by
 obtain⟨b,F,C⟩:=h.ar D;obtain⟨ad,a2,cD,cX⟩:=oD g ax F;obtain⟨new,G,T,E⟩:=cv H ids st o g h x _ _ _ C;have I:=rZ (Ft ⟨cD,cX⟩ n R) G;have A:=Fu (cF.refl H) (cf.app ids [st.ae]) I;have L:=hA b2 aS;have O:n*b2<=l.length*b2:=hA b2 R;refine⟨.slice (some ⟨st.ae,0,none⟩) (n+m.length)<|n+m.length,_,_,H,?_,g.add ⟨_,j,A.1,A.2⟩,⟨st.ae,by rw[<-g.len];simp,by rw[jk]⟩,cF.refl _,cf.app _ _,λ_ _ _ B=>B.add _,k9 _,λb aA _=>sO aA⟩;rw[E];unfold jn aj.fM;simp only[Aa,Ab,Sym.eg,Sym.hU,a2,kl,jk];rw[ga<|aA,ga<|cn _,ga N,ga<|by rw[eP,cD];omega,ig j,pt R,cond_false,ac7 R,rW dA,gF,qn,iQ]
end
section
variable{aq:eX}{K:ac dH}{own bo:ac a4}{aB cR:Nat}{e:bU}{d:Tmp}{xs:ac bm}{x y:ce}
variable{b2 dE n c:Nat}{el:co}{α:Type}{l:ac α}
def Rs{a9:Nat}{aU:Bool}{ai:α->ac ag}(cv:nO ⟨own,aB,e⟩ y ai b2 ([]:ac α))(k:cI aq K xs own aB ((d,.aK a9 b2 0 n c)::e))(j:a6 e x=some (.aK a9 b2 0 n c):=by rfl)(ax:own[a9]? =some (.a el aU b2 α ai l):=by rfl)
 (D:n<=c:=by omega) (aS:c<=l.length:=by first|omega|(simp;done)|(simp;omega)) (aA:(5*n+1792)*(dE+1)<=1125899906842624:=by omega):gx aq K d (.app el b2 dE x y) xs own aB e:=eL (Rr j ax (wI cv) D aS aA) k
def KR{a9:Nat}{ai:α->ac ag}(m:ac α)(cv:nO ⟨own,aB,e⟩ y ai b2 m)(bp:ac α)(k:cI aq K xs bo cR ((d,.aK aB b2 0 (n+m.length)<|n+m.length)::e))(j:a6 e x=some (.aK a9 b2 0 n c):=by rfl)(ax:own[a9]? =some (.a el false b2 α ai l):=by rfl)
 (E:mE own (.a el true b2 α ai bp) some=some bo:=by rfl) (G:mF aB some=some cR:=by rfl) (bX:m≠[]:=by first|rfl|simp) (F:n<=c:=by omega) (D:c<n+m.length:=by first|omega|(simp;done)|(simp;omega)) (aS:c<=l.length:=by first|omega|(simp;done)|(simp;omega))
 (aA:(5*(n+m.length)+1792)*(dE+1)<=1125899906842624:=by first|omega|(simp;done)|(simp;omega)) (aD:l.take n++m=bp:=by first|rfl|simp):gx aq K d (.app el b2 dE x y) xs own aB e:=by
 subst aD;have g:=m2 E;have h:=nN G;cases g;cases h;exact eL (ae0 j ax (wI cv) bX F D aS aA) k
end
section
variable{aq:eX}{K:ac dH}{own bf:ac a4}{aB aX b0 back:Nat}{e a7:bU}{d:Tmp}{ay:ac Tmp}{xs:ac (bm×cr)}{x y:ce}
def Rt{m n:Nat}(k:dy aq K xs bf ((d,.i .i64 ((m/n:Nat):Int))::a7) aX b0 own aB ((d,.i .i64 ((m/n:Nat):Int))::e))(D:a6 (dZ ay a7) x=some (.i .i64 (m:Int)):=by rfl)(E:a6 (dZ ay a7) y=some (.i .i64 (n:Int)):=by rfl)(aA:back<aX:=by decide)(ah:n≠0:=by omega)(hm:m<9223372036854775808:=by omega):dy aq K ((⟨some d,.bin .quo x y,none⟩,.read back ay)::xs) bf a7 aX b0 own aB e:=
 k2 (a:=.i .i64 ((m/n:Nat):Int)) aA (λH ids st o g _ _=>⟨.int .i64 ((m/n:Nat):Int),j,λh _ _=>by
  rw[QI (g.ar D) (g.ar E) ah];have:=jW m n;generalize m/n=q at *;rw[fP R R]⟩) k
end
def j7{aq:eX}{K:ac dH}{i:Nat}{c:bd}{s:cl}{b:dk}{L:Type _}(P:L->Prop)(T:L->cl)(aF:b5.ok aq ⟨.ct i:: .b1 (ly aq.i0.length P T)::K,c,s⟩)(aL:∀l,P l->b5.ok aq ⟨K,.c b,T l⟩):b5.ok aq ⟨.ct i:: .seq b::K,c,s⟩:=by
 have up:∀s,ly aq.i0.length P T s->Sem aq (.seq b::K) .norm s:=λs g=>by
  obtain⟨f,l,hp,cv⟩:=g;exact Fs f _ cv<|aL l hp
 refine ai.mono (λx s g=>?_) aF;cases x with
 |norm=>exact up s g
 |exit J=>
  show if J=i then Sem aq (.seq b::K) .norm s else Sem aq (.seq b::K) (.exit J) s;have g:if J=i then Sem aq (.b1 (ly aq.i0.length P T)::K) .norm s else Sem aq (.b1 (ly aq.i0.length P T)::K) (.exit J) s:=g;split
  ·rename_i h;rw[aE h]at g;exact up s g
  ·rename_i h;rw[aw h]at g;exact g
 |ret=>exact g
 |aR v=>exact g
def Ru{own:ac a4}{n p:Nat}{e kA:bU}{U q r:a4}(h:pE [0,1,2] kA e)(E:∃cy,own[0]? =some cy/\km [0,1,2] U cy)(cz:∃cy,own[1]? =some cy/\km [0,1,2] q cy)(D:∃cy,own[2]? =some cy/\km [0,1,2] r cy)(hp:pinned p [0,1,2] 0=true:=by rfl):Sub p [0,1,2] ⟨own,n,e⟩ ⟨[U,q,r],3,kA⟩:=⟨av,j,⟨E,cz,D,aC⟩,h,hp⟩
def iy(c:ci):ac ag:=[.i .u8 (c.toNat:Int)]
theorem KS{H:bh}{ids:ac Nat}:∀{l:ac ci} {ad:ac bv},ja H ids iy 1 l ad->bytesOf ad=some l
 |[],ad,h=>by
  have:=nr (by rw[h.1];simp);subst this;rfl
 |c::l,ad,h=>by
  have g:=h.2 0 c av;rw[iQ]at g;have E:=y2 h 1;obtain⟨v,F,j,D,C⟩:=g;subst D C;have B:ad= .int .u8 (c.toNat:Int)::ad.drop 1:=by
   conv=>rw[<-ob 1 ad,j]
   rfl
  have A:=KS (ad:=ad.drop 1) (by simpa using E);rw[B];show bn (bytesOf<|ad.drop 1) (λbZ=>some<|UInt8.ofNat ((c.toNat:Int)).toNat::bZ) none=_;rw[A];show some (UInt8.ofNat ((c.toNat:Int)).toNat::l)=_;rw[xK,HY]
theorem Rv(H:bh)(ids:ac Nat):∀l:ac ci,ja H ids iy 1 l (mW l)/\gV (mW l)=true
 |[]=>⟨wH _ _ _ _,j⟩
 |c::l=>by
  obtain⟨aF,aL⟩:=Rv H ids l;exact⟨rZ (l:=[c]) (ad:=[.int .u8 c.toNat]) (BQ ⟨_,[],j,j,j⟩ j) aF,aL⟩
section
variable{call:bM}{s:cl}{x y:ce}
theorem ae1{k U n c:Nat}{el:co}{aU:Bool}{l:ac ci}(D:a6 s.env x=some (.aK k 1 U n c))(ax:s.own[k]? =some (.a el aU 1 ci iy l))(ah:U+n<=l.length):fj call (.Ap x) s (.s<|(l.drop U).take n) s.own s.n:=jM λH ids st o A h=>by
 obtain⟨b,B,g⟩:=h.ar D;obtain⟨ad,a2,cD,cX⟩:=oD A ax B;have C:ja H ids iy 1 ((l.drop U).take n) ((ad.drop U).take n):=by
  have:=Ft (y2 (⟨cD,cX⟩:ja H ids iy 1 l ad) U) n dA
  rwa [n8,n8]at this
 refine⟨_,j,?_⟩;show IA x call o st=_;unfold IA;rw[g,ps,n8,Sym.eg];unfold aj.load aj.fM;rw[a2,kl,rW<|by grind];rw[KS C];rfl
end
section
variable{aq:eX}{K:ac dH}{own:ac a4}{aB:Nat}{e:bU}{d:Tmp}{xs:ac bm}{x y:ce}
def KT{a9 n c:Nat}{el:co}{aU:Bool}{l:ac ci}(bp:ac ci)(k:cI aq K xs own aB ((d,.s bp)::e))(j:a6 e x=some (.aK a9 1 0 n c):=by rfl)(ax:own[a9]? =some (.a el aU 1 ci iy l):=by rfl)(ah:n<=l.length:=by first|omega|(simp;done)|(simp;omega))(aD:l.take n=bp:=by first|rfl|simp):gx aq K d (.Ap x) xs own aB e:=by
 have:=ae1 (call:=aq.call) (s:=⟨own,aB,e⟩) j ax R;rw[iQ,aD]at this;exact eL this k
end
section
variable{aq:eX}{K:ac dH}{own bf:ac a4}{aB aX b0 back:Nat}{e a7:bU}{d:Tmp}{ay:ac Tmp}{xs:ac (bm×cr)}{x y:ce}
variable{l:ac ci}{p q:Nat}{bg af:be ce}
theorem ae2{call:bM}{s:cl}{H:bh}{ids:ac Nat}{o:aJ}{st:aj}(j:cN o H ids s.env)(D:a6 s.env x=some (.s l))(F:fl s bg 0 p)(E:fl s af l.length q)(hp:p<=q)(cz:q<=l.length):bw call (.sr x bg af) o st= .ok (.string ⟨⟨(l.drop p).take<|q-p⟩⟩) o st:=by
 have g:=j.ar D;have e:bw call (.sr x bg af) o st=hD (o.ar x) (λs=>ff o af (du s.data.toList) (du s.data.toList) λh=>ff o bg 0 h λl=>hQ s.data.toList l (h-l) (λbZ=>.ok (.string ⟨⟨bZ⟩⟩) o st) .no) .no:=rfl;rw[e,g,yM];rw[eP,fl.ar E j cz,fl.ar F j hp,yN<|by grind]
def FC(bp:ac ci)(k:dy aq K xs bf ((d,.s bp)::a7) aX b0 own aB ((d,.s bp)::e))(D:a6 (dZ ay a7) x=some (.s l):=by rfl)(F:fl ⟨[],0,dZ ay a7⟩ bg 0 p:=by first|exact j|exact dC)(E:fl ⟨[],0,dZ ay a7⟩ af l.length q:=by first|exact j|exact dC)(aA:back<aX:=by decide)(aD:(l.drop p).take (q-p)=bp:=by first|rfl|simp)(hp:p<=q:=by omega)(cz:q<=l.length:=by first|omega|(simp;done)|(simp;omega)):dy aq K ((⟨some d,.sr x bg af,none⟩,.read back ay)::xs) bf a7 aX b0 own aB e:=by
 subst aD;exact k2 (a:=.s<|(l.drop p).take<|q-p) aA (λH ids st o g _ _=>⟨_,j,λh _ _=>ae2 g D F E hp cz⟩) k
end
def ae3{k z J q U:Nat}(h:U=J*z+q):bJ (.p k U) (.fk k z J q):=λ_ _ _ d=>by subst h;exact d
section
variable{call:bM}{s:cl}{x y i:ce}
variable{n k:Nat}{el:co}{z:Nat}{cs:ac ag}{J U:Nat}{aU:Bool}{l:ac ci}
def sQ{bG:f6}(D:a6 s.env x=some (.p k U))(af:a6 s.env i=some (.i bG (J:Int)))(ba:J<n):fj call (.rl n z x i) s (.p k<|U+J*z) s.own s.n:=jM λH ids st o C g=>by
 obtain⟨b,A,B⟩:=g.ar D;have h:=g.ar af;refine⟨_,⟨b,A,j⟩,?_⟩;show sw n z x i call o st=_;unfold sw;rw[B,kZ,Sym.eg,h,mB,pv,ga R,m1];rfl
def ae4{bG:f6}(D:a6 s.env x=some (.ip cs))(af:a6 s.env i=some (.i bG (J:Int)))(ba:J<n):fj call (.rl n z x i) s (.ip<|cs.drop<|J*z) s.own s.n:=jM λH ids st o C g=>by
 obtain⟨b,U,ad,el,bT,aU,A,B,d⟩:=g.ar D;have h:=g.ar af;refine⟨.pointer<|some ⟨b,U+J*z,none⟩,⟨b,U+J*z,ad,el,bT,aU,j,B,?_⟩,?_⟩
 ·have:=m0 (J*z) d;rw[z8,p3,<-k7]at this;exact this
 ·show sw n z x i call o st=_;unfold sw;rw[A,kZ,Sym.eg,h,mB,pv,ga R,m1];rfl
theorem Rw{a5:bh}{g:Nat}{ad:ac bv}{bT:Nat×Nat}{bG:f6}(D:a6 s.env x=some (.v<|.pointer<|some ⟨g,0,none⟩))(E:a5 g=some (.cells ad el bT aU))(F:∀H,cB H cs [] ad)(af:a6 s.env i=some (.i bG (J:Int)))(ba:J<n):pA a5 call (.rl n z x i) s (.ip<|cs.drop<|J*z) s.own s.n:=λH ids st o G C h=>by
 have I:=h.ar D;have A:=h.ar af;refine⟨.pointer<|some ⟨g,0+J*z,none⟩,st,ids,H,?_,C,⟨g,0+J*z,ad,el,bT,aU,j,G _ _ E,?_⟩,cF.refl _,cf.refl _,λ_ _ _ B=>B,cn _,λ_ _ _=>j⟩
 ·show sw n z x i call o st=_;unfold sw;rw[I,kZ,Sym.eg,A,mB,pv,ga R,m1];rfl
 ·have:=m0 (J*z)<|F H;have L:=gd this
  grind
def ae5(D:a6 s.env x=some (.p k U))(ax:s.own[k]? =some (.c el cs))(E:U<cs.length):fj call (.DI x) s (.p k U) s.own s.n:=jM λH ids st o B h=>by
 obtain⟨b,g,C⟩:=h.ar D;obtain⟨⟨ad,A,d⟩,_⟩:=B.own k _ b ax g;refine⟨_,⟨b,g,j⟩,?_⟩;show IE x call o st=_;unfold IE aj.fM;rw[C,kZ,Sym.eg,Sym.hU,A,kl,ga<|by rw[eP,gd d];exact E]
def ae6(D:a6 s.env x=some (.p k 0))(ax:s.own[k]? =some (.c el cs))(ah:cs.length=n):fj call (.DJ el n x) s (.p k 0) s.own s.n:=jM λH ids st o B h=>by
 obtain⟨b,g,C⟩:=h.ar D;obtain⟨⟨ad,A,d⟩,_⟩:=B.own k _ b ax g;refine⟨_,⟨b,g,j⟩,?_⟩;show IF el n x call o st=_;unfold IF aj.fM;rw[C,kZ,Sym.eg,Sym.hU,A,kl,cond_false,ig j,ig j,ig<|by rw[eP,gd d];exact ah]
def y8{p q:Nat}{α:Type}{ai:α->ac ag}{l:ac α}{bg af:be ce}(D:a6 s.env x=some (.p k 0))(ax:s.own[k]? =some (.a el false z α ai l))(F:fl s bg 0 p)(E:fl s af n q)(hp:p<=q)(cz:q<=n)(bX:p<n\/p=0):fj call (.vJ n z x bg af none) s (.aK k z p (q-p)<|n-p) s.own s.n:=jM λH ids st o B g=>by
 obtain⟨b,h,C⟩:=g.ar D;obtain⟨ad,a2,cD,cX⟩:=oD B ax h;refine⟨_,⟨b,h,j⟩,?_⟩;show sv n z x bg af none call o st=_;unfold sv aj.fM;rw[C,kZ,Sym.eg,Sym.hU,a2,kl,r0,fl.ar E g cz,fl.ar F g hp];congr 2;by_cases A:n=p
 ·subst A;rcases bX with bX|bX
  ·omega
  ·subst bX;rw[ig j];simp
 ·rw[pt A,m1,iE];rfl
theorem ae7{bG:f6}(D:a6 s.env x=some (.p k 0))(E:a6 s.env y=some (.i bG (n:Int)))(ax:s.own[k]? =some (.a el aU 1 ci iy l))(ah:n=l.length)(bX:n≠0)(aA:n<=1099511627776):fj call (.tN el x y) s (.s l) (s.own.set k .x) s.n:=λH ids st o A h=>by
 obtain⟨b,g,G⟩:=h.ar D;have C:=h.ar E;obtain⟨ad,a2,cD,cX⟩:=oD A ax g;have I:=KS (⟨cD,cX⟩:ja H ids iy 1 l ad);refine⟨_,_,ids,H,?_,A.eO ax j g (gg:=.cells ad el (0,0+n) aU) aC,j,cF.refl _,cf.refl _,λ_ _ _ B=>B.eO (hg g) _,cn _,?_⟩
 ·show DT el x y call o st=_;unfold DT aj.fM;rw[G,kZ,C,mB,pv,pt bX,Sym.eg,ga<|aA,a2,kl,ig j,rW<|by grind];rw[iQ,iG R,I,Sym.eg,iH];rfl
 ·intro L _ F;exact ao.fa _ _ λe=>F k (by simp[g0,D])<|e▸g
def uw(c:ci)(l:ac ci):Int:=match rv c l with
 |some i=>i
 |none=> -1
def ae8{c:ci}(D:a6 s.env x=some (.s l))(E:a6 s.env y=some (.i .u8 (c.toNat:Int))):fj call (.lb x y) s (.i .i64<|uw c l) s.own s.n:=jM λH ids st o B g=>by
 have h:=g.ar D;have A:=g.ar E;refine⟨_,j,?_⟩;show IH x y call o st=_;unfold IH;rw[h,yM,A,mB,show jI .u8 .u8=true from rfl,pv,HY];unfold uw;cases rv c l<;>rfl
end
