/- Rules for what a function computes on abstract states (part 1); no condition. -/
import Derived.Test.YtnbgimpdclpgbaaGreatDoorSqM1
import Derived.Test.YtnbgimpdclpgbaaGreatDoorSqM2
noncomputable section
set_option linter.all false
namespace Go.bC
namespace Sym
section
variable{α β:Type}
variable{a:Nat}
def sn(r:a2)(k:bv->aK->ak->cN)(p:bv->ak->cN):cN:=a2.rec (motive:=λ_=>cN) k p .no r
def wW(v:bv)(o:aK)(st:ak)(k:bv->aK->ak->cN)(p:bv->ak->cN):sn (.ok v o st) k p=k v o st:=rfl
def QW(v:bv)(st:ak)(k:bv->aK->ak->cN)(p:bv->ak->cN):sn (.aV v st) k p=p v st:=rfl
def adl(k:bv->aK->ak->cN)(p:bv->ak->cN):sn .no k p= .no:=rfl
def l0(r:dY)(k:bv->ak->a2)(p:bv->ak->a2):a2:=dY.rec (motive:=λ_=>a2) (λv st _=>k v st) (λv st _=>p v st) .no r
def QX(v:bv)(st:ak)(t:Bool)(k p:bv->ak->a2):l0 (.ret v st t) k p=k v st:=rfl
def QY(v:bv)(st:ak)(t:Bool)(k p:bv->ak->a2):l0 (.aV v st t) k p=p v st:=rfl
def BD(o:aK)(st:ak)(k:aK->ak->cN):kz (.out .norm o st) k=k o st:=rfl
def adm(id i:Nat)(o:aK)(st:ak):pP id (.out (.exit i) o st)=if i=id then .out .norm o st else .out (.exit i) o st:=by
 show dL i id _ _=_;rw[mn]
@[congr] theorem api {v bE:bv} (h:v=bE) (k:f9->β) (z:β):hX v k z=hX bE k z:=by rw[h]
@[congr] theorem apj {v bE:bv} (h:v=bE) (k:be Addr->Nat->Nat->β) (z:β):hY v k z=hY bE k z:=by rw[h]
def l1(a:f6)(n:Int)(k:f6->Int->β)(z:β):fX (.int a n) k z=k a n:=rfl
def y9(s:f9)(k:f9->β)(z:β):hX (.string s) k z=k s:=rfl
def lx(a:be Addr)(k:be Addr->β)(z:β):hG (.pointer a) k z=k a:=rfl
def p5(a:be Addr)(n c:Nat)(k:be Addr->Nat->Nat->β)(z:β):hY (.slice a n c) k z=k a n c:=rfl
def adn(x:bi bv)(k:bi bv->β)(z:β):rZ (.agg x) k z=k x:=rfl
@[congr] theorem apk {U cv:be α} (h:U=cv) (k:α->β) (z:β):bq U k z=bq cv k z:=by rw[h]
def ed(a:α)(k:α->β)(z:β):bq (some a) k z=k a:=rfl
def hL(k:α->β)(z:β):bq (none:be α) k z=z:=rfl
@[congr] theorem apl {a dm b V:Nat} (h:a=dm) (D:b=V) (x y:β):ev a b x y=ev dm V x y:=by rw[h,D]
theorem fo{b:Nat}(h:a<=b)(x y:β):ev a b x y=x:=by rw[lR,aD h]
def QZ{b:Nat}(h:¬a<=b)(x y:β):ev a b x y=y:=by rw[lR,av h]
theorem ij{b:Nat}(h:a=b)(x y:β):dL a b x y=x:=by rw[mn,aD h]
theorem o9{b:Nat}(h:¬a=b)(x y:β):dL a b x y=y:=by rw[mn,av h]
def ou(n:Nat)(k:Nat->β)(z:β):hJ (n:Int) k z=k n:=rfl
def ado{n:Int}(h:0<=n)(k:Nat->β)(z:β):hJ n k z=k n.toNat:=by
 obtain⟨m,rfl⟩:=Iu h;rfl
@[congr] theorem apm {l bo:ac α} {U cv n cF:Nat} (h:l=bo) (D:U=cv) (I:n=cF) (k:ac α->β) (z:β):hK l U n k z=hK bo cv cF k z:=by rw[h,D,I]
def za{l:ac α}{U n:Nat}(h:U+n<=l.length)(k:ac α->β)(z:β):hK l U n k z=k ((l.drop U).take n):=by
 rw[hK];rw[Ba,Bb,aD dM];rfl
@[congr] theorem apn {b V:Bool} (h:b=V) (x y:β):cond b x y=cond V x y:=by rw[h]
end
theorem BV(o:aK)(t:Tmp):o.ar (.tmp t)=o.tmp t:=rfl
def adp(o:aK)(v:bv):o.put none v=o:=rfl
theorem uM(o:aK)(d:Tmp)(v:bv)(J:Nat):(o.put (some d) v).tmp J=if J=d then v else o.tmp J:=by grind [r4]
def adq(o:aK)(d:be Tmp)(v:bv):(o.put d v).dd=o.dd:=(qJ o d v).1
def adr(o:aK)(d:be Tmp)(v:bv):(o.put d v).cQ=o.cQ:=(qJ o d v).2.2.1
def ads(o:aK):dQ o []=[]:=rfl
def adt(o:aK)(x:ce)(xs:ac ce):dQ o (x::xs)=o.ar x::dQ o xs:=rfl
section
variable(call:bN)(a6:Nat)(fn:d7)(o:aK)(st:ak)
def adu:gh call [] o st= .out .norm o st:=rfl
def tj(d:be Tmp)(U:dh)(xs:ac bj):gh call (⟨d,U,none⟩::xs) o st=
 sn (bw call U o st) (λv o st=>gh call xs (o.put d v) st) (λv st=>cond U.lp (.out (.aV v) o st) .no):=rfl
def adv{β:Type}(v:bv)(b:Bool)(yes qW z:β):β:=kj v (λc=>cond c (cond b yes qW)<|cond b qW yes)<|qF v (λ_=>qW) z
def Kk(d:be Tmp)(U:dh)(t:Tmp)(b:Bool)(xs:ac bj):gh call (⟨d,U,some (t,b)⟩::xs) o st=
 adv (o.tmp t) b (sn (bw call U o st) (λv o st=>gh call xs (o.put d v) st) λv st=>cond U.lp (.out (.aV v) o st) .no) (gh call xs (o.put d undef) st) .no:=rfl
def Q0(ops:ac bj):db call a6 fn (.gg ops) o st=gh call ops o st:=rfl
def Fv(a b:du):db call a6 fn (.seq a b) o st=kz (db call a6 fn a o st) (db call a6 fn b):=rfl
def Kl(c:ce)(a b:du):db call a6 fn (.cond c a b) o st=A5 (o.ar c) (db call a6 fn a o st) (db call a6 fn b o st):=rfl
def Q1(i:Nat)(a:du):db call a6 fn (.block i a) o st=pP i (db call a6 fn a o st):=rfl
def BW(b:du)(n:Nat)(o:aK)(st:ak):cN:=
 Nat.rec (motive:=λ_=>aK->ak->cN) (λ_ _=>.no) (λ_ I o st=>kz (db call a6 fn b o st) I) n o st
def adw(b:du)(n:Nat):BW call a6 fn b (n+1) o st=kz (db call a6 fn b o st) (BW call a6 fn b n):=rfl
end
section
variable(call:bN)(o:aK)(st:ak)
def Q2(c a b:ce):bw call (.pick c a b) o st=kj (o.ar c) (λt=>.ok (cond t (o.ar a)<|o.ar b) o st) .no:=rfl
def Q3(x:ce):bw call (.we x) o st=hY (o.ar x) (λ_ n _=>.ok (.int .i64 (n:Int)) o st) (r0 (o.ar x) (.ok (.int .i64<|.ofNat 0) o st) .no):=rfl
def adx(x:ce):bw call (.wg x) o st=hX (o.ar x) (λs=>.ok (.int .i64 (s.data.toList.length:Int)) o st) .no:=by
 show hX (o.ar x) (λs=>fW (dE s.data.toList) λn=>a2.ok (.int .i64<|.ofNat n) o st) a2.no=_;simp only[wA,e4];rfl
def zb(f:ce)(args:ac ce):bw call (.call f args) o st=l0 (call (o.ar f) (dQ o args) none st) (λv st=>.ok v o st) (λv st=>.aV v st):=rfl
def ady(bW:Nat)(x i:ce):bw call (.iC bW x i) o st=
 hY (o.ar x) (λb len _=>bq b (λa=>fX (o.ar i) (λ_ J=>hJ J (λJ=>ev (J+1) len (.ok (.pointer<|some<|a.add<|J*bW) o st) .no) .no) .no) .no) .no:=rfl
def Km(x:ce):bw call (.iv x) o st=hG (o.ar x) (λp=>bq p (λa=>st.load a 1 (λab=>one ab (λv=>.ok v o st) .no) .no) .no) .no:=rfl
def adz(n:Nat)(x:ce):bw call (.mV n x) o st=hG (o.ar x) (λp=>bq p (λa=>st.load a n (λab=>.ok (.agg ⟨ab⟩) o st) .no) .no) .no:=rfl
def adA(k:f6)(x:ce):bw call (.uj k x) o st=fX (o.ar x) (λ_ n=>.ok (.int k<|k.wrap n) o st) .no:=by
 show fX (o.ar x) (λ_ n=>iE k (oa k n) λv=>a2.ok v o st) a2.no=_;simp[iP,ln]
def BX(op:BinOp)(x y:ce):bw call (.bin op x y) o st=AY op (o.ar x) (o.ar y) (λv=>.ok v o st):=rfl
def adB(op:BinOp)(k j:f6)(a b:Int)(c:bv->a2):AY op (.int k a) (.int j b) c=AX op k a j b c:=rfl
def adC(op:BinOp)(a b:f9)(c:bv->a2):AY op (.string a) (.string b) c=AW op a b c:=rfl
def adD(k:f6):j3 k k=true:=by cases k<;>rfl
end
end Sym
end Go.bC
namespace Go.bC
open Sym
def W(r:cN)(Q:c6->aK->ak->Prop):Prop:=∃e o st,r= .out e o st/\Q e o st
variable{Q:c6->aK->ak->Prop}{r:cN}
def W.mk{e:c6}{o:aK}{st:ak}(h:Q e o st):W (.out e o st) Q:=⟨e,o,st,j,h⟩
def W.of_eq{O:cN}(e:r=O)(h:W O Q):W r Q:=by rwa [e]
def W.mono{j:c6->aK->ak->Prop}(h:W r Q)(cD:∀e o st,Q e o st->j e o st):W r j:=
 let⟨e,o,st,Y,G⟩:=h;⟨e,o,st,Y,cD _ _ _ G⟩
def adE(call:bN)(a6:Nat)(fn:d7)(b:du)(Q:c6->aK->ak->Prop):c6->aK->ak->Prop
 |.norm,o,st=>W (db call a6 fn b o st) Q
 |e,o,st=>Q e o st
def adF(id:Nat)(Q:c6->aK->ak->Prop):c6->aK->ak->Prop
 |.exit i,o,st=>if i=id then Q .norm o st else Q (.exit i) o st
 |e,o,st=>Q e o st
def Round(aa:Nat->aK->ak->Prop)(m:Nat)(Q:c6->aK->ak->Prop):c6->aK->ak->Prop
 |.norm,o,st=>∃R,R<m/\aa R o st
 |e,o,st=>Q e o st
section
variable{call:bN}{a6:Nat}{fn:d7}{o:aK}{st:ak}{Q:c6->aK->ak->Prop}
variable{a:du}{c:ce}{t:Bool}{v:bv}{i:Nat}{d:Tmp}
def Q4{b:du}(h:W (db call a6 fn a o st) (adE call a6 fn b Q)):W (db call a6 fn (.seq a b) o st) Q:=by
 have⟨e,L,al,Y,G⟩:=h;rw[Fv,Y];cases e with
 |norm=>exact G
 |_=>exact .mk G
def adG(h:Q .norm o st):W (db call a6 fn .skip o st) Q:=.mk h
def adH(h:Q (.exit i) o st):W (db call a6 fn (.exit i) o st) Q:=.mk h
def adI(h:Q .ret o st):W (db call a6 fn .ret o st) Q:=.mk h
theorem adJ(h:W (db call a6 fn a o st) (adF i Q)):W (db call a6 fn (.block i a) o st) Q:=by
 have⟨e,L,al,Y,G⟩:=h;rw[Q1,Y];cases e with
 |norm=>exact .mk G
 |exit J=>
  rw[adm];have A:(if J=i then Q .norm L al else Q (.exit J) L al):=G;split at A
  .rw[aD pT];exact .mk A
  .rw[av pT];exact .mk A
 |_=>exact .mk G
def adK{ops:ac bj}(h:W (gh call ops o st) Q):W (db call a6 fn (.gg ops) o st) Q:=h
def adL(h:Q .norm o st):W (gh call [] o st) Q:=.mk h
def adM{b:du}(aQ:o.ar c= .bool t)(bR:t=true->W (db call a6 fn a o st) Q)(ay:t=false->W (db call a6 fn b o st) Q):W (db call a6 fn (.cond c a b) o st) Q:=by
 rw[Kl,aQ];cases t
 .exact ay j
 .exact bR j
def adN{b:du}(aQ:o.ar c= .bool t)(N:t=true)(bR:W (db call a6 fn a o st) Q):W (db call a6 fn (.cond c a b) o st) Q:=by
 rw[Kl,aQ,N];exact bR
def adO{b:du}(aQ:o.ar c= .bool t)(N:t=false)(ay:W (db call a6 fn b o st) Q):W (db call a6 fn (.cond c a b) o st) Q:=by
 rw[Kl,aQ,N];exact ay
theorem Q5{b:du}(aa:Nat->aK->ak->Prop)
 (I:∀m o st,aa m o st->W (db call a6 fn b o st) (Round aa m Q)):∀(n m:Nat) (o:aK) (st:ak),m<n->aa m o st->W (BW call a6 fn b n o st) Q
 |0,m,_,_,h,_=>by omega
 |n+1,m,o,st,h,af=>by
  have⟨e,L,al,aC,aI⟩:=I m o st af;rw[adw,aC];cases e with
  |norm=>
   have⟨g,hm,A⟩:=aI;exact Q5 aa I n g L al R A
  |_=>exact .mk aI
def adP{b:du}(aa:Nat->aK->ak->Prop)(m:Nat)(hm:m<a6)(bX:aa m o st)
 (I:∀m o st,aa m o st->W (db call a6 fn b o st) (Round aa m Q)):W (db call a6 fn (.loop b) o st) Q:=
 Q5 aa I a6 m o st hm bX
def E:(o.put (some d) v).ar (.tmp d)=v:=by rw[BV,uM,aD j]
def N{J:Tmp}{x:bv}(h:o.ar (.tmp J)=x)(D:Nat.beq J d=false:=by rfl):(o.put (some d) v).ar (.tmp J)=x:=by
 rw[BV,uM,av];exact h;intro e;subst e;simp at D
def C:o.ar (.const v)=v:=rfl
section
variable{xs:ac bj}{d:be Tmp}{U:dh}{x y i:ce}
def p6{al:ak}(h:bw call U o st= .ok v o al)(k:W (gh call xs (o.put d v) al) Q):W (gh call (⟨d,U,none⟩::xs) o st) Q:=by
 rw[tj,h];exact k
def adQ{t:Tmp}{b c:Bool}(O:o.ar (.tmp t)= .bool c)(aQ:c=b)(k:W (gh call (⟨d,U,none⟩::xs) o st) Q):W (gh call (⟨d,U,some (t,b)⟩::xs) o st) Q:=by
 subst aQ;rw[Kk,show o.tmp t= .bool c from O];cases c
 .exact k
 .exact k
def adR{t:Tmp}{b c:Bool}(O:o.ar (.tmp t)= .bool c)(aQ:c= !b)(k:W (gh call xs (o.put d undef) st) Q):W (gh call (⟨d,U,some (t,b)⟩::xs) o st) Q:=by
 subst aQ;rw[Kk,show o.tmp t= .bool (!b)from O];cases b
 .exact k
 .exact k
def adS{t:Tmp}{b:Bool}{a:bi bv}(O:o.ar (.tmp t)= .tuple a)(k:W (gh call xs (o.put d undef) st) Q):W (gh call (⟨d,U,some (t,b)⟩::xs) o st) Q:=by
 rw[Kk,show o.tmp t= .tuple a from O];exact k
end
section
variable{x y i c a b:ce}
variable{n m:Nat}{k:f6}{p:Addr}
def uN{p:be Addr}(h:o.ar x= .slice p n m):bw call (.we x) o st= .ok (.int .i64 (n:Int)) o st:=by rw[Q3,h];rfl
def adT{gX:f6}{n:Int}(h:o.ar x= .int gX n):bw call (.uj k x) o st= .ok (.int k<|k.wrap n) o st:=by rw[adA,h];rfl
def adU{bW:Nat}{J:Int}(h:o.ar x= .slice (some p) n m)(D:o.ar i= .int k J)(bX:0<=J)(aC:J<n):
 bw call (.iC bW x i) o st= .ok (.pointer<|some<|p.add<|J.toNat*bW) o st:=by
 rw[ady,h,D];show hJ J (λJ=>ev (J+1) n _ _) _=_;rw[ado bX,fo R]
theorem adV{cs:ac bv}{el:co}{bY:Nat×Nat}{aR:Bool}(h:o.ar x= .pointer (some p))(hp:p.spot=none)(E:st.h.get p.block=some (.cells cs el bY aR))(j:cs[p.off]? =some v):
 bw call (.iv x) o st= .ok v o st:=by
 rw[Km,h];show st.load p 1 _ _=_;unfold ak.load ak.fI;rw[hp,E];show hK cs p.off 1 _ _=_;have aW:p.off<cs.length:=by
  grind
 rw[za R];have:(cs.drop p.off).take 1=[v]:=by
  rw[aO aW]at j;cases j;rw[fj aW];rfl
 rw[this];rfl
end
end
end Go.bC
namespace Go.bC
open Sym
variable{X:Ctx}
structure dV where
 r:ac bv->ak->bv->ak->Prop
 p:ac bv->ak->bv->ak->Prop
def dV.no:dV:=⟨λ_ _ _ _=>False,λ_ _ _ _=>False⟩
def BY(X:Ctx)(f:d7)(as:ac bv)(st:ak)(v:bv)(al:ak):Prop:=
 ∀(g:bH) (Y:ac bv) (w:f5),bI g as Y->bQ X g st w->
  (∀as w,(callFunc f as).run X.P w= .ok (.enter f as) w)/\
  ∀(K:CallKind) (bf:Bool->ac Frame),ju ⟨f,K,none⟩ none g bf->hn X g w ⟨f,K,none⟩ bf (lone (Frame.enter X.P f Y.toArray K) (bf false) w) (.aV v al false)
def cw(X:Ctx)(K:d7->dV):oc:=λf as st=>
 open Classical in if h:∃p:bv×ak,(K f).r as st p.1 p.2/\e8 X f ⟨as,st,p.1,p.2⟩then some (.ret (Classical.choose h).1 (Classical.choose h).2 false)
 else if h:∃p:bv×ak,(K f).p as st p.1 p.2/\BY X f as st p.1 p.2 then some (.aV (Classical.choose h).1 (Classical.choose h).2 false)else none
def BZ(K:d7->dV):sf X (cw X K):=by
 intro f as st r I g Y w A F _;rw[cw]at I;split at I
 .exact arN
 .split at I
  .exact arN
  .cases I
theorem zc{K:d7->dV}{f:d7}{as:ac bv}{st:ak}(h:∃v al,(K f).r as st v al/\e8 X f ⟨as,st,v,al⟩):
 ∃v al,cw X K f as st=some (.ret v al false)/\(K f).r as st v al:=by
 have⟨v,al,Y,G⟩:=h;have hp:∃p:bv×ak,(K f).r as st p.1 p.2/\e8 X f ⟨as,st,p.1,p.2⟩:=⟨(v,al),Y,G⟩
 grind [cw]
structure Spec where
 L:Type
 pre:L->ac bv->ak->Prop
 post:L->ac bv->ak->bv->ak->Prop
def Spec.K(S:Spec):dV:=⟨λas st v al=>∀l,S.pre l as st->S.post l as st v al,λ_ _ _ _=>False⟩
instance:Coe Spec dV:=⟨Spec.K⟩
def et(X:Ctx)(f:d7)(S:Spec):Prop:=∀as st,(∃l,S.pre l as st)->∃v al,S.K.r as st v al/\e8 X f ⟨as,st,v,al⟩
structure wX where
 L:Type
 pre:L->ac bv->ak->Prop
 post:L->ac bv->ak->bv->ak->Prop
 Kn:L->ac bv->ak->bv->ak->Prop
def wX.K(S:wX):dV:=⟨λas st v al=>∀l,S.pre l as st->S.post l as st v al,λas st v al=>∀l,S.pre l as st->S.Kn l as st v al⟩
instance:Coe wX dV:=⟨wX.K⟩
def ly(X:Ctx)(f:d7)(S:wX):Prop:=∀as st,(∃l,S.pre l as st)->(∃v al,S.K.r as st v al/\e8 X f ⟨as,st,v,al⟩)\/∃v al,S.K.p as st v al/\BY X f as st v al
variable{f:d7}{as:ac bv}{a4:cX}{n:Nat}{v:bv}{al:ak}
def adW{K:d7->dV}{st:ak}(h:(∃v al,(K f).r as st v al/\e8 X f ⟨as,st,v,al⟩)\/∃v al,(K f).p as st v al/\BY X f as st v al):
 (∃v al,cw X K f as st=some (.ret v al false)/\(K f).r as st v al)\/∃v al,cw X K f as st=some (.aV v al false)/\(K f).p as st v al:=by
 by_cases hp:∃p:bv×ak,(K f).r as st p.1 p.2/\e8 X f ⟨as,st,p.1,p.2⟩
 .exact .inl<|zc ⟨_,_,hp.choose_spec.1,hp.choose_spec.2⟩
 .obtain⟨v,al,Y,G⟩|⟨v,al,Y,G⟩:=h
  .exact absurd ⟨(v,al),Y,G⟩ hp
  .have E:∃p:bv×ak,(K f).p as st p.1 p.2/\BY X f as st p.1 p.2:=⟨(v,al),Y,G⟩;refine .inr ⟨(Classical.choose E).1,(Classical.choose E).2,?_,(Classical.choose_spec E).1⟩;rw[cw,dif_neg hp,sR E]
def bs:Nat:=4611686018427387904
theorem Ko{aL:ao cX}(D:Good X)(j:k0 X aL){K:d7->dV}(O:aL.get f=some a4){st:ak}
 (h:iF (cg aL (cw X K) n) n f a4 as none st= .ret v al false):e8 X f ⟨as,st,v,al⟩:=by
 have⟨Fn,c,ok⟩:=j f a4 O;have⟨T,C⟩:=uK D j (BZ K) n;intro g Y w A F;refine⟨ok.enters,λL bf I=>?_⟩
 grind [JP,uJ]
theorem adX{aL:ao cX}(D:Good X)(j:k0 X aL){K:d7->dV}(O:aL.get f=some a4){st:ak}
 (h:iF (cg aL (cw X K) n) n f a4 as none st= .aV v al false):BY X f as st v al:=by
 have⟨Fn,c,ok⟩:=j f a4 O;have⟨T,C⟩:=uK D j (BZ K) n;intro g Y w A F;refine⟨ok.enters,λL bf I=>?_⟩
 grind [JP,uJ]
structure uO(o:aK):Prop where
 dd:o.dd=[]
 aV:o.aV=none
 cQ:o.cQ=false
variable{call:bN}{lz:bv->ak->Prop}
def uO.put{o:aK}(h:uO o)(d:be Tmp)(v:bv):uO (o.put d v):=by
 have⟨Y,G,A,T⟩:=qJ o d v;exact⟨Y.trans h.dd,G.trans h.aV,A.trans h.cQ⟩
def eg(as:ac bv):aK:=⟨lP as 0 .nil,[],none,false,none⟩
def uO.zero(as:ac bv):uO (eg as):=sa
def Kp{st:ak}(aB:as.length<=a4.aN)
 (h:W (db call n f a4.body (eg as) st) λe o al=>(e= .norm\/e= .ret)/\∃v,fJ call a4.res none o al= .ret v al false/\lz v al):
 ∃v al,iF call n f a4 as none st= .ret v al false/\lz v al:=by
 have⟨e,o,al,Y,he,v,G,A⟩:=h;refine⟨v,al,?_,A⟩;rw[iF];rw[lR,aD<|by rwa [e4]];show cN.rec (motive:=λ_=>dY) _ _ (db call n f a4.body (eg as) st)=_;rw[Y];obtain rfl|rfl:=he
 .exact G
 .exact G
def Kq{aL:ao cX}(D:Good X)(j:k0 X aL)(K:d7->dV)(O:aL.get f=some a4){S:Spec}(aB:∀l as st,S.pre l as st->as.length<=a4.aN)
 (h:∀l as st,S.pre l as st->W (db (cg aL (cw X K)<|bs+1) (bs+1) f a4.body (eg as) st)
  (λe o al=>(e= .norm\/e= .ret)/\∃v,fJ (cg aL (cw X K)<|bs+1) a4.res none o al= .ret v al false/\S.post l as st v al)):et X f S:=by
 intro as st ⟨l,hp⟩;have⟨v,al,Y,G⟩:=Kp (aB l as st hp)<|h l as st hp;refine⟨v,al,λT C=>?_,Ko D j O Y⟩;have⟨v2,L,g,I⟩:=Kp (aB T as st C)<|h T as st C;rw[Y]at g;cases g;exact I
def Fw{st:ak}{Kr:bv->ak->Prop}(aB:as.length<=a4.aN)
 (h:W (db call n f a4.body (eg as) st) λe o al=>((e= .norm\/e= .ret)/\∃v,fJ call a4.res none o al= .ret v al false/\lz v al)\/∃v,e= .aV v/\fJ call a4.res (some v) o al= .aV v al false/\Kr v al):
 (∃v al,iF call n f a4 as none st= .ret v al false/\lz v al)\/∃v al,iF call n f a4 as none st= .aV v al false/\Kr v al:=by
 have⟨e,o,al,Y,h⟩:=h;have C:iF call n f a4 as none st=cN.rec (λe o st=>c6.rec (fJ call a4.res none o st) (λ_=>.no) (fJ call a4.res none o st) (λv=>fJ call a4.res (some v) o st) e) .no (db call n f a4.body (eg as) st):=by
  rw[iF,lR,aD<|by rw[e4];exact aB];rfl
 rw[Y]at C;obtain⟨D,v,G,A⟩|⟨v,rfl,G,A⟩:=h
 .refine .inl ⟨v,al,C.trans ?_,A⟩;obtain rfl|rfl:=D
  .exact G
  .exact G
 .exact .inr ⟨v,al,C.trans G,A⟩
def adY{aL:ao cX}(D:Good X)(j:k0 X aL)(K:d7->dV)(O:aL.get f=some a4){S:wX}(aB:∀l as st,S.pre l as st->as.length<=a4.aN)
 (h:∀l as st,S.pre l as st->W (db (cg aL (cw X K)<|bs+1) (bs+1) f a4.body (eg as) st)
  (λe o al=>((e= .norm\/e= .ret)/\∃v,fJ (cg aL (cw X K)<|bs+1) a4.res none o al= .ret v al false/\S.post l as st v al)\/∃v,e= .aV v/\fJ (cg aL (cw X K)<|bs+1) a4.res (some v) o al= .aV v al false/\S.Kn l as st v al)):ly X f S:=by
 intro as st ⟨l,hp⟩;obtain⟨v,al,Y,G⟩|⟨v,al,Y,G⟩:=Fw (aB l as st hp)<|h l as st hp
 .refine .inl ⟨v,al,λT C=>?_,Ko D j O Y⟩;obtain⟨V,L,g,I⟩|⟨V,L,g,I⟩:=Fw (aB T as st C)<|h T as st C
  .rw[Y]at g;cases g;exact I
  .rw[Y]at g;cases g
 .refine .inr ⟨v,al,λT C=>?_,adX D j O Y⟩;obtain⟨V,L,g,I⟩|⟨V,L,g,I⟩:=Fw (aB T as st C)<|h T as st C
  .rw[Y]at g;cases g
  .rw[Y]at g;cases g;exact I
section
variable{call:bN}{o:aK}{st:ak}{x y i:ce}
def j6{β:Type}(cs:ac bv)(e:co)(bY:Nat×Nat)(aR:Bool)(k:ac bv->co->Nat×Nat->Bool->β)(z:β):yz (some<|.cells cs e bY aR) k z=k cs e bY aR:=rfl
end
def fg:ac Nat->ac Nat
 |[]=>[]
 |d::aM=>match fg aM with
  |[]=>if d=0 then[]else[d]
  |r=>d::r
end Go.bC
namespace Go.bC
open Sym
section
variable{call:bN}{o:aK}{st:ak}{Q:c6->aK->ak->Prop}{a6:Nat}{fn:d7}
variable{ops:ac (bj×cn)}{fw:s6}{cy:ac (ao bx)}{c a:ce}{t:Bool}{u:bv}{n:Int}
theorem O{aA:ac Tmp}{J:Tmp}{x:bv}(h:o.ar (.tmp J)=x)(ba:aA.contains J=true:=by rfl):(o.only aA).ar (.tmp J)=x:=by grind [BV,PL]
def adZ{j T ms:ac Nat}(h:W (hk call (r3 call ms<|dE ops) ops [st.h] (pO o T) st) Q):W (db call a6 fn (.qE ops j T ms) o st) Q:=h
def Q6(h:Q .norm o st):W (hk call fw [] cy o st) Q:=.mk h
theorem Q7{U:dh}{f:aK}{v:bv}{ae:Nat}:∀(n:Nat) (cy:ac (ao bx)),n<=cy.length->(∀h∈cy.take n,∃T O,bw call U f ⟨h,ae⟩= .ok v T O)->sameAt call U f v ae n cy=true
 |0,_,_,_=>rfl
 |n+1,[],h,_=>by simp at h
 |n+1,h::cy,aB,cK=>by
  have⟨T,O,e⟩:=cK h au;show a2.rec (λg _ _=>cond (dC v g) (sameAt call U f v ae n cy) false) (λ_ _=>false) false (bw call U f ⟨h,ae⟩)=true;rw[e];show cond (dC v v) (sameAt call U f v ae n cy) false=true;rw[oX];exact Q7 n cy atL λD hm=>cK D<|by simp[hm]
def ad0{U:dh}{d:be Tmp}{aA:ac Tmp}{back:Nat}{v:bv}(Z:∀h∈st.h::cy.take (back+1),bw call U (o.only aA) ⟨h,st.ae⟩= .ok v (o.only aA) ⟨h,st.ae⟩)(aB:back<cy.length)
 (k:W (hk call fw ops cy (o.put d v) st) Q):W (hk call fw ((⟨d,U,none⟩,.read back aA)::ops) cy o st) Q:=by
 refine W.of_eq ?_ k;show jI o.t aA (λt=>hj ⟨t,[],none,false,none⟩ none
  (a2.rec (λv _ _=>cond (sameAt call U ⟨t,[],none,false,none⟩ v st.ae (Nat.succ back) cy) (hk call fw ops cy (o.put d v) st) .no) (λ_ _=>.no) .no<|bw call U ⟨t,[],none,false,none⟩ st)
  (hk call fw ops cy (o.put d undef) st) .no)=_
 rw[om];have e:=Z st.h au;have e:bw call U ⟨EU o.t aA,[],none,false,none⟩ st= .ok v (o.only aA) st:=e;rw[e];show cond (sameAt call U (o.only aA) v st.ae (Nat.succ back) cy) _ _=_;rw[Q7 _ _ R λh hm=>⟨_,_,Z h<|by simp[hm]⟩];rfl
def ad1{b:ce}(aQ:o.ar c= .bool t)(N:t=true)(bR:o.ar a=u):bw call (.pick c a b) o st= .ok u o st:=by
 rw[Q2,aQ,bR,N];rfl
def ad2{b:ce}(aQ:o.ar c= .bool t)(N:t=false)(ay:o.ar b=u):bw call (.pick c a b) o st= .ok u o st:=by
 rw[Q2,aQ,ay,N];rfl
def B0{x i:ce}{bW id N n m J:Nat}{k:f6}(h:o.ar x= .slice (some ⟨id,N,none⟩) n m)(D:o.ar i= .int k (J:Int))(ba:J<n):
 bw call (.iC bW x i) o st= .ok (.pointer<|some ⟨id,N+J*bW,none⟩) o st:=by
 rw[adU h D R R,vP];congr 3;rw[Addr.add];split
 .rename_i F;rw[F];rfl
 .rfl
def gn(h: -9223372036854775808<=n)(D:n<9223372036854775808):IntKind.i64.wrap n=n:=by
 rw[<-ln];show wh 18446744073709551616 9223372036854775808 n=n;rw[yt _ _ _ ai];split<;>omega
theorem Ks(h:0<=n)(D:n<18446744073709551616):IntKind.u64.wrap n=n:=by
 rw[<-ln];show ys 18446744073709551616 n=n;rw[rX _ _ ai];omega
end
abbrev Env:=ac<|Nat×bv
def eK(L:ac Nat)(e:Env):Env:=e.filter λp=>L.any<|Nat.beq p.1
abbrev ad3:=c6->Env->ak->Prop
end Go.bC
namespace Go.bC
open Sym
variable{X:Ctx}
theorem Q8:∀(ab:ac bv) (i:Nat) (t:ao bv) (J:Nat),(lP ab i t).get J=if i<=J/\J<i+ab.length then ab[J-i]? else t.get J
 |[],i,t,J=>by rw[av au];rfl
 |v::ab,i,t,J=>by
  have e:lP (v::ab) i t=lP ab (i+1) (t.set i v):=by
   show ao.iN (Nat.succ i) t i v (λt=>lP ab (Nat.succ i) t)=_;rw[ao.wz]
  rw[e,Q8 ab (i+1) _ J,ao.eo];by_cases N:J=i
  .subst N;rw[av R,aD j,aD au];simp
  .rw[av N];by_cases Y:i+1<=J/\J<i+1+ab.length
   .rw[aD Y,aD dM];have:J-i=(J-(i+1))+1:=by omega
    rw[this];simp
   .rw[av Y,av dM]
end Go.bC
namespace Go.bC
open Sym
section
variable{call:bN}{o:aK}{st:ak}{x y i:ce}
variable{k:f6}{m n:Nat}
def zd{op:BinOp}{m n:Int}{v:bv}(aC:op≠.shl)(aI:op≠.shr)(h:o.ar x= .int k m)(D:o.ar y= .int k n)(E:r9 op k m n=some v):bw call (.bin op x y) o st= .ok v o st:=by
 rw[BX,h,D,adB];have:AX op k m k n (λv=>a2.ok v o st)=cond (j3 k k) (AV op k m n λv=>a2.ok v o st) .no:=by
  cases op<;>first|rfl|(exact absurd j aC)|(exact absurd j aI)
 rw[this,adD,O5,E];rfl
def Q9(h:o.ar x= .int k (m:Int))(D:o.ar y= .int k (n:Int))(aj:n≠0):bw call (.bin .quo x y) o st= .ok (.int k<|k.wrap ((m/n:Nat):Int)) o st:=
 zd ai ai h D (by
  show(if(n:Int)=0 then none else _)=_;rw[av R];rfl)
def ad4(h:o.ar x= .int k (m:Int))(D:o.ar y= .int k (n:Int))(aj:n≠0):bw call (.bin .rem x y) o st= .ok (.int k ((m%n:Nat):Int)) o st:=
 zd ai ai h D (by
  show(if(n:Int)=0 then none else _)=_;rw[av R];rfl)
end
section
variable{call:bN}{a6:Nat}{fn:d7}{e:Env}{st:ak}{Q:ad3}
variable{o:aK}{t:Tmp}{yes qW z:cN}
def Kt{b:Bool}(h:o.tmp t= .bool b):hj o (some (t,b)) yes qW z=yes:=by
 show kj (o.tmp t) (λc=>cond c (cond b yes qW)<|cond b qW yes) _=_;rw[h];cases b<;>rfl
def ad5{b:Bool}(h:o.tmp t= .bool (!b)):hj o (some (t,b)) yes qW z=qW:=by
 show kj (o.tmp t) (λc=>cond c (cond b yes qW)<|cond b qW yes) _=_;rw[h];cases b<;>rfl
end
end Go.bC
namespace Go.bC
structure B1 where
 P:(Nat->be bx)->bv->Prop
 mono:∀{H bA:Nat->be bx},(∀b U,H b=some U->bA b=some U)->∀{v},P H v->P bA v
 Ra:Bool
 ok:Ra=true->∀H v,P H v->ns v=true
inductive ag:Type 1
 |i (k:IntKind) (n:Int)
 |b (t:Bool)
 |s (l:List UInt8)
 |nl
 |v (x:Value)
 |p (k U:Nat)
 |fi (k z J U:Nat)
 |aH (k z U n c:Nat)
 |b6 (z:Nat) (α:Type) (ah:α->List ag) (l:List α)
 |hq (z:Nat) (α:Type) (ah:α->List ag) (l:List α)
 |cd (z:Nat) (α:Type) (ah:α->List ag) (l:List α)
 |ip (cs:List ag)
 |mp (k:Nat)
 |g (p:B1)
 |fn (f:Fn) (bS cs:List ag)
 |agg (cs:List ag)
 |bc (cs:List ag)
 |bad
abbrev bb:=Nat->be bx
mutual
def den(H:bb):ag->ac Nat->bv->Prop
 |.i k n,_,v=>v= .int k n
 |.b t,_,v=>v= .bool t
 |.s l,_,v=>v= .string ⟨⟨l⟩⟩
 |.nl,_,v=>v= .slice none 0 0
 |.v x,_,v=>v=x
 |.p k U,ids,v=>∃b,ids[k]? =some b/\v= .pointer (some ⟨b,U,none⟩)
 |.fi k z J U,ids,v=>∃b,ids[k]? =some b/\v= .pointer (some ⟨b,J*z+U,none⟩)
 |.aH k z U n c,ids,v=>∃b,ids[k]? =some b/\v= .slice (some ⟨b,U*z,none⟩) n c
 |.b6 z _ ah l,_,v=>(l=[]/\v= .slice none 0 0)\/∃b U c ab el bY aR,v= .slice (some ⟨b,U,none⟩) l.length c/\l.length<=c/\H b=some (.cells ab el bY aR)/\∀i x,l[i]? =some x->cG H (ah x) [] ((ab.drop<|U+i*z).take z)
 |.hq z _ ah l,_,v=>(l=[]/\v= .slice none 0 0)\/(l≠[]/\∃b U c ab el bY aR,v= .slice (some ⟨b,U,none⟩) l.length c/\l.length<=c/\H b=some (.cells ab el bY aR)/\∀i x,l[i]? =some x->cG H (ah x) [] ((ab.drop<|U+i*z).take z))
 |.cd z _ ah l,_,v=>(l=[]/\v= .chan none)\/(l=[]/\v= .slice none 0 0)\/∃b U c ab el bY aR,v= .slice (some ⟨b,U,none⟩) l.length c/\l.length<=c/\H b=some (.cells ab el bY aR)/\∀i x,l[i]? =some x->cG H (ah x) [] ((ab.drop<|U+i*z).take z)
 |.ip cs,_,v=>∃b U ab el bY aR,v= .pointer (some ⟨b,U,none⟩)/\H b=some (.cells ab el bY aR)/\cG H cs [] ((ab.drop U).take cs.length)
 |.mp k,ids,v=>∃b,ids[k]? =some b/\v= .map (some b)
 |.g p,_,v=>p.P H v
 |.fn f bS cs,ids,v=>∃ab F,v= .func f ⟨ab⟩ ⟨F⟩/\cG H bS ids ab/\cG H cs ids F
 |.agg cs,ids,v=>∃ab,v= .agg ⟨ab⟩/\cG H cs ids ab
 |.bc cs,ids,v=>∃ab,v= .tuple ⟨ab⟩/\cG H cs ids ab
 |.bad,_,_=>False
def cG(H:bb):ac ag->ac Nat->ac bv->Prop
 |[],_,ab=>ab=[]
 |c::cs,ids,ab=>∃v F,ab=v::F/\den H c ids v/\cG H cs ids F
end
def cH(H B:bb):Prop:=∀b U,H b=some U->B b=some U
def cH.refl(H:bb):cH H H:=λ_ _ h=>h
theorem cH.trans{H B g:bb}(h:cH H B)(D:cH B g):cH H g:=λb U e=>D b U<|h b U e
def b9(i J:ac Nat):Prop:=∀k b:Nat,i[k]? =some b->J[k]? =some b
def b9.refl(i:ac Nat):b9 i i:=λ_ _ h=>h
def b9.nil(i:ac Nat):b9 [] i:=λk b h=>by simp at h
theorem b9.app(i J:ac Nat):b9 i (i++J):=λk b h=>by
 grind
mutual
theorem iR{H B:bb}(h:cH H B):∀(a:ag) {i J:ac Nat} {v:bv},b9 i J->den H a i v->den B a J v
 |.i _ _,_,_,_,_,d=>d
 |.b _,_,_,_,_,d=>d
 |.s _,_,_,_,_,d=>d
 |.nl,_,_,_,_,d=>d
 |.v _,_,_,_,_,d=>d
 |.p _ _,_,_,_,af,⟨b,e,d⟩=>⟨b,af _ _ e,d⟩
 |.fi _ _ _ _,_,_,_,af,⟨b,e,d⟩=>⟨b,af _ _ e,d⟩
 |.aH _ _ _ _ _,_,_,_,af,⟨b,e,d⟩=>⟨b,af _ _ e,d⟩
 |.b6 _ _ _ _,_,_,_,_,.inl d=>.inl d
 |.b6 _ _ ah _,_,_,_,_,.inr ⟨b,U,c,ab,el,bY,aR,C,jt,D,A⟩=>.inr atW
 |.hq _ _ _ _,_,_,_,_,.inl d=>.inl d
 |.hq _ _ ah _,_,_,_,_,.inr ⟨aj,b,U,c,ab,el,bY,aR,C,jt,D,A⟩=>.inr ⟨aj,b,U,c,ab,el,bY,aR,C,jt,h _ _ D,λi x O=>kF h (ah x) apu<|A i x O⟩
 |.cd _ _ _ _,_,_,_,_,.inl d=>.inl d
 |.cd _ _ _ _,_,_,_,_,.inr (.inl d)=>.inr (.inl d)
 |.cd _ _ ah _,_,_,_,_,.inr (.inr ⟨b,U,c,ab,el,bY,aR,C,jt,D,A⟩)=>.inr (.inr atW)
 |.ip cs,_,_,_,_,⟨b,U,ab,el,bY,aR,C,jt,D⟩=>⟨b,U,ab,el,bY,aR,C,h _ _ jt,kF h cs apu D⟩
 |.mp _,_,_,_,af,⟨b,e,d⟩=>⟨b,af _ _ e,d⟩
 |.g p,_,_,_,_,d=>p.mono h d
 |.fn _ bS cs,_,_,_,af,⟨ab,F,e,E,N⟩=>⟨ab,F,e,kF h bS af E,kF h cs af N⟩
 |.agg cs,_,_,_,af,⟨ab,e,d⟩=>⟨ab,e,kF h cs af d⟩
 |.bc cs,_,_,_,af,⟨ab,e,d⟩=>⟨ab,e,kF h cs af d⟩
 |.bad,_,_,_,_,d=>d.elim
theorem kF{H B:bb}(h:cH H B):∀(a:ac ag) {i J:ac Nat} {v:ac bv},b9 i J->cG H a i v->cG B a J v
 |[],_,_,_,_,d=>d
 |a::as,_,_,_,af,⟨v,F,e,O,N⟩=>⟨v,F,e,iR h a af O,kF h as af N⟩
end
mutual
def j7(f:ac Nat):ag->ag
 |.p k U=>match f[k]? with|some J=>.p J U|none=>.bad
 |.fi k z J U=>match f[k]? with|some m=>.fi m z J U|none=>.bad
 |.aH k z U n c=>match f[k]? with|some m=>.aH m z U n c|none=>.bad
 |.mp k=>match f[k]? with|some m=>.mp m|none=>.bad
 |.g p=>.g p
 |.fn g bS cs=>.fn g (lA f bS) (lA f cs)
 |.agg cs=>.agg (lA f cs)
 |.bc cs=>.bc (lA f cs)
 |.i k n=>.i k n
 |.b t=>.b t
 |.s l=>.s l
 |.nl=>.nl
 |.v x=>.v x
 |.b6 z α ah l=>.b6 z α ah l
 |.hq z α ah l=>.hq z α ah l
 |.cd z α ah l=>.cd z α ah l
 |.ip cs=>.ip cs
 |.bad=>.bad
def lA(f:ac Nat):ac ag->ac ag
 |[]=>[]
 |a::as=>j7 f a::lA f as
end
def pick(f ids:ac Nat):ac Nat:=f.map λk=>(ids[k]?).getD 0
def uP{f ids:ac Nat}{k m b:Nat}(D:f[k]? =some m)(ay:ids[m]? =some b):(pick f ids)[k]? =some b:=by
 rw[pick,x8,D];simp[ay]
mutual
theorem Ku{H:bb}(f:ac Nat){ids:ac Nat}:∀(a:ag) {v:bv},den H (j7 f a) ids v->den H a (pick f ids) v
 |.i _ _,_,d=>d
 |.b _,_,d=>d
 |.s _,_,d=>d
 |.nl,_,d=>d
 |.v _,_,d=>d
 |.p k U,v,d=>by
  unfold j7 at d;cases h:f[k]? with
  |none=>rw[h]at d;exact d.elim
  |some J=>exact apT
 |.fi k z J U,v,d=>by
  unfold j7 at d;cases h:f[k]? with
  |none=>rw[h]at d;exact d.elim
  |some J=>exact apT
 |.aH k z U n c,v,d=>by
  unfold j7 at d;cases h:f[k]? with
  |none=>rw[h]at d;exact d.elim
  |some J=>exact apT
 |.b6 _ _ _ _,_,d=>d
 |.hq _ _ _ _,_,d=>d
 |.cd _ _ _ _,_,d=>d
 |.ip _,_,d=>d
 |.mp k,v,d=>by
  unfold j7 at d;cases h:f[k]? with
  |none=>rw[h]at d;exact d.elim
  |some J=>exact apT
 |.g _,_,d=>d
 |.fn _ bS cs,_,⟨ab,F,e,O,N⟩=>⟨ab,F,e,uQ f bS O,uQ f cs N⟩
 |.agg cs,_,⟨ab,e,d⟩=>⟨ab,e,uQ f cs d⟩
 |.bc cs,_,⟨ab,e,d⟩=>⟨ab,e,uQ f cs d⟩
 |.bad,_,d=>d.elim
theorem uQ{H:bb}(f:ac Nat){ids:ac Nat}:∀(a:ac ag) {v:ac bv},cG H (lA f a) ids v->cG H a (pick f ids) v
 |[],_,d=>d
 |a::as,_,⟨v,F,e,O,N⟩=>⟨v,F,e,Ku f a O,uQ f as N⟩
end
mutual
def h1:ag->Bool
 |.p _ _|.fi _ _ _ _|.aH _ _ _ _ _|.mp _=>false
 |.fn _ bS cs=>gp bS&&gp cs
 |.agg cs=>gp cs
 |.bc cs=>gp cs
 |_=>true
def gp:ac ag->Bool
 |[]=>true
 |a::as=>h1 a&&gp as
end
mutual
theorem tk{H:bb}{ids:ac Nat}:∀(a:ag) {v:bv},h1 a=true->den H a ids v->∀J,den H a J v
 |.i _ _,_,_,d,_=>d
 |.b _,_,_,d,_=>d
 |.s _,_,_,d,_=>d
 |.nl,_,_,d,_=>d
 |.v _,_,_,d,_=>d
 |.p _ _,_,h,_,_=>by cases h
 |.fi _ _ _ _,_,h,_,_=>by cases h
 |.aH _ _ _ _ _,_,h,_,_=>by cases h
 |.b6 _ _ _ _,_,_,d,_=>d
 |.hq _ _ _ _,_,_,d,_=>d
 |.cd _ _ _ _,_,_,d,_=>d
 |.ip _,_,_,d,_=>d
 |.mp _,_,h,_,_=>by cases h
 |.g _,_,_,d,_=>d
 |.fn _ bS cs,_,h,⟨ab,F,e,O,N⟩,J=>by
  have h:(gp bS&&gp cs)=true:=h;rw[c1]at h;exact⟨ab,F,e,nz bS h.1 O J,nz cs h.2 N J⟩
 |.agg cs,_,h,⟨ab,e,d⟩,J=>⟨ab,e,nz cs h d J⟩
 |.bc cs,_,h,⟨ab,e,d⟩,J=>⟨ab,e,nz cs h d J⟩
 |.bad,_,_,d,_=>d.elim
theorem nz{H:bb}{ids:ac Nat}:∀(a:ac ag) {v:ac bv},gp a=true->cG H a ids v->∀J,cG H a J v
 |[],_,_,d,_=>d
 |a::as,_,h,⟨v,F,e,O,N⟩,J=>by
  have h:(h1 a&&gp as)=true:=h;rw[c1]at h;exact⟨v,F,e,tk a h.1 O J,nz as h.2 N J⟩
end
variable{v:bv}
def qX:ag->Bool
 |.v x=>ns x
 |.g p=>p.Ra
 |.agg _|.bc _|.bad=>false
 |_=>true
def pa:ac ag->Bool
 |[]=>true
 |a::as=>qX a&&pa as
def Fx{H:bb}{ids:ac Nat}{a:ag}(h:qX a=true)(d:den H a ids v):ns v=true:=by
 cases a<;>first
  |(cases h;done)
  |(rename_i p;exact p.ok h _ _ d)
  |(rfl)
  |(rcases d with⟨_,rfl⟩|⟨b,U,c,_,_,_,_,rfl,_⟩<;>rfl)
  |(rcases d with⟨_,rfl⟩|⟨_,b,U,c,_,_,_,_,rfl,_⟩<;>rfl)
  |(rcases d with⟨_,rfl⟩|⟨_,rfl⟩|⟨b,U,c,_,_,_,_,rfl,_⟩<;>rfl)
  |(obtain⟨b,U,c,_,_,_,rfl,_⟩:=d;rfl)
  |(obtain⟨b,_,rfl,_⟩:=d;rfl)
  |(have D:=d;subst D;first|rfl|exact h)
def ad6(h:ns v=true):hW v=[v]:=by
 cases v<;>first|rfl|cases h
theorem B2{H:bb}{ids:ac Nat}:∀{as:ac ag} {ab:ac bv},pa as=true->cG H as ids ab->hi ab=true
 |[],_,_,d=>by cases d;rfl
 |a::as,_,h,⟨v,F,e,O,N⟩=>by
  subst e;have h:(qX a&&pa as)=true:=h;rw[c1]at h;show cond (ns v) (hi F) false=true;rw[Fx h.1 O,B2 h.2 N];rfl
theorem gq{H:bb}{ids:ac Nat}:∀{as:ac ag} {ab:ac bv},cG H as ids ab->ab.length=as.length
 |[],_,d=>by cases d;rfl
 |a::as,_,⟨v,F,e,O,N⟩=>by subst e;simp[gq N]
theorem tl{H:bb}{ids:ac Nat}:∀{as:ac ag} {ab:ac bv} {k:Nat} {a:ag},cG H as ids ab->as[k]? =some a->∃v,ab[k]? =some v/\den H a ids v
 |[],_,_,_,_,h=>by simp at h
 |a::as,_,0,_,⟨v,F,e,O,N⟩,h=>by subst e;simp at h;subst h;exact⟨v,j,O⟩
 |a::as,_,k+1,c,⟨v,F,e,O,N⟩,h=>by
  subst e;obtain⟨u,aC,aI⟩:=tl N apH;exact⟨u,by simpa using aC,aI⟩
theorem B3{H:bb}{ids:ac Nat}:∀{as b2:ac ag} {ab F:ac bv},cG H as ids ab->cG H b2 ids F->cG H (as++b2) ids (ab++F)
 |[],_,_,_,d,D=>by cases d;exact D
 |a::as,_,_,_,⟨v,F,e,O,N⟩,D=>by subst e;exact⟨v,_,j,O,B3 N D⟩
theorem nA{H:bb}{ids:ac Nat}:∀{as:ac ag} {ab:ac bv} (n:Nat),cG H as ids ab->cG H (as.drop n) ids (ab.drop n)
 |_,_,0,d=>d
 |[],_,n+1,d=>by cases d;exact j
 |a::as,_,n+1,⟨v,F,e,O,N⟩=>by subst e;exact nA n N
theorem so{H:bb}{ids:ac Nat}:∀{as:ac ag} {ab:ac bv} (n:Nat),cG H as ids ab->cG H (as.take n) ids (ab.take n)
 |_,_,0,d=>rfl
 |[],_,n+1,d=>by cases d;exact j
 |a::as,_,n+1,⟨v,F,e,O,N⟩=>by subst e;exact⟨v,_,j,O,so n N⟩
theorem Rb{H:bb}{ids:ac Nat}:∀{as:ac ag} {ab:ac bv} (n:Nat) {a:ag} {v:bv},cG H as ids ab->den H a ids v->cG H (as.set n a) ids (ab.set n v)
 |[],_,_,_,_,d,_=>by cases d;exact j
 |a::as,_,0,_,_,⟨v,F,e,O,N⟩,D=>by subst e;exact⟨_,_,j,D,N⟩
 |a::as,_,n+1,_,_,⟨v,F,e,O,N⟩,D=>by subst e;exact⟨_,_,j,O,Rb n N D⟩
def bz(a b:ag):Prop:=∀(H:bb) (i:ac Nat) (v:bv),den H a i v->den H b i v
variable{z:Nat}{α:Type}{a:ag}{as:ac ag}{l:ac α}
def fT:ac ag->ac ag->Prop
 |[],[]=>True
 |a::as,b::b2=>bz a b/\fT as b2
 |_,_=>False
def bz.refl(a:ag):bz a a:=λ_ _ _ d=>d
def bz.of{b:ag}(h:a=b):bz a b:=h▸bz.refl a
def fT.refl:∀l:ac ag,fT l l
 |[]=>trivial
 |a::as=>⟨bz.refl a,fT.refl as⟩
def fT.den{H:bb}{i:ac Nat}:∀{as b2:ac ag} {ab:ac bv},fT as b2->cG H as i ab->cG H b2 i ab
 |[],[],_,_,d=>d
 |[],_::_,_,h,_=>h.elim
 |_::_,[],_,h,_=>h.elim
 |_::_,_::_,_,⟨aC,aI⟩,⟨v,F,e,O,N⟩=>⟨v,F,e,aC _ _ _ O,fT.den aI N⟩
def bz.agg{b2:ac ag}(h:fT as b2):bz (.agg as) (.agg b2):=λ_ _ _ ⟨ab,e,d⟩=>⟨ab,e,h.den d⟩
def bz.bc{b2:ac ag}(h:fT as b2):bz (.bc as) (.bc b2):=λ_ _ _ ⟨ab,e,d⟩=>⟨ab,e,h.den d⟩
def bz.nl{ah:α->ac ag}:bz .nl (.b6 z α ah []):=λ_ _ _ d=>.inl ⟨j,d⟩
def bz.iS{ah:α->ac ag}:bz .nl (.hq z α ah []):=λ_ _ _ d=>.inl ⟨j,d⟩
def bz.h0{ah:α->ac ag}(h:l≠[]):bz (.cd z α ah l) (.b6 z α ah l):=λ_ _ _ d=>d.elim (λd=>absurd d.1 h) id
def bz.cd{ah:α->ac ag}:bz (.b6 z α ah l) (.cd z α ah l):=λ_ _ _ d=>.inr d
def bz.Fy{ah:α->ac ag}:bz (.hq z α ah l) (.b6 z α ah l):=λ_ _ _ d=>d.elim .inl λd=>.inr d.2
def bz.hq{ah:α->ac ag}(h:l≠[]):bz (.b6 z α ah l) (.hq z α ah l):=λ_ _ _ d=>d.elim .inl λd=>.inr ⟨h,d⟩
theorem bz.trans{b c:ag}(h:bz a b)(D:bz b c):bz a c:=λH i v d=>D H i v<|h H i v d
open Sym
section
abbrev bP:=ac<|Nat×ag
def dn:bP->Nat->be ag
 |[],_=>none
 |(i,a)::l,J=>cond (Nat.beq i J) (some a)<|dn l J
def lB(p:Nat×ag)(l:bP)(J:Nat):dn (p::l) J=cond (Nat.beq p.1 J) (some p.2) (dn l J):=rfl
def B4:bv->ag
 |.int k n=>.i k n
 |.bool t=>.b t
 |.string ⟨⟨l⟩⟩=>.s l
 |.slice none 0 0=>.nl
 |x=>.v x
def uR:ac bv->ac ag
 |[]=>[]
 |v::ab=>B4 v::uR ab
def ad7(H:bb)(ids:ac Nat)(v:bv):den H (B4 v) ids v:=by
 unfold B4;split<;>rfl
theorem uS(H:bb)(ids:ac Nat):∀ab:ac bv,cG H (uR ab) ids ab
 |[]=>rfl
 |v::ab=>⟨v,ab,j,ad7 H ids v,uS H ids ab⟩
def Kv:bv->be ag
 |.agg ⟨l⟩=>some (.agg<|uR l)
 |.int k n=>some (.i k n)
 |.bool t=>some (.b t)
 |.string ⟨⟨l⟩⟩=>some (.s l)
 |.slice none 0 0=>some .nl
 |.tuple ⟨[]⟩=>some (.bc [])
 |x=>some<|.v x
def ad8(h:Kv v=some a)(H:bb)(ids:ac Nat):den H a ids v:=by
 unfold Kv at h;split at h<;>cases h
 .exact⟨_,j,uS H ids _⟩
 all_goals first|rfl|exact ap6
def a5(e:bP):ce->be ag
 |.tmp J=>dn e J
 |.const v=>Kv v
 |.global g=>some (.v<|.pointer<|some ⟨g,0,none⟩)
 |.func f=>some<|.v<|.func (.func f) #[] #[]
def hr(e:bP):ac ce->be (ac ag)
 |[]=>some []
 |x::xs=>match a5 e x with
  |some a=>match hr e xs with
   |some as=>some (a::as)
   |none=>none
  |none=>none
structure cS(o:aK)(H:bb)(ids:ac Nat)(e:bP):Prop where
 pl:uO o
 get:∀J a,dn e J=some a->den H a ids (o.tmp J)
variable{o:aK}{H:bb}{ids:ac Nat}{e:bP}
theorem cS.ar(h:cS o H ids e){x:ce}(O:a5 e x=some a):den H a ids (o.ar x):=by
 cases x with
 |tmp J=>exact h.get J a O
 |const w=>exact ad8 O H ids
 |_=>cases O;rfl
theorem cS.dQ{o:aK}{H:bb}{ids:ac Nat}{e:bP}(h:cS o H ids e):∀{xs:ac ce} {as:ac ag},hr e xs=some as->cG H as ids (dQ o xs)
 |[],_,O=>by cases O;rfl
 |x::xs,_,O=>by
  rw[hr]at O;cases aC:a5 e x with
  |none=>rw[aC]at O;cases O
  |some a=>
   cases aI:hr e xs with
   |none=>rw[aC,aI]at O;cases O
   |some as=>
    rw[aC,aI]at O;cases O;exact⟨_,_,j,h.ar aC,h.dQ aI⟩
theorem cS.put(h:cS o H ids e)(d:Tmp)(D:den H a ids v):cS (o.put (some d) v) H ids ((d,a)::e):=by
 refine⟨h.pl.put _ _,λJ w V=>?_⟩;rw[lB]at V;rw[uM];cases C:Nat.beq d J with
 |true=>
  simp_all
 |false=>
  rw[C]at V;rw[av λe=>by rw[e,kT]at C;cases C];exact h.get J w V
def jb(d:Nat):bP->bP
 |[]=>[]
 |p::l=>cond (Nat.beq p.1 d) (jb d l)<|p::jb d l
theorem Fz(d:Nat):∀(e:bP) (J:Nat) (a:ag),dn (jb d e) J=some a->J≠d/\dn e J=some a
 |[],_,_,h=>by cases h
 |p::e,J,a,h=>by
  rw[jb]at h;cases ay:Nat.beq p.1 d with
  |true=>
   rw[ay]at h;have⟨aC,aI⟩:=Fz d e J a h;refine⟨aC,?_⟩;rw[lB];have:Nat.beq p.1 J=false:=by
    cases W:Nat.beq p.1 J with
    |false=>rfl
    |true=>exact absurd ((dB W).symm.trans<|dB ay) aC
   rw[this];exact aI
  |false=>
   rw[ay]at h;have h:cond (Nat.beq p.1 J) (some p.2) (dn (jb d e) J)=some a:=h;rw[lB];cases W:Nat.beq p.1 J with
   |true=>
    grind
   |false=>rw[W]at h;exact Fz d e J a h
def cS.ad9(h:cS o H ids e)(d:Tmp)(v:bv):cS (o.put (some d) v) H ids (jb d e):=by
 refine⟨h.pl.put _ _,λJ w V=>?_⟩;have⟨Y,G⟩:=Fz d e J w V;rw[uM,av Y];exact h.get J w G
def cS.mono{D:bb}{E:ac Nat}(h:cS o H ids e)(cK:cH H D)(af:b9 ids E):cS o D E e:=⟨h.pl,λJ a V=>iR cK a af<|h.get J a V⟩
def dZ(L:ac Nat):bP->bP
 |[]=>[]
 |p::l=>cond (L.any<|Nat.beq p.1) (p::dZ L l)<|dZ L l
theorem Kw(L:ac Nat):∀(e:bP) (J:Nat) (a:ag),dn (dZ L e) J=some a->L.contains J=true/\dn e J=some a
 |[],_,_,h=>by cases h
 |p::e,J,a,h=>by
  rw[dZ]at h;cases ay:L.any (Nat.beq p.1)with
  |true=>
   rw[ay]at h;have h:cond (Nat.beq p.1 J) (some p.2) (dn (dZ L e) J)=some a:=h;rw[lB];cases W:Nat.beq p.1 J with
   |true=>
    simp_all
   |false=>rw[W]at h;exact Kw L e J a h
  |false=>
   rw[ay]at h;have⟨Y,G⟩:=Kw L e J a h;refine⟨Y,?_⟩;rw[lB]
   grind
def cS.only(h:cS o H ids e)(aA:ac Tmp):cS (o.only aA) H ids (dZ aA e):=
 ⟨sa,λJ a V=>by
  have⟨Y,G⟩:=Kw aA e J a V;have:=O (o:=o) j Y;rw[BV]at this;rw[this];exact h.get J a G⟩
def qY(op:BinOp)(k:f6)(a b:Int):be ag:=
 match op with
 |.add=>some (.i k<|k.wrap<|a+b)
 |.sub=>some (.i k<|k.wrap<|a-b)
 |.mul=>some (.i k<|k.wrap<|a*b)
 |.quo=>if b=0 then none else some (.i k<|k.wrap<|a.tdiv b)
 |.rem=>if b=0 then none else some (.i k<|a.tmod b)
 |.and=>some (.i k<|k.wrap (BitVec.ofInt k.bits a&&&BitVec.ofInt k.bits b).toNat)
 |.or=>some (.i k<|k.wrap (BitVec.ofInt k.bits a|||BitVec.ofInt k.bits b).toNat)
 |.xor=>some (.i k<|k.wrap (BitVec.ofInt k.bits a^^^BitVec.ofInt k.bits b).toNat)
 |.andNot=>some (.i k<|k.wrap (BitVec.ofInt k.bits a&&& ~~~(BitVec.ofInt k.bits b)).toNat)
 |.eql=>some (.b<|decide (a=b))
 |.neq=>some (.b<|decide (a≠b))
 |.lss=>some (.b<|decide (a<b))
 |.leq=>some (.b<|decide (a<=b))
 |.gtr=>some (.b<|decide (b<a))
 |.geq=>some (.b<|decide (b<=a))
 |_=>none
def ze(op:BinOp)(k:f6)(M:Nat)(a b:Int):be ag:=
 match op with
 |.add=>match a,b with
  |.ofNat m,.ofNat n=>some (.i k (((m+n)%M:Nat):Int))
  |a,b=>qY .add k a b
 |.sub=>match a,b with
  |.ofNat m,.ofNat n=>some (.i k (((m+(M*n-n))%M:Nat):Int))
  |a,b=>qY .sub k a b
 |.mul=>match a,b with
  |.ofNat m,.ofNat n=>some (.i k ((m*n%M:Nat):Int))
  |a,b=>qY .mul k a b
 |.quo=>match a,b with
  |.ofNat m,.ofNat n=>if n=0 then none else some (.i k ((m/n%M:Nat):Int))
  |a,b=>qY .quo k a b
 |.rem=>match a,b with
  |.ofNat m,.ofNat n=>if n=0 then none else some (.i k ((m%n:Nat):Int))
  |a,b=>qY .rem k a b
 |.and=>match a,b with
  |.ofNat m,.ofNat n=>some (.i k (((m%M)&&&(n%M):Nat):Int))
  |a,b=>qY .and k a b
 |.or=>match a,b with
  |.ofNat m,.ofNat n=>some (.i k (((m%M)|||(n%M):Nat):Int))
  |a,b=>qY .or k a b
 |op=>qY op k a b
def Kx(op:BinOp)(k:f6)(a b:Int):be ag:=
 match k with
 |.u8=>ze op .u8 256 a b
 |.u16=>ze op .u16 65536 a b
 |.u32=>ze op .u32 4294967296 a b
 |.u64=>ze op .u64 18446744073709551616 a b
 |k=>qY op k a b
def zf(k:f6)(M:Nat)(n:Int):be ag:=
 match n with
 |.ofNat m=>some (.i k ((m%M:Nat):Int))
 |n=>some<|.i k<|k.wrap n
def Rc(k:f6)(n:Int):be ag:=
 match k with
 |.u8=>zf .u8 256 n
 |.u16=>zf .u16 65536 n
 |.u32=>zf .u32 4294967296 n
 |.u64=>zf .u64 18446744073709551616 n
 |k=>some<|.i k<|k.wrap n
def zg(k:f6)(M:Nat)(a b:Int):be ag:=
 match a,b with
 |.ofNat m,.ofNat n=>some (.i k ((m*2^n%M:Nat):Int))
 |_,_=>none
def Ky(k:f6)(a b:Int):be ag:=
 match b with
 |.ofNat n=>match Nat.ble n k.bits with
  |true=>some (.i k<|k.wrap<|a*2^n)
  |false=>none
 |_=>none
def Rd(k:f6)(a b:Int):be ag:=
 match k with
 |.u8=>zg .u8 256 a b
 |.u16=>zg .u16 65536 a b
 |.u32=>zg .u32 4294967296 a b
 |.u64=>zg .u64 18446744073709551616 a b
 |k=>Ky k a b
def Kz(k:f6)(a b:Int):be ag:=
 match b with
 |.ofNat n=>match Nat.ble n k.bits with
  |true=>match a with
   |.ofNat m=>some (.i k ((m/2^n:Nat):Int))
   |a=>some (.i k<|a.fdiv<|2^n)
  |false=>none
 |_=>none
def Re(op:BinOp)(k gX:f6)(a b:Int):be ag:=
 match op with
 |.shl=>Rd k a b
 |.shr=>Kz k a b
 |op=>match j3 k gX with
  |true=>Kx op k a b
  |false=>none
def KA(op:BinOp):ag->ag->be ag
 |.i k a,.i gX b=>Re op k gX a b
 |.s x,.s y=>match op with
  |.eql=>some (.b<|x==y)
  |.neq=>some (.b<|!(x==y))
  |_=>none
 |_,_=>none
def KB(op:UnOp):ag->be ag
 |.i k n=>match op with
  |.neg=>some (.i k<|k.wrap<|-n)
  |.xor=>some (.i k<|k.wrap (BitVec.ofInt k.bits (if k.signed then -1 else k.max)^^^BitVec.ofInt k.bits n).toNat)
  |_=>none
 |.b t=>match op with
  |.not=>some (.b<|!t)
  |_=>none
 |_=>none
def m6(neg:Bool)(b:Bool):Bool:=cond neg (!b) b
def KC(neg:Bool):qB->ag->ag->be ag
 |.yn,.b x,.b y=>some (.b<|m6 neg<|x==y)
 |.yn,.i k x,.i gX y=>match j3 k gX with
  |true=>some (.b<|m6 neg<|decide (x=y))
  |false=>none
 |.yn,.s x,.s y=>some (.b<|m6 neg<|x==y)
 |.mi,.nl,.nl=>some (.b<|m6 neg true)
 |.mi,.hq _ _ _ l,.nl=>some (.b<|m6 neg l.isEmpty)
 |.mi,.aH _ _ _ _ _,.nl=>some (.b<|m6 neg false)
 |.mi,.nl,.aH _ _ _ _ _=>some (.b<|m6 neg false)
 |.ptr,.p _ _,.v (.pointer none)=>some (.b<|m6 neg false)
 |.ptr,.fi _ _ _ _,.v (.pointer none)=>some (.b<|m6 neg false)
 |.ptr,.ip _,.v (.pointer none)=>some (.b<|m6 neg false)
 |.D0,.fn _ _ _,.v .nilFunc=>some (.b<|m6 neg false)
 |_,_,_=>none
def FA(e:bP)(k:f6):ac ce->Int->be ag
 |[],m=>some (.i k m)
 |x::xs,m=>match a5 e x with
  |some (.i gX y)=>match j3 k gX with
   |true=>FA e k xs (max m y)
   |false=>none
  |_=>none
def FB(e:bP)(k:f6):ac ce->Int->be ag
 |[],m=>some (.i k m)
 |x::xs,m=>match a5 e x with
  |some (.i gX y)=>match j3 k gX with
   |true=>FB e k xs (min m y)
   |false=>none
  |_=>none
def FC{β:Type _}:ac ag->Nat->(ac ag->be β)->be β
 |_,0,K=>K []
 |[],_+1,_=>none
 |a::as,n+1,K=>FC as n λr=>K<|a::r
def B5:ac ag->Nat->Bool
 |[],0=>true
 |_::as,n+1=>B5 as n
 |_,_=>false
def qZ{β:Type _}(cs:ac ag)(U n:Nat)(K:ac ag->be β):be β:=
 match U with
 |0=>match B5 cs n with
  |true=>K cs
  |false=>FC cs n K
 |U=>FC (cs.drop U) n K
def FD(Z:Bool):ac ag->be ag
 |[a]=>match Z with
  |true=>some (.agg [a])
  |false=>some a
 |cs=>match Z with
  |true=>some (.agg cs)
  |false=>none
def KD(e:bP):dh->be ag
 |.jF x=>a5 e x
 |.ll x=>a5 e x
 |.bin op x y=>match a5 e x with
  |some a=>match a5 e y with
   |some b=>KA op a b
   |none=>none
  |none=>none
 |.eqv neg t x y=>match a5 e x with
  |some a=>match a5 e y with
   |some b=>KC neg t a b
   |none=>none
  |none=>none
 |.un op x=>match a5 e x with
  |some a=>KB op a
  |none=>none
 |.uj k x=>match a5 e x with
  |some (.i _ n)=>Rc k n
  |_=>none
 |.yq x=>match a5 e x with
  |some (.s l)=>some (.s l)
  |_=>none
 |.rU f bS cs=>match hr e bS with
  |some as=>match hr e cs with
   |some b2=>some (.fn f as b2)
   |none=>none
  |none=>none
 |.rW x i=>match a5 e x with
  |some (.bc ab)=>ab[i]?
  |_=>none
 |.we x=>match a5 e x with
  |some .nl=>some (.i .i64 0)
  |some (.aH _ _ _ n _)=>some (.i .i64 (n:Int))
  |some (.b6 _ _ _ l)=>some (.i .i64 (l.length:Int))
  |some (.hq _ _ _ l)=>some (.i .i64 (l.length:Int))
  |some (.cd _ _ _ l)=>some (.i .i64 (l.length:Int))
  |_=>none
 |.wg x=>match a5 e x with
  |some (.s l)=>some (.i .i64 (l.length:Int))
  |_=>none
 |.AP n=>some (.i .i64 (n:Int))
 |.qD N x=>match a5 e x with
  |some (.p k U)=>some (.p k<|U+N)
  |some (.fi k z J U)=>some (.fi k z J<|U+N)
  |some (.ip cs)=>some (.ip<|cs.drop N)
  |_=>none
 |.pI N bW Z x=>match a5 e x with
  |some (.agg cs)=>qZ cs N bW (FD Z)
  |_=>none
 |.ui x=>match a5 e x with
  |some (.p k U)=>some (.p k U)
  |some (.fi k z J U)=>some (.fi k z J U)
  |some (.ip cs)=>some (.ip cs)
  |some (.v<|.func (.func g) a b)=>some (.v<|.func (.func g) a b)
  |_=>none
 |.pick c x y=>match a5 e c with
  |some (.b true)=>a5 e x
  |some (.b false)=>a5 e y
  |_=>none
 |.g7 x xs=>match a5 e x with
  |some (.i k n)=>FA e k xs n
  |_=>none
 |.AQ x xs=>match a5 e x with
  |some (.i k n)=>FB e k xs n
  |_=>none
 |_=>none
end
section
variable{call:bN}{o:aK}{x y i:ce}
variable{k:f6}
def Rf{gX:f6}(h:j3 k gX=true):k=gX:=by cases k<;>cases gX<;>first|rfl|cases h
def tm{op:BinOp}{a b:Int}{r:ag}(h:qY op k a b=some r)(aC:op≠.shl)(aI:op≠.shr)(O:o.ar x= .int k a)(T:o.ar y= .int k b):
 ∃v,(∀H ids,den H r ids v)/\∀st,bw call (.bin op x y) o st= .ok v o st:=by
 have key:∀v,r9 op k a b=some v->(∀H ids,den H r ids v)->∃v,(∀H ids,den H r ids v)/\∀st,bw call (.bin op x y) o st= .ok v o st:=
  λv e d=>⟨v,d,λst=>zd aC aI O T e⟩
 cases op<;>simp only[qY]at h
 case quo=>split at h<;>cases h;rename_i C;exact key _ (by simp[r9,av C]) λ_ _=>j
 case rem=>split at h<;>cases h;rename_i C;exact key _ (by simp[r9,av C]) λ_ _=>j
 all_goals first
  |(cases h;done)
  |(cases h;exact key _ j λ_ _=>j)
  |(cases h;exact key _ j λ_ _=>by congr 1;rw[pC];simp)
def wY(k:f6)(M:Nat):Prop:=(∀n:Int,k.wrap n=n%(M:Int))/\M=2^k.bits
variable{r:ag}{gX:f6}{H:bb}{ids:ac Nat}{op:BinOp}{n M:Nat}{cs:ac ag}{U:Nat}
def KE:wY .u8 256:=aqj
def KF:wY .u16 65536:=aqj
def KG:wY .u32 4294967296:=aqj
def KH:wY .u64 18446744073709551616:=aqj
theorem FE(E:wY k M){a b:Int}(h:ze op k M a b=some r)(aC:op≠.shl)(aI:op≠.shr)(O:o.ar x= .int k a)(T:o.ar y= .int k b):
 ∃v,(∀H ids,den H r ids v)/\∀st,bw call (.bin op x y) o st= .ok v o st:=by
 have hp:0<M:=by rw[E.2];exact n4 _
 have key:∀v,r9 op k a b=some v->(∀H ids,den H r ids v)->∃v,(∀H ids,den H r ids v)/\∀st,bw call (.bin op x y) o st= .ok v o st:=
  λv e d=>⟨v,d,λst=>zd aC aI O T e⟩
 have uT:∀{m n:Int},m=n->∀(H:bb) ids,den H (.i k n) ids (.int k m):=λe _ _=>by rw[e];rfl
 have wn:∀n:Nat,k.wrap (n:Int)=↑(n%M):=λn=>by rw[E.1];rfl
 unfold ze at h;split at h
 .split at h
  .rename_i m n;cases h;exact key _ j<|uT<|wn<|m+n
  .exact aqu
 .split at h
  .rename_i m n;cases h;refine key _ j<|uT ?_;rw[E.1];have e:((m+(M*n-n):Nat):Int)=(m-n)+M*n:=by
    have:=Nat.le_mul_of_pos_left n hp
    grind
   simp_all
  .exact aqu
 .split at h
  .rename_i m n;cases h;exact key _ j<|uT<|wn<|m*n
  .exact aqu
 .split at h
  .rename_i m n;split at h<;>cases h;exact key (.int k (k.wrap<|(m:Int).tdiv n)) asr<|uT<|wn<|m/n
  .exact aqu
 .split at h
  .rename_i m n;split at h<;>cases h;exact key (.int k<|(m:Int).tmod n) asr<|uT j
  .exact aqu
 .split at h
  .rename_i m n;cases h;refine key _ j<|uT ?_;show k.wrap ((BitVec.ofInt k.bits m&&&BitVec.ofInt k.bits n).toNat:Nat)=_;rw[BitVec.toNat_and,DB,DB,DC,DC,<-E.2,wn,gR];rw[E.2];exact Nat.and_lt_two_pow _ R
  .exact aqu
 .split at h
  .rename_i m n;cases h;refine key _ j<|uT ?_;show k.wrap ((BitVec.ofInt k.bits m|||BitVec.ofInt k.bits n).toNat:Nat)=_;rw[BitVec.toNat_or,DB,DB,DC,DC,<-E.2,wn,gR];rw[E.2];exact Nat.or_lt_two_pow R R
  .exact aqu
 .exact aqu
def aea{a b:Int}(h:Kx op k a b=some r)(aC:op≠.shl)(aI:op≠.shr)(O:o.ar x= .int k a)(T:o.ar y= .int k b):
 ∃v,(∀H ids,den H r ids v)/\∀st,bw call (.bin op x y) o st= .ok v o st:=by
 unfold Kx at h;split at h
 .exact FE KE h aC aI O T
 .exact FE KF h aC aI O T
 .exact FE KG h aC aI O T
 .exact FE KH h aC aI O T
 .exact aqu
def Rg{a:Int}(O:o.ar x= .int k a)(T:o.ar y= .int gX (n:Int))(st:ak):bw call (.bin .shl x y) o st= .ok (.int k<|k.wrap<|a*2^(min n k.bits)) o st:=by
 rw[BX,O,T];show hJ n (λn=>iE k (yx k a n) λv=>a2.ok v o st) a2.no=_;rw[ou,iP];have:yx k a n=k.wrap (a*2^(min n k.bits)):=by
  rw[yx,ln,IW];simp
 rw[this]
def FF(E:wY k M){a b:Int}(h:zg k M a b=some r)(O:o.ar x= .int k a)(T:o.ar y= .int gX b):
 ∃v,(∀H ids,den H r ids v)/\∀st,bw call (.bin .shl x y) o st= .ok v o st:=by
 unfold zg at h;split at h
 .rename_i m n;cases h;refine⟨_,λH ids=>?_,λst=>Rg O T st⟩;congr 1;have e:(m*2^(min n k.bits))=((m*2^(min n k.bits):Nat):Int):=by simp
  show k.wrap (m*2^(min n k.bits))=_;rw[e,E.1,<-Int.natCast_emod];congr 1;obtain aj|aj:=Nat.le_total n k.bits
  .rw[kh aj]
  .rw[Nat.min_eq_right aj,<-E.2];have:2^n=M*2^(n-k.bits):=by rw[E.2,<-iA];congr 1;omega
   rw[this,Nat.mul_mod_left,<-iZ,gP m M,iZ,Nat.mul_mod_right]
 .cases h
def aeb{a b:Int}(h:Ky k a b=some r)(O:o.ar x= .int k a)(T:o.ar y= .int gX b):
 ∃v,(∀H ids,den H r ids v)/\∀st,bw call (.bin .shl x y) o st= .ok v o st:=by
 unfold Ky at h;cases b with
 |negSucc n=>cases h
 |ofNat n=>
  simp only at h;split at h<;>cases h;rename_i aj;refine⟨_,λ_ _=>?_,λst=>Rg O T st⟩;rw[kh<|ib aj];rfl
def Rh{a b:Int}(h:Kz k a b=some r)(O:o.ar x= .int k a)(T:o.ar y= .int gX b):
 ∃v,(∀H ids,den H r ids v)/\∀st,bw call (.bin .shr x y) o st= .ok v o st:=by
 unfold Kz at h;cases b with
 |negSucc n=>cases h
 |ofNat n=>
  simp only at h;split at h<;>try cases h
  rename_i aj;have aj:=ib aj;have e:∀st,bw call (.bin .shr x y) o st= .ok (.int k<|wj k a n) o st:=λst=>by
   rw[BX,O,T];show hJ n (λn=>iE k (wj k a n) λv=>a2.ok v o st) a2.no=_;rw[ou,iP]
  refine⟨_,?_,e⟩;intro H ids;cases a with
  |ofNat m=>
   cases h;congr 1;show wj k m n=_;rw[wj,kh aj];rfl
  |negSucc m=>
   cases h;congr 1;rw[wj,kh aj];rfl
def aec{b:ag}(h:KA op a b=some r)(O:den H a ids (o.ar x))(T:den H b ids (o.ar y)):
 ∃v,(∀H ids,den H r ids v)/\∀st,bw call (.bin op x y) o st= .ok v o st:=by
 unfold KA at h;split at h
 .rename_i k m gX n;unfold Re at h;split at h
  .unfold Rd at h;split at h
   .exact FF KE h O T
   .exact FF KF h O T
   .exact FF KG h O T
   .exact FF KH h O T
   .exact aeb h O T
  .exact Rh h O T
  .rename_i Y G;split at h
   .rename_i N;cases Rf N;exact aea h R R O T
   .cases h
 .rename_i l m;have e:∀st,bw call (.bin op x y) o st=AW op ⟨⟨l⟩⟩ ⟨⟨m⟩⟩ (λv=>.ok v o st):=λst=>by rw[BX,O,T,adC]
  split at h<;>cases h
  .exact⟨_,λ_ _=>j,e⟩
  .exact⟨_,λ_ _=>j,e⟩
 .cases h
def aed{op:UnOp}(h:KB op a=some r)(O:den H a ids (o.ar x)):
 ∃v,(∀H ids,den H r ids v)/\∀st,bw call (.un op x) o st= .ok v o st:=by
 unfold KB at h;split at h
 .rename_i k n;have e:∀st,bw call (.un op x) o st=yy op (.int k n) (λv=>.ok v o st):=λst=>by
   have:bw call (.un op x) o st=yy op (o.ar x) (λv=>.ok v o st):=rfl;rw[this,O]
  split at h<;>cases h
  .refine⟨_,λ_ _=>j,λst=>?_⟩;rw[e];simp[yy,l1,iP,ln,IV]
  .refine⟨_,λ_ _=>j,λst=>?_⟩;rw[e];simp[yy,l1,iP]
 .rename_i t;split at h<;>cases h;refine⟨_,λ_ _=>j,λst=>?_⟩;have:bw call (.un .not x) o st=yy .not (o.ar x) (λv=>.ok v o st):=rfl;rw[this,O];rfl
 .cases h
theorem aee{neg:Bool}{t:qB}{b:ag}(h:KC neg t a b=some r)(O:den H a ids (o.ar x))(T:den H b ids (o.ar y)):
 ∃v,(∀H ids,den H r ids v)/\∀st,bw call (.eqv neg t x y) o st= .ok v o st:=by
 have key:∀c,kk 8 t (o.ar x) (o.ar y)=some c->r= .b (m6 neg c)->∃v,(∀H ids,den H r ids v)/\∀st,bw call (.eqv neg t x y) o st= .ok v o st:=by
  intro c W I;subst I;refine⟨_,λ_ _=>j,λst=>?_⟩;show bq (kk 8 t (o.ar x)<|o.ar y) (λb=>a2.ok (.bool<|cond neg (!b) b) o st) .no=_;rw[W];rfl
 unfold KC at h;split at h
 .exact aqL
 .split at h<;>cases h;rename_i N;cases Rf N;refine key _ ?_ j;rw[show o.ar x=_ from O,show o.ar y=_ from T];simp[kk,AZ];congr 1
 .exact aqL
 .cases h;exact key true (by rw[show o.ar x=_ from O,show o.ar y=_ from T];simp[kk,r1]) j
 .cases h;rcases O with⟨rfl,O⟩|⟨aj,b,U,c,ab,el,bY,aR,O,_⟩
  .exact key true aq0 j
  .exact key false aq0 apt
 .cases h;obtain⟨b,_,O⟩:=O;exact key false aq0 j
 .cases h;obtain⟨b,_,T⟩:=T;exact key false (by rw[show o.ar x=_ from O,T];simp[kk,r1]) j
 .cases h;obtain⟨b,_,O⟩:=O;exact aqr
 .cases h;obtain⟨b,_,O⟩:=O;exact aqr
 .cases h;obtain⟨b,U,ab,el,bY,aR,O,_⟩:=O;exact aqr
 .cases h;obtain⟨b,U,O,_⟩:=O;exact key false (by rw[O,show o.ar y=_ from T];simp[kk,IY]) j
 .cases h
theorem Ri{H:bb}{ids:ac Nat}{e:bP}(D:cS o H ids e){k:f6}:∀{xs:ac ce} {m:Int} {r:ag},FA e k xs m=some r->∃n,r= .i k n/\A0 k o xs m=some n
 |[],m,r,h=>by cases h;exact⟨m,j,j⟩
 |x::xs,m,r,h=>by
  rw[FA]at h;split at h<;>try cases h
  rename_i gX z O;split at h<;>try cases h
  rename_i aw;have⟨n,aC,aI⟩:=Ri D h;refine⟨n,aC,?_⟩;show fX (o.ar x) (λgX y=>cond (j3 k gX) (A0 k o xs<|cond (mj y m) m y) none) none=_;rw[(D.ar O),l1,aw];congr 1;rw[pL]
  grind
theorem Rj{H:bb}{ids:ac Nat}{e:bP}(D:cS o H ids e){k:f6}:∀{xs:ac ce} {m:Int} {r:ag},FB e k xs m=some r->∃n,r= .i k n/\A1 k o xs m=some n
 |[],m,r,h=>by cases h;exact⟨m,j,j⟩
 |x::xs,m,r,h=>by
  rw[FB]at h;split at h<;>try cases h
  rename_i gX z O;split at h<;>try cases h
  rename_i aw;have⟨n,aC,aI⟩:=Rj D h;refine⟨n,aC,?_⟩;show fX (o.ar x) (λgX y=>cond (j3 k gX) (A1 k o xs<|cond (mj m y) m y) none) none=_;rw[(D.ar O),l1,aw];congr 1;rw[pL]
  grind
theorem KI{β:Type _}{r:β}:∀{cs:ac ag} {n:Nat} {K:ac ag->be β},FC cs n K=some r->n<=cs.length/\K (cs.take n)=some r
 |cs,0,K,h=>by
  have h:K []=some r:=by cases cs<;>exact h
  exact⟨c8 _,by simpa using h⟩
 |[],n+1,K,h=>by cases h
 |a::as,n+1,K,h=>by
  have⟨Y,G⟩:=KI (n:=n) h;exact⟨by simpa using Y,by simpa using G⟩
theorem FG:∀{cs:ac ag} {n:Nat},B5 cs n=true->cs.length=n
 |[],0,_=>rfl
 |[],n+1,h=>by cases h
 |_::_,0,h=>by cases h
 |a::as,n+1,h=>by simp[FG (n:=n) h]
theorem wZ{β:Type _}{r:β}{K:ac ag->be β}(h:qZ cs U n K=some r):n<=(cs.drop U).length/\K ((cs.drop U).take n)=some r:=by
 unfold qZ at h;split at h
 .split at h
  .rename_i B;have:=FG B
   grind
  .exact KI h
 .exact KI h
def q0{β:Type}(h:n<=(l.drop U).length)(k:ac α->β)(z:β):hK l U n k z=k ((l.drop U).take n):=by
 rw[hK];rw[Ba,Bb,aD h];rfl
theorem Rk{Z:Bool}(h:FD Z cs=some r):(Z=true/\r= .agg cs)\/(Z=false/\cs=[r]):=by
 unfold FD at h
 grind
theorem nB(b U n:Nat):(⟨b,U,none⟩:Addr).add n=⟨b,U+n,none⟩:=by
 rw[Addr.add];split
 .rename_i h;rw[h];rfl
 .rfl
theorem aef{e:bP}(D:cS o H ids e){U:dh}(h:KD e U=some r):∃v,den H r ids v/\∀st,bw call U o st= .ok v o st:=by
 have up:∀{r:ag} {U:dh},(∃v,(∀H ids,den H r ids v)/\∀st,bw call U o st= .ok v o st)->∃v,den H r ids v/\∀st,bw call U o st= .ok v o st:=λ⟨v,Y,G⟩=>⟨v,Y _ _,G⟩;cases U<;>simp[KD]at h
 case jF x=>exact⟨_,D.ar h,λst=>j⟩
 case ll x=>exact⟨_,D.ar h,λst=>j⟩
 case bin op x y=>
  split at h<;>try cases h
  split at h<;>try cases h
  rename_i O _ _ I;exact up<|aec h (D.ar O)<|D.ar I
 case eqv neg t x y=>
  split at h<;>try cases h
  split at h<;>try cases h
  rename_i O _ _ I;exact up<|aee h (D.ar O)<|D.ar I
 case un op x=>
  split at h<;>try cases h
  rename_i O;exact up<|aed h<|D.ar O
 case uj k x=>
  split at h<;>try (cases h)
  rename_i gX n O;have O:=D.ar O;exact⟨_,(by
   have u:∀{k:f6} {M:Nat},wY k M->zf k M n=some r->den H r ids (.int k<|k.wrap n):=λE h=>by
    unfold zf at h;split at h<;>cases h
    .show Value.int _ _=Value.int _ _;rw[E.1];rfl
    .rfl
   unfold Rc at h;split at h
   .exact u KE h
   .exact u KF h
   .exact u KG h
   .exact u KH h
   .cases h;rfl),λst=>adT O⟩
 case yq x=>
  split at h<;>try cases h
  rename_i l O;refine⟨_,j,λst=>?_⟩;show hX (o.ar x) _ _=_;rw[(D.ar O)];rfl
 case rU f bS cs=>
  split at h<;>try cases h
  split at h<;>try cases h
  rename_i Y _ _ G;exact⟨_,⟨_,_,j,D.dQ Y,D.dQ G⟩,λst=>j⟩
 case rW x i=>
  split at h<;>try cases h
  rename_i ab O;obtain⟨F,O,T⟩:=D.ar O;obtain⟨v,N,T⟩:=tl T h;refine⟨v,T,λst=>?_⟩;show qF (o.ar x) (λab=>hK ab.toList i 1 (λl=>one l (λv=>a2.ok v o st) .no) .no) .no=_;rw[O];obtain⟨aW,L⟩:=dP.1 N;show hK F i 1 _ _=_;rw[za R,fj aW,L];rfl
 case we x=>
  split at h<;>try cases h
  .rename_i O;exact⟨_,j,λst=>uN<|D.ar O⟩
  .rename_i O;obtain⟨b,_,O⟩:=D.ar O;exact apC apC
  .rename_i O;rcases D.ar O with⟨B,O⟩|⟨b,U,c,ab,el,bY,aR,O,_⟩
   .rw[B];exact apC apC
   .exact apC apC
  .rename_i O;rcases D.ar O with⟨B,O⟩|⟨_,b,U,c,ab,el,bY,aR,O,_⟩
   .rw[B];exact apC apC
   .exact apC apC
  .rename_i O;rcases D.ar O with⟨B,O⟩|⟨B,O⟩|⟨b,U,c,ab,el,bY,aR,O,_⟩
   .rw[B];exact⟨_,j,λst=>(by rw[Q3,O];rfl)⟩
   .rw[B];exact apC apC
   .exact apC apC
 case wg x=>
  split at h<;>try cases h
  rename_i l O;exact⟨_,j,λst=>by rw[adx,(D.ar O),y9]⟩
 case AP n=>cases h;exact⟨_,j,λst=>j⟩
 case qD off x=>
  have e:∀{b U:Nat},o.ar x= .pointer (some ⟨b,U,none⟩)->∀st,bw call (.qD off x) o st= .ok (.pointer<|some ⟨b,U+off,none⟩) o st:=λO st=>by
   show hG (o.ar x) (λp=>bq p (λa=>a2.ok (.pointer<|some<|a.add off) o st) .no) .no=_;rw[O];show a2.ok (.pointer<|some<|Addr.add _ off) o st=_;rw[nB]
  split at h<;>try cases h
  .exact ap0
  .rename_i k z J U O;obtain⟨b,C,O⟩:=D.ar O;exact⟨_,⟨b,C,by rw[rM]⟩,e O⟩
  .rename_i cs O;obtain⟨b,U,ab,el,bY,aR,O,C,T⟩:=D.ar O;refine⟨_,⟨b,U+off,ab,el,bY,aR,j,C,?_⟩,e O⟩;have:=nA off T;rw[Ax,qv]at this;rw[iX];exact this
 case pI off bW Z x=>
  split at h<;>try cases h
  rename_i cs O;obtain⟨F,O,T⟩:=D.ar O;obtain⟨Y,G⟩:=wZ h;have T:=so bW<|nA off T;have B:=gq T;have e:∀st,bw call (.pI off bW Z x) o st=bq (cond Z (some<|.agg ⟨(F.drop off).take bW⟩)<|one ((F.drop off).take bW) (λv=>some v) none) (λv=>.ok v o st) .no:=λst=>by
   show rZ (o.ar x) (λcs=>bq (wk off bW Z cs.toList) (λv=>a2.ok v o st) .no) .no=_;rw[O,adn];unfold wk;rw[q0 apt]
  rcases Rk G with⟨rfl,rfl⟩|⟨rfl,A⟩
  .exact⟨_,⟨_,j,T⟩,λst=>by rw[e];rfl⟩
  .rw[A]at T;obtain⟨v,V,N,T,aj⟩:=T;cases aj;rw[N]at e;exact⟨v,T,λst=>by rw[e];rfl⟩
 case ui x=>
  have e:∀{a:Addr},o.ar x= .pointer (some a)->∀st,bw call (.ui x) o st= .ok (.pointer<|some a) o st:=λO st=>by
   show hG (o.ar x) (λp=>bq p (λa=>a2.ok (.pointer<|some a) o st) .no) _=_;rw[O];rfl
  split at h<;>try cases h
  .exact ap0
  .exact ap0
  .rename_i O;obtain⟨b,U,ab,el,bY,aR,O,T⟩:=D.ar O;exact⟨_,⟨b,U,ab,el,bY,aR,j,T⟩,e O⟩
  .rename_i g a b O;refine⟨_,j,λst=>?_⟩;have:bw call (.ui x) o st=hG (o.ar x) (λp=>bq p (λa=>a2.ok (.pointer<|some a) o st) .no) (yv (o.ar x) (λf a b=>match f with|.func g=>.ok (.func (.func g) a b) o st|_=>.no) .no):=rfl;rw[this,(D.ar O)];rfl
 case pick c x y=>
  split at h
  .rename_i W;exact⟨_,D.ar h,λst=>ad1 (D.ar W) j j⟩
  .rename_i W;exact⟨_,D.ar h,λst=>ad2 (D.ar W) j j⟩
  .cases h
 case g7 x xs=>
  split at h<;>try cases h
  rename_i k n O;obtain⟨m,rfl,hm⟩:=Ri D h;refine⟨_,j,λst=>?_⟩;show fX (o.ar x) (λk n=>bq (A0 k o xs n) (λm=>iE k m λv=>a2.ok v o st) .no) .no=_;rw[(D.ar O),l1,hm,Sym.ed,iP]
 case AQ x xs=>
  split at h<;>try cases h
  rename_i k n O;obtain⟨m,rfl,hm⟩:=Rj D h;refine⟨_,j,λst=>?_⟩;show fX (o.ar x) (λk n=>bq (A1 k o xs n) (λm=>iE k m λv=>a2.ok v o st) .no) .no=_;rw[(D.ar O),l1,hm,Sym.ed,iP]
 all_goals cases h
end
structure KJ where
 P:bb->be bx->Prop
 mono:∀{H bA:bb},cH H bA->∀{U},P H U->P bA U
inductive aZ:Type 1
 |c (el:TypeId) (cs:List ag)
 |a (el:TypeId) (aR:Bool) (z:Nat) (α:Type) (ah:α->List ag) (l:List α)
 |g (p:KJ)
 |x
def aZ.live:aZ->Bool
 |.x=>false
 |_=>true
def ov(H:bb)(ids:ac Nat):aZ->be bx->Prop
 |.c el cs,gG=>∃ab,gG=some (.cells ab el (0,0) false)/\cG H cs ids ab
 |.a el aR z _ ah l,gG=>∃ab,gG=some (.cells ab el (0,0) aR)/\ab.length=l.length*z/\∀i x,l[i]? =some x->cG H (ah x) ids ((ab.drop<|i*z).take z)
 |.g p,gG=>p.P H gG
 |.x,_=>True
def q1{H B:bb}{i J:ac Nat}(h:cH H B)(af:b9 i J):∀{U:aZ} {gG:be bx},ov H i U gG->ov B J U gG
 |.c _ _,_,⟨ab,e,d⟩=>⟨ab,e,kF h _ af d⟩
 |.a _ _ _ _ _ _,_,⟨ab,e,kY,d⟩=>⟨ab,e,kY,λk x O=>kF h _ af<|d k x O⟩
 |.g p,_,d=>p.mono h d
 |.x,_,_=>trivial
structure cb where
 own:ac aZ
 n:Nat
 env:bP
structure Fit(H:bb)(ids:ac Nat)(st:ak)(own:ac aZ)(n:Nat):Prop where
 wf:∀i,st.ae<=i->st.h.get i=none
 le:∀b U,H b=some U->st.h.get b=some U
 cZ:own.length=n
 len:ids.length=n
 cY:ids.Nodup
 lt:∀b∈ids,b<st.ae
 own:∀(k:Nat) (U:aZ) (b:Nat),own[k]? =some U->ids[k]? =some b->ov H ids U (st.h.get b)∧(U.live=true->H b=none)
structure cW(a1:bb)(i0:ac Nat)(aq:ak)(H:bb)(ids:ac Nat)(st:ak):Prop where
 hle:cH a1 H
 hold:∀b,b<aq.ae->b∉i0->H b=a1 b
 eK:∀b,b<aq.ae->b∉i0->st.h.get b=aq.h.get b
 ae:aq.ae<=st.ae
 jx:b9 i0 ids
 new:∀b∈ids,b∈i0∨aq.ae<=b
variable{H:bb}{ids:ac Nat}{n:Nat}{U:aZ}{gG:bx}{a1:bb}{i0:ac Nat}{aq:ak}
def Fit.aW{st:ak}{own:ac aZ}(h:Fit H ids st own n){b:Nat}{U:bx}(ay:H b=some U):b<st.ae:=by
 obtain D|D:=gf b st.ae
 .exact D
 .have:=h.le b U ay;rw[h.wf b D]at this;cases this
def Fit.nw{st:ak}{own:ac aZ}(h:Fit H ids st own n){b:Nat}(ay:st.ae<=b):H b=none:=by
 cases e:H b with
 |none=>rfl
 |some U=>have:=h.aW e;omega
theorem Fit.add{st:ak}{own:ac aZ}(h:Fit H ids st own n)(d:ov H (ids++[st.ae]) U (some gG)):
 Fit H (ids++[st.ae]) ⟨st.h.set st.ae gG,st.ae+1⟩ (own++[U]) (n+1):=by
 have j:st.ae∉ids:=λhm=>by have:=h.lt _ hm;omega
 refine⟨?_,?_,by simp[h.cZ],by simp[h.len],?_,?_,?_⟩
 .intro i af;exact ar7
 .intro b cv C;have:=h.aW C;rw[ao.fk _ _ R];exact h.le b cv C
 .rw[Ay];refine⟨h.cY,au,?_⟩
  grind
 .intro b C;simp at C;show b<st.ae+1;obtain C|C:=C
  .have:=h.lt b C;omega
  .omega
 .intro k cv b N C;by_cases g:k<own.length
  .rw[oQ g]at N;rw[oQ<|by rwa [h.len,<-h.cZ]]at C;have⟨Y,G⟩:=h.own k cv b N C;have:b≠st.ae:=λe=>j<|e▸hh C;simpa[ao.fk _ _ this]using⟨q1 ap8 (b9.app _ _) Y,G⟩
  .have L:=(dP.1 N).1;simp at L;have g:k=own.length:=by omega
   subst g;have B:own.length=ids.length:=by rw[h.len,h.cZ]
   rw[B]at C;simp at N C;subst N C;simpa[ao.mm]using⟨d,λ_=>h.nw<|cf _⟩
def cW.add{st:ak}(h:cW a1 i0 aq H ids st)(gG:bx):cW a1 i0 aq H (ids++[st.ae]) ⟨st.h.set st.ae gG,st.ae+1⟩:=by
 refine⟨h.hle,h.hold,?_,by have:=h.ae;show aq.ae<=st.ae+1;omega,λk b e=>b9.app _ _ k b<|h.jx k b e,?_⟩
 .intro b C aj;have:=h.ae;rw[ao.fk _ _ R];exact h.eK b C aj
 .intro b C;simp at C;obtain C|C:=C
  .exact h.new b C
  .right;rw[C];exact h.ae
theorem Fit.e3{st:ak}{own:ac aZ}(h:Fit H ids st own n){k b:Nat}{cv:aZ}(aw:own[k]? =some U)(aB:U.live=true)(ay:ids[k]? =some b)(d:ov H ids cv (some gG)):
 Fit H ids ⟨st.h.set b gG,st.ae⟩ (own.set k cv) n:=by
 have aW:=h.lt b<|hh ay;have T:=(h.own k U b aw ay).2 aB;refine⟨?_,?_,by simp[h.cZ],h.len,h.cY,h.lt,?_⟩
 .intro i af;have af:st.ae<=i:=af;rw[ao.fk _ _ R];exact h.wf i af
 .intro c q W;rw[ao.fk _ _ λe=>by rw[e,T]at W;cases W];exact h.le c q W
 .intro J q c V W;rw[oT]at V;by_cases N:k=J
  .simp_all
  .rw[av N]at V;have:c≠b:=λe=>by
    subst e;have G:=(dP.1 W);exact N<|(vR h.cY).1<|((dP.1 ay)).2.trans G.2.symm
   simpa[ao.fk _ _ this]using h.own J q c V W
def cW.e3{st:ak}(h:cW a1 i0 aq H ids st){b:Nat}(ay:b∈ids)(gG:bx):cW a1 i0 aq H ids ⟨st.h.set b gG,st.ae⟩:=by
 refine⟨h.hle,h.hold,?_,h.ae,h.jx,h.new⟩;intro c W aj;rw[ao.fk _ _ (λe=>by
  subst e;obtain Y|Y:=h.new _ ay
  .exact aj Y
  .omega)]
 exact h.eK c W aj
section
def uU(own:ac aZ)(e:bP):dh->be ag
 |.iv x=>match a5 e x with
  |some (.p k U)=>match own[k]? with
   |some (.c _ cs)=>cs[U]?
   |_=>none
  |some (.fi k z J U)=>match own[k]? with
   |some (.c _ cs)=>cs[J*z+U]?
   |_=>none
  |some (.ip cs)=>cs[0]?
  |_=>none
 |.mV n x=>match a5 e x with
  |some (.p k U)=>match own[k]? with
   |some (.c _ cs)=>qZ cs U n λl=>some (.agg l)
   |_=>none
  |some (.fi k z J U)=>match own[k]? with
   |some (.c _ cs)=>qZ cs (J*z+U) n λl=>some (.agg l)
   |_=>none
  |some (.ip cs)=>qZ cs 0 n λl=>some (.agg l)
  |_=>none
 |_=>none
def p7(e:bP):dh->be Nat
 |.iv x|.mV _ x=>match a5 e x with
  |some (.p k _)|some (.fi k _ _ _)=>some k
  |_=>none
 |_=>none
end
section
variable{call:bN}{o:aK}{x y i:ce}
variable{ab:ac bv}{el:co}{bY:Nat×Nat}{aR:Bool}{e:bP}{r:ag}
theorem zh{b U:Nat}{st:ak}(h:o.ar x= .pointer (some ⟨b,U,none⟩))(E:st.h.get b=some (.cells ab el bY aR))(D:ab[U]? =some v):bw call (.iv x) o st= .ok v o st:=adV h j E D
def B6{b U:Nat}{st:ak}(h:o.ar x= .pointer (some ⟨b,U,none⟩))(E:st.h.get b=some (.cells ab el bY aR))(aB:n<=(ab.drop U).length):bw call (.mV n x) o st= .ok (.agg ⟨(ab.drop U).take n⟩) o st:=by
 rw[adz,h];show st.load ⟨b,U,none⟩ n _ _=_;unfold ak.load ak.fI;rw[Sym.hL,E,j6,q0 aB]
theorem KK{own:ac aZ}{st:ak}(D:cS o H ids e)(a':own.length<=ids.length)(Z:∀(k:Nat) (U:aZ) (b:Nat),own[k]? =some U->U.live=true->ids[k]? =some b->ov H ids U (st.h.get b)){U:dh}(h:uU own e U=some r):
 ∃v,den H r ids v/\∀L:ak,((∀b U,H b=some U->L.h.get b=some U)\/∃k,p7 e U=some k)->(∀k b,p7 e U=some k->ids[k]? =some b->L.h.get b=st.h.get b)->bw call U o L= .ok v o L:=by
 have obj:∀{k:Nat} {el:co} {cs:ac ag},own[k]? =some (.c el cs)->∃b ab,ids[k]? =some b/\st.h.get b=some (.cells ab el (0,0) false)/\cG H cs ids ab:=λ{k el cs} N=>by
  have aW:=(dP.1 N).1;have af:k<ids.length:=R
  obtain⟨ab,Y,G⟩:=Z k _ _ N j<|aO af;exact⟨_,ab,aO af,Y,G⟩
 cases U<;>simp[uU]at h
 case iv x=>
  split at h<;>try cases h
  .rename_i k U O;split at h<;>try cases h
   rename_i el cs N;obtain⟨b,ab,C,F,T⟩:=obj N;obtain⟨v,g,T⟩:=tl T h;obtain⟨V,Y,G⟩:=D.ar O
   grind [zh,p7,trans]
  .rename_i k z J U O;split at h<;>try cases h
   rename_i el cs N;obtain⟨b,ab,C,F,T⟩:=obj N;obtain⟨v,g,T⟩:=tl T h;obtain⟨V,Y,G⟩:=D.ar O
   grind [zh,p7,trans]
  .rename_i cs O;obtain⟨b,U,ab,el,bY,aR,Y,G,T⟩:=D.ar O;obtain⟨v,g,T⟩:=tl T h;refine⟨v,iR ap8 _ (b9.nil _) T,λL A _=>?_⟩;rcases A with A|⟨k,A⟩
   .exact zh Y (A _ _ G) (by
     grind)
   .simp[p7,O]at A
 case mV m x=>
  split at h<;>try cases h
  .rename_i k U O;split at h<;>try cases h
   rename_i el cs N;obtain⟨b,ab,C,F,T⟩:=obj N;obtain⟨W,E⟩:=wZ h;cases E;obtain⟨V,Y,G⟩:=D.ar O;rw[C]at Y;cases Y;have B:=gq<|nA U T;exact arl arl
  .rename_i k z J U O;split at h<;>try cases h
   rename_i el cs N;obtain⟨b,ab,C,F,T⟩:=obj N;obtain⟨W,E⟩:=wZ h;cases E;obtain⟨V,Y,G⟩:=D.ar O;rw[C]at Y;cases Y;have B:=gq<|nA (J*z+U) T;exact aq3 aq3
  .rename_i cs O;obtain⟨b,U,ab,el,bY,aR,Y,G,T⟩:=D.ar O;obtain⟨W,E⟩:=wZ h;cases E;have B:=gq T;rw[iB]at W;have I:=so m T;rw[x9,kh W]at I;refine⟨.agg ⟨(ab.drop U).take m⟩,⟨_,j,?_⟩,λL A _=>?_⟩
   .exact kF ap8 _ (b9.nil _) I
   rcases A with A|⟨k,A⟩
   .exact B6 Y (A _ _ G) apt
   .simp[p7,O]at A
 all_goals cases h
theorem aeg{own:ac aZ}{U:dh}{k:Nat}(h:uU own e U=some r)(aw:p7 e U=some k):∃cv,own[k]? =some cv/\cv.live=true:=by
 cases U<;>simp[p7]at aw
 case iv x=>
  simp[uU]at h;split at aw<;>cases aw
  .rename_i O;rw[O]at h;simp only at h;split at h<;>try cases h
   exact arU arU
  .rename_i O;rw[O]at h;simp only at h;split at h<;>try cases h
   exact arU arU
 case mV n x=>
  simp[uU]at h;split at aw<;>cases aw
  .rename_i O;rw[O]at h;simp only at h;split at h<;>try cases h
   exact arU arU
  .rename_i O;rw[O]at h;simp only at h;split at h<;>try cases h
   exact arU arU
 all_goals cases aw
end
section
variable{β:Type _}
def KL(v:bv)(K:ag->be β):be β:=
 match v with
 |.int k n=>K (.i k n)
 |.bool t=>K (.b t)
 |.string ⟨⟨l⟩⟩=>K (.s l)
 |.slice none 0 0=>K .nl
 |x=>K<|.v x
def zi:ac bv->(ac ag->be β)->be β
 |[],K=>K []
 |v::ab,K=>KL v λa=>zi ab λr=>K<|a::r
def tn:ag->be (ac ag)
 |.agg cs=>some cs
 |a=>match qX a with
  |true=>some [a]
  |false=>none
def w0:ac ag->Nat->ac ag->(ac ag->be β)->be β
 |cs,0,[],K=>K cs
 |_::cs,0,d::aM,K=>w0 cs 0 aM λr=>K (d::r)
 |c::cs,n+1,aM,K=>w0 cs n aM λr=>K (c::r)
 |[],_,_,_=>none
def zj(e:bP):ac (Nat×Nat×ce)->ac ag->(ac ag->be β)->be β
 |[],cs,K=>K cs
 |(U,bW,x)::a7,cs,K=>match a5 e x with
  |some a=>match tn a with
   |some aM=>match B5 aM bW with
    |true=>w0 cs U aM λR=>zj e a7 R K
    |false=>none
   |none=>none
  |none=>none
def my:ac aZ->aZ->(ac aZ->be β)->be β
 |[],U,K=>K [U]
 |a::as,U,K=>my as U λr=>K<|a::r
def g9:ac aZ->Nat->aZ->(ac aZ->be β)->be β
 |[],_,_,_=>none
 |_::as,0,U,K=>K (U::as)
 |a::as,n+1,U,K=>g9 as n U λr=>K<|a::r
def aeh:ac Nat:=[1,2,3,4,5,6,7,8,9,10,11,12,13,14,15,16,17,18,19,20,21,22,23,24,25,26,27,28,29,30,31,32]
def Rl:ac Nat->Nat->be Nat
 |[],_=>none
 |a::_,0=>some a
 |_::as,n+1=>Rl as n
def mz(n:Nat)(K:Nat->be β):be β:=
 match Rl aeh n with
 |some m=>match Nat.beq m (n+1)with
  |true=>K m
  |false=>K (n+1)
 |none=>K<|n+1
def aei:ac (Nat×Nat×ce)->Nat
 |(_,bW,_)::_=>bW
 |[]=>1
def FH(own:ac aZ)(ax:Nat)(e:bP)(k U n:Nat)(x:ce)(K:ag->ac aZ->Nat->be β):be β:=
 match own[k]? with
 |some (.c el cs)=>match a5 e x with
  |some a=>match tn a with
   |some aM=>match B5 aM n with
    |true=>match pa aM with
     |true=>w0 cs U aM λR=>g9 own k (.c el R) λbg=>K (.bc []) bg ax
     |false=>none
    |false=>none
   |none=>none
  |none=>none
 |_=>none
def FI(own:ac aZ)(ax:Nat)(e:bP)(K:ag->ac aZ->Nat->be β):dh->be β
 |.alloc z el=>zi z λcs=>my own (.c el cs) λbg=>mz ax λcF=>K (.p ax 0) bg cF
 |.box el x=>match a5 e x with
  |some a=>match tn a with
   |some aM=>my own (.c el aM) λbg=>mz ax λcF=>K (.p ax 0) bg cF
   |none=>none
  |none=>none
 |.qC el len z a7=>zi z λcs=>zj e a7 cs λR=>my own (.c el R) λbg=>mz ax λcF=>K (.aH ax (aei a7) 0 len len) bg cF
 |.build z a7=>zi z λcs=>zj e a7 cs λR=>K (.agg R) own ax
 |.store n a x=>match a5 e a with
  |some (.p k U)=>FH own ax e k U n x K
  |some (.fi k z J U)=>FH own ax e k (J*z+U) n x K
  |_=>none
 |_=>none
def B7(e:bP):dh->be ag
 |.build z a7=>zi z λcs=>zj e a7 cs λR=>some (.agg R)
 |U=>KD e U
def gr(e:bP):dh->be Nat
 |.store _ a _=>match a5 e a with
  |some (.p k _)|some (.fi k _ _ _)=>some k
  |_=>none
 |.app _ _ _ x _|.s0 _ x _=>match a5 e x with
  |some (.aH k _ _ _ _)=>some k
  |_=>none
 |.uo _ x _=>match a5 e x with
  |some (.p k _)=>some k
  |_=>none
 |.ext (.e3 _ m _ _)|.ext (.del _ m _)=>match a5 e m with
  |some (.mp k)=>some k
  |_=>none
 |_=>none
end
section
variable{β:Type _}{r:β}
variable{aM:ac ag}
theorem aej{K:ag->be β}(h:KL v K=some r):K (B4 v)=some r:=by
 unfold KL at h;unfold B4
 grind
theorem B8:∀{ab:ac bv} {K:ac ag->be β},zi ab K=some r->K (uR ab)=some r
 |[],_,h=>h
 |_::ab,_,h=>B8 (ab:=ab)<|aej h
def FJ(h:tn a=some aM)(d:den H a ids v):s3 v=false/\cG H aM ids (hW v):=by
 unfold tn at h;split at h
 .cases h;obtain⟨ab,rfl,d⟩:=d;exact⟨j,d⟩
 .split at h<;>cases h;rename_i W;have:=Fx W d;exact aqe aqe
theorem FK:∀{cs:ac ag} {n:Nat} {aM:ac ag} {K:ac ag->be β},w0 cs n aM K=some r->n+aM.length<=cs.length/\K (cs.take n++(aM++cs.drop (n+aM.length)))=some r
 |cs,0,[],K,h=>by
  have h:K cs=some r:=by cases cs<;>exact h
  exact⟨au,by simpa using h⟩
 |[],0,d::aM,K,h=>by cases h
 |c::cs,0,d::aM,K,h=>by
  have h:w0 cs 0 aM (λr=>K<|d::r)=some r:=h;have⟨Y,G⟩:=FK h
  grind
 |[],n+1,aM,K,h=>by cases aM<;>cases h
 |c::cs,n+1,aM,K,h=>by
  have h:w0 cs n aM (λr=>K<|c::r)=some r:=by cases aM<;>exact h
  have⟨Y,G⟩:=FK h
  grind
theorem KM{cs:ac ag}{ab F:ac bv}(n:Nat)(d:cG H cs ids ab)(D:cG H aM ids F):
 cG H (cs.take n++(aM++cs.drop (n+aM.length))) ids (ab.take n++(F++ab.drop (n+F.length))):=by grind [gq,B3,so,nA]
theorem m7:∀{own:ac aZ} {U:aZ} {K:ac aZ->be β},my own U K=some r->K (own++[U])=some r
 |[],_,_,h=>h
 |_::as,_,_,h=>m7 (own:=as) h
theorem h4:∀{own:ac aZ} {k:Nat} {U:aZ} {K:ac aZ->be β},g9 own k U K=some r->K (own.set k U)=some r
 |[],_,_,_,h=>by cases h
 |_::_,0,_,_,h=>h
 |_::as,k+1,_,_,h=>h4 (k:=k) h
def nC{K:Nat->be β}(h:mz n K=some r):K (n+1)=some r:=by
 rw[mz]at h;split at h
 .split at h
  .rename_i C;rw[<-dB C];exact h
  .exact h
 .exact h
def B9(e:bP):ac (Nat×Nat×ce)->ac ag->be (ac ag)
 |[],cs=>some cs
 |(U,bW,x)::a7,cs=>match a5 e x with
  |some a=>match tn a with
   |some aM=>if aM.length=bW/\U+aM.length<=cs.length then B9 e a7 (cs.take U++(aM++cs.drop (U+aM.length)))else none
   |none=>none
  |none=>none
theorem FL{e:bP}:∀{a7:ac (Nat×Nat×ce)} {cs:ac ag} {K:ac ag->be β},zj e a7 cs K=some r->∃R,B9 e a7 cs=some R/\K R=some r
 |[],cs,K,h=>⟨cs,j,h⟩
 |(U,bW,x)::a7,cs,K,h=>by
  rw[zj]at h;rw[B9];split at h<;>try cases h
  split at h<;>try cases h
  split at h<;>try cases h
  rename_i aB;have⟨aC,aI⟩:=FK h;rw[aD ⟨FG aB,aC⟩];exact FL aI
theorem FM{o:aK}{H:bb}{ids:ac Nat}{e:bP}(D:cS o H ids e):∀{a7:ac (Nat×Nat×ce)} {cs R:ac ag} {ab:ac bv},B9 e a7 cs=some R->cG H cs ids ab->
 ∃B,cG H R ids B/\∀c,ob o a7 ab c=c B
 |[],cs,_,ab,h,d=>by cases h;exact⟨ab,d,λ_=>j⟩
 |(U,bW,x)::a7,cs,R,ab,h,d=>by
  rw[B9]at h;split at h<;>try cases h
  rename_i a O;split at h<;>try cases h
  rename_i aM A;split at h<;>try cases h
  have⟨hp,d2⟩:=FJ A<|D.ar O;have V:=gq d2;have g:=gq d;have⟨B,I,a0⟩:=FM D h<|KM U d d2;refine⟨B,I,λc=>?_⟩;have C:ob o ((U,bW,x)::a7) ab c=cond (s3<|o.ar x) .no (dL (dE<|hW<|o.ar x) bW (ev (U+bW) (dE ab) (pK ab U (hW<|o.ar x) (λR=>ob o a7 R c) .no) .no) .no):=rfl
  grind [e4,ij,fo,pU]
end
def KN{call:bN}{o:aK}{e:bP}(D:cS o H ids e){U:dh}{r:ag}(h:B7 e U=some r):∃v,den H r ids v/\∀st,bw call U o st= .ok v o st:=by
 unfold B7 at h;split at h
 .rename_i z g;have⟨R,W,I⟩:=FL<|B8 h;cases I;have⟨B,d,a0⟩:=FM D W<|uS H ids z;refine⟨.agg ⟨B⟩,⟨_,j,d⟩,λst=>?_⟩;exact aqE
 .exact aef D h
def fp(call:bN)(U:dh)(s:cb)(a:ag)(bg:ac aZ)(cF:Nat):Prop:=
 ∀(H:bb) (ids:ac Nat) (st:ak) (o:aK),Fit H ids st s.own s.n->cS o H ids s.env->
  ∃v al V B,bw call U o st= .ok v o al/\Fit B V al bg cF/\den B a V v/\cH H B/\b9 ids V/\(∀a1 i0 aq,cW a1 i0 aq H ids st->cW a1 i0 aq B V al)/\
   st.ae<=al.ae/\∀b,b<st.ae->(∀k,gr s.env U=some k->ids[k]? ≠some b)->al.h.get b=st.h.get b
def p8(a1:bb)(call:bN)(U:dh)(s:cb)(a:ag)(bg:ac aZ)(cF:Nat):Prop:=
 ∀(H:bb) (ids:ac Nat) (st:ak) (o:aK),cH a1 H->Fit H ids st s.own s.n->cS o H ids s.env->
  ∃v al V B,bw call U o st= .ok v o al/\Fit B V al bg cF/\den B a V v/\cH H B/\b9 ids V/\(∀a1 i0 aq,cW a1 i0 aq H ids st->cW a1 i0 aq B V al)/\
   st.ae<=al.ae/\∀b,b<st.ae->(∀k,gr s.env U=some k->ids[k]? ≠some b)->al.h.get b=st.h.get b
def fp.g{call:bN}{U:dh}{s:cb}{bg:ac aZ}{cF:Nat}(h:fp call U s a bg cF):p8 a1 call U s a bg cF:=λH ids st o _ Z D=>h H ids st o Z D
def zk(call:bN)(U:dh)(s:cb)(a:ag)(bg:ac aZ)(cF:Nat):Prop:=
 ∀(H:bb) (ids:ac Nat) (st:ak) (o:aK),Fit H ids st s.own s.n->cS o H ids s.env->
  ∃v al V,bw call U o st= .ok v o al/\Fit H V al bg cF/\den H a V v/\b9 ids V/\(∀a1 i0 aq,cW a1 i0 aq H ids st->cW a1 i0 aq H V al)/\
   st.ae<=al.ae/\∀b,b<st.ae->(∀k,gr s.env U=some k->ids[k]? ≠some b)->al.h.get b=st.h.get b
def zk.to{call:bN}{U:dh}{s:cb}{bg:ac aZ}{cF:Nat}(h:zk call U s a bg cF):fp call U s a bg cF:=λH ids st o Z D=>
 let⟨v,al,V,Y,G,A,T,C,g,j⟩:=h H ids st o Z D
 ⟨v,al,V,H,Y,G,A,cH.refl _,T,C,g,j⟩
section
variable{call:bN}{β:Type _}{r:β}
variable{s:cb}
def KO{st:ak}{own:ac aZ}(Z:Fit H ids st own n){el:co}{cs:ac ag}{ab:ac bv}(d:cG H cs ids ab):
 Fit H (ids++[st.ae]) ⟨st.h.set st.ae<|.cells ab el (0,0) false,st.ae+1⟩ (own++[.c el cs]) (n+1)/\(ids++[st.ae])[n]? =some st.ae:=by
 refine⟨Z.add ⟨ab,j,kF ap8 _ (b9.app _ _) d⟩,?_⟩;rw[<-Z.len];simp
def p9{st:ak}{b:Nat}(ay:b<st.ae):(ao.set st.h st.ae gG).get b=st.h.get b:=ao.fk _ _ R
def Rm{k U m:Nat}{a x:ce}{K:ag->ac aZ->Nat->be β}(h:FH s.own s.n s.env k U m x K=some r)(hm:gr s.env (.store m a x)=some k)
 (bR:∀{H:bb} {ids:ac Nat} {o:aK},cS o H ids s.env->∃b,ids[k]? =some b/\o.ar a= .pointer (some ⟨b,U,none⟩)):∃dm bg cF,K dm bg cF=some r/\zk call (.store m a x) s dm bg cF:=by
 rw[FH]at h;split at h<;>try cases h
 rename_i el cs N;split at h<;>try cases h
 rename_i c O;split at h<;>try cases h
 rename_i aM A;split at h<;>try cases h
 rename_i g;split at h<;>try cases h
 rename_i W;have⟨Y,G⟩:=FK h;refine⟨_,_,_,(h4 G),?_⟩;intro H ids st o Z D;have⟨b,C,E⟩:=bR D;have⟨⟨ab,F,d⟩,_⟩:=Z.own k _ b N C;have⟨hp,d2⟩:=FJ A<|D.ar O;have g:=FG g;have T:=gq d2;have I:=gq d;refine⟨undef,_,ids,?_,Z.e3 N j C ⟨_,j,KM U d d2⟩,ap6,b9.refl _,λ_ _ _ B=>B.e3 (hh C) _,cf _,?_⟩
 .have:bw call (.store m a x) o st=hG (o.ar a) (λp=>bq p (λa=>dL (dE<|hW<|o.ar x) m (cond (hi<|hW<|o.ar x) (st.store a (hW<|o.ar x) (λst=>a2.ok undef o st) .no) .no) .no) .no) .no:=rfl;rw[this,E,lx,Sym.ed,e4,ij R,B2 W d2,cond_true];unfold ak.store ak.fI;rw[Sym.hL,F,j6,fo<|cf _,pU,aD<|by show U+_<=_;omega,ja]
 .intro V _ L;exact ao.fk _ _ λe=>L k hm<|e▸C
def Rn{K:ag->ac aZ->Nat->be β}{U:dh}(h:FI s.own s.n s.env K U=some r):∃a bg cF,K a bg cF=some r/\zk call U s a bg cF:=by
 cases U<;>simp[FI]at h
 case alloc z el=>
  refine⟨_,_,_,nC<|m7<|B8 h,?_⟩;intro H ids st o Z D;obtain⟨Y,G⟩:=KO Z<|uS H ids z;refine⟨_,_,_,?_,Y,⟨_,G,j⟩,b9.app _ _,λ_ _ _ B=>B.add _,kW _,λb C _=>p9 C⟩;have:bw call (.alloc z el) o st=st.iD (.cells z el (0,0) false) λid st=>.ok (.pointer<|some ⟨id,0,none⟩) o st:=rfl;rw[this,gj]
 case box el x=>
  split at h<;>try cases h
  rename_i a O;split at h<;>try cases h
  rename_i aM F;refine⟨_,_,_,nC<|m7 h,?_⟩;intro H ids st o Z D;obtain⟨hp,d⟩:=FJ F<|D.ar O;obtain⟨Y,G⟩:=KO Z d;refine⟨_,_,_,?_,Y,⟨_,G,j⟩,b9.app _ _,λ_ _ _ B=>B.add _,kW _,λb C _=>p9 C⟩;have:bw call (.box el x) o st=cond (s3<|o.ar x) .no (st.iD (.cells (hW<|o.ar x) el (0,0) false) λid st=>.ok (.pointer<|some ⟨id,0,none⟩) o st):=rfl;rw[this,hp,cond_false,gj]
 case qC el len z g=>
  obtain⟨R,W,I⟩:=FL<|B8 h;refine⟨_,_,_,nC<|m7 I,?_⟩;intro H ids st o Z D;obtain⟨E,d,a0⟩:=FM D W<|uS H ids z;obtain⟨Y,G⟩:=KO Z d;refine⟨_,_,_,?_,Y,⟨_,G,j⟩,b9.app _ _,λ_ _ _ B=>B.add _,kW _,λb C _=>p9 C⟩;have:bw call (.qC el len z g) o st=ob o g z λcs=>st.iD (.cells cs el (0,0) false) λid st=>.ok (.slice (some ⟨id,0,none⟩) len len) o st:=rfl;rw[this,a0,gj,hF]
 case build z g=>
  obtain⟨R,W,I⟩:=FL<|B8 h;refine⟨_,_,_,I,?_⟩;intro H ids st o Z D;obtain⟨E,d,a0⟩:=FM D W<|uS H ids z;refine⟨.agg ⟨E⟩,st,ids,?_,Z,⟨_,j,d⟩,b9.refl _,λ_ _ _ B=>B,cf _,λb C _=>j⟩;exact aqE
 case store m a x=>
  split at h<;>try cases h
  .rename_i k U A;exact arV
  .rename_i k z J U A;exact arV
 all_goals cases h
end
structure eR where
 call:bN
 a6:Nat
 fn:d7
 a1:bb
 i0:ac Nat
 aq:ak
 Q:c6->cb->Prop
inductive dA where
 |seq (c:du)
 |cx (i:Nat)
 |b4 (apo:cb->Prop)
 |w1 (ms:List Nat) (n:Nat)
inductive bf where
 |c (c:du)
 |U (l:List bj)
 |x (e:c6)
 |d (l:List (bj×cn)) (a9:List aZ) (aX:bP) (aT bU:Nat)
variable(an:eR)
def q2(Q:c6->cb->Prop):c6->aK->ak->Prop:=λx o st=>∃H ids s,cW an.a1 an.i0 an.aq H ids st/\Fit H ids st s.own s.n/\cS o H ids s.env/\Q x s
def Ro(Q:c6->cb->Prop)(c:du)(s:cb):Prop:=∀H ids st o,cW an.a1 an.i0 an.aq H ids st->Fit H ids st s.own s.n->cS o H ids s.env->W (db an.call an.a6 an.fn c o st) (q2 an Q)
def aek(Q:c6->cb->Prop)(l:ac bj)(s:cb):Prop:=∀H ids st o,cW an.a1 an.i0 an.aq H ids st->Fit H ids st s.own s.n->cS o H ids s.env->W (gh an.call l o st) (q2 an Q)
structure ael(gu H:bb)(ids:ac Nat)(st:ak)(a9:ac aZ)(aX:bP)(aT bU:Nat)(cy:ac (ao bx))(o:aK):Prop where
 len:cy.length=aT
 hle:cH gu H
 eg:∀J a,dn aX J=some a->den gu a ids (o.tmp J)
 pb:a9.length<=ids.length
 uV:bU<=ids.length
 a9:∀(k:Nat) (U:aZ) (b:Nat),a9[k]? =some U->U.live=true->ids[k]? =some b->ov gu ids U (st.h.get b)∧∀h∈cy,h.get b=st.h.get b
 hy:∀h∈cy,∀b U,gu b=some U->h.get b=some U
 top:∀h,cy.head?=some h->(∀b U,H b=some U->h.get b=some U)∧∀k b:Nat,k<bU->ids[k]? =some b->h.get b=st.h.get b
def KP(K:ac dA)(fw:s6):Prop:=
 match K with
 |.w1 ms n::_=>fw=r3 an.call ms n
 |_=>True
def aem(C:s6->Prop)(Q:c6->cb->Prop)(l:ac (bj×cn))(a9:ac aZ)(aX:bP)(aT bU:Nat)(s:cb):Prop:=∀fw,C fw->∀H ids st o gu cy,cW an.a1 an.i0 an.aq H ids st->Fit H ids st s.own s.n->cS o H ids s.env->ael gu H ids st a9 aX aT bU cy o->W (hk an.call fw l cy o st) (q2 an Q)
def Sem:ac dA->c6->cb->Prop
 |[]=>an.Q
 |.seq c::K=>λx s=>match x with
  |.norm=>Ro an (Sem K) c s
  |x=>Sem K x s
 |.cx i::K=>λx s=>match x with
  |.exit J=>if J=i then Sem K .norm s else Sem K (.exit J) s
  |x=>Sem K x s
 |.b4 N::K=>λx s=>match x with
  |.norm=>N s
  |x=>Sem K x s
 |.w1 _ _::K=>Sem K
def ah(K:ac dA)(c:bf)(s:cb):Prop:=
 match c with
 |.c c=>Ro an (Sem an K) c s
 |.U l=>aek an (Sem an K) l s
 |.x e=>Sem an K e s
 |.d l a9 aX aT bU=>aem an (KP an K) (Sem an K) l a9 aX aT bU s
structure bM where
 K:ac dA
 c:bf
 s:cb
def bM.ok(g:bM):Prop:=ah an g.K g.c g.s
abbrev fB(K:ac dA)(c:bf)(own:ac aZ)(n:Nat)(e:bP):Prop:=bM.ok an ⟨K,c,⟨own,n,e⟩⟩
abbrev cL(K:ac dA)(l:ac bj)(own:ac aZ)(n:Nat)(e:bP):Prop:=fB an K (.U l) own n e
abbrev gY(K:ac dA)(d:Tmp)(U:dh)(l:ac bj)(own:ac aZ)(n:Nat)(e:bP):Prop:=cL an K (⟨some d,U,none⟩::l) own n e
abbrev dx(K:ac dA)(l:ac (bj×cn))(a9:ac aZ)(aX:bP)(aT bU:Nat)(own:ac aZ)(n:Nat)(e:bP):Prop:=fB an K (.d l a9 aX aT bU) own n e
def ee(d:be Tmp)(a:ag)(e:bP):bP:=
 match d with
 |none=>e
 |some d=>(d,a)::e
section
def Ca(own:ac aZ)(n:Nat)(e:bP)(U:dh)(K:ag->ac aZ->Nat->be bM):be bM:=
 match B7 e U with
 |some a=>K a own n
 |none=>match uU own e U with
  |some a=>K a own n
  |none=>FI own n e K U
def pc(d:be Tmp)(e:bP):bP:=
 match d with
 |none=>e
 |some d=>jb d e
def KQ:ac Nat->bP->bP
 |[],e=>e
 |d::aM,e=>KQ aM<|jb d e
def zl{β:Type _}(a9:ac aZ)(m:be Nat)(K:ac aZ->be β):be β:=
 match m with
 |none=>K a9
 |some k=>match a9[k]? with
  |some _=>g9 a9 k .x K
  |none=>K a9
def Rp(a9:ac aZ)(e:bP)(U:dh):be ag:=
 match B7 e U with
 |some a=>some a
 |none=>uU a9 e U
def zm{β:Type _}(d:Nat):bP->(bP->be β)->be β
 |[],K=>K []
 |p::l,K=>match Nat.beq p.1 d with
  |true=>zm d l K
  |false=>zm d l λr=>K<|p::r
def q3(K:ac dA)(d:be Tmp)(l:ac (bj×cn))(a9:ac aZ)(aX:bP)(aT bU:Nat)(own:ac aZ)(n:Nat)(a:ag)(e:bP)(j:be ag):be bM:=
 match d with
 |none=>some ⟨K,.d l a9 aX aT bU,⟨own,n,e⟩⟩
 |some d=>match j with
  |some j=>some ⟨K,.d l a9 ((d,j)::aX) aT bU,⟨own,n,(d,a)::e⟩⟩
  |none=>zm d aX λh=>some ⟨K,.d l a9 h aT bU,⟨own,n,(d,a)::e⟩⟩
def KR(K:ac dA)(d:be Tmp)(U:dh)(c:cn)(l:ac (bj×cn))(a9:ac aZ)(aX:bP)(aT bU:Nat)(own:ac aZ)(n:Nat)(e:bP):be bM:=
 match c with
 |.dI=>Ca own n e U λa bg cF=>zl a9 (gr e U) λgH=>mz aT λh=>q3 K d l gH aX h cF bg cF a e none
 |.hx aA=>FI own n (dZ aA e) (λa bg cF=>match gr (dZ aA e) U with
  |none=>q3 K d l a9 aX aT bU bg cF a e none
  |some _=>none) U
 |.read back aA=>match Nat.ble (back+1) aT with
  |true=>match Rp a9 (dZ aA aX) U with
   |some j=>q3 K d l a9 aX aT bU own n j e (some j)
   |none=>match B7 (dZ aA e) U with
    |some a=>q3 K d l a9 aX aT bU own n a e none
    |none=>match back with
     |0=>match uU own (dZ aA e) U with
      |some a=>match p7 (dZ aA e) U with
       |none=>q3 K d l a9 aX aT bU own n a e none
       |some k=>match Nat.ble (k+1) bU with
        |true=>q3 K d l a9 aX aT bU own n a e none
        |false=>none
      |none=>none
     |_=>none
  |false=>none
def FN(c:cn)(e:bP):bP:=
 match c with
 |.dI=>e
 |.hx aA=>dZ aA e
 |.read _ aA=>dZ aA e
def Cb(K:ac dA)(d:be Tmp)(c:cn)(l:ac (bj×cn))(a9:ac aZ)(aX:bP)(aT bU:Nat)(own:ac aZ)(n:Nat)(e:bP):be bM:=
 match c with
 |.dI=>mz aT λh=>q3 K d l a9 aX h n own n (.bc []) e none
 |_=>q3 K d l a9 aX aT bU own n (.bc []) e none
def Cc(K:ac dA)(l:ac bj)(d:be Tmp)(own:ac aZ)(n:Nat)(e:bP):be bM:=
 match d with
 |none=>some ⟨K,.U l,⟨own,n,e⟩⟩
 |some d=>some ⟨K,.U l,⟨own,n,(d,.bc [])::e⟩⟩
def KS{β:Type _}:ac (bj×cn)->Nat->(Nat->be β)->be β
 |[],n,K=>K n
 |_::l,n,K=>mz n λn=>KS l n K
def KT{β:Type _}:ac Nat->bP->(bP->be β)->be β
 |[],e,K=>K e
 |d::aM,e,K=>zm d e λkY=>KT aM kY K
def Cd:bM->be bM
 |⟨K,.c .skip,s⟩=>some ⟨K,.x .norm,s⟩
 |⟨K,.c<|.gg l,s⟩=>some ⟨K,.U l,s⟩
 |⟨K,.c<|.seq a b,s⟩=>some ⟨.seq b::K,.c a,s⟩
 |⟨K,.c<|.block i a,s⟩=>some ⟨.cx i::K,.c a,s⟩
 |⟨K,.c<|.exit i,s⟩=>some ⟨K,.x<|.exit i,s⟩
 |⟨K,.c .ret,s⟩=>some ⟨K,.x .ret,s⟩
 |⟨K,.c<|.scope a,s⟩=>some ⟨K,.c a,s⟩
 |⟨K,.c<|.cond c a b,s⟩=>match a5 s.env c with
  |some (.b true)=>some ⟨K,.c a,s⟩
  |some (.b false)=>some ⟨K,.c b,s⟩
  |_=>none
 |⟨K,.U [],s⟩=>some ⟨K,.x .norm,s⟩
 |⟨K,.U<|⟨some d,U,none⟩::l,⟨own,n,e⟩⟩=>Ca own n e U λa bg cF=>some ⟨K,.U l,⟨bg,cF,(d,a)::e⟩⟩
 |⟨K,.U<|⟨none,U,none⟩::l,⟨own,n,e⟩⟩=>Ca own n e U λ_ bg cF=>some ⟨K,.U l,⟨bg,cF,e⟩⟩
 |⟨K,.U<|⟨d,U,some (t,b)⟩::l,⟨own,n,e⟩⟩=>match dn e t with
  |some (.b true)=>match b with
   |true=>some ⟨K,.U<|⟨d,U,none⟩::l,⟨own,n,e⟩⟩
   |false=>Cc K l d own n e
  |some (.b false)=>match b with
   |false=>some ⟨K,.U<|⟨d,U,none⟩::l,⟨own,n,e⟩⟩
   |true=>Cc K l d own n e
  |some (.bc _)=>Cc K l d own n e
  |_=>none
 |⟨K,.c<|.qE l _ T ms,⟨own,n,e⟩⟩=>KT T e λkY=>KS l 0 λm=>some ⟨.w1 ms m::K,.d l own kY 1 n,⟨own,n,kY⟩⟩
 |⟨.w1 _ _::K,.d [] _ _ _ _,s⟩=>some ⟨K,.x .norm,s⟩
 |⟨K,.d [] _ _ _ _,s⟩=>some ⟨K,.x .norm,s⟩
 |⟨K,.d ((⟨d,U,none⟩,c)::l) a9 aX aT bU,⟨own,n,e⟩⟩=>KR K d U c l a9 aX aT bU own n e
 |⟨K,.d ((⟨d,U,some (t,b)⟩,c)::l) a9 aX aT bU,⟨own,n,e⟩⟩=>match dn (FN c e) t with
  |some (.b true)=>match b with
   |true=>some ⟨K,.d ((⟨d,U,none⟩,c)::l) a9 aX aT bU,⟨own,n,e⟩⟩
   |false=>Cb K d c l a9 aX aT bU own n e
  |some (.b false)=>match b with
   |false=>some ⟨K,.d ((⟨d,U,none⟩,c)::l) a9 aX aT bU,⟨own,n,e⟩⟩
   |true=>Cb K d c l a9 aX aT bU own n e
  |some (.bc _)=>Cb K d c l a9 aX aT bU own n e
  |_=>none
 |⟨.seq c::K,.x .norm,s⟩=>some ⟨K,.c c,s⟩
 |⟨.seq _::K,.x<|.exit i,s⟩=>some ⟨K,.x<|.exit i,s⟩
 |⟨.seq _::K,.x .ret,s⟩=>some ⟨K,.x .ret,s⟩
 |⟨.cx _::K,.x .norm,s⟩=>some ⟨K,.x .norm,s⟩
 |⟨.cx i::K,.x<|.exit J,s⟩=>match Nat.beq J i with
  |true=>some ⟨K,.x .norm,s⟩
  |false=>some ⟨K,.x<|.exit J,s⟩
 |⟨.cx _::K,.x .ret,s⟩=>some ⟨K,.x .ret,s⟩
 |⟨.b4 _::K,.x<|.exit i,s⟩=>some ⟨K,.x<|.exit i,s⟩
 |⟨.b4 _::K,.x .ret,s⟩=>some ⟨K,.x .ret,s⟩
 |⟨.seq _::K,.x<|.aV v,s⟩=>some ⟨K,.x<|.aV v,s⟩
 |⟨.cx _::K,.x<|.aV v,s⟩=>some ⟨K,.x<|.aV v,s⟩
 |⟨.b4 _::K,.x<|.aV v,s⟩=>some ⟨K,.x<|.aV v,s⟩
 |⟨.w1 _ _::K,.x e,s⟩=>some ⟨K,.x e,s⟩
 |_=>none
end
section
variable{an:eR}{K:ac dA}{s:cb}
def cS.ee{o:aK}{e:bP}(h:cS o H ids e)(d:be Tmp)(j:den H a ids v):cS (o.put d v) H ids (Go.bC.ee d a e):=by
 cases d with
 |none=>exact h
 |some d=>exact h.put d j
def KU{call:bN}{U:dh}{C:ag->ac aZ->Nat->be bM}{r:bM}(h:Ca s.own s.n s.env U C=some r):∃a bg cF,C a bg cF=some r/\fp call U s a bg cF:=by
 rw[Ca]at h;split at h
 .rename_i a A;refine⟨a,_,_,h,λH ids st o Z D=>?_⟩;obtain⟨v,T,g⟩:=KN D A;exact arO arO
 .split at h
  .rename_i a A;refine⟨a,_,_,h,λH ids st o Z D=>?_⟩;obtain⟨v,T,g⟩:=KK D (by rw[Z.len,Z.cZ];exact cf _) (λk U b N _ E=>(Z.own k U b N E).1) A;exact aqD aqD
  .obtain⟨a,bg,cF,Y,G⟩:=Rn h;exact⟨a,bg,cF,Y,G.to⟩
def Ce(an:eR)(U:dh)(s:cb)(a:ag)(bg:ac aZ)(cF:Nat):Prop:=
 ∀(H:bb) (ids:ac Nat) (st:ak) (o:aK),cW an.a1 an.i0 an.aq H ids st->Fit H ids st s.own s.n->cS o H ids s.env->
  ∃v al V B,bw an.call U o st= .ok v o al/\Fit B V al bg cF/\den B a V v/\cH H B/\b9 ids V/\cW an.a1 an.i0 an.aq B V al/\
   st.ae<=al.ae/\∀b,b<st.ae->(∀k,gr s.env U=some k->ids[k]? ≠some b)->al.h.get b=st.h.get b
variable{d:be Tmp}{aX:bP}{a9:ac aZ}{bU:Nat}{bg:ac aZ}{cF:Nat}{gH:ac aZ}{o:aK}{back:Nat}{c:cn}{t:Bool}{gu:bb}{e:bP}
def p8.b{U:dh}(h:p8 an.a1 an.call U s a bg cF):Ce an U s a bg cF:=λH ids st o F Z D=>
 let⟨v,al,V,B,Y,G,A,T,C,g,j⟩:=h H ids st o F.hle Z D
 ⟨v,al,V,B,Y,G,A,T,C,g _ _ _ F,j⟩
def Rq{U:dh}{l:ac bj}(h:Ce an U s a bg cF)(k:ah an K (.U l) ⟨bg,cF,ee d a s.env⟩):ah an K (.U<|⟨d,U,none⟩::l) s:=by
 intro H ids st o F Z D;have⟨v,al,V,B,Y,G,A,g,T,C,_⟩:=h H ids st o F Z D;exact p6 Y<|k B V al _ C G<|(D.mono g T).ee d A
def tp{U:dh}{l:ac bj}(h:p8 an.a1 an.call U s a bg cF)(k:ah an K (.U l) ⟨bg,cF,ee d a s.env⟩):ah an K (.U<|⟨d,U,none⟩::l) s:=Rq h.b k
def w2{U:dh}{l:ac bj}(h:fp an.call U s a bg cF)(k:ah an K (.U l) ⟨bg,cF,ee d a s.env⟩):ah an K (.U<|⟨d,U,none⟩::l) s:=tp h.g k
def w3(h:∀J a,dn aX J=some a->den gu a ids (o.tmp J))(d:be Tmp)(v:bv):∀J a,dn (pc d aX) J=some a->den gu a ids ((o.put d v).tmp J):=by
 cases d with
 |none=>exact h
 |some d=>
  intro J a V;have⟨Y,G⟩:=Fz d aX J a V;rw[uM,av Y];exact h J a G
theorem aen(h:∀J a,dn aX J=some a->den gu a ids (o.tmp J))(d:be Tmp){b:ag}(D:den gu b ids v):∀J a,dn (ee d b aX) J=some a->den gu a ids ((o.put d v).tmp J):=by
 cases d with
 |none=>exact h
 |some d=>
  intro J a V;have V:cond (Nat.beq d J) (some b) (dn aX J)=some a:=V;rw[uM];cases C:Nat.beq d J with
  |true=>
   simp_all
  |false=>
   rw[C]at V;rw[av λe=>by rw[e,kT]at C;cases C];exact h J a V
theorem KV{β:Type _}{r:β}{d:Nat}:∀{e:bP} {C:bP->be β},zm d e C=some r->C (jb d e)=some r
 |[],_,h=>h
 |p::l,C,h=>by
  rw[zm]at h;rw[jb];cases ay:Nat.beq p.1 d with
  |_=>rw[ay]at h;exact KV h
theorem Rr{β:Type _}{r:β}:∀{l:ac (bj×cn)} {n:Nat} {C:Nat->be β},KS l n C=some r->C (n+dE l)=some r
 |[],_,_,h=>h
 |x::l,n,C,h=>by
  have h:=Rr<|nC h
  grind [dE,e4]
theorem Rs{β:Type _}{r:β}:∀{aM:ac Nat} {e:bP} {C:bP->be β},KT aM e C=some r->C (KQ aM e)=some r
 |[],_,_,h=>h
 |_::aM,_,_,h=>Rs (aM:=aM)<|KV h
def w4{l:ac (bj×cn)}{aT:Nat}{own:ac aZ}{g:bM}(h:q3 K d l a9 aX aT bU own n a e none=some g)(k:g.ok an):ah an K (.d l a9 (pc d aX) aT bU) ⟨own,n,ee d a e⟩:=by
 unfold q3 at h;split at h
 .cases h;exact k
 .have:=KV h;cases this;exact k
def KW{l:ac bj}{own:ac aZ}{g:bM}(h:Cc K l d own n e=some g)(k:g.ok an):ah an K (.U l) ⟨own,n,ee d (.bc []) e⟩:=by
 unfold Cc at h;split at h
 .cases h;exact k
 .cases h;exact k
theorem FO{β:Type _}{r:β}{m:be Nat}{C:ac aZ->be β}(h:zl a9 m C=some r):∃gH,C gH=some r/\gH.length=a9.length/\∀(k:Nat) (U:aZ),gH[k]? =some U->U.live=true->a9[k]? =some U/\m≠some k:=by
 unfold zl at h;split at h
 .grind
 .rename_i m;split at h
  .refine⟨_,h4 h,au,λk U N B=>?_⟩;rw[oT]at N;by_cases Z:m=k
   .rw[aD Z]at N;split at N<;>cases N;cases B
   .grind
  .grind
theorem KX{U:dh}{l:ac (bj×cn)}{aT:Nat}(h:∀(H:bb) (ids:ac Nat) (st:ak) (o:aK),cW an.a1 an.i0 an.aq H ids st->Fit H ids st s.own s.n->cS o H ids s.env->∃v al V B,bw an.call U o st= .ok v o al/\Fit B V al bg cF/\den B a V v/\cH H B/\b9 ids V/\cW an.a1 an.i0 an.aq B V al/\st.ae<=al.ae/\∀(k b:Nat) (cv:aZ),gH[k]? =some cv->cv.live=true->ids[k]? =some b->al.h.get b=st.h.get b)(aB:gH.length=a9.length)(aC:∀(k:Nat) (cv:aZ),gH[k]? =some cv->cv.live=true->a9[k]? =some cv)
 (k:ah an K (.d l gH (pc d aX) (aT+1) cF) ⟨bg,cF,ee d a s.env⟩):ah an K (.d ((⟨d,U,none⟩,.dI)::l) a9 aX aT bU) s:=by
 intro fw A H ids st o gu cy F Z D E;obtain⟨v,al,V,B,a',I,a0,cJ,c2,eC,fv,lu⟩:=h H ids st o F Z D;have g:∀(k:Nat) b,k<ids.length->V[k]? =some b->ids[k]? =some b:=λk b N C=>by
  have:=c2 k _<|aO N;rw[C]at this;rw[aO N,this]
 have Y:=k fw A B V al (o.put d v) gu (al.h::cy) eC I ((D.mono cJ c2).ee d a0) ⟨by simp[E.len],E.hle.trans cJ,w3 (λJ a aa=>iR ap8 _ c2<|E.eg J a aa) d v,?_,by rw[I.len];exact cf _,?_,?_,?_⟩
 .refine W.of_eq ?_ Y;show a2.rec (motive:=λ_=>cN) (λv L al=>ev st.ae al.ae (hk an.call fw l (al.h::cy) (aK.put ⟨o.t,L.dd,L.aV,L.cQ,L.b4⟩ d v) al) .no) (λv al=>cond U.lp (cond (fw l (st.h::cy) (o.put d undef) st) (.out (.aV v) o al) .no) .no) .no (bw an.call U o st)=_;rw[a'];show ev st.ae al.ae _ _=_;rw[fo fv]
 .rw[aB];have:ids.length<=V.length:=by
   rcases gf V.length ids.length with aW|ad
   .have:=c2 V.length _ aqB;simp at this
   .exact ad
  exact ch E.pb this
 .intro k cv b N O C;have G:=aC k cv N O;have C:=g k b (e2 (dP.1 G).1 E.pb) C;obtain⟨T,ag⟩:=E.a9 k cv b G O C;rw[(lu k b cv N O C)];refine⟨q1 ap8 c2 T,λh hm=>?_⟩
  grind
 .intro h hm b cv C;rcases fh.1 hm with rfl|hm
  .exact I.le _ _<|cJ _ _<|E.hle _ _ C
  .exact E.hy h hm b cv C
 .intro h hm;simp at hm;subst hm;exact⟨I.le,λ_ _ _ _=>j⟩
def KY{U:dh}{l:ac (bj×cn)}{aT:Nat}(h:Ce an U s a bg cF)(aB:gH.length=a9.length)(aC:∀(k:Nat) (cv:aZ),gH[k]? =some cv->cv.live=true->a9[k]? =some cv/\gr s.env U≠some k)
 (k:ah an K (.d l gH (pc d aX) (aT+1) cF) ⟨bg,cF,ee d a s.env⟩):ah an K (.d ((⟨d,U,none⟩,.dI)::l) a9 aX aT bU) s:=
 KX (λH ids st o F Z D=>by
  have⟨v,al,V,B,W,I,a0,cJ,c2,eC,fv,lu⟩:=h H ids st o F Z D;refine⟨v,al,V,B,W,I,a0,cJ,c2,eC,fv,λk b cv N aB C=>lu b (Z.lt b<|hh C) λgX L Y=>?_⟩;have g:=dP.1 Y;have:=(vR Z.cY).1<|(dP.1 C).2.trans g.2.symm;exact(aC k cv N aB).2<|this▸L) aB (λk cv a b=>(aC k cv a b).1) k
def FP{U:dh}{l:ac (bj×cn)}{aT:Nat}(h:p8 an.a1 an.call U s a bg cF)(aB:gH.length=a9.length)(aC:∀(k:Nat) (cv:aZ),gH[k]? =some cv->cv.live=true->a9[k]? =some cv/\gr s.env U≠some k)
 (k:ah an K (.d l gH (pc d aX) (aT+1) cF) ⟨bg,cF,ee d a s.env⟩):ah an K (.d ((⟨d,U,none⟩,.dI)::l) a9 aX aT bU) s:=KY h.b aB aC k
def w5{U:dh}{l:ac (bj×cn)}{aT:Nat}(h:fp an.call U s a bg cF)(aB:gH.length=a9.length)(aC:∀(k:Nat) (cv:aZ),gH[k]? =some cv->cv.live=true->a9[k]? =some cv/\gr s.env U≠some k)
 (k:ah an K (.d l gH (pc d aX) (aT+1) cF) ⟨bg,cF,ee d a s.env⟩):ah an K (.d ((⟨d,U,none⟩,.dI)::l) a9 aX aT bU) s:=FP h.g aB aC k
def Rt{i J:ac Nat}(h:b9 i J):i.length<=J.length:=by
 obtain aW|g:=gf J.length i.length
 .have:=h J.length _ aqB;simp at this
 .exact g
def KZ{U:dh}{aA:ac Tmp}{l:ac (bj×cn)}{aT:Nat}(h:zk an.call U ⟨s.own,s.n,dZ aA s.env⟩ a bg cF)(hm:gr (dZ aA s.env) U=none)
 (k:ah an K (.d l a9 (pc d aX) aT bU) ⟨bg,cF,ee d a s.env⟩):ah an K (.d ((⟨d,U,none⟩,.hx aA)::l) a9 aX aT bU) s:=by
 intro fw A H ids st o gu cy F Z D E;have⟨v,al,V,ad,I,a0,c2,eC,fv,lu⟩:=h H ids st (o.only aA) Z<|D.only aA;have g:∀(k:Nat) b,k<ids.length->V[k]? =some b->ids[k]? =some b:=λk b N C=>by
  have:=c2 k _<|aO N;rw[C]at this;rw[aO N,this]
 have B:∀(k:Nat) b,ids[k]? =some b->al.h.get b=st.h.get b:=λk b C=>lu b (Z.lt b<|hh C) λgX L=>by rw[hm]at L;cases L
 have aa:=k fw A H V al (o.put d v) gu cy (eC _ _ _ F) I ((D.mono ap8 c2).ee d a0) ⟨E.len,E.hle,w3 (λJ a ag=>iR ap8 _ c2<|E.eg J a ag) d v,ch E.pb<|Rt c2,ch E.uV<|Rt c2,?_,E.hy,?_⟩
 .refine W.of_eq ?_ aa;show jI o.t aA (λt=>a2.rec (motive:=λ_=>cN) (λv _ al=>hk an.call fw l cy (o.put d v) al) (λ_ _=>.no) .no<|bw an.call U ⟨t,[],none,false,none⟩ st)=_;rw[om];have e:bw an.call U ⟨EU o.t aA,[],none,false,none⟩ st= .ok v (o.only aA) al:=ad;rw[e]
 .intro k cv b N O C;have C:=g k b (e2 (dP.1 N).1 E.pb) C;have⟨T,a'⟩:=E.a9 k cv b N O C;rw[B k b C];exact⟨q1 ap8 c2 T,a'⟩
 .intro h ae;have⟨Y,G⟩:=E.top h ae;refine⟨Y,λk b N C=>?_⟩;have C:=g k b (e2 N E.uV) C;rw[B k b C];exact G k b N C
def K0{fw:s6}{U:dh}{aA:ac Tmp}{l:ac (bj×cn)}{cy:ac (ao bx)}{st:ak}{Q:c6->aK->ak->Prop}(aC:bw an.call U (o.only aA) st= .ok v (o.only aA) st)(aI:∀h∈cy.take (back+1),bw an.call U (o.only aA) ⟨h,st.ae⟩= .ok v (o.only aA) ⟨h,st.ae⟩)(aB:back<cy.length)
 (k:W (hk an.call fw l cy (o.put d v) st) Q):W (hk an.call fw ((⟨d,U,none⟩,.read back aA)::l) cy o st) Q:=by
 refine ad0 (λh hm=>?_) aB k;obtain rfl|hm:=fh.1 hm
 .exact aC
 .exact aI h hm
def l2{U:dh}{aA:ac Tmp}{l:ac (bj×cn)}{aT:Nat}(ay:back<aT)
 (h:∀(H:bb) (ids:ac Nat) (st:ak) (o:aK),cS o H ids (dZ aA aX)->a9.length<=ids.length->(∀(k:Nat) (U:aZ) (b:Nat),a9[k]? =some U->U.live=true->ids[k]? =some b->ov H ids U (st.h.get b))->
  ∃v,den H a ids v/\∀L:ak,(∀b U,H b=some U->L.h.get b=some U)->(∀(k:Nat) (U:aZ) (b:Nat),a9[k]? =some U->U.live=true->ids[k]? =some b->L.h.get b=st.h.get b)->bw an.call U o L= .ok v o L)
 (k:ah an K (.d l a9 (ee d a aX) aT bU) ⟨s.own,s.n,ee d a s.env⟩):ah an K (.d ((⟨d,U,none⟩,.read back aA)::l) a9 aX aT bU) s:=by
 intro fw A H ids st o gu cy F Z D E;have C:cS o gu ids aX:=⟨D.pl,E.eg⟩;have⟨v,Y,G⟩:=h gu ids st (o.only aA) (C.only aA) E.pb λk U b N B ay=>(E.a9 k U b N B ay).1;refine K0 (G st (λb U g=>Z.le _ _<|E.hle _ _ g) λ_ _ _ _ _ _=>j) (λh hm=>?_) as5<|k fw A H ids st (o.put d v) gu cy F Z (D.ee d<|iR E.hle _ apu Y) ⟨E.len,E.hle,aen E.eg d Y,E.pb,E.uV,E.a9,E.hy,E.top⟩;have hm:=mR hm;exact G ⟨h,st.ae⟩ (E.hy h hm) λk U b N B ay=>(E.a9 k U b N B ay).2 h hm
def Ru{U:dh}{aA:ac Tmp}{l:ac (bj×cn)}{aT:Nat}(ay:back<aT)
 (h:∀(H:bb) (ids:ac Nat) (o:aK),cS o H ids (dZ aA s.env)->∃v,den H a ids v/\∀st,bw an.call U o st= .ok v o st)
 (k:ah an K (.d l a9 (pc d aX) aT bU) ⟨s.own,s.n,ee d a s.env⟩):ah an K (.d ((⟨d,U,none⟩,.read back aA)::l) a9 aX aT bU) s:=by
 intro fw A H ids st o gu cy F Z D E;have⟨v,Y,G⟩:=h H ids (o.only aA)<|D.only aA;exact K0 (G st) (λh hm=>G _) as5<|k fw A H ids st (o.put d v) gu cy F Z (D.ee d Y) ⟨E.len,E.hle,w3 E.eg d v,E.pb,E.uV,E.a9,E.hy,E.top⟩
def aeo{U:dh}{aA:ac Tmp}{l:ac (bj×cn)}{aT:Nat}(ay:0<aT)
 (h:∀(H:bb) (ids:ac Nat) (st:ak) (o:aK),Fit H ids st s.own s.n->cS o H ids (dZ aA s.env)->∃v,den H a ids v/\∀L:ak,(∀b U,H b=some U->L.h.get b=some U)->(∀k b:Nat,k<bU->ids[k]? =some b->L.h.get b=st.h.get b)->bw an.call U o L= .ok v o L)
 (k:ah an K (.d l a9 (pc d aX) aT bU) ⟨s.own,s.n,ee d a s.env⟩):ah an K (.d ((⟨d,U,none⟩,.read 0 aA)::l) a9 aX aT bU) s:=by
 intro fw A H ids st o gu cy F Z D E;have⟨v,Y,G⟩:=h H ids st (o.only aA) Z<|D.only aA;refine K0 (G st Z.le λ_ _ _ _=>j) (λh hm=>?_) as5<|k fw A H ids st (o.put d v) gu cy F Z (D.ee d Y) ⟨E.len,E.hle,w3 E.eg d v,E.pb,E.uV,E.a9,E.hy,E.top⟩;have B:=E.len
 match cy,B,hm with
 |[],B,_=>simp at B;omega
 |g::cy,_,hm=>
  simp at hm;subst hm;have⟨W,I⟩:=E.top h j;exact G ⟨h,st.ae⟩ W I
theorem aep{U:dh}{l:ac (bj×cn)}{aT:Nat}{g:bM}(h:KR K d U c l a9 aX aT bU s.own s.n s.env=some g)(k:g.ok an):ah an K (.d ((⟨d,U,none⟩,c)::l) a9 aX aT bU) s:=by
 unfold KR at h;split at h
 .obtain⟨a,bg,cF,Y,G⟩:=KU h;obtain⟨gH,F,T,V⟩:=FO Y;exact w5 G T V<|w4 (nC F) k
 .rename_i aA;obtain⟨a,bg,cF,Y,G⟩:=Rn (s:=⟨s.own,s.n,dZ aA s.env⟩) h;split at Y
  .rename_i hm;exact KZ G hm<|w4 Y k
  .cases Y
 .rename_i back aA;split at h<;>try cases h
  rename_i C;have C:=ib C;split at h
  .rename_i j A;refine l2 C (λH ids st o D B E=>?_) (by
    unfold q3 at h;split at h
    .cases h;exact k
    .cases h;exact k)
   unfold Rp at A;split at A
   .rename_i O;cases A;obtain⟨v,Y,G⟩:=KN D O;exact⟨v,Y,λL _ _=>G L⟩
   .obtain⟨v,Y,G⟩:=KK D B E A;refine⟨v,Y,λL a' I=>G L (.inl a') λk b N C=>?_⟩;obtain⟨cv,aa,W⟩:=aeg A N;exact I k cv b aa W C
  .split at h
   .rename_i a A;exact Ru C (λH ids o D=>KN D A)<|w4 h k
   .split at h<;>try cases h
    split at h<;>try cases h
    rename_i a A;have key:(∀k,p7 (dZ aA s.env) U=some k->k<bU)->dx an K l a9 (pc d aX) aT bU s.own s.n (ee d a s.env)->ah an K (.d ((⟨d,U,none⟩,.read 0 aA)::l) a9 aX aT bU) s:=λN k=>by
     refine aeo C (λH ids st o Z D=>?_) k;obtain⟨v,Y,G⟩:=KK (call:=an.call) D (by rw[Z.len,Z.cZ];exact cf _) (λk U b N _ C=>(Z.own k U b N C).1) A
     grind
    split at h
    .rename_i aj;exact key (λk N=>by rw[aj]at N;cases N)<|w4 h k
    .rename_i a8 aj;split at h
     .rename_i aW;exact key (λk N=>by rw[aj]at N;cases N;exact ib aW)<|w4 h k
     .cases h
theorem K1{U:dh}{t:Tmp}{b:Bool}{l:ac (bj×cn)}{aT:Nat}{g:bM}(O:dn (FN c s.env) t=some (.b<|!b)\/∃ab,dn (FN c s.env) t=some (.bc ab))(h:Cb K d c l a9 aX aT bU s.own s.n s.env=some g)(k:g.ok an):ah an K (.d ((⟨d,U,some (t,b)⟩,c)::l) a9 aX aT bU) s:=by
 have V:∀{o:aK} {H:bb} {ids:ac Nat} {e:bP} {y n z:cN},cS o H ids e->(dn e t=some (.b<|!b)\/∃ab,dn e t=some (.bc ab))->hj o (some (t,b)) y n z=n:=λ{o H ids e y n z} D O=>by
  rcases O with O|⟨ab,O⟩
  .exact ad5<|D.get _ _ O
  .obtain⟨aa,L,_⟩:=D.get _ _ O;show kj (o.tmp t) (λc=>cond c (cond b y n)<|cond b n y) (qF (o.tmp t) (λ_=>n) z)=_;rw[L];rfl
 unfold Cb at h;intro fw A H ids st o gu cy F Z D E;split at h
 .have k:=w4 (nC h) k;have a':=k fw A H ids st (o.put d undef) gu (st.h::cy) F Z (D.ee d ap6) ⟨by simp[E.len],E.hle,w3 E.eg d _,E.pb,by rw[Z.len];exact cf _,λk U b N B C=>?_,λh hm=>?_,λh hm=>?_⟩
  .exact W.of_eq (V D O) a'
  .obtain⟨Y,G⟩:=E.a9 k U b N B C
   grind
  .rcases fh.1 hm with rfl|hm
   .exactλb U C=>Z.le _ _<|E.hle _ _ C
   .exact E.hy h hm
  .simp at hm;subst hm;exact asd asd
 .rename_i T;have k:=w4 h k;refine W.of_eq ?_ (k fw A H ids st (o.put d undef) gu cy F Z (D.ee d ap6) ⟨E.len,E.hle,w3 E.eg d _,E.pb,E.uV,E.a9,E.hy,E.top⟩);cases c with
  |dI=>exact absurd j T
  |hx aA=>
   exact aqm
  |read back aA=>
   exact aqm
def Rv{U:dh}{t:Tmp}{b:Bool}{l:ac (bj×cn)}{aT:Nat}(O:dn (FN c s.env) t=some (.b b))(k:ah an K (.d ((⟨d,U,none⟩,c)::l) a9 aX aT bU) s):ah an K (.d ((⟨d,U,some (t,b)⟩,c)::l) a9 aX aT bU) s:=by
 intro fw A H ids st o gu cy F Z D E;refine W.of_eq ?_ (k fw A H ids st o gu cy F Z D E);cases c with
 |dI=>
  exact Kt (D.get _ _ O)
 |hx aA=>
  exact apP
 |read back aA=>
  exact apP
def cS.Rw:∀(T:ac Tmp) {o:aK} {e:bP},cS o H ids e->cS (pO o T) H ids (KQ T e)
 |[],_,_,h=>h
 |d::T,_,_,h=>cS.Rw T<|h.ad9 d jG
theorem fE{g I:bM}(h:Cd g=some I)(k:I.ok an):g.ok an:=by
 unfold Cd at h;split at h
 .cases h;exactλH ids st o F Z D=>adG ⟨H,ids,_,F,Z,D,k⟩
 .cases h;exactλH ids st o F Z D=>adK<|k H ids st o F Z D
 .cases h;intro H ids st o F Z D;refine Q4<|(k H ids st o F Z D).mono ?_;rintro x L al ⟨B,V,aa,a',W,A,E⟩;cases x with
  |norm=>exact E B V al L a' W A
  |_=>exact arB
 .cases h;rename_i i a s;intro H ids st o F Z D;refine adJ<|(k H ids st o F Z D).mono ?_;rintro x L al ⟨B,V,aa,a',W,A,E⟩;cases x with
  |norm=>exact arB
  |exit J=>
   show(if J=i then _ else _);have E:(if J=i then _ else _):=E;split at E
   .rw[aD pT];exact arB
   .rw[av pT];exact arB
  |_=>exact arB
 .cases h;exactλH ids st o F Z D=>adH ⟨H,ids,_,F,Z,D,k⟩
 .cases h;exactλH ids st o F Z D=>adI ⟨H,ids,_,F,Z,D,k⟩
 .cases h;exactλH ids st o F Z D=>(k H ids st o F Z D)
 .split at h<;>cases h
  .rename_i ad;exactλH ids st o F Z D=>adN (D.ar ad) j<|k H ids st o F Z D
  .rename_i ad;exactλH ids st o F Z D=>adO (D.ar ad) j<|k H ids st o F Z D
 .cases h;exactλH ids st o F Z D=>adL ⟨H,ids,_,F,Z,D,k⟩
 .rename_i K d U l own n e;exact arq
 .rename_i K U l own n e;exact arq
 .rename_i K d U t b l own n e;have ae:∀{b:Bool},dn e t=some (.b b)->ah an K (.U<|⟨d,U,none⟩::l) ⟨own,n,e⟩->ah an K (.U<|⟨d,U,some (t,b)⟩::l) ⟨own,n,e⟩:=λO k H ids st o F Z D=>adQ (D.get _ _ O) j<|k H ids st o F Z D;have N:∀{b:Bool},dn e t=some (.b<|!b)->ah an K (.U l) ⟨own,n,ee d (.bc []) e⟩->ah an K (.U<|⟨d,U,some (t,b)⟩::l) ⟨own,n,e⟩:=λO k H ids st o F Z D=>adR (D.get _ _ O) j<|k H ids st _ F Z<|D.ee d ap6;split at h
  .rename_i O;cases b
   .exact N O<|KW h k
   .cases h;exact ae O k
  .rename_i O;cases b
   .cases h;exact ae O k
   .exact N O<|KW h k
  .rename_i O;intro H ids st o F Z D;obtain⟨ab,ag,_⟩:=D.get _ _ O;exact adS ag<|(KW h k) H ids st _ F Z<|D.ee d ap6
  .cases h
 .rename_i K l au T ms own n e;cases Rr (Rs h);intro H ids st o F Z D;have D:=D.Rw T;exact adZ<|k _ (show r3 an.call ms (dE l)=r3 an.call ms (0+dE l) by rw[hU]) H ids st _ H [st.h] F Z D ⟨j,cH.refl _,D.get,by rw[Z.len,<-Z.cZ];exact cf _,by rw[Z.len];exact cf _,λk U b aj aw C=>⟨(Z.own k U b aj C).1,λh hm=>by simp at hm;rw[hm]⟩,λh hm=>by simp at hm;subst hm;exact Z.le,λh hm=>by simp at hm;subst hm;exact asd⟩
 .exact arf
 .exact arf
 .exact aep h k
 .split at h
  .rename_i O;split at h
   .cases h;exact Rv O k
   .exact K1 (.inl O) h k
  .rename_i O;split at h
   .cases h;exact Rv O k
   .exact K1 (.inl O) h k
  .rename_i O;exact K1 (.inr ⟨_,O⟩) h k
  .cases h
 .cases h;exact k
 .cases h;exact k
 .cases h;exact k
 .cases h;exact k
 .split at h<;>cases h
  .rename_i C;show(if _ then _ else _);rw[aD<|dB C];exact k
  .rename_i C;show(if _ then _ else _);rw[av λe=>by rw[e,kT]at C;cases C];exact k
 .cases h;exact k
 .cases h;exact k
 .cases h;exact k
 .cases h;exact k
 .cases h;exact k
 .cases h;exact k
 .cases h;exact k
 .cases h
def w6{c:ce}{a b:du}(aQ:a5 s.env c=some (.b t))(bR:t=true->bM.ok an ⟨K,.c a,s⟩)(ay:t=false->bM.ok an ⟨K,.c b,s⟩):bM.ok an ⟨K,.c<|.cond c a b,s⟩:=λH ids st o F Z D=>
 adM (D.ar aQ) (λh=>bR h H ids st o F Z D) λh=>ay h H ids st o F Z D
def Rx{c:ce}{a b:du}(aQ:a5 s.env c=some (.b t))(N:t=true)(bR:bM.ok an ⟨K,.c a,s⟩):bM.ok an ⟨K,.c<|.cond c a b,s⟩:=w6 aQ (λ_=>bR) λh=>by rw[N]at h;cases h
def aeq{c:ce}{a b:du}(aQ:a5 s.env c=some (.b t))(N:t=false)(ay:bM.ok an ⟨K,.c b,s⟩):bM.ok an ⟨K,.c<|.cond c a b,s⟩:=w6 aQ (λh=>by rw[N]at h;cases h) λ_=>ay
def aer{a b:du}(N:cb->Prop)(aC:bM.ok an ⟨.b4 N::K,.c a,s⟩)(aI:∀O,N O->bM.ok an ⟨K,.c b,O⟩):bM.ok an ⟨K,.c<|.seq a b,s⟩:=by
 intro H ids st o F Z D;refine Q4<|(aC H ids st o F Z D).mono ?_;rintro x L al ⟨B,V,O,R,W,A,E⟩;cases x with
 |norm=>exact aI O E B V al L R W A
 |_=>exact⟨B,V,O,R,W,A,E⟩
def aes{L:Type _}{b:du}(aa:L->cb->Prop)(T:L->Nat)(N:L)(bX:aa N s)(hm:T N<an.a6)(h:∀l O,aa l O->bM.ok an ⟨.b4 (λt=>∃bo,T bo<T l/\aa bo t)::K,.c b,O⟩):bM.ok an ⟨K,.c<|.loop b,s⟩:=by
 intro H ids st o F Z D;apply adP (λm o st=>∃l H ids s,T l=m/\aa l s/\cW an.a1 an.i0 an.aq H ids st/\Fit H ids st s.own s.n/\cS o H ids s.env) (T N) hm ⟨N,H,ids,s,j,bX,F,Z,D⟩;rintro m o st ⟨l,H,ids,O,rfl,af,F,Z,D⟩;apply(h l O af H ids st o F Z D).mono;rintro x g al ⟨B,V,O,R,W,A,E⟩;cases x with
 |norm=>have⟨bo,Y,G⟩:=E;exact⟨_,Y,bo,B,V,O,j,G,R,W,A⟩
 |_=>exact⟨B,V,O,R,W,A,E⟩
end
end Go.bC
namespace Go.bC
open Sym
variable{f:ac Nat}
def pd(f:ac Nat):bP->bP->Prop
 |[],_=>True
 |p::l,e=>dn e p.1=some (j7 f p.2)/\pd f l e
def pd.get:∀{l e:bP},pd f l e->∀{J:Nat} {a:ag},dn l J=some a->dn e J=some (j7 f a)
 |[],_,_,_,_,h=>by cases h
 |p::l,e,cy,J,v,h=>by
  rw[lB]at h;cases ay:Nat.beq p.1 J with
  |true=>rw[ay]at h;cases h;rw[<-dB ay];exact cy.1
  |false=>rw[ay]at h;exact pd.get cy.2 h
def kG(f:ac Nat):aZ->aZ->Prop
 |.c el cs,U=>U= .c el (lA f cs)
 |.a el aR z α ah l,U=>U= .a el aR z α ah l/\∀x,lA f (ah x)=ah x
 |.g p,U=>U= .g p
 |.x,_=>True
def sq(f:ac Nat)(own:ac aZ):ac Nat->ac aZ->Prop
 |[],[]=>True
 |m::ms,U::os=>(∃cv,own[m]? =some cv/\kG f U cv)/\sq f own ms os
 |_,_=>False
def sq.len{own:ac aZ}:∀{ms:ac Nat} {os:ac aZ},sq f own ms os->os.length=ms.length
 |[],[],_=>rfl
 |[],_::_,h=>h.elim
 |_::_,[],h=>h.elim
 |_::ms,_::os,h=>by simp[sq.len h.2]
def sq.get{own:ac aZ}:∀{ms:ac Nat} {os:ac aZ},sq f own ms os->∀{k:Nat} {U:aZ},os[k]? =some U->∃m cv,ms[k]? =some m/\own[m]? =some cv/\kG f U cv
 |[],[],_,_,_,h=>by simp at h
 |[],_::_,h,_,_,_=>h.elim
 |_::_,[],h,_,_,_=>h.elim
 |m::ms,U::os,⟨⟨cv,aC,aI⟩,A⟩,0,q,h=>by simp at h;subst h;exact⟨m,cv,j,aC,aI⟩
 |m::ms,U::os,⟨_,A⟩,k+1,q,h=>sq.get A apH
def pinned:Nat->ac Nat->Nat->Bool
 |0,_,_=>true
 |n+1,m::f,k=>Nat.beq m k&&pinned n f (k+1)
 |_+1,[],_=>false
theorem K2:∀{n:Nat} {f:ac Nat} {k:Nat},pinned n f k=true->∀i,i<n->f[i]? =some (k+i)
 |0,_,_,_,i,h=>by omega
 |n+1,[],k,h,_,_=>by cases h
 |n+1,m::f,k,h,i,af=>by
  have h:(Nat.beq m k&&pinned n f (k+1))=true:=h;rw[c1]at h;cases i with
  |zero=>simp[dB h.1]
  |succ i=>rw[show k+(i+1)=(k+1)+i by omega];simpa using K2 h.2 i R
structure Sub(p:Nat)(f:ac Nat)(s t:cb):Prop where
 cY:f.Nodup
 n:t.n=f.length
 own:sq f s.own f t.own
 env:pd f t.env s.env
 Ry:pinned p f 0=true
section
variable{H:bb}{ids:ac Nat}{st:ak}{o:aK}{s t:cb}{f:ac Nat}
variable{p:Nat}
def kG.live{U cv:aZ}(h:kG f U cv)(aB:U.live=true):cv.live=true:=by
 cases U with
 |c el cs=>cases h;rfl
 |a el aR z α ah l=>cases h.1;rfl
 |g p=>cases h;rfl
 |x=>cases aB
theorem Sub.fit(h:Sub p f s t)(Z:Fit H ids st s.own s.n):Fit H (pick f ids) st t.own t.n:=by
 have O:∀{k m:Nat},f[k]? =some m->(∃U,s.own[m]? =some U)->∃b,ids[m]? =some b/\(pick f ids)[k]? =some b:=λ{k m} N ⟨U,E⟩=>by
  have af:m<ids.length:=by rw[Z.len,<-Z.cZ];exact(dP.1 E).1
  exact⟨_,aO af,uP N<|aO af⟩
 have D:∀k m:Nat,f[k]? =some m->∃U,s.own[m]? =some U:=λk m N=>by
  have B:=h.own.len;have aW:=(dP.1 N).1;obtain⟨ae,cv,Y,G,_⟩:=h.own.get<|aO (show k<t.own.length by omega);rw[N]at Y;cases Y;exact⟨cv,G⟩
 have L:(pick f ids).length=f.length:=by simp[pick]
 refine⟨Z.wf,Z.le,by rw[h.n,h.own.len],by rw[h.n,L],?_,?_,?_⟩
 .rw[List.Nodup,lk];intro i J af V ai;rw[L]at af V;obtain⟨b,Y,G⟩:=O (aO af)<|D _ _<|aO af;obtain⟨c,A,T⟩:=O (aO V)<|D _ _<|aO V;have F:=(dP.1 T).2;rw[((dP.1 G).2),F];intro e;subst e;have I:=dP.1 A;have:=(vR Z.cY).1<|(dP.1 Y).2.trans I.2.symm;have:=(vR h.cY).1 this;omega
 .intro b C;obtain⟨k,N⟩:=vS.1 C;have aW:=(dP.1 N).1;rw[L]at aW;obtain⟨c,Y,G⟩:=O aqB<|D _ _ aqB;rw[N]at G;cases G;exact Z.lt _<|hh Y
 .intro k U b N C;obtain⟨m,cv,Y,G,A⟩:=h.own.get N;obtain⟨c,T,a'⟩:=O Y ⟨cv,G⟩;rw[C]at a';cases a';obtain⟨W,I⟩:=Z.own m cv b G T;exact⟨(by
   cases U with
   |c el cs=>cases A;obtain⟨ab,e,W⟩:=W;exact⟨ab,e,uQ f cs W⟩
   |a el aR z α ah l=>
    obtain⟨A,hp⟩:=A;cases A;obtain⟨ab,aa,F,W⟩:=W;exact⟨ab,aa,F,λi x ad=>uQ f _ apt⟩
   |g p=>cases A;exact W
   |x=>trivial),λB=>I<|A.live B⟩
def Sub.FQ(h:Sub p f s t)(D:cS o H ids s.env):cS o H (pick f ids) t.env:=⟨D.pl,λJ a V=>Ku f a<|D.get J _<|h.env.get V⟩
def Sub.b2{a1:bb}{i0:ac Nat}{aq:ak}(h:Sub i0.length f s t)(Z:Fit H ids st s.own s.n)(F:cW a1 i0 aq H ids st):cW a1 i0 aq H (pick f ids) st:=by
 refine⟨F.hle,F.hold,F.eK,F.ae,?_,?_⟩
 .intro k b N;have:=K2 h.Ry k<|(dP.1 N).1;rw[hU]at this;exact uP this<|F.jx k b N
 .intro b C;have⟨k,N⟩:=vS.1 C;rw[pick]at N;rw[x8]at N;cases g:f[k]? with
  |none=>rw[g]at N;cases N
  |some m=>
   rw[g]at N;have N:some ((ids[m]?).getD 0)=some b:=N;have B:=h.own.len;have aW:=(dP.1 g).1;have⟨R,cv,Y,G,_⟩:=h.own.get<|aO (show k<t.own.length by omega);rw[g]at Y;cases Y;have af:m<ids.length:=by rw[Z.len,<-Z.cZ];exact(dP.1 G).1
   rw[aO af]at N;cases N;exact F.new _<|dH af
end
section
variable{an:eR}{K:ac dA}{s t:cb}{f:ac Nat}
def q2.sub{Q j:c6->cb->Prop}{x:c6}{o:aK}{st:ak}(cD:∀s,Q x s->∃f t,Sub an.i0.length f s t/\j x t)(h:q2 an Q x o st):q2 an j x o st:=by
 obtain⟨H,ids,s,F,Z,g,h⟩:=h;obtain⟨f,t,cy,D⟩:=cD s h;exact⟨H,_,t,cy.b2 Z F,cy.fit Z,cy.FQ g,D⟩
def FR{c:du}(f:ac Nat)(t:cb)(h:Sub an.i0.length f s t)(k:bM.ok an ⟨K,.c c,t⟩):bM.ok an ⟨K,.c c,s⟩:=λH ids st o F Z D=>k H _ st o (h.b2 Z F) (h.fit Z)<|h.FQ D
def k2(p:Nat){L:Type _}(P:L->Prop)(T:L->cb)(s:cb):Prop:=∃f l,P l/\Sub p f s (T l)
variable{e:bP}{a:ag}{ax p:Nat}{c:bf}
def zn{L:Type _}{a b:du}(P:L->Prop)(T:L->cb)(aC:bM.ok an ⟨.b4 (k2 an.i0.length P T)::K,.c a,s⟩)(aI:∀l,P l->bM.ok an ⟨K,.c b,T l⟩):bM.ok an ⟨K,.c<|.seq a b,s⟩:=
 aer _ aC λ_ ⟨f,l,hp,cy⟩=>FR f _ cy<|aI l hp
def ea{L:Type _}{b:du}(P:L->Prop)(T:L->cb)(j:L->Nat)(f0:ac Nat)(N:L)(I:P N)(hm:j N<an.a6)(bX:Sub an.i0.length f0 s (T N))
 (h:∀l,P l->bM.ok an ⟨.b4 (k2 an.i0.length (λbo=>j bo<j l/\P bo) T)::K,.c b,T l⟩):bM.ok an ⟨K,.c<|.loop b,s⟩:=
 aes (λl s=>P l/\∃f,Sub an.i0.length f s<|T l) j N ⟨I,f0,bX⟩ hm λl O ⟨hp,f,cy⟩=>FR f _ cy (by
  refineλH ids st o F Z D=>(h l hp H ids st o F Z D).mono ?_;rintro x a' al ⟨B,V,O,R,W,g,E⟩;refine⟨B,V,O,R,W,g,?_⟩;cases x with
  |norm=>have⟨C,bo,⟨Y,G⟩,A⟩:=E;exact⟨bo,Y,G,C,A⟩
  |exit i=>exact E
  |ret=>exact E
  |aV v=>exact E)
def bB{L:Type _}{P:L->Prop}{T:L->cb}(f:ac Nat)(l:L)(Z:P l)(h:Sub p f s (T l)):bM.ok an ⟨.b4 (k2 p P T)::K,.x .norm,s⟩:=⟨f,l,Z,h⟩
def bn{e:c6}(h:an.Q e s):bM.ok an ⟨[],.x e,s⟩:=h
def nx{o:aK}{H:bb}{ids:ac Nat}{t:Nat}{b:ag}(h:dn e t=some a)(aj:∀H ids v,den H a ids v->den H b ids v)(D:cS o H ids e):cS o H ids ((t,b)::e):=⟨D.pl,λJ c V=>by
 rw[lB]at V;cases C:Nat.beq t J with
 |true=>rw[C]at V;cases V;rw[<-dB C];exact aj _ _ _ (D.get t _ h)
 |false=>rw[C]at V;exact D.get J c V⟩
def bf.nD:bf->Bool
 |.x _=>true
 |_=>false
def aJ(t:Nat)(b:ag){own:ac aZ}(h:dn e t=some a)(Y:a=b)(bD:fB an K c own ax ((t,b)::e))(aQ:c.nD=false:=by rfl):fB an K c own ax e:=by
 subst Y;cases c with
 |c c=>exactλH ids st o F Z D=>bD H ids st o F Z (nx h (λ_ _ _ d=>d) D)
 |U l=>exactλH ids st o F Z D=>bD H ids st o F Z (nx h (λ_ _ _ d=>d) D)
 |x e=>cases aQ
 |d l a9 aX aT bU=>exactλfw A H ids st o gu cy F Z D E=>bD fw A H ids st o gu cy F Z (nx h (λ_ _ _ d=>d) D) E
def e5(t:Nat)(b:ag){own:ac aZ}(h:dn e t=some a)(Y:bz a b)(bD:fB an K c own ax ((t,b)::e))(aQ:c.nD=false:=by rfl):fB an K c own ax e:=by
 cases c with
 |c c=>exactλH ids st o F Z D=>bD H ids st o F Z (nx h Y D)
 |U l=>exactλH ids st o F Z D=>bD H ids st o F Z (nx h Y D)
 |x e=>cases aQ
 |d l a9 aX aT bU=>exactλfw A H ids st o gu cy F Z D E=>bD fw A H ids st o gu cy F Z (nx h Y D) E
def dF(t:Nat)(b:ag){own a9:ac aZ}{aT bU:Nat}{aX:bP}{l:ac (bj×cn)}(h:dn e t=some a)(bX:dn aX t=some a)(Y:a=b)(bD:dx an K l a9 ((t,b)::aX) aT bU own ax ((t,b)::e)):dx an K l a9 aX aT bU own ax e:=by
 subst Y;exactλfw A H ids st o gu cy F Z D E=>bD fw A H ids st o gu cy F Z (nx h (λ_ _ _ d=>d) D) ⟨E.len,E.hle,(nx bX (λ_ _ _ d=>d) ⟨D.pl,E.eg⟩).get,E.pb,E.uV,E.a9,E.hy,E.top⟩
def k3{own:ac aZ}{n:Nat}{kY:bP}(h:pd [] kY e)(hp:pinned p [] 0=true:=by rfl):Sub p [] ⟨own,n,e⟩ ⟨[],0,kY⟩:=⟨oU,j,az,h,hp⟩
end
section
variable{an:eR}{K:ac dA}{own bg:ac aZ}{ax cF:Nat}{e:bP}
variable{U:dh}{l:ac bj}{a:ag}
def e0{d:Tmp}(h:fp an.call U ⟨own,ax,e⟩ a bg cF)(k:cL an K l bg cF ((d,a)::e)):gY an K d U l own ax e:=w2 h k
def aet(h:fp an.call U ⟨own,ax,e⟩ a bg cF)(k:cL an K l bg cF e):cL an K (⟨none,U,none⟩::l) own ax e:=w2 h k
end
section
variable{call:bN}{s:cb}{x y i:ce}{a b:ag}
variable{z J k:Nat}{α:Type}{el:co}{aR:Bool}{q:Nat}{H:bb}{ids:ac Nat}{m:Nat}{aM:ac ag}{l:ac α}{w:α}
def j8{U:dh}(h:∀H ids st o,Fit H ids st s.own s.n->cS o H ids s.env->∃v,den H a ids v/\bw call U o st= .ok v o st):fp call U s a s.own s.n:=λH ids st o Z D=>
 let⟨v,Y,G⟩:=h H ids st o Z D
 ⟨v,st,ids,H,G,Z,Y,cH.refl _,b9.refl _,λ_ _ _ B=>B,cf _,λ_ _ _=>j⟩
def Rz{U n c:Nat}{bD:f6}(O:a5 s.env x=some (.aH k z U n c))(af:a5 s.env i=some (.i bD (J:Int)))(ba:J<n):fp call (.iC z x i) s (.fi k z (U+J) 0) s.own s.n:=j8 λH ids st o Z D=>by
 have⟨b,Y,G⟩:=D.ar O;exact atl atl
theorem K3{ah:α->ac ag}{q:α}{bD:f6}(O:a5 s.env x=some (.b6 z α ah l))(af:a5 s.env i=some (.i bD (J:Int)))(ba:l[J]? =some q):fp call (.iC z x i) s (.ip<|ah q) s.own s.n:=j8 λH ids st o Z D=>by
 have aW:=(dP.1 ba).1;rcases D.ar O with⟨B,_⟩|⟨b,U,c,ab,el,bY,aR,Y,G,T,C⟩
 .subst B;simp at aW
 .refine⟨_,⟨b,U+J*z,ab,el,bY,aR,j,T,?_⟩,B0 Y (D.ar af) aW⟩;have B:=gq<|C J q ba
  grind
def ow{st:ak}{ah:α->ac ag}(Z:Fit H ids st s.own s.n)(aw:s.own[k]? =some (.a el aR z α ah l)){b:Nat}(ay:ids[k]? =some b):∃ab,st.h.get b=some (.cells ab el (0,0) aR)/\ab.length=l.length*z/\∀i x,l[i]? =some x->cG H (ah x) ids ((ab.drop<|i*z).take z):=(Z.own k _ b aw ay).1
theorem aeu{ah:α->ac ag}(O:a5 s.env x=some (.fi k z J q))(aw:s.own[k]? =some (.a el aR z α ah l))(ba:l[J]? =some w)(cD:(ah w)[q]? =some a):fp call (.iv x) s a s.own s.n:=j8 λH ids st o Z D=>by
 obtain⟨b,Y,G⟩:=D.ar O;obtain⟨ab,A,h,C⟩:=ow Z aw Y;obtain⟨v,g,T⟩:=tl (C J w ba) cD;refine⟨v,T,zh G A ?_⟩
 grind
def aev{ah:α->ac ag}{cs:ac ag}(O:a5 s.env x=some (.fi k z J q))(aw:s.own[k]? =some (.a el aR z α ah l))(ba:l[J]? =some w)(cD:qZ (ah w) q m (λl=>some l)=some cs):fp call (.mV m x) s (.agg cs) s.own s.n:=j8 λH ids st o Z D=>by
 obtain⟨b,Y,G⟩:=D.ar O;obtain⟨ab,A,E,C⟩:=ow Z aw Y;have T:=C J w ba;obtain⟨W,h⟩:=wZ cD;cases h;have g:=so m<|nA q T;have B:=gq T;rw[gQ]at B;rw[iX]at W;have e:((List.take z<|List.drop (J*z) ab).drop q).take m=(ab.drop<|J*z+q).take m:=by
  rw[Ax,qv,x9,kh R]
 rw[e]at g;refine⟨_,⟨_,j,g⟩,B6 G A ?_⟩;rw[iX]at B⊢;omega
def aew{v:bv}(h:tn a=some aM)(aQ:pa aM=true)(d:den H a ids v):cG H aM ids (hW v)/\hi (hW v)=true:=by
 have⟨_,d2⟩:=FJ h d;exact⟨d2,B2 aQ d2⟩
theorem aex{ab F:ac bv}(i:Nat)(D:(J+1)*z<=ab.length)(cD:q+F.length<=z):
 ((ab.take (J*z+q)++(F++ab.drop (J*z+q+F.length))).drop<|i*z).take z=if i=J then((ab.drop<|J*z).take z).take q++(F++((ab.drop<|J*z).take z).drop (q+F.length))else(ab.drop<|i*z).take z:=by
 rw[fb]at D;apply nY;intro p;rw[nn,n2];by_cases hp:p<z
 .rw[aD hp];have get:∀m,(ab.take (J*z+q)++(F++ab.drop (J*z+q+F.length)))[m]? =if m<J*z+q then ab[m]? else if m<J*z+q+F.length then F[m-(J*z+q)]? else ab[m]? :=by
   intro m;by_cases Y:m<J*z+q
   .rw[aD Y,oQ dM,nn,aD Y]
   .rw[qw dM,gQ,kh R]
    grind
  rw[get];by_cases O:i=J
  .subst O;rw[aD j];by_cases Y:p<q
   .grind
   .rw[av R,qw dM];have e:(((ab.drop<|i*z).take z).take q).length=q:=by simp;omega
    by_cases G:p<q+F.length
    .rw[aD R,oQ R];congr 1;omega
    .rw[av R,qw R,n2,nn,aD R,n2];congr 1;omega
  .rw[av O,nn,aD hp,n2];have:i*z+p<J*z\/J*z+z<=i*z+p:=by
    rcases Nat.lt_or_gt_of_ne O with h|h
    .left;have:(i+1)*z<=J*z:=hV z h;rw[fb]at this;omega
    .right;have:(J+1)*z<=i*z:=hV z h;rw[fb]at this;omega
   rcases this with h|h
   .rw[aD R]
   .rw[av R,av R]
 .rw[av hp]
  symm
  split
  .simp;omega
  .simp;omega
theorem RA{ah:α->ac ag}(w':α)(O:a5 s.env x=some (.fi k z J q))(T:a5 s.env y=some a)(aQ:tn a=some aM)(aB:aM.length=m)(a':pa aM=true)
 (aw:s.own[k]? =some (.a el aR z α ah l)) (ba:l[J]? =some w) (ad:ah w'=(ah w).take q++(aM++(ah w).drop (q+aM.length))) (aa:q+m<=z):
 fp call (.store m x y) s (.bc []) (s.own.set k<|.a el aR z α ah<|l.set J w') s.n:=λH ids st o Z D=>by
 obtain⟨b,Y,G⟩:=D.ar O;obtain⟨ab,A,E,C⟩:=ow Z aw Y;obtain⟨N,I⟩:=aew aQ a'<|D.ar T;have W:=gq N;have aW:=(dP.1 ba).1;have L:(J+1)*z<=ab.length:=by rw[E];exact hV z aW
 have g:=L;rw[fb]at g;refine⟨undef,⟨st.h.set b<|.cells (ab.take (J*z+q)++(hW (o.ar y)++ab.drop (J*z+q+(hW<|o.ar y).length))) el (0,0) aR,st.ae⟩,ids,H,?_,Z.e3 aw j Y ⟨_,j,?_,?_⟩,ap6,cH.refl _,b9.refl _,λ_ _ _ B=>B.e3 (hh Y) _,cf _,?_⟩
 .have:bw call (.store m x y) o st=hG (o.ar x) (λp=>bq p (λa=>dL (dE<|hW<|o.ar y) m (cond (hi<|hW<|o.ar y) (st.store a (hW<|o.ar y) (λst=>a2.ok undef o st) .no) .no) .no) .no) .no:=rfl;rw[this,G,lx,Sym.ed,e4,ij R,I,cond_true];unfold ak.store ak.fI;rw[Sym.hL,A,j6,fo<|cf _,pU,aD apt,ja]
 .grind
 .grind [aex,KM]
 .intro V _ F;exact ao.fk _ _ λe=>F k asz<|e▸Y
theorem RB{ah:α->ac ag}(w':α)(O:a5 s.env x=some (.fi k 1 J 0))(T:a5 s.env y=some a)(aw:s.own[k]? =some (.a el aR 1 α ah l))(D:ah w'=[a])(ba:J<l.length)(aQ:qX a=true)(aC:∀w,(ah w).length=1):
 fp call (.store 1 x y) s (.bc []) (s.own.set k<|.a el aR 1 α ah<|l.set J w') s.n:=by
 exact RA w' O T (aM:=[a]) (by cases a<;>first|rfl|cases aQ|(show(match qX _ with|true=>_|false=>_)=_;rw[aQ])) j (by show(qX a&&true)=true;rw[aQ];rfl) aw (aO ba) apt ai
end
set_option maxRecDepth 10000
section
variable{call:bN}{s:cb}{x y i:ce}{a b:ag}
def jQ(H:bb)(ids:ac Nat){α:Type}(ah:α->ac ag)(z:Nat)(l:ac α)(ab:ac bv):Prop:=ab.length=l.length*z/\∀i x,l[i]? =some x->cG H (ah x) ids ((ab.drop<|i*z).take z)
variable{α:Type}{z:Nat}{H:bb}{ids:ac Nat}{ab:ac bv}{l:ac α}
def w7(H:bb)(ids:ac Nat)(ah:α->ac ag)(z:Nat):jQ H ids ah z [] []:=⟨au,λi x h=>by simp at h⟩
theorem sr{ah:α->ac ag}{m:ac α}{F:ac bv}(h:jQ H ids ah z l ab)(D:jQ H ids ah z m F):jQ H ids ah z (l++m) (ab++F):=by
 refine⟨by rw[me,me,h.1,D.1,fb],λi x O=>?_⟩;by_cases af:i<l.length
 .rw[oQ af]at O;have Y:=h.2 i x O;have hle:(i+1)*z<=ab.length:=by rw[h.1];exact hV z af
  grind
 .rw[qw R]at O;have Y:=D.2 _ x O;have e:i*z=ab.length+(i-l.length)*z:=by rw[h.1,<-fb];congr 1;omega
  simp_all
def FT{ah:α->ac ag}(h:jQ H ids ah z l ab)(n:Nat)(aj:n<=l.length):jQ H ids ah z (l.take n) (ab.take<|n*z):=by
 have g:=hV z aj;refine⟨by rw[gQ,gQ,h.1,kh g,kh aj],λi x O=>?_⟩;rw[nn]at O;split at O
 .rename_i af;have hle:(i+1)*z<=n*z:=hV z af;rw[fb]at hle;rw[Ax,x9,kh R];exact h.2 i x O
 .cases O
def zo{ah:α->ac ag}(h:jQ H ids ah z l ab)(n:Nat):jQ H ids ah z (l.drop n) (ab.drop<|n*z):=by
 refine⟨by rw[iX,iX,h.1,Nat.sub_mul],λi x O=>?_⟩;rw[n2]at O;rw[qv,<-fb];exact h.2 _ x O
def Cf{ah:α->ac ag}{w:α}(h:cG H (ah w) ids ab)(Z:(ah w).length=z):jQ H ids ah z [w] ab:=by
 have B:=gq h;refine⟨by simp;omega,λi x O=>?_⟩;cases i with
 |zero=>simp at O;subst O;rw[hF,iB,gB R];exact h
 |succ i=>simp at O
theorem K4{H:bb}{ids:ac Nat}{α:Type}{ah:α->ac ag}{w:α}{I:ac bv}(h:cG H (ah w) ids I):∀n,jQ H ids ah I.length (List.replicate n w) (pM I n)
 |0=>w7 _ _ _ _
 |n+1=>by
  have e:pM I (n+1)=I++pM I n:=by show fr I (pM I n)=_;rw[pS]
  rw[e];exact sr (Cf h<|by rw[gq h])<|K4 h n
theorem K5{H:bb}{ids:ac Nat}{α:Type}{ah:α->ac ag}{z:Nat}(Z:∀w,(ah w).length=z):∀{l:ac α} {ab:ac bv},cG H (l.flatMap ah) ids ab->jQ H ids ah z l ab
 |[],ab,d=>by cases d;exact w7 _ _ _ _
 |w::l,ab,d=>by
  rw[ub]at d;have aC:=so z d;have G:=nA z d;rw[Iv<|Z w]at aC;rw[DD<|Z w]at G;rw[<-np z ab];exact sr (Cf aC<|Z w)<|K5 Z G
def mk{el:co}{c4 n c:Nat}{I:ac bv}{k gX:f6}(ah:α->ac ag)(w:α)(O:a5 s.env x=some (.i k (n:Int)))(N:a5 s.env y=some (.i gX (c:Int)))(E:I.length=z)(a':uR I=ah w)(aj:n<=c)(aQ:c*(c4+1)<=1099511627776):
 fp call (.pH el c4 I x y) s (.aH s.n z 0 n c) (s.own++[.a el false z α ah<|List.replicate c w]) (s.n+1):=λH ids st o Z D=>by
 have Y:=D.ar O;have G:=D.ar N;subst E;have T:=uS H (ids++[st.ae]) I;rw[a']at T;have F:=K4 T c;refine⟨_,_,_,H,?_,Z.add ⟨_,j,F.1,F.2⟩,aqS,cH.refl _,b9.app _ _,λ_ _ _ B=>B.add _,kW _,λb C _=>p9 C⟩;exact ap5
def ox(s:cb)(x:ce){α:Type}(ah:α->ac ag)(z:Nat)(l:ac α):Prop:=∀(H:bb) (ids:ac Nat) (st:ak) (o:aK),Fit H ids st s.own s.n->cS o H ids s.env->
 (l=[]/\∃c,o.ar x= .slice none 0 c)\/∃b U c ab el bY aR,o.ar x= .slice (some ⟨b,U,none⟩) l.length c/\st.h.get b=some (.cells ab el bY aR)/\l.length*z<=(ab.drop U).length/\jQ H ids ah z l ((ab.drop U).take<|l.length*z)/\hi ((ab.drop U).take<|l.length*z)=true
variable{U:Nat}
theorem RC:∀(ab:ac bv) (n:Nat),hi ab=true->hi (ab.take n)=true
 |[],n,_=>by simp[hi]
 |v::ab,0,_=>rfl
 |v::ab,n+1,h=>by
  have h:cond (ns v) (hi ab) false=true:=h;show cond (ns v) (hi<|ab.take n) false=true;cases g:ns v with
  |false=>rw[g]at h;cases h
  |true=>rw[g]at h;exact RC ab n h
theorem RD:∀(ab F:ac bv),hi ab=true->hi F=true->hi (ab++F)=true
 |[],F,_,h=>h
 |v::ab,F,h,D=>by
  have h:cond (ns v) (hi ab) false=true:=h;show cond (ns v) (hi<|ab++F) false=true;cases g:ns v with
  |false=>rw[g]at h;cases h
  |true=>rw[g]at h;exact RD ab F h D
def aey{k n c:Nat}{el:co}{cs:ac ag}{ah:α->ac ag}(l:ac α)(O:a5 s.env x=some (.aH k z U l.length c))(E:U=0)(aw:s.own[k]? =some (.c el cs))(Y:cs=l.flatMap ah)(Z:∀w,(ah w).length=z)(aQ:pa cs=true)(aj:l.length=n):ox s x ah z l:=by
 intro H ids st o g D;subst E;obtain⟨b,j,G⟩:=D.ar O;obtain⟨⟨ab,A,d⟩,_⟩:=g.own k _ b aw j;rw[Y]at d;have F:=K5 Z d;have h:=B2 (Y▸aQ) d;rw[hF]at G;refine .inr ⟨b,0,c,ab,el,_,_,G,A,by simp[F.1],?_,RC _ _ apH⟩;rw[iB,gB<|by rw[F.1];exact cf _];exact F
theorem RE{ah:α->ac ag}(Z:∀w,(ah w).length=z):∀{l:ac α},(∀i x,l[i]? =some x->cG H (ah x) [] ((ab.drop<|U+i*z).take z))->∀n,n<=l.length->n*z<=(ab.drop U).length/\jQ H [] ah z (l.take n) ((ab.drop U).take<|n*z):=by
 intro l h n
 induction n with
 |zero=>intro _;exact aqH aqH
 |succ n I=>
  intro aj;obtain⟨Y,G⟩:=I R;have O:l[n]? =some l[n]:=aO R;have A:=h n _ O;have B:=gq A;have hle:(n+1)*z<=(ab.drop U).length:=by
   grind
  refine⟨hle,?_⟩;rw[hR R];have e:(ab.drop U).take ((n+1)*z)=(ab.drop U).take (n*z)++(ab.drop<|U+n*z).take z:=by
   rw[fb,sS,List.take_add,qv]
  rw[e];exact sr G<|Cf A<|Z _
def Cg{D:bb}{i J:ac Nat}(cK:cH H D)(af:b9 i J){ah:α->ac ag}(h:jQ H i ah z l ab):jQ D J ah z l ab:=⟨h.1,λk x O=>kF cK _ af<|h.2 k x O⟩
theorem FU{H:bb}{ids:ac Nat}{α:Type}{ah:α->ac ag}{z:Nat}(Z:∀w,(ah w).length=z)(aQ:∀w,pa (ah w)=true):∀{l:ac α} {ab:ac bv},jQ H ids ah z l ab->hi ab=true
 |[],ab,h=>by
  have:=nZ (by rw[h.1];simp);subst this;rfl
 |w::l,ab,h=>by
  rw[<-np z ab];have Y:=h.2 0 w au;rw[hF]at Y;have G:=zo h 1;rw[sS]at G;exact RD _ _ (B2 (aQ w) Y)<|FU Z aQ G
def m8{ah:α->ac ag}(O:a5 s.env x=some (.b6 z α ah l))(Z:∀w,(ah w).length=z)(aQ:∀w,pa (ah w)=true):ox s x ah z l:=by
 intro H ids st o g D;rcases D.ar O with⟨B,Y⟩|⟨b,U,c,ab,el,bY,aR,Y,G,T,C⟩
 .exact .inl ⟨B,0,Y⟩
 .obtain⟨W,I⟩:=RE Z C l.length<|cf _;rw[mS]at I;exact .inr ⟨b,U,c,ab,el,bY,aR,Y,g.le _ _ T,W,Cg ap8 (b9.nil _) I,FU Z aQ I⟩
def q4(call:bN)(el:co)(c4:Nat)(s:cb)(y:ce){α:Type}(ah:α->ac ag)(z:Nat)(l:ac α):Prop:=∀(H:bb) (ids:ac Nat) (st:ak) (o:aK),Fit H ids st s.own s.n->cS o H ids s.env->∀(x:ce) (p:be Addr) (n c:Nat),o.ar x= .slice p n c->
 ∃new,jQ H ids ah z l new/\hi new=true/\bw call (.app el z c4 x y) o st=iO o st el z c4 p n c l.length new
variable{bW c4:Nat}{el:co}{k n c:Nat}{m:ac α}
def ss{ah:α->ac ag}(cy:ox s y ah bW l):q4 call el c4 s y ah bW l:=λH ids st o Z D x p n c O=>by
 have e:bw call (.app el bW c4 x y) o st=hY (o.ar x) (λbase len L=>hY (o.ar y) (λb n _=>bq b (λb=>st.load b (Nat.mul n bW) (λnew=>cond (hi new) (iO o st el bW c4 base len L n new) .no) .no)<|dL n 0 (iO o st el bW c4 base len L 0 []) .no)<|r0 (o.ar y) (iO o st el bW c4 base len L 0 [])<|hX (o.ar y) (λs=>dL bW 1 (iO o st el bW c4 base len L (dE s.data.toList)<|nu s.data.toList) .no) .no) .no:=rfl;rw[e,O,p5];rcases cy H ids st o Z D with⟨rfl,E,Y⟩|⟨b,U,E,ab,N,bY,aR,Y,G,A,T,C⟩
 .refine⟨[],w7 _ _ _ _,j,?_⟩;rw[Y,p5,Sym.hL,ij j];rfl
 .refine⟨_,T,C,?_⟩;rw[Y];show st.load ⟨b,U,none⟩ (l.length*bW) _ _=_;unfold ak.load ak.fI;rw[G,j6,q0 A,C];rfl
def K6{ah:α->ac ag}(O:a5 s.env x=some .nl)(cy:q4 call el c4 s y ah bW l)(bX:l≠[])(ay:(5*l.length+1792)*(c4+1)<=1125899906842624):
 fp call (.app el bW c4 x y) s (.aH s.n bW 0 l.length l.length) (s.own++[.a el true bW α ah l]) (s.n+1):=λH ids st o Z D=>by
 obtain⟨new,Y,G,A⟩:=cy H ids st o Z D x _ _ _<|D.ar O;have N:=Cg (cH.refl H) (b9.app ids [st.ae]) Y;have g:=oV.2 bX;refine⟨_,_,_,H,?_,Z.add ⟨_,j,N.1,N.2⟩,aqS,cH.refl _,b9.app _ _,λ_ _ _ B=>B.add _,kW _,λb ay _=>p9 ay⟩;rw[A];unfold iO;simp only[vT,vU,hU];rw[fo<|ay,Sym.hL,ij j,ij j,o9 R,gj,hF]
def K7{ah:α->ac ag}(O:a5 s.env x=some (.aH k bW 0 n c))(aw:s.own[k]? =some (.a el true bW α ah l))(cy:q4 call el c4 s y ah bW m)(bX:m≠[])(aj:n<=l.length)(m9:n<=c)(aQ:c<=l.length)(ay:(5*(n+m.length)+1792)*(c4+1)<=1125899906842624):
 fp call (.app el bW c4 x y) s (.aH s.n bW 0 (n+m.length)<|n+m.length) (s.own.set k .x++[.a el true bW α ah<|l.take n++m]) (s.n+1):=λH ids st o Z D=>by
 obtain⟨b,W,I⟩:=D.ar O;obtain⟨ab,a0,cJ,c2⟩:=ow Z aw W;obtain⟨new,Y,G,A⟩:=cy H ids st o Z D x _ _ _ I;have T:=oV.2 bX;have L:Fit H ids ⟨st.h.set b .dead,st.ae⟩ (s.own.set k .x) s.n:=Z.e3 aw j W az;have F:=sr (FT ⟨cJ,c2⟩ n aj) Y;have N:=Cg (cH.refl H) (b9.app ids [st.ae]) F;have E:=hV bW aQ;have g:=hV bW aj;refine⟨.slice (some ⟨st.ae,0,none⟩) (n+m.length)<|n+m.length,_,_,H,?_,L.add ⟨_,j,N.1,N.2⟩,⟨st.ae,by rw[<-Z.len];simp,by rw[hF]⟩,cH.refl _,b9.app _ _,λ_ _ _ B=>(B.e3 (hh W) .dead).add _,kW _,?_⟩
 .rw[A];unfold iO ak.fI;simp only[vT,vU,Sym.ed,Sym.hL,a0,j6,hF];rw[fo<|ay,fo<|cf _,fo m9,fo<|by rw[e4,cJ];omega,ij j,o9 R,cond_true,q0 dM,ja,gj,pS,iB]
 .intro V a' C;show((st.h.set b .dead).set st.ae _).get V=_;rw[ao.fk _ _ R];exact ao.fk _ _ λe=>C k asz<|e▸W
def aez{ah:α->ac ag}(O:a5 s.env x=some (.aH k bW 0 n c))(aw:s.own[k]? =some (.a el false bW α ah l))(cy:q4 call el c4 s y ah bW m)(bX:m≠[])(aj:n+m.length<=c)(aQ:c<=l.length)(ay:(5*(n+m.length)+1792)*(c4+1)<=1125899906842624):
 fp call (.app el bW c4 x y) s (.aH k bW 0 (n+m.length) c) (s.own.set k<|.a el false bW α ah<|l.take n++(m++l.drop (n+m.length))) s.n:=λH ids st o Z D=>by
 obtain⟨b,W,I⟩:=D.ar O;obtain⟨ab,a0,cJ,c2⟩:=ow Z aw W;obtain⟨new,Y,G,A⟩:=cy H ids st o Z D x _ _ _ I;have C:=oV.2 bX;have F:=sr (FT ⟨cJ,c2⟩ n R)<|sr Y<|zo ⟨cJ,c2⟩<|n+m.length;have E:=hV bW aQ;have g:(n+m.length)*bW<=l.length*bW:=hV bW R;have e:n*bW+new.length=(n+m.length)*bW:=by rw[Y.1,fb]
 refine⟨.slice (some ⟨b,0,none⟩) (n+m.length) c,_,ids,H,?_,Z.e3 aw j W (gG:=.cells (ab.take (n*bW)++(new++ab.drop (n*bW+new.length))) el (0,0) false) ⟨_,j,by rw[e];exact F.1,by rw[e];exact F.2⟩,⟨b,W,by rw[hF]⟩,cH.refl _,b9.refl _,λ_ _ _ B=>B.e3 (hh W) _,cf _,?_⟩
 .rw[A];unfold iO ak.fI;simp only[vT,vU,Sym.ed,Sym.hL,a0,j6,hF,hU];rw[fo<|ay,fo<|cf _,fo R,fo<|by rw[e4,cJ];exact E,ij j,o9 R,cond_false,fo aj,pU,aD R,ja]
 .intro V _ h;exact ao.fk _ _ λe=>h k asz<|e▸W
end
section
variable{call:bN}{s:cb}{x y i:ce}{a b:ag}
def fN(s:cb)(x:be ce)(wo n:Nat):Prop:=
 match x with
 |none=>n=wo
 |some x=>∃bD,a5 s.env x=some (.i bD (n:Int))
variable{p q:Nat}{bm af:be ce}{n z:Nat}{α:Type}{k:f6}{H:bb}{ids:ac Nat}{o:aK}{m:Int}{l:ac α}
theorem fN.ar{x:be ce}{wo y:Nat}(h:fN s x wo n)(D:cS o H ids s.env)(T:n<=y)(k:Nat->a2):fs o x wo y k=k n:=by
 cases x with
 |none=>cases h;rfl
 |some x=>
  have⟨bD,h⟩:=h;show fX (o.ar x) (λ_ n=>hJ n (λn=>ev n y (k n) .no) .no) .no=_;rw[(D.ar h),l1,ou,fo T]
theorem su(o:aK)(d y:Nat)(k:Nat->a2):fs o none d y k=k d:=rfl
theorem RF{ah:α->ac ag}(O:a5 s.env x=some (.b6 z α ah l))(E:fN s bm 0 p)(N:fN s af l.length q)(hp:p<=q)(cD:q<=l.length)(D:cS o H ids s.env):
 ∃v,den H (.b6 z α ah<|(l.drop p).take<|q-p) ids v/\∀st:ak,(∀b U,H b=some U->st.h.get b=some U)->bw call (.n8 z x bm af none) o st= .ok v o st:=by
 have B:((l.drop p).take<|q-p).length=q-p:=by simp;omega
 have e:∀st:ak,bw call (.n8 z x bm af none) o st=hY (o.ar x) (λb len L=>bq b (λa=>st.fI a (λ_ _ _ aR=>cond aR (ev len L (fs o af len len λh=>fs o bm 0 h λl=>.ok (.slice (some<|a.add<|l*z) (h-l)<|L-l) o st) .no)<|fs o none L L λm=>fs o af len m λh=>fs o bm 0 h λl=>.ok (.slice (some<|dL m l a<|a.add<|l*z) (h-l)<|m-l) o st) .no)<|fs o none L L λm=>fs o af len m λh=>fs o bm 0 h λl=>.ok (.slice none (h-l)<|m-l) o st) .no:=λst=>j;rcases D.ar O with⟨aj,Y⟩|⟨b,U,c,ab,el,bY,aR,Y,G,T,C⟩
 .subst aj;simp at cD;subst cD;have:p=0:=by omega
  subst this;refine⟨.slice none 0 0,.inl ⟨au,j⟩,λst _=>?_⟩;rw[e,Y,p5,Sym.hL,su,fN.ar (wo:=0) N D<|cf _,fN.ar E D<|cf _]
 .have F:∀st:ak,(∀b U,H b=some U->st.h.get b=some U)->bw call (.n8 z x bm af none) o st=cond aR (ev l.length c (fs o af l.length l.length λh=>fs o bm 0 h λl=>.ok (.slice (some<|(⟨b,U,none⟩:Addr).add<|l*z) (h-l)<|c-l) o st) .no) (fs o none c c λm=>fs o af l.length m λh=>fs o bm 0 h λl=>.ok (.slice (some (dL m l ⟨b,U,none⟩<|(⟨b,U,none⟩:Addr).add<|l*z)) (h-l)<|m-l) o st):=λst hle=>by
   rw[e,Y,p5,Sym.ed];rw[ak.fI,Sym.hL,hle _ _ T,j6]
  have V:∀i x,((l.drop p).take<|q-p)[i]? =some x->cG H (ah x) [] ((ab.drop<|U+p*z+i*z).take z):=λi x O=>by
   grind
  cases aR with
  |true=>
   exact ap9 ap9
  |false=>
   have A:∀st:ak,(∀b U,H b=some U->st.h.get b=some U)->bw call (.n8 z x bm af none) o st= .ok (.slice (some (dL c p ⟨b,U,none⟩<|(⟨b,U,none⟩:Addr).add<|p*z)) (q-p)<|c-p) o st:=λst hle=>by
    grind [su,fN.ar]
   by_cases W:c=p
   .have g:q=p:=by omega
    refine⟨_,.inr ⟨b,U,c-p,ab,el,bY,false,by rw[B],R,T,λi x O=>?_⟩,λst hle=>by rw[A st hle,ij W]⟩;rw[g]at O;simp at O
   .exact aqU aqU
def K8{ah:α->ac ag}(O:a5 s.env x=some (.b6 z α ah l))(T:fN s bm 0 p)(N:fN s af l.length q)(hp:p<=q)(cD:q<=l.length):
 fp call (.n8 z x bm af none) s (.b6 z α ah<|(l.drop p).take<|q-p) s.own s.n:=j8 λH ids st o Z D=>
 let⟨v,Y,G⟩:=RF O T N hp cD D
 ⟨v,Y,G st Z.le⟩
theorem aeA{k U c:Nat}{el:co}{aR:Bool}{ah:α->ac ag}(O:a5 s.env x=some (.aH k z U n c))(aw:s.own[k]? =some (.a el aR z α ah l))(T:fN s bm 0 p)(N:fN s af n q)(hp:p<=q)(cD:q<=n)(aj:n<=c)(aQ:p<c\/p=0):
 fp call (.n8 z x bm af none) s (.aH k z (U+p) (q-p)<|c-p) s.own s.n:=j8 λH ids st o Z D=>by
 have e:bw call (.n8 z x bm af none) o st=hY (o.ar x) (λb len L=>bq b (λa=>st.fI a (λ_ _ _ aR=>cond aR (ev len L (fs o af len len λh=>fs o bm 0 h λl=>.ok (.slice (some<|a.add<|l*z) (h-l)<|L-l) o st) .no)<|fs o none L L λm=>fs o af len m λh=>fs o bm 0 h λl=>.ok (.slice (some<|dL m l a<|a.add<|l*z) (h-l)<|m-l) o st) .no)<|fs o none L L λm=>fs o af len m λh=>fs o bm 0 h λl=>.ok (.slice none (h-l)<|m-l) o st) .no:=rfl;have⟨b,W,I⟩:=D.ar O;have⟨ab,a0,cJ,c2⟩:=ow Z aw W;refine⟨_,⟨b,W,j⟩,?_⟩;rw[e,I,p5,Sym.ed];rw[ak.fI,Sym.hL,a0,j6];cases aR with
 |true=>rw[cond_true,fo aj,fN.ar N D cD,fN.ar T D hp,nB,fb]
 |false=>
  grind [su,fN.ar,ij,o9,nB]
def aeB{l:ac ci}{J:Nat}{bD:f6}{ff:ci}(O:a5 s.env x=some (.s l))(af:a5 s.env i=some (.i bD (J:Int)))(ba:l[J]? =some ff):fp call (.uk x i) s (.i .u8 (ff.toNat:Int)) s.own s.n:=j8 λH ids st o Z D=>by
 have G:=D.ar af;refine⟨_,j,?_⟩;have e:bw call (.uk x i) o st=hX (o.ar x) (λs=>fX (o.ar i) (λ_ J=>hJ J (λJ=>hK s.data.toList J 1 (λb2=>one b2 (λb=>.ok (.int .u8<|.ofNat b.toNat) o st) .no) .no) .no) .no) .no:=rfl;obtain⟨aW,g⟩:=dP.1 ba;rw[e,(D.ar O),y9,G];show hK l J 1 _ _=_;rw[za R,fj aW,g];rfl
theorem aeC{l:ac ci}(O:a5 s.env x=some (.s l))(T:fN s bm 0 p)(N:fN s af l.length q)(hp:p<=q)(cD:q<=l.length):fp call (.sZ x bm af) s (.s<|(l.drop p).take<|q-p) s.own s.n:=j8 λH ids st o Z D=>by
 refine⟨_,j,?_⟩;exact atT
def aeD{l m:ac ci}(O:a5 s.env x=some (.s l))(T:a5 s.env y=some (.s m))(aB:l.length+m.length<=1099511627776):fp call (.bin .add x y) s (.s<|l++m) s.own s.n:=j8 λH ids st o Z D=>by
 have G:=D.ar T;refine⟨_,j,?_⟩;rw[BX,(D.ar O),G];show ev (dE l+dE m) (2^40) _ _=_;rw[e4,e4,fo<|aB,pS]
def aeE{n:Int}(O:a5 s.env x=some (.i k m))(T:a5 s.env y=some (.i k n))(aj:n≠0):fp call (.bin .quo x y) s (.i k<|k.wrap<|m.tdiv n) s.own s.n:=j8 λH ids st o Z D=>
 arn
def aeF{n:Int}(O:a5 s.env x=some (.i k m))(T:a5 s.env y=some (.i k n))(aj:n≠0):fp call (.bin .rem x y) s (.i k<|m.tmod n) s.own s.n:=j8 λH ids st o Z D=>
 arn
def aeG{gX:f6}{m:Nat}(O:a5 s.env x=some (.i k (m:Int)))(T:a5 s.env y=some (.i gX (n:Int)))(aj:n<=k.bits):fp call (.bin .shr x y) s (.i k ((m/2^n:Nat):Int)) s.own s.n:=j8 λH ids st o Z D=>by
 obtain⟨v,Y,G⟩:=Rh (by show(match Nat.ble n k.bits with|true=>_|false=>_)=_;rw[Dr aj]) (D.ar O)<|D.ar T;exact⟨v,Y _ _,G st⟩
end
def eP(H:bb)(st:ak)(b:Nat):bb:=λc=>open Classical in if c=b then st.h.get b else H c
section
variable{H:bb}{ids:ac Nat}{st:ak}{own:ac aZ}{n:Nat}
variable{k:Nat}{U:aZ}
def pe{b:Nat}(Z:Fit H ids st own n)(aw:own[k]? =some U)(aB:U.live=true)(ay:ids[k]? =some b):cH H (eP H st b):=λc q W=>by
 rw[eP,av]
 .exact W
 .intro e;rw[e,(Z.own k U b aw ay).2 aB]at W;cases W
def Fit.eP{b:Nat}(Z:Fit H ids st own n)(aw:own[k]? =some U)(aB:U.live=true)(ay:ids[k]? =some b):Fit (Go.bC.eP H st b) ids st (own.set k .x) n:=by
 refine⟨Z.wf,?_,by simp[Z.cZ],Z.len,Z.cY,Z.lt,?_⟩
 .intro c q W;rw[Go.bC.eP]at W;split at W
  .rename_i e;rw[e];exact W
  .exact Z.le c q W
 .intro J q c V W;rw[oT]at V;by_cases N:k=J
  .rw[aD N]at V;split at V<;>cases V;exact⟨az,λh=>by cases h⟩
  .rw[av N]at V;have⟨Y,G⟩:=Z.own J q c V W;refine⟨q1 (pe Z aw aB ay) apu Y,λE=>?_⟩;rw[Go.bC.eP,av]
   .exact G E
   .intro e;subst e;have I:=dP.1 W;exact N<|(vR Z.cY).1<|(dP.1 ay).2.trans I.2.symm
def cW.eP{a1:bb}{i0:ac Nat}{aq:ak}{b:Nat}(F:cW a1 i0 aq H ids st)(Z:Fit H ids st own n)(aw:own[k]? =some U)(aB:U.live=true)(ay:ids[k]? =some b):cW a1 i0 aq (Go.bC.eP H st b) ids st:=by
 refine⟨F.hle.trans<|pe Z aw aB ay,?_,F.eK,F.ae,F.jx,F.new⟩;intro c W aj;rw[Go.bC.eP,av]
 .exact F.hold c W aj
 .intro e;subst e;obtain h|h:=F.new _<|hh ay
  .exact aj h
  .omega
end
section
variable{an:eR}{K:ac dA}{own:ac aZ}{ax:Nat}{e:bP}
variable{z:Nat}{el:co}{α:Type}{k U n c:Nat}{aR:Bool}{t:Nat}{p:ac bj}{cs:ac ag}{l:ac α}
def aeH{ah:α->ac ag}(bo:ac α)(N:dn e t=some (.aH k z U n c))(aw:own[k]? =some (.a el aR z α ah l))(aB:(l.drop U).take n=bo)(aj:bo.length=n)(aQ:n<=c)(hp:∀x,gp (ah x)=true)
 {H:bb} {ids:ac Nat} {st:ak} {o:aK} (F:cW an.a1 an.i0 an.aq H ids st) (Z:Fit H ids st own ax) (D:cS o H ids e):
 ∃B,cW an.a1 an.i0 an.aq B ids st/\Fit B ids st (own.set k .x) ax/\cS o B ids ((t,.b6 z α ah bo)::e)/\cH H B:=by
 have⟨b,W,I⟩:=D.get t _ N;have⟨⟨ab,a0,cJ,c2⟩,_⟩:=Z.own k _ b aw W;have hle:=pe Z aw j W;refine⟨eP H st b,F.eP Z aw j W,Z.eP aw j W,⟨(D.mono hle apu).pl,λJ q V=>?_⟩,hle⟩;rw[lB]at V;cases C:Nat.beq t J with
 |false=>exact atS
 |true=>
  rw[C]at V;cases V;rw[<-dB C];refine .inr ⟨b,U*z,c,ab,el,(0,0),aR,by rwa [aj],by rwa [aj],by rw[eP];rw[aD j];exact a0,λi x O=>?_⟩;rw[<-aB,nn]at O;split at O
  .rw[n2]at O;simpa[<-fb]using kF hle _ apu (nz _ (hp x) (c2 _ x O) [])
  .cases O
def RG{ah:α->ac ag}(bo:ac α)(N:dn e t=some (.aH k z U n c))(aw:own[k]? =some (.a el aR z α ah l))(aB:(l.drop U).take n=bo)(aj:bo.length=n)(aQ:n<=c)(hp:∀x,gp (ah x)=true)
 {H:bb} {ids:ac Nat} {st:ak} {o:aK} (F:cW an.a1 an.i0 an.aq H ids st) (Z:Fit H ids st own ax) (D:cS o H ids e):
 ∃B,cW an.a1 an.i0 an.aq B ids st/\Fit B ids st (own.set k .x) ax/\cS o B ids ((t,.b6 z α ah bo)::e):=let⟨B,Y,G,A,_⟩:=aeH bo N aw aB aj aQ hp F Z D;⟨B,Y,G,A⟩
theorem aeI(t:Nat){ah:α->ac ag}(bo:ac α){p:du}(N:dn e t=some (.aH k z U n c))(aw:own[k]? =some (.a el aR z α ah l))(aB:(l.drop U).take n=bo)(aj:bo.length=n)(aQ:n<=c)(hp:∀x,gp (ah x)=true)
 (bD:fB an K (.c p) (own.set k .x) ax ((t,.b6 z α ah bo)::e)):fB an K (.c p) own ax e:=λH ids st o F Z D=>by
 exact ara
theorem RH(t:Nat){ah:α->ac ag}(bo:ac α)(N:dn e t=some (.aH k z U n c))(aw:own[k]? =some (.a el aR z α ah l))(aB:(l.drop U).take n=bo)(aj:bo.length=n)(aQ:n<=c)(hp:∀x,gp (ah x)=true)
 (bD:cL an K p (own.set k .x) ax ((t,.b6 z α ah bo)::e)):cL an K p own ax e:=λH ids st o F Z D=>by
 exact ara
def RI{ah:α->ac ag}(l:ac α)(aw:own[k]? =some (.c el cs))(Y:cs=l.flatMap ah)(D:∀w,(ah w).length=z){H:bb}{ids:ac Nat}{st:ak}(Z:Fit H ids st own ax):Fit H ids st (own.set k<|.a el false z α ah l) ax:=by
 refine⟨Z.wf,Z.le,by simp[Z.cZ],Z.len,Z.cY,Z.lt,?_⟩;intro J q c V W;rw[oT]at V;by_cases N:k=J
 .subst N;rw[aD j]at V;split at V<;>cases V;have⟨⟨ab,A,d⟩,T⟩:=Z.own k _ c aw W;rw[Y]at d;have:=K5 D d;exact⟨⟨ab,A,this.1,this.2⟩,λ_=>T j⟩
 .rw[av N]at V;exact Z.own J q c V W
theorem RJ(k:Nat){ah:α->ac ag}(l:ac α)(aw:own[k]? =some (.c el cs))(Y:cs=l.flatMap ah)(Z:∀w,(ah w).length=z)(bD:cL an K p (own.set k<|.a el false z α ah l) ax e):cL an K p own ax e:=λH ids st o F g D=>
 bD H ids st o F (RI l aw Y Z g) D
end
structure df where
 L:Type
 args:L->ac ag
 pre:L->Prop
 res:L->ag
 hp:bb->Prop:=fun _=>True
 hm:∀{H bA:bb},cH H bA->hp H->hp bA:=by exact fun _ _=>trivial
abbrev q5(hp:bb->Prop)(hm:∀{H B:bb},cH H B->hp H->hp B){L:Type}(f:L->ac ag×Prop×ag):df where
 L:=L
 args:=λl=>(f l).1
 pre:=λl=>(f l).2.1
 res:=λl=>(f l).2.2
 hp:=hp
 hm:=hm
abbrev bV{L:Type}(f:L->ac ag×Prop×ag):df:=q5 (λ_=>True) (λ_ _=>trivial) f
def df.spec(S:df):Spec where
 L:=S.L×bb
 pre:=λl ab st=>S.pre l.1/\S.hp l.2/\Fit l.2 [] st [] 0/\cG l.2 (S.args l.1) [] ab
 post:=λl ab st v al=>∃B,Fit B [] al [] 0/\cW l.2 [] st B [] al/\den B (S.res l.1) [] v
instance:Coe df Spec:=⟨df.spec⟩
instance:Coe df dV:=⟨λS=>S.spec.K⟩
def Fin(S:df)(l:S.L)(res:ac gS)(x:c6)(s:cb):Prop:=(x= .norm\/x= .ret)/\∃r,kH s res=some r/\h1 r=true/\bz r (S.res l)
where
 K9 (s:cb):gS->be ag
  |.tmp t=>dn s.env t
  |.cell a Z n=>match dn s.env a with
   |some (.p k U)=>match s.own[k]? with
    |some (.c _ cs)=>qZ cs U n (FD Z)
    |_=>none
   |_=>none
 FV (s:cb):ac gS->be (ac ag)
  |[]=>some []
  |r::rs=>match K9 s r with
   |some a=>match FV s rs with
    |some as=>some (a::as)
    |none=>none
   |none=>none
 kH (s:cb) (l:ac gS):be ag:=match FV s l with
  |some [a]=>some a
  |some as=>some (.bc as)
  |none=>none
variable{H:bb}{ids:ac Nat}{s:cb}{o:aK}
theorem Fit.less{st:ak}{own:ac aZ}{n:Nat}(h:Fit H ids st own n):Fit H [] st [] 0:=⟨h.wf,h.le,j,j,oU,λb C=>by simp at C,λk U b N=>by simp at N⟩
def cW.refl(H:bb)(i:ac Nat)(st:ak):cW H i st H i st:=⟨cH.refl _,λ_ _ _=>j,λ_ _ _=>j,cf _,b9.refl _,λb C=>.inl C⟩
theorem cW.less{a1:bb}{aq:ak}{st:ak}(h:cW a1 [] aq H ids st):cW a1 [] aq H [] st:=⟨h.hle,h.hold,h.eK,h.ae,b9.refl _,λb C=>.inl C⟩
theorem aeJ{st:ak}(E:Fit H ids st s.own s.n)(D:cS o H ids s.env){r:gS}{a:ag}(h:Fin.K9 s r=some a):
 ∃v,den H a ids v/\∀ab:ac bv,(gS.rec (motive:=λ_=>be<|ac bv) (λt=>some<|o.tmp t::ab) (λa agg n=>hG (o.tmp a) (λp=>bq p (λcc=>st.load cc n (λcs=>cond agg (some<|.agg ⟨cs⟩::ab)<|one cs (λv=>some<|v::ab) none) none) none) none) r:be (ac bv))=some (v::ab):=by
 cases r with
 |tmp t=>exact⟨_,D.get t a h,λab=>j⟩
 |cell t Z n=>
  simp[Fin.K9]at h;split at h<;>try cases h
  rename_i k U N;split at h<;>try cases h
  rename_i el cs C;have⟨b,W,I⟩:=D.get t _ N;have⟨⟨ws,a0,d⟩,_⟩:=E.own k _ b C W;have⟨Y,G⟩:=wZ h;have T:=so n<|nA U d;have B:=gq<|nA U d;have e:∀ab:ac bv,hG (o.tmp t) (λp=>bq p (λcc=>st.load cc n (λcs=>cond Z (some<|.agg ⟨cs⟩::ab)<|one cs (λv=>some<|v::ab) none) none) none) none=cond Z (some<|.agg ⟨(ws.drop U).take n⟩::ab) (one ((ws.drop U).take n) (λv=>some<|v::ab) none):=λab=>by
   rw[I,lx,Sym.ed];unfold ak.load ak.fI;rw[Sym.hL,a0,j6,q0 apt]
  obtain⟨rfl,rfl⟩|⟨rfl,A⟩:=Rk G
  .exact⟨_,⟨_,j,T⟩,λab=>e ab⟩
  .rw[A]at T;have⟨v,us,g,T,aj⟩:=T;cases aj;refine⟨v,T,λab=>(e ab).trans ?_⟩;rw[g];rfl
theorem La{s:cb}{H:bb}{ids:ac Nat}{st:ak}{o:aK}(Z:Fit H ids st s.own s.n)(D:cS o H ids s.env):∀{R:ac gS} {as:ac ag},Fin.FV s R=some as->∃ab,cG H as ids ab/\pQ o st R=some ab
 |[],as,h=>by cases h;exact ap6 ap6
 |r::R,as,h=>by
  rw[Fin.FV]at h;split at h<;>try cases h
  rename_i a aC;split at h<;>try cases h
  rename_i ho aI;have⟨v,cu,I⟩:=aeJ Z D aC;have⟨ab,a0,cJ⟩:=La Z D aI;refine⟨v::ab,⟨v,ab,j,cu,a0⟩,?_⟩;show bq (pQ o st R) _ none=_;rw[cJ];exact I ab
def sv{st:ak}{call:bN}(Z:Fit H ids st s.own s.n)(D:cS o H ids s.env){R:ac gS}{r:ag}(h:Fin.kH s R=some r):∃v,den H r ids v/\fJ call R none o st= .ret v st false:=by
 have e:∀ab,pQ o st R=some ab->fJ call R none o st=one ab (λv=>.ret v st false) (.ret (.tuple ⟨ab⟩) st false):=λab B=>by
  rw[fJ,D.pl.dd,D.pl.cQ];show bq (pQ o st R) _ _=_;rw[B];rfl
 rw[Fin.kH]at h;split at h
 .rename_i a A;cases h;obtain⟨ab,⟨v,F,rfl,Y,G⟩,g⟩:=La Z D A;cases G;exact⟨v,Y,(e _ g).trans j⟩
 .rename_i as aj A;cases h;have⟨ab,Y,g⟩:=La Z D A;refine⟨_,⟨ab,j,Y⟩,(e _ g).trans ?_⟩
  match ab,as,(gq Y)with
  |[],_,_=>rfl
  |[v],[a],_=>exact absurd A (by intro _;exact aj a j)
  |_::_::_,_,_=>rfl
 .cases h
def iT:Nat->ac ag->bP
 |_,[]=>[]
 |i,a::as=>(i,a)::iT (i+1) as
theorem RK:∀(as:ac ag) (i J:Nat) (a:ag),dn (iT i as) J=some a->i<=J/\as[J-i]? =some a
 |[],_,_,_,h=>by cases h
 |w::as,i,J,a,h=>by
  rw[iT,lB]at h;cases ay:Nat.beq i J with
  |true=>
   simp_all
  |false=>
   rw[ay]at h;have⟨aC,aI⟩:=RK as (i+1) J a h
   grind
def cS.zero{as:ac ag}{ab:ac bv}(d:cG H as ids ab):cS (eg ab) H ids (iT 0 as):=by
 refine⟨uO.zero _,λJ a h=>?_⟩;have⟨_,G⟩:=RK as 0 J a h;have⟨v,A,T⟩:=tl d G;have V:=(dP.1 A).1;have:(eg ab).tmp J=v:=by
  show Option.rec _ _ ((lP ab 0 .nil).get J)=v;rw[Q8,aD R,A]
 rw[this];exact T
variable{X:Ctx}
def Lb{aL:ao cX}(E:Good X)(j:k0 X aL)(br:d7->dV){f:d7}{a4:cX}(O:aL.get f=some a4){S:df}(aB:∀l,(S.args l).length<=a4.aN)
 (h:∀l,S.pre l->∀H aq,S.hp H->fB ⟨cg aL (cw X br)<|bs+1,bs+1,f,H,[],aq,Fin S l a4.res⟩ [] (.c a4.body) [] 0 (iT 0<|S.args l)):et X f S.spec:=by
 refine Kq E j br O (λl ab st ⟨_,_,_,d⟩=>by rw[gq d];exact aB l.1) ?_;rintro⟨l,H⟩ ab st ⟨hp,V,Z,d⟩;apply(h l hp H st V H [] st (eg ab) aqd Z<|cS.zero d).mono;rintro x o al ⟨B,ids,s,F,W,D,O,r,Y,G,hle⟩;obtain⟨v,A,T⟩:=sv W D Y;exact⟨O,v,T,B,W.less,F.less,hle _ _ _<|tk _ G A _⟩
def Lc{aL:ao cX}{br:d7->dV}{g:d7}{S:df}(aQ:et X g S.spec)(O:br g=S.spec.K){bO:ac ce}{as:ac ag}{n:Nat}(l:S.L)(bR:hr s.env bO=some as)(fF:gp as=true)(he:fT as (S.args l))(hp:S.pre l){a1:bb}(cK:S.hp a1):
 p8 a1 (cg aL (cw X br)<|n+1) (.call (.func g) bO) s (S.res l) s.own s.n:=λH ids st o j Z D=>by
 have T:=he.den<|nz _ fF (D.dQ bR) [];have⟨v,al,Y,G⟩:=aQ _ st ⟨(l,H),hp,S.hm j cK,Z.less,T⟩;have⟨v1,h,a',I⟩:=zc (K:=br) ⟨v,al,by rwa [O],G⟩;rw[O]at I;have⟨E,W,R,V⟩:=I (l,H) ⟨hp,S.hm j cK,Z.less,T⟩;have a0:cg aL (cw X br) (n+1) (.func (.func g) #[] #[]) (dQ o bO) none st= .ret v1 h false:=by
  rw[o4];have e:fr (#[]:bi bv).toList (fr (dQ o bO) (#[]:bi bv).toList)=dQ o bO:=au
  rw[e,a'];rfl
 have hle:=R.hle;refine⟨v1,h,ids,E,?_,?_,iR ap8 _ (b9.nil _) V,hle,b9.refl _,?_,R.ae,λb C _=>R.eK b C au⟩
 .rw[zb];exact aps
 .refine⟨W.wf,W.le,Z.cZ,Z.len,Z.cY,λb C=>e2 (Z.lt b C) R.ae,λk U b N C=>?_⟩;have⟨A,F⟩:=Z.own k U b N C;have aW:=Z.lt b<|hh C;rw[R.eK b aW au];exact atY atY
 .exact apL
abbrev gI(X:Ctx)(aL:ao cX)(br:d7->dV)(n a6:Nat)(fn:d7)(a1:bb)(i0:ac Nat)(aq:ak)(Q:c6->cb->Prop):eR:=⟨cg aL (cw X br)<|n+1,a6,fn,a1,i0,aq,Q⟩
section
variable{aL:ao cX}{br:d7->dV}{a6 n:Nat}{fn:d7}{a1:bb}{i0:ac Nat}{aq:ak}{Q:c6->cb->Prop}{K:ac dA}{own:ac aZ}{ax:Nat}{e:bP}
variable{bO:ac ce}{as:ac ag}{d:Tmp}
def aS{g:d7}{S:df}(aQ:et X g S.spec){xs:ac bj}(l:S.L)(hp:S.pre l)(k:cL (gI X aL br n a6 fn a1 i0 aq Q) K xs own ax ((d,S.res l)::e))
 (bR:hr e bO=some as:=by rfl) (he:fT as (S.args l):=by exact fT.refl _) (fF:gp as=true:=by rfl) (O:br g=S.spec.K:=by rfl) (cK:S.hp a1:=by exact az):
 gY (gI X aL br n a6 fn a1 i0 aq Q) K d (.call (.func g) bO) xs own ax e:=tp (Lc aQ O l bR fF he hp cK) k
def ca{g:d7}{S:df}(aQ:et X g S.spec){xs:ac (bj×cn)}{a9:ac aZ}{aX:bP}{aT bU:Nat}(l:S.L)(hp:S.pre l)(k:dx (gI X aL br n a6 fn a1 i0 aq Q) K xs a9 (jb d aX) (aT+1) ax own ax ((d,S.res l)::e))
 (bR:hr e bO=some as:=by rfl) (he:fT as (S.args l):=by exact fT.refl _) (fF:gp as=true:=by rfl) (O:br g=S.spec.K:=by rfl) (cK:S.hp a1:=by exact az):
 dx (gI X aL br n a6 fn a1 i0 aq Q) K ((⟨some d,.call (.func g) bO,none⟩,.dI)::xs) a9 aX aT bU own ax e:=
 FP (Lc aQ O l bR fF he hp cK) j aqh k
end
def bD:ac (Nat×dV)->d7->dV
 |[],_=>dV.no
 |p::l,g=>cond (Nat.beq p.1 g) p.2<|bD l g
def ep{S:df}{l:S.L}{res:ac gS}{r:ag}{e:c6}(aC:Fin.kH s res=some r)(aI:h1 r=true)(D:bz r (S.res l))(he:e= .ret\/e= .norm:=by first|exact .inl j|exact .inr j):Fin S l res e s:=⟨he.symm,r,aC,aI,D⟩
section
variable{S:df}{l:S.L}{res:ac gS}{s:cb}{r:ag}{e:c6}{call:bN}{a6:Nat}{fn:d7}{a1:bb}{i0:ac Nat}{aq:ak}
def bp(D:bz r (S.res l))(aC:Fin.kH s res=some r:=by rfl)(aI:h1 r=true:=by rfl)(he:e= .ret\/e= .norm:=by first|exact .inl j|exact .inr j):bM.ok ⟨call,a6,fn,a1,i0,aq,Fin S l res⟩ ⟨[],.x e,s⟩:=ep aC aI D he
def cC(h:r=S.res l)(aC:Fin.kH s res=some r:=by rfl)(aI:h1 r=true:=by rfl)(he:e= .ret\/e= .norm:=by first|exact .inl j|exact .inr j):bM.ok ⟨call,a6,fn,a1,i0,aq,Fin S l res⟩ ⟨[],.x e,s⟩:=bp (.of h) aC aI he
def eD(aC:Fin.kH s res=some (S.res l):=by rfl)(aI:h1 (S.res l)=true:=by rfl)(he:e= .ret\/e= .norm:=by first|exact .inl j|exact .inr j):bM.ok ⟨call,a6,fn,a1,i0,aq,Fin S l res⟩ ⟨[],.x e,s⟩:=cC j aC aI he
end
end Go.bC
namespace Go.bC
open Sym
section
variable{an:eR}{K:ac dA}{own bg:ac aZ}{ax cF:Nat}{e:bP}{d:Tmp}{xs:ac bj}{x y i:ce}
variable{α:Type}{z:Nat}{el:co}{n c J:Nat}{aR:Bool}{q c4:Nat}{cs:ac ag}{p:Nat}{bm af:be ce}{bW U:Nat}{a:ag}{l:ac α}
def l3{ah:α->ac ag}(q:α){bD:f6}(ba:l[J]? =some q)(k:cL an K xs own ax ((d,.ip<|ah q)::e))(O:a5 e x=some (.b6 z α ah l):=by rfl)(af:a5 e i=some (.i bD (J:Int)):=by rfl):gY an K d (.iC z x i) xs own ax e:=
 e0 (K3 O af ba) k
def nE{a8:Nat}{bD:f6}(k:cL an K xs own ax ((d,.fi a8 z (U+J) 0)::e))(O:a5 e x=some (.aH a8 z U n c):=by rfl)(af:a5 e i=some (.i bD (J:Int)):=by rfl)(ba:J<n:=by omega):gY an K d (.iC z x i) xs own ax e:=
 e0 (Rz O af ba) k
theorem zp{a8:Nat}{bD:f6}(k:cL an K xs own ax ((d,.fi a8 z J 0)::e))(O:a5 e x=some (.aH a8 z 0 n c):=by rfl)(af:a5 e i=some (.i bD (J:Int)):=by rfl)(ba:J<n:=by omega):gY an K d (.iC z x i) xs own ax e:=
 e0 (Rz O af ba) apt
def oy{a8:Nat}{ah:α->ac ag}(w:α)(ba:l[J]? =some w)(k:cL an K xs own ax ((d,a)::e))(O:a5 e x=some (.fi a8 z J q):=by rfl)(aw:own[a8]? =some (.a el aR z α ah l):=by rfl)(cD:(ah w)[q]? =some a:=by rfl):gY an K d (.iv x) xs own ax e:=
 e0 (aeu O aw ba cD) k
def FW{a8 m:Nat}{ah:α->ac ag}(w:α)(ba:l[J]? =some w)(k:cL an K xs own ax ((d,.agg cs)::e))(O:a5 e x=some (.fi a8 z J q):=by rfl)(aw:own[a8]? =some (.a el aR z α ah l):=by rfl)(cD:qZ (ah w) q m (λl=>some l)=some cs:=by rfl):gY an K d (.mV m x) xs own ax e:=
 e0 (aev O aw ba cD) k
def kI{a8:Nat}{ah:α->ac ag}(w':α)(k:cL an K xs bg ax e)(O:a5 e x=some (.fi a8 1 J 0):=by rfl)(T:a5 e y=some a:=by rfl)(aw:own[a8]? =some (.a el aR 1 α ah l):=by rfl)(D:ah w'=[a]:=by rfl)(aQ:qX a=true:=by rfl)(aC:∀w,(ah w).length=1:=by exactλ_=>j)
 (E:g9 own a8 (.a el aR 1 α ah<|l.set J w') some=some bg:=by rfl) (ba:J<l.length:=by first|omega|(simp;done)|(simp;omega)):cL an K (⟨none,.store 1 x y,none⟩::xs) own ax e:=by
 have:=h4 E;cases this;exact aet (RB w' O T aw D ba aQ aC) k
def FX:ac bv->be Nat
 |[]=>some 0
 |[_]=>some 1
 |[_,_]=>some 2
 |[_,_,_]=>some 3
 |[_,_,_,_]=>some 4
 |[_,_,_,_,_]=>some 5
 |[_,_,_,_,_,_]=>some 6
 |[_,_,_,_,_,_,_]=>some 7
 |l=>some l.length
def RL{l:ac bv}(h:FX l=some n):l.length=n:=by
 unfold FX at h;split at h<;>cases h<;>rfl
def nF{I:ac bv}{a8 gX:f6}(ah:α->ac ag)(w:α)(k:cL an K xs bg cF ((d,.aH ax z 0 n c)::e))(O:a5 e x=some (.i a8 (n:Int)):=by rfl)(T:a5 e y=some (.i gX (c:Int)):=by rfl)(Z:FX I=some z:=by rfl)(D:uR I=ah w:=by rfl)
 (E:my own (.a el false z α ah<|List.replicate c w) some=some bg:=by rfl) (F:mz ax some=some cF:=by rfl) (aj:n<=c:=by omega) (aQ:c*(c4+1)<=1099511627776:=by omega):gY an K d (.pH el c4 I x y) xs own ax e:=by
 have Y:=m7 E;have G:=nC F;cases Y;cases G;exact e0 (mk ah w O T (RL Z) D aj aQ) k
theorem FY{a8:Nat}(t:Nat){ah:α->ac ag}(bo:ac α)(k:cL an K xs bg ax ((t,.b6 z α ah bo)::e))(N:dn e t=some (.aH a8 z U n c):=by rfl)(aw:own[a8]? =some (.a el aR z α ah l):=by rfl)(hp:∀x,gp (ah x)=true:=by exactλ_=>j)
 (E:g9 own a8 .x some=some bg:=by rfl) (aB:(l.drop U).take n=bo:=by first|rfl|simp) (aj:bo.length=n:=by first|omega|(simp;done)|(simp;omega)) (aQ:n<=c:=by omega):cL an K xs own ax e:=by grind [h4,RH]
theorem h5{a8:Nat}(t:Nat){ah:α->ac ag}(k:cL an K xs bg ax ((t,.b6 z α ah l)::e))(N:dn e t=some (.aH a8 z 0 n c):=by rfl)(aw:own[a8]? =some (.a el aR z α ah l):=by rfl)(hp:∀x,gp (ah x)=true:=by exactλ_=>j)
 (E:g9 own a8 .x some=some bg:=by rfl) (aj:l.length=n:=by first|omega|(simp;done)|(simp;omega)) (aQ:n<=c:=by omega):cL an K xs own ax e:=
 FY t l k N aw hp E apt aj aQ
theorem ks(a8:Nat)(ah:α->ac ag)(l:ac α)(k:cL an K xs bg ax e)(aw:own[a8]? =some (.c el cs):=by rfl)(Z:∀w,(ah w).length=z:=by exactλ_=>j)
 (E:g9 own a8 (.a el false z α ah l) some=some bg:=by rfl) (Y:cs=l.flatMap ah:=by rfl):cL an K xs own ax e:=by grind [h4,RJ]
def Ch{ah:α->ac ag}(bo:ac α)(k:cL an K xs own ax ((d,.b6 z α ah bo)::e))(O:a5 e x=some (.b6 z α ah l):=by rfl)(T:fN ⟨own,ax,e⟩ bm 0 p:=by first|exact j|exact dN)(N:fN ⟨own,ax,e⟩ af l.length q:=by first|exact j|exact dN)(aB:(l.drop p).take (q-p)=bo:=by first|rfl|simp)(hp:p<=q:=by omega)(cD:q<=l.length:=by first|omega|(simp;done)|(simp;omega)):gY an K d (.n8 z x bm af none) xs own ax e:=by
 subst aB;exact e0 (K8 O T N hp cD) k
theorem RM{a8:Nat}{ah:α->ac ag}(k:cL an K xs own ax ((d,.aH a8 z p (q-p)<|c-p)::e))(O:a5 e x=some (.aH a8 z 0 n c):=by rfl)(aw:own[a8]? =some (.a el aR z α ah l):=by rfl)(T:fN ⟨own,ax,e⟩ bm 0 p:=by first|exact j|exact dN)(N:fN ⟨own,ax,e⟩ af n q:=by first|exact j|exact dN)(hp:p<=q:=by omega)(cD:q<=n:=by omega)(aj:n<=c:=by omega)(aQ:p<c\/p=0:=by omega):gY an K d (.n8 z x bm af none) xs own ax e:=
 (e0 (aeA O aw T N hp cD aj aQ) apt)
def w8(ah:α->ac ag)(l:ac α)(cy:ox ⟨own,ax,e⟩ y ah bW l)(k:cL an K xs bg cF ((d,.aH ax bW 0 l.length l.length)::e))(O:a5 e x=some .nl:=by rfl)
 (E:my own (.a el true bW α ah l) some=some bg:=by rfl) (F:mz ax some=some cF:=by rfl) (bX:l≠[]:=by first|rfl|simp) (ay:(5*l.length+1792)*(c4+1)<=1125899906842624:=by first|omega|(simp;done)|(simp;omega)):gY an K d (.app el bW c4 x y) xs own ax e:=by
 have Y:=m7 E;have G:=nC F;cases Y;cases G;exact e0 (K6 O (ss cy) bX ay) k
def q6{a8:Nat}{ah:α->ac ag}{gH:ac aZ}(m:ac α)(cy:ox ⟨own,ax,e⟩ y ah bW m)(k:cL an K xs bg cF ((d,.aH ax bW 0 (n+m.length)<|n+m.length)::e))(O:a5 e x=some (.aH a8 bW 0 n c):=by rfl)(aw:own[a8]? =some (.a el true bW α ah l):=by rfl)
 (D:g9 own a8 .x some=some gH:=by rfl) (E:my gH (.a el true bW α ah<|l++m) some=some bg:=by rfl) (F:mz ax some=some cF:=by rfl) (bX:m≠[]:=by first|rfl|simp) (aj:n=l.length:=by first|omega|(simp;done)|(simp;omega)) (m9:n=c:=by omega) (ay:(5*(n+m.length)+1792)*(c4+1)<=1125899906842624:=by first|omega|(simp;done)|(simp;omega)):gY an K d (.app el bW c4 x y) xs own ax e:=by
 have g:=h4 D;cases g;have Y:=m7 E;have G:=nC F;cases Y;cases G;have:=K7 (call:=an.call) O aw (ss cy) bX R R R ay;rw[aj,mS]at this;rw[aj]at k;exact e0 this k
def RN{a8:Nat}{ah:α->ac ag}(m:ac α)(cy:ox ⟨own,ax,e⟩ y ah bW m)(bo:ac α)(k:cL an K xs bg ax ((d,.aH a8 bW 0 (n+m.length) c)::e))(O:a5 e x=some (.aH a8 bW 0 n c):=by rfl)(aw:own[a8]? =some (.a el false bW α ah l):=by rfl)
 (E:g9 own a8 (.a el false bW α ah bo) some=some bg:=by rfl) (bX:m≠[]:=by first|rfl|simp) (aj:n+m.length<=c:=by first|omega|(simp;done)|(simp;omega)) (aQ:c<=l.length:=by first|omega|(simp;done)|(simp;omega)) (ay:(5*(n+m.length)+1792)*(c4+1)<=1125899906842624:=by first|omega|(simp;done)|(simp;omega)) (aB:l.take n++(m++l.drop (n+m.length))=bo:=by first|rfl|simp):gY an K d (.app el bW c4 x y) xs own ax e:=by
 subst aB;cases h4 E;exact e0 (aez O aw (ss cy) bX aj aQ ay) k
def iH{a8:Nat}{ah:α->ac ag}(l:ac α)(Y:cs=l.flatMap ah)(O:a5 e x=some (.aH a8 z 0 l.length c):=by rfl)(aw:own[a8]? =some (.c el cs):=by rfl)(Z:∀w,(ah w).length=z:=by exactλ_=>j)(aQ:pa cs=true:=by rfl):ox ⟨own,ax,e⟩ x ah z l:=aey l O j aw Y Z aQ j
def na{l:ac ci}{bD:f6}(ff:ci)(ba:l[J]? =some ff)(k:cL an K xs own ax ((d,.i .u8 (ff.toNat:Int))::e))(O:a5 e x=some (.s l):=by rfl)(af:a5 e i=some (.i bD (J:Int)):=by rfl):gY an K d (.uk x i) xs own ax e:=e0 (aeB O af ba) k
def q7{l:ac ci}(bo:ac ci)(k:cL an K xs own ax ((d,.s bo)::e))(O:a5 e x=some (.s l):=by rfl)(T:fN ⟨own,ax,e⟩ bm 0 p:=by first|exact j|exact dN)(N:fN ⟨own,ax,e⟩ af l.length q:=by first|exact j|exact dN)(aB:(l.drop p).take (q-p)=bo:=by first|rfl|simp)(hp:p<=q:=by omega)(cD:q<=l.length:=by first|omega|(simp;done)|(simp;omega)):gY an K d (.sZ x bm af) xs own ax e:=by
 subst aB;exact e0 (aeC O T N hp cD) k
def sw{l m:ac ci}(k:cL an K xs own ax ((d,.s<|l++m)::e))(O:a5 e x=some (.s l):=by rfl)(T:a5 e y=some (.s m):=by rfl)(aB:l.length+m.length<=1099511627776:=by first|omega|(simp;done)|(simp;omega)):gY an K d (.bin .add x y) xs own ax e:=e0 (aeD O T aB) k
end
section
variable{an:eR}{K:ac dA}{own:ac aZ}{ax:Nat}{e:bP}{d:Tmp}{xs:ac bj}{x y:ce}
variable{m n:Nat}
def aeK(k:cL an K xs own ax ((d,.i .u64 ((m/n:Nat):Int))::e))(O:a5 e x=some (.i .u64 (m:Int)):=by rfl)(T:a5 e y=some (.i .u64 (n:Int)):=by rfl)(aj:n≠0:=by omega)(hm:m<18446744073709551616:=by omega):gY an K d (.bin .quo x y) xs own ax e:=by
 have h:=aeE (call:=an.call) (s:=⟨own,ax,e⟩) O T R;have g:IntKind.u64.wrap ((m:Int).tdiv n)=↑(m/n):=by
  show IntKind.u64.wrap ↑(m/n)=_;have:=ki m n;generalize m/n=q at *;exact Ks R R
 rw[g]at h;exact e0 h k
def aeL{a8:f6}(k:cL an K xs own ax ((d,.i a8 ((m%n:Nat):Int))::e))(O:a5 e x=some (.i a8 (m:Int)):=by rfl)(T:a5 e y=some (.i a8 (n:Int)):=by rfl)(aj:n≠0:=by omega):gY an K d (.bin .rem x y) xs own ax e:=
 e0 (aeF O T R) k
def aeM{a8 bJ:f6}(k:cL an K xs own ax ((d,.i a8 ((m/2^n:Nat):Int))::e))(O:a5 e x=some (.i a8 (m:Int)):=by rfl)(T:a5 e y=some (.i bJ (n:Int)):=by rfl)(aj:n<=a8.bits:=by first|decide|(show _<=64;omega)):gY an K d (.bin .shr x y) xs own ax e:=
 e0 (aeG O T aj) k
end
variable{an:eR}{s:cb}{n m:Int}{c:bf}{a:du}{P:Prop}{k:f6}{p:Nat}{e kY:bP}{U:aZ}
def RO(d:Nat):bM->be bM
 |⟨K,c,⟨own,n,(t,a)::e⟩⟩=>match Nat.beq t d with
  |true=>none
  |false=>Cd ⟨K,c,⟨own,n,(t,a)::e⟩⟩
 |g=>Cd g
def ah.mono{K L:ac dA}(h:∀x s,Sem an K x s->Sem an L x s)(k:ah an K c s)(O:∀fw,KP an L fw->KP an K fw:=by exactλ_ h=>h):ah an L c s:=by
 have up:∀x o st,q2 an (Sem an K) x o st->q2 an (Sem an L) x o st:=λx o st ⟨H,ids,s,Y,G,A,T⟩=>⟨H,ids,s,Y,G,A,h x s T⟩;cases c with
 |c c=>exactλH ids st o F Z D=>(k H ids st o F Z D).mono up
 |U l=>exactλH ids st o F Z D=>(k H ids st o F Z D).mono up
 |x e=>exact h e s k
 |d l a9 aX aT bU=>exactλfw g H ids st o gu cy F Z D E=>(k fw (O fw g) H ids st o gu cy F Z D E).mono up
def cT{K:ac dA}{c:ce}{b:du}[T:Decidable P](bR:P->bM.ok an ⟨K,.c a,s⟩)(ay:¬P->bM.ok an ⟨K,.c b,s⟩)(aQ:a5 s.env c=some (.b<|decide P):=by rfl):bM.ok an ⟨K,.c<|.cond c a b,s⟩:=w6 aQ (λh=>bR<|iY h) λh=>ay<|of_decide_eq_false h
def zq{K:ac dA}{c:ce}{b:du}[T:Decidable P](bR:¬P->bM.ok an ⟨K,.c a,s⟩)(ay:P->bM.ok an ⟨K,.c b,s⟩)(aQ:a5 s.env c=some (.b<|!decide P):=by rfl):bM.ok an ⟨K,.c<|.cond c a b,s⟩:=w6 aQ (λh=>bR apH) λh=>ay apH
def gZ{K:ac dA}{b:du}{L:Type _}(P:L->Prop)(T:L->cb)(aC:bM.ok an ⟨.b4 (k2 an.i0.length P T)::K,c,s⟩)(aI:∀l,P l->bM.ok an ⟨K,.c b,T l⟩):bM.ok an ⟨.seq b::K,c,s⟩:=by
 refine ah.mono (λx s O=>?_) aC;cases x with
 |norm=>have⟨f,l,hp,cy⟩:=O;exact FR f _ cy (aI l hp)
 |_=>exact O
def kt(h:n=m:=by omega)(aC: -9223372036854775808<=n:=by omega)(aI:n<9223372036854775808:=by omega):some (ag.i .i64<|IntKind.i64.wrap n)=some (ag.i .i64 m):=by rw[gn aC aI,h]
def eV(h:n=m:=by omega)(aC: -9223372036854775808<=n:=by omega)(aI:n<9223372036854775808:=by omega):ag.i .i64 (IntKind.i64.wrap n)=ag.i .i64 m:=by rw[gn aC aI,h]
def p0(h:n=m:=by omega):some (ag.i k n)=some (ag.i k m):=by rw[h]
def fG(h:n=m:=by omega):ag.i k n=ag.i k m:=by rw[h]
def ik{own:ac aZ}{n:Nat}(h:pd [0] kY e)(E:∃cv,own[0]? =some cv/\kG [0] U cv)(hp:pinned p [0] 0=true:=by rfl):Sub p [0] ⟨own,n,e⟩ ⟨[U],1,kY⟩:=⟨au,j,⟨E,az⟩,h,hp⟩
def RP{own:ac aZ}{n:Nat}{q:aZ}(h:pd [0,1] kY e)(E:∃cv,own[0]? =some cv/\kG [0,1] U cv)(cD:∃cv,own[1]? =some cv/\kG [0,1] q cv)(hp:pinned p [0,1] 0=true:=by rfl):Sub p [0,1] ⟨own,n,e⟩ ⟨[U,q],2,kY⟩:=⟨au,j,⟨E,cD,az⟩,h,hp⟩
section
variable{call:bN}{o:aK}{H:bb}{ids:ac Nat}{e:bP}{x y i:ce}
variable{z J:Nat}
theorem RQ{α:Type}{ah:α->ac ag}{l:ac α}{q:α}{bD:f6}(D:cS o H ids e)(O:a5 e x=some (.b6 z α ah l))(af:a5 e i=some (.i bD (J:Int)))(ba:l[J]? =some q):∃v,den H (.ip<|ah q) ids v/\∀st,bw call (.iC z x i) o st= .ok v o st:=by
 have aW:=(dP.1 ba).1;rcases D.ar O with⟨B,_⟩|⟨b,U,c,ab,el,bY,aR,Y,G,T,C⟩
 .subst B;simp at aW
 .refine⟨_,⟨b,U+J*z,ab,el,bY,aR,j,T,?_⟩,λst=>B0 Y (D.ar af) aW⟩;have B:=gq<|C J q ba
  grind
def aeN{k U n c:Nat}{bD:f6}(D:cS o H ids e)(O:a5 e x=some (.aH k z U n c))(af:a5 e i=some (.i bD (J:Int)))(ba:J<n):∃v,den H (.fi k z (U+J) 0) ids v/\∀st,bw call (.iC z x i) o st= .ok v o st:=by
 have⟨b,Y,G⟩:=D.ar O;exact asW asW
end
section
variable{an:eR}{K:ac dA}{own a9:ac aZ}{ax aT bU back:Nat}{e aX:bP}{d:Tmp}{aA:ac Tmp}{xs:ac (bj×cn)}{x y i:ce}
variable{J z:Nat}{α:Type}{el:co}{aR:Bool}{l:ac α}
def w9{ah:α->ac ag}(q:α){bD:f6}(ba:l[J]? =some q)(k:dx an K xs a9 ((d,.ip<|ah q)::aX) aT bU own ax ((d,.ip<|ah q)::e))(O:a5 (dZ aA aX) x=some (.b6 z α ah l):=by rfl)(af:a5 (dZ aA aX) i=some (.i bD (J:Int)):=by rfl)(ay:back<aT:=by decide):dx an K ((⟨some d,.iC z x i,none⟩,.read back aA)::xs) a9 aX aT bU own ax e:=
 l2 ay (λH ids st o D _ _=>let⟨v,Y,G⟩:=RQ D O af ba;⟨v,Y,λL _ _=>G L⟩) k
def aeO{a8 U n c:Nat}{bD:f6}(k:dx an K xs a9 ((d,.fi a8 z (U+J) 0)::aX) aT bU own ax ((d,.fi a8 z (U+J) 0)::e))(O:a5 (dZ aA aX) x=some (.aH a8 z U n c):=by rfl)(af:a5 (dZ aA aX) i=some (.i bD (J:Int)):=by rfl)(ba:J<n:=by omega)(ay:back<aT:=by decide):dx an K ((⟨some d,.iC z x i,none⟩,.read back aA)::xs) a9 aX aT bU own ax e:=
 l2 ay (λH ids st o D _ _=>let⟨v,Y,G⟩:=aeN D O af ba;⟨v,Y,λL _ _=>G L⟩) k
theorem FZ{a8 n c:Nat}{bD:f6}(k:dx an K xs a9 ((d,.fi a8 z J 0)::aX) aT bU own ax ((d,.fi a8 z J 0)::e))(O:a5 (dZ aA aX) x=some (.aH a8 z 0 n c):=by rfl)(af:a5 (dZ aA aX) i=some (.i bD (J:Int)):=by rfl)(ba:J<n:=by omega)(ay:back<aT:=by decide):dx an K ((⟨some d,.iC z x i,none⟩,.read back aA)::xs) a9 aX aT bU own ax e:=
 aeO apt O af ba ay
def F0{a8 q:Nat}{ah:α->ac ag}(w:α){a:ag}(ba:l[J]? =some w)(k:dx an K xs a9 ((d,a)::aX) aT bU own ax ((d,a)::e))(O:a5 (dZ aA aX) x=some (.fi a8 z J q):=by rfl)(aw:a9[a8]? =some (.a el aR z α ah l):=by rfl)(cD:(ah w)[q]? =some a:=by rfl)(ay:back<aT:=by decide):dx an K ((⟨some d,.iv x,none⟩,.read back aA)::xs) a9 aX aT bU own ax e:=
 l2 ay (λH ids st o D B E=>by
  have⟨b,Y,G⟩:=D.ar O;have⟨ab,A,h,C⟩:=E a8 _ b aw j Y;have⟨v,g,T⟩:=tl (C J w ba) cD;refine⟨v,T,λL _ cy=>zh G ((cy a8 _ b aw j Y).trans A) ?_⟩;rw[nn]at g;split at g
  .rw[n2]at g;exact g
  .cases g) k
def nG{a8:Nat}{ah:α->ac ag}{a:ag}{bg gH:ac aZ}(w':α)(k:dx an K xs gH aX (aT+1) ax bg ax e)(O:a5 e x=some (.fi a8 1 J 0):=by rfl)(T:a5 e y=some a:=by rfl)(aw:own[a8]? =some (.a el aR 1 α ah l):=by rfl)(D:ah w'=[a]:=by rfl)(aQ:qX a=true:=by rfl)(aC:∀w,(ah w).length=1:=by exactλ_=>j)
 (E:g9 own a8 (.a el aR 1 α ah<|l.set J w') some=some bg:=by rfl) (F:zl a9 (some a8) some=some gH:=by rfl) (ba:J<l.length:=by first|omega|(simp;done)|(simp;omega)):dx an K ((⟨none,.store 1 x y,none⟩,.dI)::xs) a9 aX aT bU own ax e:=by
 cases h4 E;have⟨Z,W,I,a0⟩:=FO F;cases W;exact w5 (RB w' O T aw D ba aQ aC) I (λk U L B=>by
  have:=a0 k U L B;simp only[gr,O];exact this) k
end
structure gv where
 L:Type
 own:L->ac aZ
 args:L->ac ag
 pre:L->Prop
 bg:L->ac aZ
 res:L->ag
 hp:bb->Prop:=fun _=>True
 hm:∀{H bA:bb},cH H bA->hp H->hp bA:=by exact fun _ _=>trivial
abbrev aeP(hp:bb->Prop)(hm:∀{H B:bb},cH H B->hp H->hp B){L:Type}(f:L->ac aZ×ac ag×Prop×ac aZ×ag):gv where
 L:=L
 own:=λl=>(f l).1
 args:=λl=>(f l).2.1
 pre:=λl=>(f l).2.2.1
 bg:=λl=>(f l).2.2.2.1
 res:=λl=>(f l).2.2.2.2
 hp:=hp
 hm:=hm
abbrev kJ{L:Type}(f:L->ac aZ×ac ag×Prop×ac aZ×ag):gv:=aeP (λ_=>True) (λ_ _=>trivial) f
def gv.spec(S:gv):Spec where
 L:=S.L×bb×ac Nat
 pre:=λl ab st=>S.pre l.1/\S.hp l.2.1/\Fit l.2.1 l.2.2 st (S.own l.1) (S.own l.1).length/\cG l.2.1 (S.args l.1) l.2.2 ab
 post:=λl ab st v al=>∃B,Fit B l.2.2 al (S.bg l.1) (S.own l.1).length/\cW l.2.1 l.2.2 st B l.2.2 al/\den B (S.res l.1) l.2.2 v
instance:Coe gv Spec:=⟨gv.spec⟩
instance:Coe gv dV:=⟨λS=>S.spec.K⟩
def Ci(S:gv)(l:S.L)(res:ac gS)(x:c6)(s:cb):Prop:=(x= .norm\/x= .ret)/\(∃r,Fin.kH s res=some r/\h1 r=true/\bz r (S.res l))/\∃f,f.length=(S.own l).length/\Sub (S.own l).length f s ⟨S.bg l,(S.own l).length,[]⟩
theorem aeQ{f ids i0:ac Nat}(D:f.length=i0.length)(hp:pinned i0.length f 0=true)(af:b9 i0 ids):pick f ids=i0:=by
 apply nY;intro k;by_cases N:k<i0.length
 .have Y:=K2 hp k N;rw[hU]at Y;rw[uP Y<|af k _<|aO N,aO N]
 .grind [pick]
variable{X:Ctx}
variable{f:d7}{a4:cX}
def gv.sp(S:gv)(P:S.spec.L->ac bv->ak->Prop):Spec:=⟨S.spec.L,P,S.spec.post⟩
theorem RR{aL:ao cX}(aa:Good X)(j:k0 X aL)(br:d7->dV)(O:aL.get f=some a4){S:gv}{P:S.spec.L->ac bv->ak->Prop}(I:∀a ab st,P a ab st->S.spec.pre a ab st)(aB:∀l,(S.args l).length<=a4.aN)
 (h:∀l H i0 aq ab,P (l,H,i0) ab aq->i0.length=(S.own l).length->fB ⟨cg aL (cw X br)<|bs+1,bs+1,f,H,i0,aq,Ci S l a4.res⟩ [] (.c a4.body) (S.own l) ((S.own l).length) (iT 0<|S.args l)):et X f (S.sp P):=by
 refine Kq aa j br O (λl ab st hp=>by rw[gq (I l ab st hp).2.2.2];exact aB l.1) ?_;rintro⟨l,H,i0⟩ ab st N;have⟨hp,V,Z,d⟩:=I _ _ _ N;simp only at hp V Z d;apply(h l H i0 st ab N Z.len H i0 st (eg ab) aqd Z<|cS.zero d).mono;rintro x o al ⟨B,ids,s,F,W,D,O,⟨r,Y,G,hle⟩,g,ad,cy⟩;obtain⟨v,A,T⟩:=sv W D Y;have ae:=Z.len;have E:Sub i0.length g s ⟨S.bg l,(S.own l).length,[]⟩:=by grind
 have a':=E.fit W;have C:=E.b2 W F;rw[(aeQ R E.Ry F.jx)]at a' C;exact⟨O,v,T,B,a',C,hle _ _ _<|tk _ G A _⟩
def aeR{aL:ao cX}(D:Good X)(j:k0 X aL)(br:d7->dV)(O:aL.get f=some a4){S:gv}(aB:∀l,(S.args l).length<=a4.aN)
 (h:∀l,S.pre l->∀H i0 aq,S.hp H->i0.length=(S.own l).length->fB ⟨cg aL (cw X br)<|bs+1,bs+1,f,H,i0,aq,Ci S l a4.res⟩ [] (.c a4.body) (S.own l) ((S.own l).length) (iT 0<|S.args l)):et X f S.spec:=
 RR D j br O (λ_ _ _ h=>h) aB λl H i0 aq _ hp aB=>h l hp.1 H i0 aq hp.2.1 aB
def gv.jR(S:gv)(ae:S.L->Nat):Spec:=S.sp λa ab st=>S.spec.pre a ab st/\ae a.1<=st.ae
def aeS{aL:ao cX}(D:Good X)(j:k0 X aL)(br:d7->dV)(O:aL.get f=some a4){S:gv}{ae:S.L->Nat}(aB:∀l,(S.args l).length<=a4.aN)
 (h:∀l,S.pre l->∀H i0 aq,S.hp H->i0.length=(S.own l).length->ae l<=aq.ae->fB ⟨cg aL (cw X br)<|bs+1,bs+1,f,H,i0,aq,Ci S l a4.res⟩ [] (.c a4.body) (S.own l) ((S.own l).length) (iT 0<|S.args l)):et X f (S.jR ae):=
 RR D j br O (λ_ _ _ h=>h.1) aB λl H i0 aq _ hp aB=>h l hp.1.1 H i0 aq hp.1.2.1 aB hp.2
mutual
theorem RS{H:bb}{f ids:ac Nat}(D:∀k m:Nat,f[k]? =some m->m<ids.length):∀(a:ag) {v:bv},den H a (pick f ids) v->den H (j7 f a) ids v
 |.i _ _,_,d=>d
 |.b _,_,d=>d
 |.s _,_,d=>d
 |.nl,_,d=>d
 |.v _,_,d=>d
 |.p k U,v,⟨b,e,d⟩=>by
  exact apK
 |.fi k z J U,v,⟨b,e,d⟩=>by
  exact apK
 |.aH k z U n c,v,⟨b,e,d⟩=>by
  exact apK
 |.b6 _ _ _ _,_,d=>d
 |.hq _ _ _ _,_,d=>d
 |.cd _ _ _ _,_,d=>d
 |.ip _,_,d=>d
 |.mp k,v,⟨b,e,d⟩=>by
  exact apK
 |.g _,_,d=>d
 |.fn _ bS cs,_,⟨ab,F,e,O,N⟩=>⟨ab,F,e,xb D bS O,xb D cs N⟩
 |.agg cs,_,⟨ab,e,d⟩=>⟨ab,e,xb D cs d⟩
 |.bc cs,_,⟨ab,e,d⟩=>⟨ab,e,xb D cs d⟩
 |.bad,_,d=>d.elim
theorem xb{H:bb}{f ids:ac Nat}(D:∀k m:Nat,f[k]? =some m->m<ids.length):∀(a:ac ag) {v:ac bv},cG H a (pick f ids) v->cG H (lA f a) ids v
 |[],_,d=>d
 |a::as,_,⟨v,F,e,O,N⟩=>⟨v,F,e,RS D a O,xb D as N⟩
theorem xa{f ids:ac Nat}(D:∀k m:Nat,f[k]? =some m->m<ids.length){k b:Nat}(h:(pick f ids)[k]? =some b):∃m,f[k]? =some m/\ids[m]? =some b:=by
 unfold pick at h
 grind
end
def pf(f:ac Nat):aZ->aZ->Prop
 |.c el cs,U=>U= .c el (lA f cs)
 |.a el aR z α ah l,U=>U= .a el aR z α ah l/\∀x,lA f (ah x)=ah x
 |.g p,U=>U= .g p
 |.x,U=>U= .x
def pf.den{H:bb}{f ids:ac Nat}(D:∀k m:Nat,f[k]? =some m->m<ids.length){cv:aZ}{gG:be bx}(h:pf f U cv)(d:ov H (pick f ids) U gG):ov H ids cv gG/\cv.live=U.live:=by
 cases U with
 |c el cs=>cases h;have⟨ab,e,d⟩:=d;exact⟨⟨ab,e,xb D cs d⟩,j⟩
 |a el aR z α ah l=>
  have⟨h,hp⟩:=h;cases h;have⟨ab,A,B,d⟩:=d;exact ars ars
 |g p=>cases h;exact⟨d,j⟩
 |x=>cases h;exact⟨az,j⟩
def Cj(f:ac Nat)(own bg:ac aZ)(os:ac aZ):Prop:=bg.length=own.length/\(∀J:Nat,J∉f->bg[J]? =own[J]?)/\∀(i k:Nat) (cv:aZ),f[i]? =some k->bg[k]? =some cv->∃U,os[i]? =some U/\pf f U cv
variable{bg:ac aZ}{br:d7->dV}{a1:bb}{i0:ac Nat}{aq:ak}{ax:Nat}{bO:ac ce}{as:ac ag}{cv:aZ}{a6:Nat}{Q:c6->cb->Prop}{d:be Tmp}{xs:ac bj}
theorem Ld{k:Nat}{own:ac aZ}(h:g9 own k cv some=some bg)(ay:pf [k] U cv):Cj [k] own bg [U]:=by
 have:=h4 h;cases this;refine⟨au,λJ V=>nq apt,λi gX q N E=>?_⟩
 grind
theorem Le{aL:ao cX}{n:Nat}{own:ac aZ}{g:d7}{S:gv}{P:S.spec.L->ac bv->ak->Prop}(aQ:et X g (S.sp P))(f:ac Nat)(l:S.L)(ai:∀H i ab st,aq.ae<=st.ae->S.spec.pre (l,H,i) ab st->P (l,H,i) ab st)(hp:S.pre l)(cK:S.hp a1)
 (cy:Sub 0 f ⟨own,ax,e⟩ ⟨S.own l,(S.own l).length,[]⟩) (ay:Cj f own bg (S.bg l))
 (bR:hr e bO=some as) (he:as=lA f (S.args l)) (O:br g=(S.sp P).K) {H:bb} {ids:ac Nat} {st:ak} {o:aK} (F:cW a1 i0 aq H ids st) (Z:Fit H ids st own ax) (D:cS o H ids e):
 ∃v al a' B,bw (cg aL (cw X br)<|n+1) (.call (.func g) bO) o st= .ok v o al/\Fit B a' al bg ax/\den B (j7 f<|S.res l) a' v/\cH H B/\b9 ids a'/\cW a1 i0 aq B a' al/\st.ae<=al.ae:=by
 subst he;have aw:=cy.fit Z;have ah:=uQ f _<|D.dQ bR;obtain⟨v,al,Y,G⟩:=aQ _ st ⟨(l,H,pick f ids),ai _ _ _ _ F.ae ⟨hp,S.hm F.hle cK,aw,ah⟩⟩;obtain⟨v1,C,aJ,I⟩:=zc (K:=br) ⟨v,al,by rwa [O],G⟩;rw[O]at I;obtain⟨B,W,R,aI⟩:=I (l,H,pick f ids)<|ai _ _ _ _ F.ae ⟨hp,S.hm F.hle cK,aw,ah⟩;have aW:∀k m:Nat,f[k]? =some m->m<ids.length:=λk m N=>by
  have ar:(S.own l).length=f.length:=cy.own.len;have Y:=(dP.1 N).1;obtain⟨aY,cv,G,A,_⟩:=cy.own.get<|aO (show k<(S.own l).length by omega);rw[N]at G;cases G;rw[Z.len,<-Z.cZ];exact(dP.1 A).1
 have aD:∀(J b:Nat),J∉f->ids[J]? =some b->b∉pick f ids:=λJ b V ay hm=>by
  obtain⟨k,N⟩:=vS.1 hm;obtain⟨m,A,T⟩:=xa aW N;have aG:=dP.1 T;have:=(vR Z.cY).1<|(dP.1 ay).2.trans aG.2.symm;exact V<|this▸hh A
 have a0:cg aL (cw X br) (n+1) (.func (.func g) #[] #[]) (dQ o bO) none st= .ret v1 C false:=by
  rw[o4];have e:fr (#[]:bi bv).toList (fr (dQ o bO) (#[]:bi bv).toList)=dQ o bO:=au
  rw[e,aJ];rfl
 have hle:=R.hle;refine⟨v1,C,ids,B,?_,?_,RS aW _ aI,hle,b9.refl _,?_,R.ae⟩
 .rw[zb];exact aps
 .obtain⟨aH,aN,aE⟩:=ay;refine⟨W.wf,W.le,by rw[aH];exact Z.cZ,Z.len,Z.cY,λb ay=>e2 (Z.lt b ay) R.ae,λJ U b V aa=>?_⟩;by_cases ad:J∈f
  .obtain⟨i,af⟩:=vS.1 ad;obtain⟨ha,aF,aP⟩:=aE i J U af V;obtain⟨A,T⟩:=W.own i ha b aF<|uP af aa;obtain⟨aS,aU⟩:=aP.den aW A
   grind
  .have V:=V;rw[aN J ad]at V;obtain⟨A,T⟩:=Z.own J U b V aa;have E:=Z.lt b<|hh aa;have az:=aD J b ad aa;simpa[R.eK b E az]using⟨q1 hle apu A,λar=>by rw[R.hold b E az];exact T ar⟩
 .have aC:∀b,b∈pick f ids->b∈ids:=λb ay=>by
   obtain⟨k,N⟩:=vS.1 ay;obtain⟨m,_,T⟩:=xa aW N;exact hh T
  have av:∀b,b<aq.ae->b∉i0->b∉pick f ids:=λb ay aj hm=>by
   rcases F.new b (aC b hm)with h|h
   .exact aj h
   .have h:=h;omega
  exact⟨F.hle.trans hle,λb ay aj=>(by rw[R.hold b (e2 ay F.ae)<|av b ay aj];exact F.hold b ay aj),λb ay aj=>(by rw[R.eK b (e2 ay F.ae)<|av b ay aj];exact F.eK b ay aj),ch F.ae R.ae,F.jx,F.new⟩
def RT{aL:ao cX}{n:Nat}{own:ac aZ}{g:d7}{S:gv}(aQ:et X g S.spec)(f:ac Nat)(l:S.L)(hp:S.pre l)(cK:S.hp a1)
 (cy:Sub 0 f ⟨own,ax,e⟩ ⟨S.own l,(S.own l).length,[]⟩) (ay:Cj f own bg (S.bg l))
 (bR:hr e bO=some as) (he:as=lA f (S.args l)) (O:br g=S.spec.K) {H:bb} {ids:ac Nat} {st:ak} {o:aK} (F:cW a1 i0 aq H ids st) (Z:Fit H ids st own ax) (D:cS o H ids e):
 ∃v al V B,bw (cg aL (cw X br)<|n+1) (.call (.func g) bO) o st= .ok v o al/\Fit B V al bg ax/\den B (j7 f<|S.res l) V v/\cH H B/\b9 ids V/\cW a1 i0 aq B V al/\st.ae<=al.ae:=
 Le aQ f l (λ_ _ _ _ _ h=>h) hp cK cy ay bR he O F Z D
def RU{aL:ao cX}{n:Nat}{fn:d7}{K:ac dA}{own:ac aZ}{g:d7}{S:gv}(aQ:et X g S.spec)(f:ac Nat)(l:S.L)(hp:S.pre l)
 (cy:Sub 0 f ⟨own,ax,e⟩ ⟨S.own l,(S.own l).length,[]⟩) (ay:Cj f own bg (S.bg l)) (k:cL (gI X aL br n a6 fn a1 i0 aq Q) K xs bg ax (ee d (j7 f<|S.res l) e))
 (bR:hr e bO=some as) (he:as=lA f (S.args l)) (O:br g=S.spec.K) (cK:S.hp a1):
 cL (gI X aL br n a6 fn a1 i0 aq Q) K (⟨d,.call (.func g) bO,none⟩::xs) own ax e:=λH ids st o F Z D=>by
 obtain⟨v,al,V,B,W,cA,dG,gT,nb,I,_⟩:=RT aQ f l hp cK cy ay bR he O F Z D;exact atn
theorem lC{aL:ao cX}{n:Nat}{fn:d7}{K:ac dA}{own:ac aZ}{g:d7}{S:gv}(aQ:et X g S.spec)(a8:Nat)(l:S.L)(hp:S.pre l)
 (k:cL (gI X aL br n a6 fn a1 i0 aq Q) K xs bg ax (ee d (j7 [a8]<|S.res l) e)) (E:S.own l=[U]:=by rfl) (D:S.bg l=[cv]:=by rfl)
 (aw:∃gw,own[a8]? =some gw/\kG [a8] U gw:=by exact jS) (cy:g9 own a8 cv some=some bg:=by rfl) (ay:pf [a8] cv cv:=by exact sx)
 (bR:hr e bO=some as:=by rfl) (he:as=lA [a8] (S.args l):=by rfl) (O:br g=S.spec.K:=by rfl) (cK:S.hp a1:=by first|exact az|assumption):
 cL (gI X aL br n a6 fn a1 i0 aq Q) K (⟨d,.call (.func g) bO,none⟩::xs) own ax e:=
 RU aQ [a8] l hp aqz (by rw[D];exact Ld cy ay) k bR he O cK
end Go.bC
namespace Go.bC
open Sym
set_option maxRecDepth 10000
section
variable{an:eR}{K:ac dA}{own bg:ac aZ}{ax:Nat}{e:bP}
theorem Lf{a8 z n c:Nat}(t:Nat){el:co}{aR:Bool}{α:Type}{ah:α->ac ag}{l:ac α}{p:du}(k:fB an K (.c p) bg ax ((t,.b6 z α ah l)::e))(N:dn e t=some (.aH a8 z 0 n c):=by rfl)(aw:own[a8]? =some (.a el aR z α ah l):=by rfl)(hp:∀x,gp (ah x)=true:=by exactλ_=>j)
 (E:g9 own a8 .x some=some bg:=by rfl) (aj:l.length=n:=by first|omega|(simp;done)|(simp;omega)) (aQ:n<=c:=by omega):fB an K (.c p) own ax e:=by grind [h4,aeI]
end
section
variable{call:bN}{s:cb}{x y:ce}
theorem aeT{k z n c:Nat}{el:co}{aR:Bool}{α:Type}{ah:α->ac ag}{l m:ac α}(O:a5 s.env x=some (.aH k z 0 n c))(aw:s.own[k]? =some (.a el aR z α ah l))(cy:ox s y ah z m)(aC:m.length<=n)(aI:n<=l.length)(a':0<z):
 fp call (.s0 z x y) s (.i .i64 (m.length:Nat)) (s.own.set k<|.a el aR z α ah<|m++l.drop m.length) s.n:=λH ids st o Z D=>by
 obtain⟨b,W,I⟩:=D.ar O;obtain⟨ab,a0,cJ,c2⟩:=ow Z aw W;have e:bw call (.s0 z x y) o st=hY (o.ar x) (λa g _=>hY (o.ar y) (λb aH _=>bq a (λa=>bq b (λb=>st.load b (Nat.mul (ev aH g aH g) z) (λab=>cond (hi ab) (st.store a ab (λst=>.ok (.int .i64<|.ofNat<|ev aH g aH g) o st) .no) .no) .no)<|dL aH 0 (.ok (.int .i64 0) o st) .no)<|dL g 0 (.ok (.int .i64 0) o st) .no) .no) .no:=rfl;rw[e,I,p5,hF];rcases cy H ids st o Z D with⟨rfl,E,A⟩|⟨V,U,E,F,N,bY,aa,A,cA,dG,gT,nb⟩
 .refine⟨.int .i64 0,st,ids,H,by rw[A,p5,Sym.ed,Sym.hL,ij j],?_,j,cH.refl _,b9.refl _,λ_ _ _ B=>B,cf _,λ_ _ _=>j⟩;rw[show([]++l.drop ([]:ac α).length)=l by simp,show s.own.set k (.a el aR z α ah l)=s.own from ?_]
  .exact Z
  .apply nY
   grind
 .have h:((F.drop U).take<|m.length*z).length=m.length*z:=by grind
  have C:m.length*z<=l.length*z:=hV z R;have G:=sr gT<|zo (n:=m.length) ⟨cJ,c2⟩;have T:ab.take 0++((F.drop U).take (m.length*z)++ab.drop (0+((F.drop U).take<|m.length*z).length))=(F.drop U).take (m.length*z)++ab.drop (m.length*z):=by grind
  refine⟨_,_,ids,H,?_,Z.e3 aw j W ⟨_,j,G.1,G.2⟩,j,cH.refl _,b9.refl _,λ_ _ _ B=>B.e3 (hh W) _,cf _,λL _ Y=>ao.fk _ _ λe=>Y k asz<|e▸W⟩;rw[A,p5,fo aC];show ak.load st ⟨V,U,none⟩ (m.length*z) _ _=_;unfold ak.load ak.fI;rw[cA,j6,q0 dG,nb];unfold ak.store ak.fI;rw[a0,j6,pU,aD apt,ja,T];rfl
end
section
variable{an:eR}{K:ac dA}{own bg:ac aZ}{ax:Nat}{e:bP}{d:Tmp}{xs:ac bj}{x y:ce}
def aeU{a8 z n c:Nat}{el:co}{aR:Bool}{α:Type}{ah:α->ac ag}{l:ac α}(m:ac α)(cy:ox ⟨own,ax,e⟩ y ah z m)(k:cL an K xs bg ax ((d,.i .i64 (m.length:Nat))::e))(O:a5 e x=some (.aH a8 z 0 n c):=by rfl)(aw:own[a8]? =some (.a el aR z α ah l):=by rfl)
 (E:g9 own a8 (.a el aR z α ah<|m++l.drop m.length) some=some bg:=by rfl) (aC:m.length<=n:=by omega) (aI:n<=l.length:=by first|omega|(simp;done)|(simp;omega)) (Z:0<z:=by decide):gY an K d (.s0 z x y) xs own ax e:=by
 cases h4 E;exact e0 (aeT O aw cy aC aI Z) k
end
section
variable{an:eR}{K:ac dA}{own a9:ac aZ}{ax aT bU back:Nat}{e aX:bP}{d:Tmp}{aA:ac Tmp}{xs:ac (bj×cn)}{x y i:ce}
variable{m n:Nat}
def aeV(k:dx an K xs a9 ((d,.i .u64 ((m/n:Nat):Int))::aX) aT bU own ax ((d,.i .u64 ((m/n:Nat):Int))::e))(O:a5 (dZ aA aX) x=some (.i .u64 (m:Int)):=by rfl)(T:a5 (dZ aA aX) y=some (.i .u64 (n:Int)):=by rfl)(ay:back<aT:=by decide)(aj:n≠0:=by omega)(hm:m<18446744073709551616:=by omega):dx an K ((⟨some d,.bin .quo x y,none⟩,.read back aA)::xs) a9 aX aT bU own ax e:=
 l2 (a:=.i .u64 ↑(m/n)) ay (λH ids st o D _ _=>⟨.int .u64 ↑(m/n),j,λL _ _=>by
  rw[Q9 (D.ar O) (D.ar T) aj];have:=ki m n;generalize m/n=q at *;rw[Ks R R]⟩) k
def aeW{a8:f6}(k:dx an K xs a9 ((d,.i a8 ((m%n:Nat):Int))::aX) aT bU own ax ((d,.i a8 ((m%n:Nat):Int))::e))(O:a5 (dZ aA aX) x=some (.i a8 (m:Int)):=by rfl)(T:a5 (dZ aA aX) y=some (.i a8 (n:Int)):=by rfl)(ay:back<aT:=by decide)(aj:n≠0:=by omega):dx an K ((⟨some d,.bin .rem x y,none⟩,.read back aA)::xs) a9 aX aT bU own ax e:=
 l2 (a:=.i a8 ↑(m%n)) ay (λH ids st o D _ _=>⟨.int a8 ↑(m%n),j,λL _ _=>ad4 (D.ar O) (D.ar T) aj⟩) k
def aeX{z p q:Nat}{α:Type}{ah:α->ac ag}{l:ac α}{bm af:be ce}(bo:ac α)(k:dx an K xs a9 ((d,.b6 z α ah bo)::aX) aT bU own ax ((d,.b6 z α ah bo)::e))(O:a5 (dZ aA aX) x=some (.b6 z α ah l):=by rfl)(T:fN ⟨[],0,dZ aA aX⟩ bm 0 p:=by first|exact j|exact dN)(N:fN ⟨[],0,dZ aA aX⟩ af l.length q:=by first|exact j|exact dN)(ay:back<aT:=by decide)(aB:(l.drop p).take (q-p)=bo:=by first|rfl|simp)(hp:p<=q:=by omega)(cD:q<=l.length:=by first|omega|(simp;done)|(simp;omega)):dx an K ((⟨some d,.n8 z x bm af none,none⟩,.read back aA)::xs) a9 aX aT bU own ax e:=by
 subst aB;refine l2 ay (λH ids st o D _ _=>?_) k;obtain⟨v,Y,G⟩:=RF O T N hp cD D;exact⟨v,Y,λL hle _=>G L hle⟩
end
section
variable{call:bN}{s:cb}{x y:ce}
variable{bW c4 k n c:Nat}{el:co}{α:Type}{l:ac α}
theorem RV{aR:Bool}{ah:α->ac ag}(O:a5 s.env x=some (.aH k bW 0 n c))(aw:s.own[k]? =some (.a el aR bW α ah l))(cy:q4 call el c4 s y ah bW [])(m9:n<=c)(aQ:c<=l.length)(ay:(5*n+1792)*(c4+1)<=1125899906842624):
 fp call (.app el bW c4 x y) s (.aH k bW 0 n c) s.own s.n:=λH ids st o Z D=>by
 obtain⟨b,W,I⟩:=D.ar O;obtain⟨ab,a0,cJ,c2⟩:=ow Z aw W;obtain⟨new,Y,G,A⟩:=cy H ids st o Z D x _ _ _ I;have E:=hV bW aQ;refine⟨_,st,ids,H,?_,Z,⟨b,W,j⟩,cH.refl _,b9.refl _,λ_ _ _ B=>B,cf _,λ_ _ _=>j⟩;rw[A];unfold iO ak.fI;simp only[vT,vU,Sym.ed,Sym.hL,a0,j6,Az,pD]
 grind [fo,e4,ij]
def aeY{ah:α->ac ag}{m:ac α}(O:a5 s.env x=some (.aH k bW 0 n c))(aw:s.own[k]? =some (.a el false bW α ah l))(cy:q4 call el c4 s y ah bW m)(bX:m≠[])(m9:n<=c)(T:c<n+m.length)(aQ:c<=l.length)(ay:(5*(n+m.length)+1792)*(c4+1)<=1125899906842624):
 fp call (.app el bW c4 x y) s (.aH s.n bW 0 (n+m.length)<|n+m.length) (s.own++[.a el true bW α ah<|l.take n++m]) (s.n+1):=λH ids st o Z D=>by
 obtain⟨b,W,I⟩:=D.ar O;obtain⟨ab,a0,cJ,c2⟩:=ow Z aw W;obtain⟨new,Y,G,A⟩:=cy H ids st o Z D x _ _ _ I;have N:=Cg (cH.refl H) (b9.app ids [st.ae])<|sr (FT ⟨cJ,c2⟩ n R) Y;have E:=hV bW aQ;have g:n*bW<=l.length*bW:=hV bW R;refine⟨.slice (some ⟨st.ae,0,none⟩) (n+m.length)<|n+m.length,_,_,H,?_,Z.add ⟨_,j,N.1,N.2⟩,⟨st.ae,by rw[<-Z.len];simp,by rw[hF]⟩,cH.refl _,b9.app _ _,λ_ _ _ B=>B.add _,kW _,λb ay _=>p9 ay⟩;rw[A];unfold iO ak.fI;simp only[vT,vU,Sym.ed,Sym.hL,a0,j6,hF];rw[fo<|ay,fo<|cf _,fo m9,fo<|by rw[e4,cJ];omega,ij j,o9 R,cond_false,QZ R,q0 dM,gj,pS,iB]
end
section
variable{an:eR}{K:ac dA}{own bg:ac aZ}{ax cF:Nat}{e:bP}{d:Tmp}{xs:ac bj}{x y:ce}
variable{bW c4 n c:Nat}{el:co}{α:Type}{l:ac α}
def xc{a8:Nat}{aR:Bool}{ah:α->ac ag}(cy:ox ⟨own,ax,e⟩ y ah bW ([]:ac α))(k:cL an K xs own ax ((d,.aH a8 bW 0 n c)::e))(O:a5 e x=some (.aH a8 bW 0 n c):=by rfl)(aw:own[a8]? =some (.a el aR bW α ah l):=by rfl)
 (m9:n<=c:=by omega) (aQ:c<=l.length:=by first|omega|(simp;done)|(simp;omega)) (ay:(5*n+1792)*(c4+1)<=1125899906842624:=by omega):gY an K d (.app el bW c4 x y) xs own ax e:=e0 (RV O aw (ss cy) m9 aQ ay) k
def zr{a8:Nat}{ah:α->ac ag}(m:ac α)(cy:ox ⟨own,ax,e⟩ y ah bW m)(bo:ac α)(k:cL an K xs bg cF ((d,.aH ax bW 0 (n+m.length)<|n+m.length)::e))(O:a5 e x=some (.aH a8 bW 0 n c):=by rfl)(aw:own[a8]? =some (.a el false bW α ah l):=by rfl)
 (E:my own (.a el true bW α ah bo) some=some bg:=by rfl) (F:mz ax some=some cF:=by rfl) (bX:m≠[]:=by first|rfl|simp) (m9:n<=c:=by omega) (T:c<n+m.length:=by first|omega|(simp;done)|(simp;omega)) (aQ:c<=l.length:=by first|omega|(simp;done)|(simp;omega))
 (ay:(5*(n+m.length)+1792)*(c4+1)<=1125899906842624:=by first|omega|(simp;done)|(simp;omega)) (aB:l.take n++m=bo:=by first|rfl|simp):gY an K d (.app el bW c4 x y) xs own ax e:=by
 subst aB;have Y:=m7 E;have G:=nC F;cases Y;cases G;exact e0 (aeY O aw (ss cy) bX m9 T aQ ay) k
end
section
variable{an:eR}{K:ac dA}{own a9:ac aZ}{ax aT bU back:Nat}{e aX:bP}{d:Tmp}{aA:ac Tmp}{xs:ac (bj×cn)}{x y:ce}
def RW{m n:Nat}(k:dx an K xs a9 ((d,.i .i64 ((m/n:Nat):Int))::aX) aT bU own ax ((d,.i .i64 ((m/n:Nat):Int))::e))(O:a5 (dZ aA aX) x=some (.i .i64 (m:Int)):=by rfl)(T:a5 (dZ aA aX) y=some (.i .i64 (n:Int)):=by rfl)(ay:back<aT:=by decide)(aj:n≠0:=by omega)(hm:m<9223372036854775808:=by omega):dx an K ((⟨some d,.bin .quo x y,none⟩,.read back aA)::xs) a9 aX aT bU own ax e:=
 l2 (a:=.i .i64 ↑(m/n)) ay (λH ids st o D _ _=>⟨.int .i64 ↑(m/n),j,λL _ _=>by
  rw[Q9 (D.ar O) (D.ar T) aj];have:=ki m n;generalize m/n=q at *;rw[gn R R]⟩) k
end
def iI{an:eR}{K:ac dA}{i:Nat}{c:bf}{s:cb}{b:du}{L:Type _}(P:L->Prop)(T:L->cb)(aC:bM.ok an ⟨.cx i:: .b4 (k2 an.i0.length P T)::K,c,s⟩)(aI:∀l,P l->bM.ok an ⟨K,.c b,T l⟩):bM.ok an ⟨.cx i:: .seq b::K,c,s⟩:=by
 have up:∀s,k2 an.i0.length P T s->Sem an (.seq b::K) .norm s:=λs O=>by
  have⟨f,l,hp,cy⟩:=O;exact FR f _ cy<|aI l hp
 refine ah.mono (λx s O=>?_) aC;cases x with
 |norm=>exact up s O
 |exit J=>
  show if J=i then Sem an (.seq b::K) .norm s else Sem an (.seq b::K) (.exit J) s;have O:if J=i then Sem an (.b4 (k2 an.i0.length P T)::K) .norm s else Sem an (.b4 (k2 an.i0.length P T)::K) (.exit J) s:=O;split
  .rename_i h;rw[aD h]at O;exact up s O
  .rename_i h;rw[av h]at O;exact O
 |_=>exact O
def RX{own:ac aZ}{n p:Nat}{e kY:bP}{U q r:aZ}(h:pd [0,1,2] kY e)(E:∃cv,own[0]? =some cv/\kG [0,1,2] U cv)(cD:∃cv,own[1]? =some cv/\kG [0,1,2] q cv)(I:∃cv,own[2]? =some cv/\kG [0,1,2] r cv)(hp:pinned p [0,1,2] 0=true:=by rfl):Sub p [0,1,2] ⟨own,n,e⟩ ⟨[U,q,r],3,kY⟩:=⟨au,j,⟨E,cD,I,az⟩,h,hp⟩
def k4(c:ci):ac ag:=[.i .u8 (c.toNat:Int)]
theorem Lg{H:bb}{ids:ac Nat}:∀{l:ac ci} {ab:ac bv},jQ H ids k4 1 l ab->bytesOf ab=some l
 |[],ab,h=>by
  have:=nZ (by rw[h.1];simp);subst this;rfl
 |c::l,ab,h=>by
  have Y:=h.2 0 c au;rw[iB]at Y;obtain⟨v,F,g,B,A⟩:=Y;subst B A;have j:ab= .int .u8 (c.toNat:Int)::ab.drop 1:=by
   conv=>rw[<-np 1 ab,g]
   rfl
  have I:=Lg (ab:=ab.drop 1) (by simpa using(zo h 1));rw[j];show bq (bytesOf<|ab.drop 1) (λb2=>some<|UInt8.ofNat ((c.toNat:Int)).toNat::b2) none=_;rw[I];show some (UInt8.ofNat ((c.toNat:Int)).toNat::l)=_;rw[vP,Iw]
theorem RY(H:bb)(ids:ac Nat):∀l:ac ci,jQ H ids k4 1 l (nu l)/\hi (nu l)=true
 |[]=>⟨w7 _ _ _ _,j⟩
 |c::l=>by
  have⟨aC,aI⟩:=RY H ids l;exact⟨sr (l:=[c]) (ab:=[.int .u8 c.toNat]) (Cf ⟨_,[],j,j,j⟩ j) aC,aI⟩
section
variable{call:bN}{s:cb}{x y:ce}
theorem aeZ{k U n c:Nat}{el:co}{aR:Bool}{l:ac ci}(O:a5 s.env x=some (.aH k 1 U n c))(aw:s.own[k]? =some (.a el aR 1 ci k4 l))(aj:U+n<=l.length):fp call (.AO x) s (.s<|(l.drop U).take n) s.own s.n:=j8 λH ids st o Z D=>by
 have⟨b,W,I⟩:=D.ar O;have⟨ab,a0,cJ,c2⟩:=ow Z aw W;have F:jQ H ids k4 1 ((l.drop U).take n) ((ab.drop U).take n):=by
  have:=FT (zo (⟨cJ,c2⟩:jQ H ids k4 1 l ab) U) n dM
  rwa [oR,oR]at this
 refine⟨_,j,?_⟩;show I2 x call o st=_;rw[I2,I,p5,oR,Sym.ed];unfold ak.load ak.fI;rw[a0,j6,q0 apt,Lg F];rfl
end
section
variable{an:eR}{K:ac dA}{own:ac aZ}{ax:Nat}{e:bP}{d:Tmp}{xs:ac bj}{x y:ce}
def Lh{a8 n c:Nat}{el:co}{aR:Bool}{l:ac ci}(bo:ac ci)(k:cL an K xs own ax ((d,.s bo)::e))(O:a5 e x=some (.aH a8 1 0 n c):=by rfl)(aw:own[a8]? =some (.a el aR 1 ci k4 l):=by rfl)(aj:n<=l.length:=by first|omega|(simp;done)|(simp;omega))(aB:l.take n=bo:=by first|rfl|simp):gY an K d (.AO x) xs own ax e:=by
 have:=aeZ (call:=an.call) (s:=⟨own,ax,e⟩) O aw R;rw[iB,aB]at this;exact e0 this k
end
section
variable{an:eR}{K:ac dA}{own a9:ac aZ}{ax aT bU back:Nat}{e aX:bP}{d:Tmp}{aA:ac Tmp}{xs:ac (bj×cn)}{x y:ce}
variable{l:ac ci}{p q:Nat}{bm af:be ce}
theorem ae0{call:bN}{s:cb}{H:bb}{ids:ac Nat}{o:aK}{st:ak}(D:cS o H ids s.env)(O:a5 s.env x=some (.s l))(T:fN s bm 0 p)(N:fN s af l.length q)(hp:p<=q)(cD:q<=l.length):bw call (.sZ x bm af) o st= .ok (.string ⟨⟨(l.drop p).take<|q-p⟩⟩) o st:=by
 exact atT
def F1(bo:ac ci)(k:dx an K xs a9 ((d,.s bo)::aX) aT bU own ax ((d,.s bo)::e))(O:a5 (dZ aA aX) x=some (.s l):=by rfl)(T:fN ⟨[],0,dZ aA aX⟩ bm 0 p:=by first|exact j|exact dN)(N:fN ⟨[],0,dZ aA aX⟩ af l.length q:=by first|exact j|exact dN)(ay:back<aT:=by decide)(aB:(l.drop p).take (q-p)=bo:=by first|rfl|simp)(hp:p<=q:=by omega)(cD:q<=l.length:=by first|omega|(simp;done)|(simp;omega)):dx an K ((⟨some d,.sZ x bm af,none⟩,.read back aA)::xs) a9 aX aT bU own ax e:=by
 subst aB;exact l2 (a:=.s<|(l.drop p).take<|q-p) ay (λH ids st o D _ _=>⟨_,j,λL _ _=>ae0 D O T N hp cD⟩) k
end
def ae1{k z J q U:Nat}(h:U=J*z+q):bz (.p k U) (.fi k z J q):=λ_ _ _ d=>by subst h;exact d
section
variable{call:bN}{s:cb}{x y i:ce}
variable{n k:Nat}{el:co}{z:Nat}{cs:ac ag}{J U:Nat}{aR:Bool}{l:ac ci}
def tq{bD:f6}(O:a5 s.env x=some (.p k U))(af:a5 s.env i=some (.i bD (J:Int)))(ba:J<n):fp call (.rV n z x i) s (.p k<|U+J*z) s.own s.n:=j8 λH ids st o Z D=>by
 have⟨b,Y,G⟩:=D.ar O;refine⟨_,arP,?_⟩;show s5 n z x i call o st=_;unfold s5;rw[G,lx,Sym.ed,(D.ar af),l1,ou,fo R,nB];rfl
def ae2{bD:f6}(O:a5 s.env x=some (.ip cs))(af:a5 s.env i=some (.i bD (J:Int)))(ba:J<n):fp call (.rV n z x i) s (.ip<|cs.drop<|J*z) s.own s.n:=j8 λH ids st o Z D=>by
 have⟨b,U,ab,el,bY,aR,Y,G,d⟩:=D.ar O;have A:=D.ar af;refine⟨.pointer<|some ⟨b,U+J*z,none⟩,⟨b,U+J*z,ab,el,bY,aR,j,G,?_⟩,?_⟩
 .have:=nA (J*z) d
  rwa [Ax,qv,<-iX]at this
 .show s5 n z x i call o st=_;rw[s5,Y,lx,Sym.ed,A,l1,ou,fo R,nB];rfl
theorem RZ{a1:bb}{g:Nat}{ab:ac bv}{bY:Nat×Nat}{bD:f6}(O:a5 s.env x=some (.v<|.pointer<|some ⟨g,0,none⟩))(E:a1 g=some (.cells ab el bY aR))(T:∀H,cG H cs [] ab)(af:a5 s.env i=some (.i bD (J:Int)))(ba:J<n):p8 a1 call (.rV n z x i) s (.ip<|cs.drop<|J*z) s.own s.n:=λH ids st o h Z D=>by
 have A:=D.ar af;refine⟨.pointer<|some ⟨g,0+J*z,none⟩,st,ids,H,?_,Z,⟨g,0+J*z,ab,el,bY,aR,j,h _ _ E,?_⟩,cH.refl _,b9.refl _,λ_ _ _ B=>B,cf _,λ_ _ _=>j⟩
 .show s5 n z x i call o st=_;unfold s5;rw[(D.ar O),lx,Sym.ed,A,l1,ou,fo R,nB];rfl
 .have:=nA (J*z)<|T H;have C:=gq this
  grind
def ae3(O:a5 s.env x=some (.p k U))(aw:s.own[k]? =some (.c el cs))(E:U<cs.length):fp call (.D7 x) s (.p k U) s.own s.n:=j8 λH ids st o Z D=>by
 have⟨b,Y,G⟩:=D.ar O;have⟨⟨ab,A,d⟩,_⟩:=Z.own k _ b aw Y;refine⟨_,arP,?_⟩;show I6 x call o st=_;unfold I6 ak.fI;rw[G,lx,Sym.ed,Sym.hL,A,j6,fo<|by rwa [e4,gq d]]
def ae4(O:a5 s.env x=some (.p k 0))(aw:s.own[k]? =some (.c el cs))(aj:cs.length=n):fp call (.D8 el n x) s (.p k 0) s.own s.n:=j8 λH ids st o Z D=>by
 have⟨b,Y,G⟩:=D.ar O;have⟨⟨ab,A,d⟩,_⟩:=Z.own k _ b aw Y;refine⟨_,arP,?_⟩;show I7 el n x call o st=_;unfold I7 ak.fI;rw[G,lx,Sym.ed,Sym.hL,A,j6,cond_false,ij j,ij j,ij<|by rwa [e4,gq d]]
def zs{p q:Nat}{α:Type}{ah:α->ac ag}{l:ac α}{bm af:be ce}(O:a5 s.env x=some (.p k 0))(aw:s.own[k]? =some (.a el false z α ah l))(T:fN s bm 0 p)(N:fN s af n q)(hp:p<=q)(cD:q<=n)(bX:p<n\/p=0):fp call (.wc n z x bm af none) s (.aH k z p (q-p)<|n-p) s.own s.n:=j8 λH ids st o Z D=>by
 have⟨b,Y,G⟩:=D.ar O;have⟨ab,a0,cJ,c2⟩:=ow Z aw Y;refine⟨_,arP,?_⟩;show s4 n z x bm af none call o st=_;unfold s4 ak.fI;rw[G,lx,Sym.ed,Sym.hL,a0,j6,su,fN.ar N D cD,fN.ar T D hp];congr 2;by_cases g:n=p
 .subst g;obtain bX|bX:=bX
  .omega
  .subst bX;rw[ij j];simp
 .rw[o9 g,nB,hU];rfl
theorem ae5{bD:f6}(O:a5 s.env x=some (.p k 0))(T:a5 s.env y=some (.i bD (n:Int)))(aw:s.own[k]? =some (.a el aR 1 ci k4 l))(aj:n=l.length)(bX:n≠0)(ay:n<=1099511627776):fp call (.uo el x y) s (.s l) (s.own.set k .x) s.n:=λH ids st o Z D=>by
 have⟨b,Y,G⟩:=D.ar O;have A:=D.ar T;have⟨ab,a0,cJ,c2⟩:=ow Z aw Y;refine⟨_,_,ids,H,?_,Z.e3 aw j Y (gG:=.cells ab el (0,0+n) aR) az,j,cH.refl _,b9.refl _,λ_ _ _ B=>B.e3 (hh Y) _,cf _,?_⟩
 .show Ei el x y call o st=_;unfold Ei ak.fI;rw[G,lx,A,l1,ou,o9 bX,Sym.ed,fo<|ay,a0,j6,ij j,q0 apt];rw[iB,gB R,(Lg (⟨cJ,c2⟩:jQ H ids k4 1 l ab)),Sym.ed,ja];rfl
 .intro V _ g;exact ao.fk _ _ λe=>g k asz<|e▸Y
def uW(c:ci)(l:ac ci):Int:=match r2 c l with
 |some i=>i
 |none=> -1
def ae6{c:ci}(O:a5 s.env x=some (.s l))(T:a5 s.env y=some (.i .u8 (c.toNat:Int))):fp call (.lO x y) s (.i .i64<|uW c l) s.own s.n:=j8 λH ids st o Z D=>by
 have G:=D.ar T;refine⟨_,j,?_⟩;show I9 x y call o st=_;unfold I9;rw[(D.ar O),y9,G,l1,show j3 .u8 .u8=true from rfl,ou,Iw];rw[uW];cases r2 c l<;>rfl
end
