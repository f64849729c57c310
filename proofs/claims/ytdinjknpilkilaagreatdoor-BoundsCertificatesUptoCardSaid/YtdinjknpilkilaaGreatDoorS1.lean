/- Rules for what a function computes on abstract states (part 1); no condition. -/
import Derived.Test.YtdinjknpilkilaaGreatDoorM1
import Derived.Test.YtdinjknpilkilaaGreatDoorM3
noncomputable section
set_option linter.all false
namespace Go.ah
namespace Sym
section
variable{α β:Type}
variable{a b:Nat}
def zr(r:aV)(k:be->aJ->au->cU)(p:be->au->cU):cU:=aV.rec (motive:=fun _=>cU) k p .no r
def Je(v:be)(fr:aJ)(st:au)(k:be->aJ->au->cU)(p:be->au->cU):zr (.ok v fr st) k p=k v fr st:=rfl
def ZO(v:be)(st:au)(k:be->aJ->au->cU)(p:be->au->cU):zr (.a9 v st) k p=p v st:=rfl
def ZN(k:be->aJ->au->cU)(p:be->au->cU):zr .no k p= .no:=rfl
def wi(r:eb)(k:be->au->aV)(p:be->au->aV):aV:=eb.rec (motive:=fun _=>aV) (fun v st _=>k v st) (fun v st _=>p v st) .no r
def Uj(v:be)(st:au)(t:Bool)(k p:be->au->aV):wi (.ret v st t) k p=k v st:=rfl
def Ui(v:be)(st:au)(t:Bool)(k p:be->au->aV):wi (.a9 v st t) k p=p v st:=rfl
def acX(fr:aJ)(st:au)(k:aJ->au->cU):qi (.out .norm fr st) k=k fr st:=rfl
def aeN(id i:Nat)(fr:aJ)(st:au):Gk id (.out (.exit i) fr st)=if i=id then .out .norm fr st else .out (.exit i) fr st:=by
 show eQ i id _ _=_;rw[pN]
def na(a:d8)(n:Int)(k:d8->Int->β)(z:β):g2 (.int a n) k z=k a n:=rfl
def Cs(s:f6)(k:f6->β)(z:β):jE (.string s) k z=k s:=rfl
def sA(a:am Addr)(k:am Addr->β)(z:β):jD (.pointer a) k z=k a:=rfl
def rq(a:am Addr)(n c:Nat)(k:am Addr->Nat->Nat->β)(z:β):j8 (.slice a n c) k z=k a n c:=rfl
def aue(x:ap be)(k:ap be->β)(z:β):vE (.agg x) k z=k x:=rfl
def aug(x:ap be)(k:ap be->β)(z:β):rr (.tuple x) k z=k x:=rfl
@[congr] theorem av0 {o bD:am α} (h:o=bD) (k:α->β) (z:β):bm o k z=bm bD k z:=by rw[h]
def e6(a:α)(k:α->β)(z:β):bm (some a) k z=k a:=rfl
def jc(k:α->β)(z:β):bm (none:am α) k z=z:=rfl
@[congr] theorem avV {a a' b gw:Nat} (h:a=a') (aC:b=gw) (x y:β):ey a b x y=ey a' gw x y:=by rw[h,aC]
def gn(h:a<=b)(x y:β):ey a b x y=x:=by rw[p7,zab h]
def aod(h:¬a<=b)(x y:β):ey a b x y=y:=by rw[p7,zaa h]
def lv(h:a=b)(x y:β):eQ a b x y=x:=by rw[pN,zab h]
def ur(h:¬a=b)(x y:β):eQ a b x y=y:=by rw[pN,zaa h]
def oI(n:Nat)(k:Nat->β)(z:β):ie (n:Int) k z=k n:=rfl
def aoS{n:Int}(h:0<=n)(k:Nat->β)(z:β):ie n k z=k n.toNat:=by
 obtain⟨m,rfl⟩:=Int.eq_ofNat_of_zero_le h;rfl
def AG{l:ac α}{o n:Nat}(h:o+n<=l.length)(k:ac α->β)(z:β):iE l o n k z=k ((l.drop o).take n):=by
 unfold iE;rw[Dg,FJ,zab (by simp;omega)];rfl
end
def G8(fr:aJ)(t:Tmp):fr.ai (.tmp t)=fr.tmp t:=rfl
def zS(fr:aJ)(d:Tmp)(v:be)(j:Nat):(fr.put (some d) v).tmp j=if j=d then v else fr.tmp j:=by
 rw[sy];by_cases h:j=d
 ·subst h;simp
 ·rw[zaa h,zaa (by simpa using fun e=>h e.symm)]
def ahH(fr:aJ)(x:bi)(xs:ac bi):er fr (x::xs)=fr.ai x::er fr xs:=rfl
section
variable(call:bG)(cc:Nat)(fn:ci)(fr:aJ)(st:au)
variable{β:Type}
def G7(d:am Tmp)(o:de)(xs:ac bA):jh call (⟨d,o,none⟩::xs) fr st=
 zr (bK call o fr st) (fun v fr st=>jh call xs (fr.put d v) st) (fun v st=>cond o.mh (.out (.a9 v) fr st) .no):=rfl
def wk(v:be)(b:Bool)(yes ig z:β):β:=oc v (fun c=>cond c (cond b yes ig) (cond b ig yes)) (rr v (fun _=>ig) z)
def akL(x y z:β):wk (.bool true) true x y z=x:=rfl
def akK(x y z:β):wk (.bool true) false x y z=y:=rfl
def akJ(x y z:β):wk (.bool false) true x y z=y:=rfl
def akI(x y z:β):wk (.bool false) false x y z=x:=rfl
def akM(b:Bool)(x y z:β)(a:ap be):wk (.tuple a) b x y z=y:=rfl
def Mx(d:am Tmp)(o:de)(t:Tmp)(b:Bool)(xs:ac bA):jh call (⟨d,o,some (t,b)⟩::xs) fr st=
 wk (fr.tmp t) b (zr (bK call o fr st) (fun v fr st=>jh call xs (fr.put d v) st) (fun v st=>cond o.mh (.out (.a9 v) fr st) .no)) (jh call xs (fr.put d undef) st) .no:=rfl
def Mv(a b:dw):dA call cc fn (.seq a b) fr st=qi (dA call cc fn a fr st) (dA call cc fn b):=rfl
def Mu(c:bi)(a b:dw):dA call cc fn (.cond c a b) fr st=S7 (fr.ai c) (dA call cc fn a fr st) (dA call cc fn b fr st):=rfl
def T6(i:Nat)(a:dw):dA call cc fn (.block i a) fr st=Gk i (dA call cc fn a fr st):=rfl
def Mw(b:dw)(n:Nat)(fr:aJ)(st:au):cU:=
 Nat.rec (motive:=fun _=>aJ->au->cU) (fun _ _=>.no) (fun _ a1 fr st=>qi (dA call cc fn b fr st) a1) n fr st
def ahE(b:dw)(n:Nat):Mw call cc fn b (n+1) fr st=qi (dA call cc fn b fr st) (Mw call cc fn b n):=rfl
end
section
variable(call:bG)(fr:aJ)(st:au)
def aaa(c a b:bi):bK call (.pick c a b) fr st=oc (fr.ai c) (fun t=>.ok (cond t (fr.ai a) (fr.ai b)) fr st) .no:=rfl
def Z0(x:bi):bK call (.p8 x) fr st=j8 (fr.ai x) (fun _ n _=>.ok (.int .i64 (n:Int)) fr st) (xx (fr.ai x) (.ok (.int .i64 (.ofNat 0)) fr st) .no):=rfl
def apN(x:bi):bK call (.u7 x) fr st=jE (fr.ai x) (fun s=>.ok (.int .i64 (s.data.toList.length:Int)) fr st) .no:=by
 show jE (fr.ai x) (fun s=>g4 (dL s.data.toList) fun n=>aV.ok (.int .i64 (.ofNat n)) fr st) aV.no=_;simp only[AV,fC];rfl
def vn(f:bi)(args:ac bi):bK call (.call f args) fr st=wi (call (fr.ai f) (er fr args) none st) (fun v st=>.ok v fr st) (fun v st=>.a9 v st):=rfl
def apK(a2:Nat)(x i:bi):bK call (.mZ a2 x i) fr st=
 j8 (fr.ai x) (fun b len _=>bm b (fun a=>g2 (fr.ai i) (fun _ j=>ie j (fun j=>ey (j+1) len (.ok (.pointer (some (a.add (j*a2)))) fr st) .no) .no) .no) .no) .no:=rfl
def Z2(x:bi):bK call (.lE x) fr st=jD (fr.ai x) (fun p=>bm p (fun a=>st.load a 1 (fun vs=>one vs (fun v=>.ok v fr st) .no) .no) .no) .no:=rfl
def apO(n:Nat)(x:bi):bK call (.p9 n x) fr st=jD (fr.ai x) (fun p=>bm p (fun a=>st.load a n (fun vs=>.ok (.agg ⟨vs⟩) fr st) .no) .no) .no:=rfl
def apF(k:d8)(x:bi):bK call (.tZ k x) fr st=g2 (fr.ai x) (fun _ n=>.ok (.int k (k.wrap n)) fr st) .no:=by
 show g2 (fr.ai x) (fun _ n=>iL k (oZ k n) fun v=>aV.ok v fr st) aV.no=_;simp only[iZ,ma]
def EY(op:BinOp)(x y:bi):bK call (.bin op x y) fr st=Dq op (fr.ai x) (fr.ai y) (fun v=>.ok v fr st):=rfl
def Mt(op:BinOp)(k xB:d8)(a b:Int)(c:be->aV):Dq op (.int k a) (.int xB b) c=AQ op k a xB b c:=rfl
def T5(op:BinOp)(a b:f6)(c:be->aV):Dq op (.string a) (.string b) c=CU op a b c:=rfl
def anV(k:d8):kG k k=true:=by cases k<;>rfl
end
end Sym
end Go.ah
namespace Go.ah
open Sym
def W(r:cU)(Q:dM->aJ->au->Prop):Prop:=∃e fr st,r= .out e fr st∧Q e fr st
variable{Q:dM->aJ->au->Prop}{r:cU}
def W.mk{e:dM}{fr:aJ}{st:au}(h:Q e fr st):W (.out e fr st) Q:=⟨e,fr,st,rfl,h⟩
def W.of_eq{ee:cU}(e:r=ee)(h:W ee Q):W r Q:=by rw[e];exact h
def W.mono{CG:dM->aJ->au->Prop}(h:W r Q)(hq:∀e fr st,Q e fr st->CG e fr st):W r CG:=
 let⟨e,fr,st,h1,h2⟩:=h;⟨e,fr,st,h1,hq _ _ _ h2⟩
def ad9(call:bG)(cc:Nat)(fn:ci)(b:dw)(Q:dM->aJ->au->Prop):dM->aJ->au->Prop
 |.norm,fr,st=>W (dA call cc fn b fr st) Q
 |e,fr,st=>Q e fr st
def adS(id:Nat)(Q:dM->aJ->au->Prop):dM->aJ->au->Prop
 |.exit i,fr,st=>if i=id then Q .norm fr st else Q (.exit i) fr st
 |e,fr,st=>Q e fr st
def Round(eV:Nat->aJ->au->Prop)(m:Nat)(Q:dM->aJ->au->Prop):dM->aJ->au->Prop
 |.norm,fr,st=>∃gF,gF<m∧eV gF fr st
 |e,fr,st=>Q e fr st
section
variable{call:bG}{cc:Nat}{fn:ci}{fr:aJ}{st:au}{Q:dM->aJ->au->Prop}
variable{a b:dw}{c:bi}{t:Bool}{v:be}{i:Nat}{d:Tmp}
def auC(h:W (dA call cc fn a fr st) (ad9 call cc fn b Q)):W (dA call cc fn (.seq a b) fr st) Q:=by
 obtain⟨e,aA,st',h1,h2⟩:=h;rw[Mv,h1];cases e with
 |norm=>exact h2
 |exit i=>exact .mk h2
 |ret=>exact .mk h2
 |a9 v=>exact .mk h2
def auD(h:Q .norm fr st):W (dA call cc fn .skip fr st) Q:=.mk h
def auq(h:Q (.exit i) fr st):W (dA call cc fn (.exit i) fr st) Q:=.mk h
def auz(h:Q .ret fr st):W (dA call cc fn .ret fr st) Q:=.mk h
def auB(h:W (dA call cc fn a fr st) Q):W (dA call cc fn (.scope a) fr st) Q:=h
def aum(h:W (dA call cc fn a fr st) (adS i Q)):W (dA call cc fn (.block i a) fr st) Q:=by
 obtain⟨e,aA,st',h1,h2⟩:=h;rw[T6,h1];cases e with
 |norm=>exact .mk h2
 |exit j=>
  rw[aeN];have ab:(if j=i then Q .norm aA st' else Q (.exit j) aA st'):=h2;split at ab
  ·rw[zab (by assumption)];exact .mk ab
  ·rw[zaa (by assumption)];exact .mk ab
 |ret=>exact .mk h2
 |a9 v=>exact .mk h2
def auy{ops:ac bA}(h:W (jh call ops fr st) Q):W (dA call cc fn (.vz ops) fr st) Q:=h
def aut(h:Q .norm fr st):W (jh call [] fr st) Q:=.mk h
def aur(hc:fr.ai c= .bool t)(ha:t=true->W (dA call cc fn a fr st) Q)(hb:t=false->W (dA call cc fn b fr st) Q):W (dA call cc fn (.cond c a b) fr st) Q:=by
 rw[Mu,hc];cases t
 ·exact hb rfl
 ·exact ha rfl
def auE(hc:fr.ai c= .bool t)(aF:t=true)(ha:W (dA call cc fn a fr st) Q):W (dA call cc fn (.cond c a b) fr st) Q:=by
 rw[Mu,hc,aF];exact ha
def aup(hc:fr.ai c= .bool t)(aF:t=false)(hb:W (dA call cc fn b fr st) Q):W (dA call cc fn (.cond c a b) fr st) Q:=by
 rw[Mu,hc,aF];exact hb
theorem adF{b:dw}(eV:Nat->aJ->au->Prop)
 (cg:∀m fr st,eV m fr st->W (dA call cc fn b fr st) (Round eV m Q)):∀(n m:Nat) (fr:aJ) (st:au),m<n->eV m fr st->W (Mw call cc fn b n fr st) Q
 |0,m,_,_,h,_=>by omega
 |n+1,m,fr,st,h,aa=>by
  obtain⟨e,aA,st',h1,h2⟩:=cg m fr st aa;rw[ahE,h1];cases e with
  |norm=>
   obtain⟨gF,hm,ab⟩:=h2;exact adF eV cg n gF aA st' (by omega) ab
  |exit i=>exact .mk h2
  |ret=>exact .mk h2
  |a9 v=>exact .mk h2
def aus(eV:Nat->aJ->au->Prop)(m:Nat)(hm:m<cc)(h0:eV m fr st)
 (cg:∀m fr st,eV m fr st->W (dA call cc fn b fr st) (Round eV m Q)):W (dA call cc fn (.loop b) fr st) Q:=
 adF eV cg cc m fr st hm h0
def E:(fr.put (some d) v).ai (.tmp d)=v:=by rw[G8,zS,zab rfl]
def N{j:Tmp}{x:be}(h:fr.ai (.tmp j)=x)(cb:Nat.beq j d=false:=by rfl):(fr.put (some d) v).ai (.tmp j)=x:=by
 rw[G8,zS,zaa];exact h;intro e;subst e;simp at cb
def C:fr.ai (.const v)=v:=rfl
section
variable{xs:ac bA}{d:am Tmp}{o:de}{x y i:bi}
def Cw{st':au}(h:bK call o fr st= .ok v fr st')(k:W (jh call xs (fr.put d v) st') Q):W (jh call (⟨d,o,none⟩::xs) fr st) Q:=by
 rw[G7,h,Je];exact k
def auw{t:Tmp}{b c:Bool}(aO:fr.ai (.tmp t)= .bool c)(hc:c=b)(k:W (jh call (⟨d,o,none⟩::xs) fr st) Q):W (jh call (⟨d,o,some (t,b)⟩::xs) fr st) Q:=by
 subst hc;rw[Mx,show fr.tmp t= .bool c from aO];rw[G7]at k;cases c
 ·rw[akI];exact k
 ·rw[akL];exact k
def auu{t:Tmp}{b c:Bool}(aO:fr.ai (.tmp t)= .bool c)(hc:c= !b)(k:W (jh call xs (fr.put d undef) st) Q):W (jh call (⟨d,o,some (t,b)⟩::xs) fr st) Q:=by
 subst hc;rw[Mx,show fr.tmp t= .bool (!b)from aO];cases b
 ·rw[show wk (.bool (!false)) false _ _ cU.no=_ from akK _ _ _];exact k
 ·rw[show wk (.bool (!true)) true _ _ cU.no=_ from akJ _ _ _];exact k
def auv{t:Tmp}{b:Bool}{a:ap be}(aO:fr.ai (.tmp t)= .tuple a)(k:W (jh call xs (fr.put d undef) st) Q):W (jh call (⟨d,o,some (t,b)⟩::xs) fr st) Q:=by
 rw[Mx,show fr.tmp t= .tuple a from aO,akM];exact k
end
section
variable{x y i c a b:bi}
variable{n m:Nat}{k:d8}{p:Addr}
def wV{p:am Addr}(h:fr.ai x= .slice p n m):bK call (.p8 x) fr st= .ok (.int .i64 (n:Int)) fr st:=by rw[Z0,h];rfl
def apo(h:fr.ai x= .chan none):bK call (.p8 x) fr st= .ok (.int .i64 0) fr st:=by rw[Z0,h];rfl
def apm{k':d8}{n:Int}(h:fr.ai x= .int k' n):bK call (.tZ k x) fr st= .ok (.int k (k.wrap n)) fr st:=by rw[apF,h];rfl
def apn{a2:Nat}{j:Int}(h:fr.ai x= .slice (some p) n m)(aC:fr.ai i= .int k j)(h0:0<=j)(h1:j<n):
 bK call (.mZ a2 x i) fr st= .ok (.pointer (some (p.add (j.toNat*a2)))) fr st:=by
 rw[apK,h,aC];show ie j (fun j=>ey (j+1) n _ _) _=_;rw[aoS h0,gn (by omega)]
def apq{cs:ac be}{el:ce}{bk:Nat×Nat}{a3:Bool}(h:fr.ai x= .pointer (some p))(hp:p.spot=none)(ak:st.h.get p.block=some (.cells cs el bk a3))(aB:cs[p.off]? =some v):
 bK call (.lE x) fr st= .ok v fr st:=by
 rw[Z2,h];show st.load p 1 _ _=_;unfold au.load au.hz;rw[hp,ak];show iE cs p.off 1 _ _=_;have aE:p.off<cs.length:=by
  rcases zao p.off cs.length with h|h
  ·exact h
  ·rw[zbi h]at aB;cases aB
 rw[AG (by omega)];have:(cs.drop p.off).take 1=[v]:=by
  rw[bE aE]at aB;cases aB;rw[fP aE];rfl
 rw[this];rfl
end
end
end Go.ah
namespace Go.ah
open Sym
variable{X:Ctx}
structure fX where
 r:ac be->au->be->au->Prop
 p:ac be->au->be->au->Prop
def fX.no:fX:=⟨fun _ _ _ _=>False,fun _ _ _ _=>False⟩
def ad0(X:Ctx)(f:ci)(as:ac be)(st:au)(v:be)(st':au):Prop:=
 ∀(ι:bx) (as':ac be) (w:d7),bI ι as as'->bz X ι st w->
  (∀as w,(callFunc f as).run X.P w= .ok (.enter f as) w)∧
  ∀(K:CallKind) (bB:Bool->ac Frame),mf ⟨f,K,none⟩ none ι bB->kR X ι w ⟨f,K,none⟩ bB (lone (Frame.enter X.P f as'.toArray K) (bB false) w) (.a9 v st' false)
def c0(X:Ctx)(K:ci->fX):qn:=fun f as st=>
 open Classical in if h:∃p:be×au,(K f).r as st p.1 p.2∧hf X f ⟨as,st,p.1,p.2⟩then some (.ret (Classical.choose h).1 (Classical.choose h).2 false)
 else if h:∃p:be×au,(K f).p as st p.1 p.2∧ad0 X f as st p.1 p.2 then some (.a9 (Classical.choose h).1 (Classical.choose h).2 false)else none
def apV(K:ci->fX):xH X (c0 X K):=by
 intro f as st r aL ι as' w ha hw _;unfold c0 at aL;split at aL
 ·rename_i h;cases aL;exact(Classical.choose_spec h).2 ι as' w ha hw
 ·split at aL
  ·rename_i h;cases aL;exact(Classical.choose_spec h).2 ι as' w ha hw
  ·cases aL
def Jq{K:ci->fX}{f:ci}{as:ac be}{st:au}(h:∃v st',(K f).r as st v st'∧hf X f ⟨as,st,v,st'⟩):
 ∃v st',c0 X K f as st=some (.ret v st' false)∧(K f).r as st v st':=by
 obtain⟨v,st',h1,h2⟩:=h;have hp:∃p:be×au,(K f).r as st p.1 p.2∧hf X f ⟨as,st,p.1,p.2⟩:=⟨(v,st'),h1,h2⟩;refine⟨(Classical.choose hp).1,(Classical.choose hp).2,?_,(Classical.choose_spec hp).1⟩;unfold c0;rw[dif_pos hp]
structure Spec where
 L:Type
 pre:L->ac be->au->Prop
 post:L->ac be->au->be->au->Prop
def Spec.K(S:Spec):fX:=⟨fun as st v st'=>∀l,S.pre l as st->S.post l as st v st',fun _ _ _ _=>False⟩
instance:Coe Spec fX:=⟨Spec.K⟩
def bw(X:Ctx)(f:ci)(S:Spec):Prop:=∀as st,(∃l,S.pre l as st)->∃v st',S.K.r as st v st'∧hf X f ⟨as,st,v,st'⟩
structure CH where
 L:Type
 pre:L->ac be->au->Prop
 post:L->ac be->au->be->au->Prop
 aax:L->ac be->au->be->au->Prop
def CH.K(S:CH):fX:=⟨fun as st v st'=>∀l,S.pre l as st->S.post l as st v st',fun as st v st'=>∀l,S.pre l as st->S.aax l as st v st'⟩
instance:Coe CH fX:=⟨CH.K⟩
def bc:Nat:=4611686018427387904
def abP{bn:an dy}(eh:Good X)(kn:pF X bn){K:ci->fX}{f:ci}{xf:dy}(J:bn.get f=some xf){n:Nat}{as:ac be}{st:au}{v:be}{st':au}
 (h:mJ (cG bn (c0 X K) n) n f xf as none st= .ret v st' false):hf X f ⟨as,st,v,st'⟩:=by
 obtain⟨Fn,c,ok⟩:=kn f xf J;obtain⟨mr,nZ⟩:=LO eh kn (apV (X:=X) K) n;intro ι as' w ha hw;refine⟨ok.enters,fun Ab bB aL=> ?_⟩;have:=SB eh nZ mr (fun b aP bB _=>Qr nZ b aP bB) ok n (K:=Ab) (bB:=bB) ha hw aL;rw[h]at this;exact this
structure sG(fr:aJ):Prop where
 cW:fr.cW=[]
 a9:fr.a9=none
 cD:fr.cD=false
variable{f:ci}{xf:dy}{call:bG}{n:Nat}{as:ac be}{st:au}{Post:be->au->Prop}
def sG.put{fr:aJ}(h:sG fr)(d:am Tmp)(v:be):sG (fr.put d v):=by
 obtain⟨h1,h2,ab,aD⟩:=vt fr d v;exact⟨h1.trans h.cW,h2.trans h.a9,ab.trans h.cD⟩
def fS(as:ac be):aJ:=⟨oi as 0 .nil,[],none,false,none⟩
def sG.zero(as:ac be):sG (fS as):=⟨rfl,rfl,rfl⟩
def Gl(hl:as.length<=xf.aP)
 (h:W (dA call n f xf.body (fS as) st) (fun e fr st'=>(e= .norm∨e= .ret)∧∃v,lx call xf.res none fr st'= .ret v st' false∧Post v st')):
 ∃v st',mJ call n f xf as none st= .ret v st' false∧Post v st':=by
 obtain⟨e,fr,st',h1,he,v,h2,ab⟩:=h;refine⟨v,st',?_,ab⟩;unfold mJ;rw[p7,zab (by rw[fC];exact hl)];show cU.rec (motive:=fun _=>eb) _ _ (dA call n f xf.body (fS as) st)=_;rw[h1];rcases he with rfl|rfl
 ·exact h2
 ·exact h2
def Td{bn:an dy}(eh:Good X)(kn:pF X bn)(K:ci->fX)(J:bn.get f=some xf){S:Spec}(hl:∀l as st,S.pre l as st->as.length<=xf.aP)
 (h:∀l as st,S.pre l as st->W (dA (cG bn (c0 X K) (bc+1)) (bc+1) f xf.body (fS as) st)
  (fun e fr st'=>(e= .norm∨e= .ret)∧∃v,lx (cG bn (c0 X K) (bc+1)) xf.res none fr st'= .ret v st' false∧S.post l as st v st')):bw X f S:=by
 intro as st ⟨l,hp⟩;obtain⟨v,st',h1,h2⟩:=Gl (Post:=S.post l as st) (hl l as st hp) (h l as st hp);refine⟨v,st',fun l' mq=> ?_,abP eh kn J h1⟩;obtain⟨v2,ef,aH,aI⟩:=Gl (Post:=S.post l' as st) (hl l' as st mq) (h l' as st mq);rw[h1]at aH;cases aH;exact aI
def aeP{K0:be->au->Prop}(hl:as.length<=xf.aP)
 (h:W (dA call n f xf.body (fS as) st) (fun e fr st'=>((e= .norm∨e= .ret)∧∃v,lx call xf.res none fr st'= .ret v st' false∧Post v st')∨∃v,e= .a9 v∧lx call xf.res (some v) fr st'= .a9 v st' false∧K0 v st')):
 (∃v st',mJ call n f xf as none st= .ret v st' false∧Post v st')∨∃v st',mJ call n f xf as none st= .a9 v st' false∧K0 v st':=by
 obtain⟨e,fr,st',h1,h⟩:=h;have hb:mJ call n f xf as none st=cU.rec (motive:=fun _=>eb) (fun e fr st=>dM.rec (motive:=fun _=>eb) (lx call xf.res none fr st) (fun _=>.no) (lx call xf.res none fr st) (fun v=>lx call xf.res (some v) fr st) e) .no (dA call n f xf.body (fS as) st):=by
  unfold mJ;rw[p7,zab (by rw[fC];exact hl)];rfl
 rw[h1]at hb;rcases h with⟨he,v,h2,ab⟩|⟨v,rfl,h2,ab⟩
 ·refine .inl ⟨v,st',hb.trans ?_,ab⟩;rcases he with rfl|rfl
  ·exact h2
  ·exact h2
 ·exact .inr ⟨v,st',hb.trans h2,ab⟩
section
variable{call:bG}{fr:aJ}{st:au}{x y i:bi}
def mK{β:Type}(cs:ac be)(e:ce)(bk:Nat×Nat)(a3:Bool)(k:ac be->ce->Nat×Nat->Bool->β)(z:β):xQ (some (.cells cs e bk a3)) k z=k cs e bk a3:=rfl
end
def e0:ac Nat->ac Nat
 |[]=>[]
 |d::ds=>match e0 ds with
  |[]=>if d=0 then[]else[d]
  |r=>d::r
end Go.ah
namespace Go.ah
open Sym
section
variable{call:bG}{fr:aJ}{st:au}{Q:dM->aJ->au->Prop}{cc:Nat}{fn:ci}
variable{ops:ac (bA×cx)}{dh:tL}{af:ac (an bt)}{c a b:bi}{t:Bool}{u:be}{n:Int}
def O{ts:ac Tmp}{j:Tmp}{x:be}(h:fr.ai (.tmp j)=x)(hj:ts.contains j=true:=by rfl):(fr.only ts).ai (.tmp j)=x:=by
 rw[G8,ZM,zab (by simpa using hj)];exact h
def auo{cd ek ms:ac Nat}(h:W (iv call (ua call ms (dL ops)) ops [st.h] (qh fr ek) st) Q):W (dA call cc fn (.uo ops cd ek ms) fr st) Q:=h
def adE(h:Q .norm fr st):W (iv call dh [] af fr st) Q:=.mk h
theorem abW{o:de}{f:aJ}{v:be}{aj:Nat}:∀(n:Nat) (af:ac (an bt)),n<=af.length->(∀h∈af.take n,∃rP bh,bK call o f ⟨h,aj⟩= .ok v rP bh)->sameAt call o f v aj n af=true
 |0,_,_,_=>rfl
 |n+1,[],h,_=>by simp at h
 |n+1,h::af,hl,hh=>by
  obtain⟨rP,bh,e⟩:=hh h (by simp);show aV.rec (motive:=fun _=>Bool) (fun v' _ _=>cond (dU v v') (sameAt call o f v aj n af) false) (fun _ _=>false) false (bK call o f ⟨h,aj⟩)=true;rw[e];show cond (dU v v) (sameAt call o f v aj n af) false=true;rw[Ct];exact abW n af (by simpa using hl) fun aC hm=>hh aC (by simp[hm])
def aun{o:de}{d:am Tmp}{ts:ac Tmp}{back:Nat}{v:be}(dB:∀h∈st.h::af.take (back+1),bK call o (fr.only ts) ⟨h,st.aj⟩= .ok v (fr.only ts) ⟨h,st.aj⟩)(hl:back<af.length)
 (k:W (iv call dh ops af (fr.put d v) st) Q):W (iv call dh ((⟨d,o,none⟩,.read back ts)::ops) af fr st) Q:=by
 refine W.of_eq ?_ k;show m5 fr.t ts (fun t=>h7 ⟨t,[],none,false,none⟩ none
  (aV.rec (motive:=fun _=>cU) (fun v _ _=>cond (sameAt call o ⟨t,[],none,false,none⟩ v st.aj (Nat.succ back) af) (iv call dh ops af (fr.put d v) st) .no) (fun _ _=>.no) .no (bK call o ⟨t,[],none,false,none⟩ st))
  (iv call dh ops af (fr.put d undef) st) .no)=_
 rw[q7];have e:=dB st.h (by simp);have e:bK call o ⟨EX fr.t ts,[],none,false,none⟩ st= .ok v (fr.only ts) st:=e;show aV.rec (motive:=fun _=>cU) _ _ _ (bK call o ⟨EX fr.t ts,[],none,false,none⟩ st)=_;rw[e];show cond (sameAt call o (fr.only ts) v st.aj (Nat.succ back) af) _ _=_;rw[abW _ _ (by omega) fun h hm=>⟨_,_,dB h (by simp[hm])⟩];rfl
def aps(hc:fr.ai c= .bool t)(aF:t=true)(ha:fr.ai a=u):bK call (.pick c a b) fr st= .ok u fr st:=by
 rw[aaa,hc,ha,aF];rfl
def apr(hc:fr.ai c= .bool t)(aF:t=false)(hb:fr.ai b=u):bK call (.pick c a b) fr st= .ok u fr st:=by
 rw[aaa,hc,hb,aF];rfl
def I9{x i:bi}{a2 id off n m j:Nat}{k:d8}(h:fr.ai x= .slice (some ⟨id,off,none⟩) n m)(aC:fr.ai i= .int k (j:Int))(hj:j<n):
 bK call (.mZ a2 x i) fr st= .ok (.pointer (some ⟨id,off+j*a2,none⟩)) fr st:=by
 rw[apn h aC (by omega) (by omega)];rw[zcj];congr 3;unfold Addr.add;split
 ·rename_i h0;rw[h0];rfl
 ·rfl
def hG(h: -9223372036854775808<=n)(aC:n<9223372036854775808):IntKind.i64.wrap n=n:=by
 rw[<-ma];show zZ 18446744073709551616 9223372036854775808 n=n;rw[z0 _ _ _ (by decide)];split<;>omega
def adt(h:0<=n)(aC:n<18446744073709551616):IntKind.u64.wrap n=n:=by
 rw[<-ma];show Cv 18446744073709551616 n=n;rw[tG _ _ (by decide)];omega
end
abbrev Env:=ac (Nat×be)
def po:Env->Nat->am be
 |[],_=>none
 |p::l,j=>cond (Nat.beq p.1 j) (some p.2) (po l j)
def YG(e:Env):bi->am be
 |.tmp j=>po e j
 |.const v=>some v
 |.global g=>some (.pointer (some ⟨g,0,none⟩))
 |.func f=>some (.func (.func f) #[] #[])
def Ot(e:Env):ac bi->am (ac be)
 |[]=>some []
 |x::xs=>match YG e x,Ot e xs with
  |some v,some vs=>some (v::vs)
  |_,_=>none
structure Fr(fr:aJ)(e:Env):Prop where
 pl:sG fr
 get:∀j v,po e j=some v->fr.tmp j=v
variable{fr:aJ}{e:Env}
def Fr.ai(h:Fr fr e){x:bi}{v:be}(J:YG e x=some v):fr.ai x=v:=by
 cases x with
 |tmp j=>exact h.get j v J
 |const w=>cases J;rfl
 |global g=>cases J;rfl
 |func f=>cases J;rfl
theorem Fr.er{fr:aJ}{e:Env}(h:Fr fr e):∀{xs:ac bi} {vs:ac be},Ot e xs=some vs->er fr xs=vs
 |[],vs,J=>by cases J;rfl
 |x::xs,vs,J=>by
  unfold Ot at J;split at J
  ·rename_i v ws h1 h2;cases J;rw[ahH,h.ai h1,h.er h2]
  ·cases J
def Fr.put(h:Fr fr e)(d:Tmp)(v:be):Fr (fr.put (some d) v) ((d,v)::e):=by
 refine⟨h.pl.put _ _,fun j w hj=> ?_⟩;unfold po at hj;rw[zS];cases hb:Nat.beq d j with
 |true=>
  rw[hb]at hj;rw[zab (eo hb).symm];exact Option.some.inj hj
 |false=>
  rw[hb]at hj;rw[zaa (fun e=>by rw[e,zaN]at hb;cases hb)];exact h.get j w hj
def gN(L:ac Nat)(e:Env):Env:=e.filter fun p=>L.any (Nat.beq p.1)
theorem IB(L:ac Nat):∀(e:Env) (j:Nat) (v:be),po (gN L e) j=some v->po e j=some v
 |[],_,_,h=>by cases h
 |p::e,j,v,h=>by
  unfold gN at h;rw[zdd]at h;unfold po;split at h
  ·unfold po at h;cases hb:Nat.beq p.1 j with
   |true=>rw[hb]at h;exact h
   |false=>rw[hb]at h;exact IB L e j v h
  ·rename_i hn;cases hb:Nat.beq p.1 j with
   |true=>
    exfalso;have hj:∀e:Env,po (gN L e) j≠some v:=by
     intro e
     induction e with
     |nil=>intro h;cases h
     |cons q e a1=>
      unfold gN;rw[zdd];split
      ·rename_i hq;unfold po;cases hc:Nat.beq q.1 j with
       |true=>
        exfalso;rw[eo hc,<-eo hb]at hq;exact hn hq
       |false=>exact a1
      ·exact a1
    exact hj e h
   |false=>exact IB L e j v h
theorem Fr.gN{fr:aJ}{e:Env}(h:Fr fr e)(L:ac Nat):Fr fr (gN L e):=⟨h.pl,fun j v hj=>h.get j v (IB L e j v hj)⟩
abbrev ad1:=dM->Env->au->Prop
end Go.ah
namespace Go.ah
open Sym
variable{X:Ctx}
theorem Ll:∀(vs:ac be) (i:Nat) (t:an be) (j:Nat),(oi vs i t).get j=if i<=j∧j<i+vs.length then vs[j-i]? else t.get j
 |[],i,t,j=>by rw[zaa (by simp)];rfl
 |v::vs,i,t,j=>by
  have e:oi (v::vs) i t=oi vs (i+1) (t.set i v):=by
   show an.jl (Nat.succ i) t i v (fun t=>oi vs (Nat.succ i) t)=_;rw[an.zM]
  rw[e,Ll vs (i+1) _ j,an.e8];by_cases hk:j=i
  ·subst hk;rw[zaa (by omega),zab rfl,zab (by simp)];simp
  ·rw[zaa hk];by_cases h1:i+1<=j∧j<i+1+vs.length
   ·rw[zab h1,zab (by simp;omega)];have:j-i=(j-(i+1))+1:=by omega
    rw[this];simp
   ·rw[zaa h1,zaa (by simp;omega)]
def G3:Nat->ac be->Env
 |_,[]=>[]
 |i,v::vs=>(i,v)::G3 (i+1) vs
theorem TU:∀(vs:ac be) (i j:Nat) (v:be),po (G3 i vs) j=some v->i<=j∧vs[j-i]? =some v
 |[],_,_,_,h=>by cases h
 |w::vs,i,j,v,h=>by
  unfold G3 po at h;cases hb:Nat.beq i j with
  |true=>
   rw[hb]at h;have:=eo hb;subst this;cases h;exact⟨b6 _,by simp⟩
  |false=>
   rw[hb]at h;obtain⟨h1,h2⟩:=TU vs (i+1) j v h;refine⟨by omega,?_⟩;have:j-i=(j-(i+1))+1:=by omega
   rw[this];simpa using h2
def Fr.zero(vs:ac be):Fr (fS vs) (G3 0 vs):=by
 refine⟨sG.zero _,fun j v h=> ?_⟩;obtain⟨_,h2⟩:=TU vs 0 j v h;have hj:j<vs.length:=by
  rcases zao j vs.length with h|h
  ·exact h
  ·rw[zbi (by omega)]at h2;cases h2
 show Option.rec (motive:=fun _=>be) _ _ ((oi vs 0 .nil).get j)=v;rw[Ll,zab (by omega),h2]
end Go.ah
namespace Go.ah
open Sym
section
variable{call:bG}{fr:aJ}{st:au}{x y i:bi}
variable{k:d8}{m n:Nat}
def BK{op:BinOp}{m n:Int}{v:be}(h1:op≠.shl)(h2:op≠.shr)(h:fr.ai x= .int k m)(aC:fr.ai y= .int k n)(aB:r5 op k m n=some v):bK call (.bin op x y) fr st= .ok v fr st:=by
 rw[EY,h,aC,Mt];have:AQ op k m k n (fun v=>aV.ok v fr st)=cond (kG k k) (Ao op k m n (fun v=>aV.ok v fr st)) .no:=by
  cases op<;>first|rfl|(exact absurd rfl h1)|(exact absurd rfl h2)
 rw[this,anV,Lv,aB];rfl
def ZH(h:fr.ai x= .int k (m:Int))(aC:fr.ai y= .int k (n:Int))(hn:n≠0):bK call (.bin .quo x y) fr st= .ok (.int k (k.wrap ((m/n:Nat):Int))) fr st:=
 BK (by decide) (by decide) h aC (by
  show(if(n:Int)=0 then none else _)=_;rw[zaa (by omega)];rfl)
def apt(h:fr.ai x= .int k (m:Int))(aC:fr.ai y= .int k (n:Int))(hn:n≠0):bK call (.bin .rem x y) fr st= .ok (.int k ((m%n:Nat):Int)) fr st:=
 BK (by decide) (by decide) h aC (by
  show(if(n:Int)=0 then none else _)=_;rw[zaa (by omega)];rfl)
end
theorem Oh(L:ac Nat):∀(e:Env) (j:Nat) (v:be),po (gN L e) j=some v->L.contains j=true
 |[],_,_,h=>by cases h
 |p::e,j,v,h=>by
  unfold gN at h;rw[zdd]at h;by_cases hp:L.any (Nat.beq p.1)=true
  ·rw[zab hp]at h;unfold po at h;cases hb:Nat.beq p.1 j with
   |true=>
    have:=eo hb;subst this;obtain⟨x,J,bP⟩:=zez.1 hp;rw[eo bP];simpa using J
   |false=>rw[hb]at h;exact Oh L e j v h
  ·rw[zaa hp]at h;exact Oh L e j v h
def Fr.only{fr:aJ}{e:Env}(h:Fr fr e)(ts:ac Tmp):Fr (fr.only ts) (Go.ah.gN ts e):=
 ⟨⟨rfl,rfl,rfl⟩,fun j v hj=>O (h.get j v (IB ts e j v hj)) (Oh ts e j v hj)⟩
section
variable{call:bG}{cc:Nat}{fn:ci}{e:Env}{st:au}{Q:ad1}
variable{fr:aJ}{t:Tmp}{b:Bool}{yes ig z:cU}
def Rh(h:fr.tmp t= .bool b):h7 fr (some (t,b)) yes ig z=yes:=by
 show oc (fr.tmp t) (fun c=>cond c (cond b yes ig) (cond b ig yes)) _=_;rw[h];cases b<;>rfl
def auH(h:fr.tmp t= .bool (!b)):h7 fr (some (t,b)) yes ig z=ig:=by
 show oc (fr.tmp t) (fun c=>cond c (cond b yes ig) (cond b ig yes)) _=_;rw[h];cases b<;>rfl
end
end Go.ah
namespace Go.ah
inductive ae:Type 1
 |i (k:IntKind) (n:Int)
 |b (t:Bool)
 |s (l:List UInt8)
 |nl
 |v (x:Value)
 |p (k o:Nat)
 |gp (k z j o:Nat)
 |aN (k z o n c:Nat)
 |aZ (z:Nat) (α:Type) (R:α->List ae) (l:List α)
 |ko (z:Nat) (α:Type) (R:α->List ae) (l:List α)
 |bb (z:Nat) (α:Type) (R:α->List ae) (l:List α)
 |ip (cs:List ae)
 |fn (f:Fn) (cj cs:List ae)
 |agg (cs:List ae)
 |bM (cs:List ae)
 |bad
abbrev bu:=Nat->am bt
mutual
def den(H:bu):ae->ac Nat->be->Prop
 |.i k n,_,v=>v= .int k n
 |.b t,_,v=>v= .bool t
 |.s l,_,v=>v= .string ⟨⟨l⟩⟩
 |.nl,_,v=>v= .slice none 0 0
 |.v x,_,v=>v=x
 |.p k o,ids,v=>∃b,ids[k]? =some b∧v= .pointer (some ⟨b,o,none⟩)
 |.gp k z j o,ids,v=>∃b,ids[k]? =some b∧v= .pointer (some ⟨b,j*z+o,none⟩)
 |.aN k z o n c,ids,v=>∃b,ids[k]? =some b∧v= .slice (some ⟨b,o*z,none⟩) n c
 |.aZ z _ R l,_,v=>(l=[]∧v= .slice none 0 0)∨∃b o c vs el bk a3,v= .slice (some ⟨b,o,none⟩) l.length c∧l.length<=c∧H b=some (.cells vs el bk a3)∧∀i x,l[i]? =some x->dH H (R x) [] ((vs.drop (o+i*z)).take z)
 |.ko z _ R l,_,v=>(l=[]∧v= .slice none 0 0)∨(l≠[]∧∃b o c vs el bk a3,v= .slice (some ⟨b,o,none⟩) l.length c∧l.length<=c∧H b=some (.cells vs el bk a3)∧∀i x,l[i]? =some x->dH H (R x) [] ((vs.drop (o+i*z)).take z))
 |.bb z _ R l,_,v=>(l=[]∧v= .chan none)∨(l=[]∧v= .slice none 0 0)∨∃b o c vs el bk a3,v= .slice (some ⟨b,o,none⟩) l.length c∧l.length<=c∧H b=some (.cells vs el bk a3)∧∀i x,l[i]? =some x->dH H (R x) [] ((vs.drop (o+i*z)).take z)
 |.ip cs,_,v=>∃b o vs el bk a3,v= .pointer (some ⟨b,o,none⟩)∧H b=some (.cells vs el bk a3)∧dH H cs [] ((vs.drop o).take cs.length)
 |.fn f cj cs,ids,v=>∃vs ws,v= .func f ⟨vs⟩ ⟨ws⟩∧dH H cj ids vs∧dH H cs ids ws
 |.agg cs,ids,v=>∃vs,v= .agg ⟨vs⟩∧dH H cs ids vs
 |.bM cs,ids,v=>∃vs,v= .tuple ⟨vs⟩∧dH H cs ids vs
 |.bad,_,_=>False
def dH(H:bu):ac ae->ac Nat->ac be->Prop
 |[],_,vs=>vs=[]
 |c::cs,ids,vs=>∃v ws,vs=v::ws∧den H c ids v∧dH H cs ids ws
end
def dj(H a5:bu):Prop:=∀b o,H b=some o->a5 b=some o
def dj.refl(H:bu):dj H H:=fun _ _ h=>h
def dj.trans{H a5 Rw:bu}(h:dj H a5)(aC:dj a5 Rw):dj H Rw:=fun b o e=>aC b o (h b o e)
def dk(i j:ac Nat):Prop:=∀k b:Nat,i[k]? =some b->j[k]? =some b
def dk.refl(i:ac Nat):dk i i:=fun _ _ h=>h
def dk.nil(i:ac Nat):dk [] i:=fun k b h=>by simp at h
def dk.app(i j:ac Nat):dk i (i++j):=fun k b h=>by
 rw[zbm (zaf.1 h).1];exact h
mutual
theorem sL{H a5:bu}(h:dj H a5):∀(a:ae) {i j:ac Nat} {v:be},dk i j->den H a i v->den a5 a j v
 |.i _ _,_,_,_,_,d=>d
 |.b _,_,_,_,_,d=>d
 |.s _,_,_,_,_,d=>d
 |.nl,_,_,_,_,d=>d
 |.v _,_,_,_,_,d=>d
 |.p _ _,_,_,_,aa,⟨b,e,d⟩=>⟨b,aa _ _ e,d⟩
 |.gp _ _ _ _,_,_,_,aa,⟨b,e,d⟩=>⟨b,aa _ _ e,d⟩
 |.aN _ _ _ _ _,_,_,_,aa,⟨b,e,d⟩=>⟨b,aa _ _ e,d⟩
 |.aZ _ _ _ _,_,_,_,_,.inl d=>.inl d
 |.aZ _ _ R _,_,_,_,_,.inr ⟨b,o,c,vs,el,bk,a3,aq,e2,bS,gK⟩=>.inr ⟨b,o,c,vs,el,bk,a3,aq,e2,h _ _ bS,fun i x J=>ni h (R x) (dk.refl _) (gK i x J)⟩
 |.ko _ _ _ _,_,_,_,_,.inl d=>.inl d
 |.ko _ _ R _,_,_,_,_,.inr ⟨hn,b,o,c,vs,el,bk,a3,aq,e2,bS,gK⟩=>.inr ⟨hn,b,o,c,vs,el,bk,a3,aq,e2,h _ _ bS,fun i x J=>ni h (R x) (dk.refl _) (gK i x J)⟩
 |.bb _ _ _ _,_,_,_,_,.inl d=>.inl d
 |.bb _ _ _ _,_,_,_,_,.inr (.inl d)=>.inr (.inl d)
 |.bb _ _ R _,_,_,_,_,.inr (.inr ⟨b,o,c,vs,el,bk,a3,aq,e2,bS,gK⟩)=>.inr (.inr ⟨b,o,c,vs,el,bk,a3,aq,e2,h _ _ bS,fun i x J=>ni h (R x) (dk.refl _) (gK i x J)⟩)
 |.ip cs,_,_,_,_,⟨b,o,vs,el,bk,a3,aq,e2,bS⟩=>⟨b,o,vs,el,bk,a3,aq,h _ _ e2,ni h cs (dk.refl _) bS⟩
 |.fn _ cj cs,_,_,_,aa,⟨vs,ws,e,d1,d2⟩=>⟨vs,ws,e,ni h cj aa d1,ni h cs aa d2⟩
 |.agg cs,_,_,_,aa,⟨vs,e,d⟩=>⟨vs,e,ni h cs aa d⟩
 |.bM cs,_,_,_,aa,⟨vs,e,d⟩=>⟨vs,e,ni h cs aa d⟩
 |.bad,_,_,_,_,d=>d.elim
theorem ni{H a5:bu}(h:dj H a5):∀(a:ac ae) {i j:ac Nat} {v:ac be},dk i j->dH H a i v->dH a5 a j v
 |[],_,_,_,_,d=>d
 |a::as,_,_,_,aa,⟨v,ws,e,d1,d2⟩=>⟨v,ws,e,sL h a aa d1,ni h as aa d2⟩
end
mutual
def m8(f:ac Nat):ae->ae
 |.p k o=>match f[k]? with|some j=>.p j o|none=>.bad
 |.gp k z j o=>match f[k]? with|some m=>.gp m z j o|none=>.bad
 |.aN k z o n c=>match f[k]? with|some m=>.aN m z o n c|none=>.bad
 |.fn g cj cs=>.fn g (n8 f cj) (n8 f cs)
 |.agg cs=>.agg (n8 f cs)
 |.bM cs=>.bM (n8 f cs)
 |.i k n=>.i k n
 |.b t=>.b t
 |.s l=>.s l
 |.nl=>.nl
 |.v x=>.v x
 |.aZ z α R l=>.aZ z α R l
 |.ko z α R l=>.ko z α R l
 |.bb z α R l=>.bb z α R l
 |.ip cs=>.ip cs
 |.bad=>.bad
def n8(f:ac Nat):ac ae->ac ae
 |[]=>[]
 |a::as=>m8 f a::n8 f as
end
def pick(f ids:ac Nat):ac Nat:=f.map (fun k=>(ids[k]?).getD 0)
def w3{f ids:ac Nat}{k m b:Nat}(U:f[k]? =some m)(hb:ids[m]? =some b):(pick f ids)[k]? =some b:=by
 unfold pick;rw[zdf,U];simp[hb]
mutual
theorem Mc{H:bu}(f:ac Nat){ids:ac Nat}:∀(a:ae) {v:be},den H (m8 f a) ids v->den H a (pick f ids) v
 |.i _ _,_,d=>d
 |.b _,_,d=>d
 |.s _,_,d=>d
 |.nl,_,d=>d
 |.v _,_,d=>d
 |.p k o,v,d=>by
  unfold m8 at d;cases h:f[k]? with
  |none=>rw[h]at d;exact d.elim
  |some j=>rw[h]at d;obtain⟨b,e,d⟩:=d;exact⟨b,w3 h e,d⟩
 |.gp k z j o,v,d=>by
  unfold m8 at d;cases h:f[k]? with
  |none=>rw[h]at d;exact d.elim
  |some j=>rw[h]at d;obtain⟨b,e,d⟩:=d;exact⟨b,w3 h e,d⟩
 |.aN k z o n c,v,d=>by
  unfold m8 at d;cases h:f[k]? with
  |none=>rw[h]at d;exact d.elim
  |some j=>rw[h]at d;obtain⟨b,e,d⟩:=d;exact⟨b,w3 h e,d⟩
 |.aZ _ _ _ _,_,d=>d
 |.ko _ _ _ _,_,d=>d
 |.bb _ _ _ _,_,d=>d
 |.ip _,_,d=>d
 |.fn _ cj cs,_,⟨vs,ws,e,d1,d2⟩=>⟨vs,ws,e,ui f cj d1,ui f cs d2⟩
 |.agg cs,_,⟨vs,e,d⟩=>⟨vs,e,ui f cs d⟩
 |.bM cs,_,⟨vs,e,d⟩=>⟨vs,e,ui f cs d⟩
 |.bad,_,d=>d.elim
theorem ui{H:bu}(f:ac Nat){ids:ac Nat}:∀(a:ac ae) {v:ac be},dH H (n8 f a) ids v->dH H a (pick f ids) v
 |[],_,d=>d
 |a::as,_,⟨v,ws,e,d1,d2⟩=>⟨v,ws,e,Mc f a d1,ui f as d2⟩
end
mutual
def q9:ae->Bool
 |.p _ _|.gp _ _ _ _|.aN _ _ _ _ _=>false
 |.fn _ cj cs=>jk cj&&jk cs
 |.agg cs=>jk cs
 |.bM cs=>jk cs
 |_=>true
def jk:ac ae->Bool
 |[]=>true
 |a::as=>q9 a&&jk as
end
mutual
theorem GQ{H:bu}{ids:ac Nat}:∀(a:ae) {v:be},q9 a=true->den H a ids v->∀j,den H a j v
 |.i _ _,_,_,d,_=>d
 |.b _,_,_,d,_=>d
 |.s _,_,_,d,_=>d
 |.nl,_,_,d,_=>d
 |.v _,_,_,d,_=>d
 |.p _ _,_,h,_,_=>by cases h
 |.gp _ _ _ _,_,h,_,_=>by cases h
 |.aN _ _ _ _ _,_,h,_,_=>by cases h
 |.aZ _ _ _ _,_,_,d,_=>d
 |.ko _ _ _ _,_,_,d,_=>d
 |.bb _ _ _ _,_,_,d,_=>d
 |.ip _,_,_,d,_=>d
 |.fn _ cj cs,_,h,⟨vs,ws,e,d1,d2⟩,j=>by
  have h:(jk cj&&jk cs)=true:=h;rw[b4]at h;exact⟨vs,ws,e,sN cj h.1 d1 j,sN cs h.2 d2 j⟩
 |.agg cs,_,h,⟨vs,e,d⟩,j=>⟨vs,e,sN cs h d j⟩
 |.bM cs,_,h,⟨vs,e,d⟩,j=>⟨vs,e,sN cs h d j⟩
 |.bad,_,_,d,_=>d.elim
theorem sN{H:bu}{ids:ac Nat}:∀(a:ac ae) {v:ac be},jk a=true->dH H a ids v->∀j,dH H a j v
 |[],_,_,d,_=>d
 |a::as,_,h,⟨v,ws,e,d1,d2⟩,j=>by
  have h:(q9 a&&jk as)=true:=h;rw[b4]at h;exact⟨v,ws,e,GQ a h.1 d1 j,sN as h.2 d2 j⟩
end
variable{v:be}
def tW:ae->Bool
 |.v x=>nQ x
 |.agg _|.bM _|.bad=>false
 |_=>true
def rH:ac ae->Bool
 |[]=>true
 |a::as=>tW a&&rH as
def SJ{H:bu}{ids:ac Nat}{a:ae}(h:tW a=true)(d:den H a ids v):nQ v=true:=by
 cases a<;>first
  |(cases h;done)
  |(obtain⟨b,_,rfl⟩:=d;rfl;done)
  |(rcases d with⟨_,rfl⟩|⟨b,o,c,_,_,_,_,rfl,_⟩<;>rfl;done)
  |(rcases d with⟨_,rfl⟩|⟨_,b,o,c,_,_,_,_,rfl,_⟩<;>rfl;done)
  |(rcases d with⟨_,rfl⟩|⟨_,rfl⟩|⟨b,o,c,_,_,_,_,rfl,_⟩<;>rfl;done)
  |(obtain⟨b,o,c,_,_,_,rfl,_⟩:=d;rfl;done)
  |(obtain⟨b,_,rfl,_⟩:=d;rfl;done)
  |(have kB:=d;unfold den at kB;subst kB;first|rfl|exact h)
def ae6(h:nQ v=true):jr v=[v]:=by
 cases v<;>first|rfl|cases h
theorem C0{H:bu}{ids:ac Nat}:∀{as:ac ae} {vs:ac be},rH as=true->dH H as ids vs->h8 vs=true
 |[],_,_,d=>by cases d;rfl
 |a::as,_,h,⟨v,ws,e,d1,d2⟩=>by
  subst e;have h:(tW a&&rH as)=true:=h;rw[b4]at h;show cond (nQ v) (h8 ws) false=true;rw[SJ h.1 d1,C0 h.2 d2];rfl
theorem iF{H:bu}{ids:ac Nat}:∀{as:ac ae} {vs:ac be},dH H as ids vs->vs.length=as.length
 |[],_,d=>by cases d;rfl
 |a::as,_,⟨v,ws,e,d1,d2⟩=>by subst e;simp[iF d2]
theorem v8{H:bu}{ids:ac Nat}:∀{as:ac ae} {vs:ac be} {k:Nat} {a:ae},dH H as ids vs->as[k]? =some a->∃v,vs[k]? =some v∧den H a ids v
 |[],_,_,_,_,h=>by simp at h
 |a::as,_,0,_,⟨v,ws,e,d1,d2⟩,h=>by subst e;simp at h;subst h;exact⟨v,rfl,d1⟩
 |a::as,_,k+1,c,⟨v,ws,e,d1,d2⟩,h=>by
  subst e;obtain⟨u,h1,h2⟩:=v8 (k:=k) (a:=c) d2 (by simpa using h);exact⟨u,by simpa using h1,h2⟩
theorem sM{H:bu}{ids:ac Nat}:∀{as bs:ac ae} {vs ws:ac be},dH H as ids vs->dH H bs ids ws->dH H (as++bs) ids (vs++ws)
 |[],_,_,_,d,kB=>by cases d;exact kB
 |a::as,_,_,_,⟨v,ws,e,d1,d2⟩,kB=>by subst e;exact⟨v,_,rfl,d1,sM d2 kB⟩
theorem o6{H:bu}{ids:ac Nat}:∀{as:ac ae} {vs:ac be} (n:Nat),dH H as ids vs->dH H (as.drop n) ids (vs.drop n)
 |_,_,0,d=>d
 |[],_,n+1,d=>by cases d;exact rfl
 |a::as,_,n+1,⟨v,ws,e,d1,d2⟩=>by subst e;exact o6 n d2
theorem uj{H:bu}{ids:ac Nat}:∀{as:ac ae} {vs:ac be} (n:Nat),dH H as ids vs->dH H (as.take n) ids (vs.take n)
 |_,_,0,d=>rfl
 |[],_,n+1,d=>by cases d;exact rfl
 |a::as,_,n+1,⟨v,ws,e,d1,d2⟩=>by subst e;exact⟨v,_,rfl,d1,uj n d2⟩
def bV(a b:ae):Prop:=∀(H:bu) (i:ac Nat) (v:be),den H a i v->den H b i v
variable{z:Nat}{α:Type}{a b:ae}{as:ac ae}{R:α->ac ae}{l:ac α}
def ik:ac ae->ac ae->Prop
 |[],[]=>True
 |a::as,b::bs=>bV a b∧ik as bs
 |_,_=>False
def bV.refl(a:ae):bV a a:=fun _ _ _ d=>d
def bV.of(h:a=b):bV a b:=h▸bV.refl a
def ik.refl:∀l:ac ae,ik l l
 |[]=>trivial
 |a::as=>⟨bV.refl a,ik.refl as⟩
def ik.den{H:bu}{i:ac Nat}:∀{as bs:ac ae} {vs:ac be},ik as bs->dH H as i vs->dH H bs i vs
 |[],[],_,_,d=>d
 |[],_::_,_,h,_=>h.elim
 |_::_,[],_,h,_=>h.elim
 |_::_,_::_,_,⟨h1,h2⟩,⟨v,ws,e,d1,d2⟩=>⟨v,ws,e,h1 _ _ _ d1,ik.den h2 d2⟩
def bV.agg{bs:ac ae}(h:ik as bs):bV (.agg as) (.agg bs):=fun _ _ _ ⟨vs,e,d⟩=>⟨vs,e,h.den d⟩
def bV.bM{bs:ac ae}(h:ik as bs):bV (.bM as) (.bM bs):=fun _ _ _ ⟨vs,e,d⟩=>⟨vs,e,h.den d⟩
def bV.nl:bV .nl (.aZ z α R []):=fun _ _ _ d=>.inl ⟨rfl,d⟩
def bV.se:bV .nl (.ko z α R []):=fun _ _ _ d=>.inl ⟨rfl,d⟩
def bV.ga(h:l≠[]):bV (.bb z α R l) (.aZ z α R l):=fun _ _ _ d=>d.elim (fun d=>absurd d.1 h) id
def bV.bb:bV (.aZ z α R l) (.bb z α R l):=fun _ _ _ d=>.inr d
def bV.au1:bV (.ko z α R l) (.aZ z α R l):=fun _ _ _ d=>d.elim .inl (fun d=>.inr d.2)
def bV.ko(h:l≠[]):bV (.aZ z α R l) (.ko z α R l):=fun _ _ _ d=>d.elim .inl (fun d=>.inr ⟨h,d⟩)
def bV.trans{c:ae}(h:bV a b)(aC:bV b c):bV a c:=fun H i v d=>aC H i v (h H i v d)
open Sym
section
abbrev bJ:=ac (Nat×ae)
def dR:bJ->Nat->am ae
 |[],_=>none
 |(i,a)::l,j=>cond (Nat.beq i j) (some a) (dR l j)
def tg(p:Nat×ae)(l:bJ)(j:Nat):dR (p::l) j=cond (Nat.beq p.1 j) (some p.2) (dR l j):=rfl
def BL:be->ae
 |.int k n=>.i k n
 |.bool t=>.b t
 |.string ⟨⟨l⟩⟩=>.s l
 |.slice none 0 0=>.nl
 |x=>.v x
def vk:ac be->ac ae
 |[]=>[]
 |v::vs=>BL v::vk vs
def ej:be->ae
 |.agg ⟨l⟩=>.agg (vk l)
 |x=>BL x
def agu(H:bu)(ids:ac Nat)(v:be):den H (BL v) ids v:=by
 unfold BL;split<;>rfl
theorem v9(H:bu)(ids:ac Nat):∀vs:ac be,dH H (vk vs) ids vs
 |[]=>rfl
 |v::vs=>⟨v,vs,rfl,agu H ids v,v9 H ids vs⟩
def O4:be->am ae
 |.agg ⟨l⟩=>some (.agg (vk l))
 |.int k n=>some (.i k n)
 |.bool t=>some (.b t)
 |.string ⟨⟨l⟩⟩=>some (.s l)
 |.slice none 0 0=>some .nl
 |.tuple ⟨[]⟩=>some (.bM [])
 |x=>some (.v x)
def apw(h:O4 v=some a)(H:bu)(ids:ac Nat):den H a ids v:=by
 unfold O4 at h;split at h<;>cases h
 ·exact⟨_,rfl,v9 H ids _⟩
 all_goals first|rfl|exact⟨[],rfl,rfl⟩
def br(e:bJ):bi->am ae
 |.tmp j=>dR e j
 |.const v=>O4 v
 |.global g=>some (.v (.pointer (some ⟨g,0,none⟩)))
 |.func f=>some (.v (.func (.func f) #[] #[]))
def k6(e:bJ):ac bi->am (ac ae)
 |[]=>some []
 |x::xs=>match br e x with
  |some a=>match k6 e xs with
   |some as=>some (a::as)
   |none=>none
  |none=>none
structure c1(fr:aJ)(H:bu)(ids:ac Nat)(e:bJ):Prop where
 pl:sG fr
 get:∀j a,dR e j=some a->den H a ids (fr.tmp j)
variable{fr:aJ}{H:bu}{ids:ac Nat}{e:bJ}
def c1.ai(h:c1 fr H ids e){x:bi}(J:br e x=some a):den H a ids (fr.ai x):=by
 cases x with
 |tmp j=>exact h.get j a J
 |const w=>exact apw J H ids
 |global g=>cases J;rfl
 |func f=>cases J;rfl
theorem c1.er{fr:aJ}{H:bu}{ids:ac Nat}{e:bJ}(h:c1 fr H ids e):∀{xs:ac bi} {as:ac ae},k6 e xs=some as->dH H as ids (er fr xs)
 |[],_,J=>by cases J;rfl
 |x::xs,_,J=>by
  unfold k6 at J;cases h1:br e x with
  |none=>rw[h1]at J;cases J
  |some a=>
   cases h2:k6 e xs with
   |none=>rw[h1,h2]at J;cases J
   |some as=>
    rw[h1,h2]at J;cases J;exact⟨_,_,rfl,h.ai h1,h.er h2⟩
def c1.put(h:c1 fr H ids e)(d:Tmp)(aB:den H a ids v):c1 (fr.put (some d) v) H ids ((d,a)::e):=by
 refine⟨h.pl.put _ _,fun j w hj=> ?_⟩;rw[tg]at hj;rw[zS];cases hb:Nat.beq d j with
 |true=>
  rw[hb]at hj;rw[zab (eo hb).symm];cases hj;exact aB
 |false=>
  rw[hb]at hj;rw[zaa (fun e=>by rw[e,zaN]at hb;cases hb)];exact h.get j w hj
def lV(d:Nat):bJ->bJ
 |[]=>[]
 |p::l=>cond (Nat.beq p.1 d) (lV d l) (p::lV d l)
theorem IA(d:Nat):∀(e:bJ) (j:Nat) (a:ae),dR (lV d e) j=some a->j≠d∧dR e j=some a
 |[],_,_,h=>by cases h
 |p::e,j,a,h=>by
  unfold lV at h;cases hb:Nat.beq p.1 d with
  |true=>
   rw[hb]at h;obtain⟨h1,h2⟩:=IA d e j a h;refine⟨h1,?_⟩;rw[tg];have:Nat.beq p.1 j=false:=by
    cases hc:Nat.beq p.1 j with
    |false=>rfl
    |true=>exact absurd ((eo hc).symm.trans (eo hb)) h1
   rw[this];exact h2
  |false=>
   rw[hb]at h;have h:cond (Nat.beq p.1 j) (some p.2) (dR (lV d e) j)=some a:=h;rw[tg];cases hc:Nat.beq p.1 j with
   |true=>
    rw[hc]at h;refine⟨fun e=> ?_,h⟩;rw[<-e,hc]at hb;cases hb
   |false=>rw[hc]at h;exact IA d e j a h
def c1.agO(h:c1 fr H ids e)(d:Tmp)(v:be):c1 (fr.put (some d) v) H ids (lV d e):=by
 refine⟨h.pl.put _ _,fun j w hj=> ?_⟩;obtain⟨h1,h2⟩:=IA d e j w hj;rw[zS,zaa h1];exact h.get j w h2
def c1.mono{a5:bu}{bO:ac Nat}(h:c1 fr H ids e)(hh:dj H a5)(aa:dk ids bO):c1 fr a5 bO e:=⟨h.pl,fun j a hj=>sL hh a aa (h.get j a hj)⟩
def fh(L:ac Nat):bJ->bJ
 |[]=>[]
 |p::l=>cond (L.any (Nat.beq p.1)) (p::fh L l) (fh L l)
theorem Oq(L:ac Nat):∀(e:bJ) (j:Nat) (a:ae),dR (fh L e) j=some a->L.contains j=true∧dR e j=some a
 |[],_,_,h=>by cases h
 |p::e,j,a,h=>by
  unfold fh at h;cases hb:L.any (Nat.beq p.1)with
  |true=>
   rw[hb]at h;have h:cond (Nat.beq p.1 j) (some p.2) (dR (fh L e) j)=some a:=h;rw[tg];cases hc:Nat.beq p.1 j with
   |true=>
    rw[hc]at h;refine⟨?_,h⟩;obtain⟨x,J,bP⟩:=zez.1 hb;rw[<-eo hc,eo bP];simpa using J
   |false=>rw[hc]at h;exact Oq L e j a h
  |false=>
   rw[hb]at h;obtain⟨h1,h2⟩:=Oq L e j a h;refine⟨h1,?_⟩;rw[tg];have:Nat.beq p.1 j=false:=by
    cases hc:Nat.beq p.1 j with
    |false=>rfl
    |true=>
     rw[eo hc]at hb;rw[List.any_eq_false]at hb;exact absurd (zaN j) (hb j (by simpa using h1))
   rw[this];exact h2
def c1.only(h:c1 fr H ids e)(ts:ac Tmp):c1 (fr.only ts) H ids (fh ts e):=
 ⟨⟨rfl,rfl,rfl⟩,fun j a hj=>by
   obtain⟨h1,h2⟩:=Oq ts e j a hj;have:=O (ts:=ts) (fr:=fr) (j:=j) (x:=fr.tmp j) rfl h1;rw[G8]at this;rw[this];exact h.get j a h2⟩
def rC(op:BinOp)(k:d8)(a b:Int):am ae:=
 match op with
 |.add=>some (.i k (k.wrap (a+b)))
 |.sub=>some (.i k (k.wrap (a-b)))
 |.mul=>some (.i k (k.wrap (a*b)))
 |.quo=>if b=0 then none else some (.i k (k.wrap (a.tdiv b)))
 |.rem=>if b=0 then none else some (.i k (a.tmod b))
 |.and=>some (.i k (k.wrap (BitVec.ofInt k.bits a&&&BitVec.ofInt k.bits b).toNat))
 |.or=>some (.i k (k.wrap (BitVec.ofInt k.bits a|||BitVec.ofInt k.bits b).toNat))
 |.xor=>some (.i k (k.wrap (BitVec.ofInt k.bits a^^^BitVec.ofInt k.bits b).toNat))
 |.andNot=>some (.i k (k.wrap (BitVec.ofInt k.bits a&&& ~~~(BitVec.ofInt k.bits b)).toNat))
 |.eql=>some (.b (decide (a=b)))
 |.neq=>some (.b (decide (a≠b)))
 |.lss=>some (.b (decide (a<b)))
 |.leq=>some (.b (decide (a<=b)))
 |.gtr=>some (.b (decide (b<a)))
 |.geq=>some (.b (decide (b<=a)))
 |_=>none
def Aj(op:BinOp)(k:d8)(M:Nat)(a b:Int):am ae:=
 match op with
 |.add=>match a,b with
  |.ofNat m,.ofNat n=>some (.i k (((m+n)%M:Nat):Int))
  |a,b=>rC .add k a b
 |.sub=>match a,b with
  |.ofNat m,.ofNat n=>some (.i k (((m+(M*n-n))%M:Nat):Int))
  |a,b=>rC .sub k a b
 |.mul=>match a,b with
  |.ofNat m,.ofNat n=>some (.i k ((m*n%M:Nat):Int))
  |a,b=>rC .mul k a b
 |.quo=>match a,b with
  |.ofNat m,.ofNat n=>if n=0 then none else some (.i k ((m/n%M:Nat):Int))
  |a,b=>rC .quo k a b
 |.rem=>match a,b with
  |.ofNat m,.ofNat n=>if n=0 then none else some (.i k ((m%n:Nat):Int))
  |a,b=>rC .rem k a b
 |.and=>match a,b with
  |.ofNat m,.ofNat n=>some (.i k (((m%M)&&&(n%M):Nat):Int))
  |a,b=>rC .and k a b
 |.or=>match a,b with
  |.ofNat m,.ofNat n=>some (.i k (((m%M)|||(n%M):Nat):Int))
  |a,b=>rC .or k a b
 |op=>rC op k a b
def K9(op:BinOp)(k:d8)(a b:Int):am ae:=
 match k with
 |.u8=>Aj op .u8 256 a b
 |.u16=>Aj op .u16 65536 a b
 |.u32=>Aj op .u32 4294967296 a b
 |.u64=>Aj op .u64 18446744073709551616 a b
 |k=>rC op k a b
def Ak(k:d8)(M:Nat)(n:Int):am ae:=
 match n with
 |.ofNat m=>some (.i k ((m%M:Nat):Int))
 |n=>some (.i k (k.wrap n))
def Lb(k:d8)(n:Int):am ae:=
 match k with
 |.u8=>Ak .u8 256 n
 |.u16=>Ak .u16 65536 n
 |.u32=>Ak .u32 4294967296 n
 |.u64=>Ak .u64 18446744073709551616 n
 |k=>some (.i k (k.wrap n))
def An(k:d8)(M:Nat)(a b:Int):am ae:=
 match a,b with
 |.ofNat m,.ofNat n=>some (.i k ((m*2^n%M:Nat):Int))
 |_,_=>none
def Lq(k:d8)(a b:Int):am ae:=
 match b with
 |.ofNat n=>match Nat.ble n k.bits with
  |true=>some (.i k (k.wrap (a*2^n)))
  |false=>none
 |_=>none
def Lp(k:d8)(a b:Int):am ae:=
 match k with
 |.u8=>An .u8 256 a b
 |.u16=>An .u16 65536 a b
 |.u32=>An .u32 4294967296 a b
 |.u64=>An .u64 18446744073709551616 a b
 |k=>Lq k a b
def Lr(k:d8)(a b:Int):am ae:=
 match b with
 |.ofNat n=>match Nat.ble n k.bits with
  |true=>match a with
   |.ofNat m=>some (.i k ((m/2^n:Nat):Int))
   |a=>some (.i k (a.fdiv (2^n)))
  |false=>none
 |_=>none
def RC(op:BinOp)(k k':d8)(a b:Int):am ae:=
 match op with
 |.shl=>Lp k a b
 |.shr=>Lr k a b
 |op=>match kG k k' with
  |true=>K9 op k a b
  |false=>none
def La(op:BinOp):ae->ae->am ae
 |.i k a,.i k' b=>RC op k k' a b
 |.s x,.s y=>match op with
  |.eql=>some (.b (x==y))
  |.neq=>some (.b (!(x==y)))
  |_=>none
 |_,_=>none
def Ls(op:UnOp):ae->am ae
 |.i k n=>match op with
  |.neg=>some (.i k (k.wrap (-n)))
  |.xor=>some (.i k (k.wrap (BitVec.ofInt k.bits (if k.signed then -1 else k.max)^^^BitVec.ofInt k.bits n).toNat))
  |_=>none
 |.b t=>match op with
  |.not=>some (.b (!t))
  |_=>none
 |_=>none
def ng(neg:Bool)(b:Bool):Bool:=cond neg (!b) b
def Ld(neg:Bool):pC->ae->ae->am ae
 |.tu,.b x,.b y=>some (.b (ng neg (x==y)))
 |.tu,.i k x,.i k' y=>match kG k k' with
  |true=>some (.b (ng neg (decide (x=y))))
  |false=>none
 |.tu,.s x,.s y=>some (.b (ng neg (x==y)))
 |.sd,.nl,.nl=>some (.b (ng neg true))
 |.sd,.ko _ _ _ l,.nl=>some (.b (ng neg l.isEmpty))
 |.sd,.aN _ _ _ _ _,.nl=>some (.b (ng neg false))
 |.sd,.nl,.aN _ _ _ _ _=>some (.b (ng neg false))
 |.ptr,.p _ _,.v (.pointer none)=>some (.b (ng neg false))
 |.ptr,.gp _ _ _ _,.v (.pointer none)=>some (.b (ng neg false))
 |.ptr,.ip _,.v (.pointer none)=>some (.b (ng neg false))
 |.wQ,.fn _ _ _,.v .nilFunc=>some (.b (ng neg false))
 |_,_,_=>none
def Gd(e:bJ)(k:d8):ac bi->Int->am ae
 |[],m=>some (.i k m)
 |x::xs,m=>match br e x with
  |some (.i k' y)=>match kG k k' with
   |true=>Gd e k xs (max m y)
   |false=>none
  |_=>none
def Ge(e:bJ)(k:d8):ac bi->Int->am ae
 |[],m=>some (.i k m)
 |x::xs,m=>match br e x with
  |some (.i k' y)=>match kG k k' with
   |true=>Ge e k xs (min m y)
   |false=>none
  |_=>none
def Kw{β:Type _}:ac ae->Nat->(ac ae->am β)->am β
 |_,0,K=>K []
 |[],_+1,_=>none
 |a::as,n+1,K=>Kw as n fun r=>K (a::r)
def Ez:ac ae->Nat->Bool
 |[],0=>true
 |_::as,n+1=>Ez as n
 |_,_=>false
def vY{β:Type _}(cs:ac ae)(o n:Nat)(K:ac ae->am β):am β:=
 match o with
 |0=>match Ez cs n with
  |true=>K cs
  |false=>Kw cs n K
 |o=>Kw (cs.drop o) n K
def Jt(il:Bool):ac ae->am ae
 |[a]=>match il with
  |true=>some (.agg [a])
  |false=>some a
 |cs=>match il with
  |true=>some (.agg cs)
  |false=>none
def Li(e:bJ):de->am ae
 |.m3 x=>br e x
 |.kI x=>br e x
 |.bin op x y=>match br e x with
  |some a=>match br e y with
   |some b=>La op a b
   |none=>none
  |none=>none
 |.eqv neg t x y=>match br e x with
  |some a=>match br e y with
   |some b=>Ld neg t a b
   |none=>none
  |none=>none
 |.un op x=>match br e x with
  |some a=>Ls op a
  |none=>none
 |.tZ k x=>match br e x with
  |some (.i _ n)=>Lb k n
  |_=>none
 |.xV x=>match br e x with
  |some (.s l)=>some (.s l)
  |_=>none
 |.vb f cj cs=>match k6 e cj with
  |some as=>match k6 e cs with
   |some bs=>some (.fn f as bs)
   |none=>none
  |none=>none
 |.yc x i=>match br e x with
  |some (.bM vs)=>vs[i]?
  |_=>none
 |.p8 x=>match br e x with
  |some .nl=>some (.i .i64 0)
  |some (.aN _ _ _ n _)=>some (.i .i64 (n:Int))
  |some (.aZ _ _ _ l)=>some (.i .i64 (l.length:Int))
  |some (.ko _ _ _ l)=>some (.i .i64 (l.length:Int))
  |some (.bb _ _ _ l)=>some (.i .i64 (l.length:Int))
  |_=>none
 |.u7 x=>match br e x with
  |some (.s l)=>some (.i .i64 (l.length:Int))
  |_=>none
 |.y7 n=>some (.i .i64 (n:Int))
 |.yd off x=>match br e x with
  |some (.p k o)=>some (.p k (o+off))
  |some (.gp k z j o)=>some (.gp k z j (o+off))
  |some (.ip cs)=>some (.ip (cs.drop off))
  |_=>none
 |.pO off a2 il x=>match br e x with
  |some (.agg cs)=>vY cs off a2 (Jt il)
  |_=>none
 |.tj x=>match br e x with
  |some (.p k o)=>some (.p k o)
  |some (.gp k z j o)=>some (.gp k z j o)
  |some (.ip cs)=>some (.ip cs)
  |some (.v (.func (.func g) a b))=>some (.v (.func (.func g) a b))
  |_=>none
 |.pick c x y=>match br e c with
  |some (.b true)=>br e x
  |some (.b false)=>br e y
  |_=>none
 |.fb x xs=>match br e x with
  |some (.i k n)=>Gd e k xs n
  |_=>none
 |.zf x xs=>match br e x with
  |some (.i k n)=>Ge e k xs n
  |_=>none
 |_=>none
end
section
variable{call:bG}{fr:aJ}{x y i:bi}
variable{k:d8}
def Yl{k':d8}(h:kG k k'=true):k=k':=by cases k<;>cases k'<;>first|rfl|cases h
def tR{op:BinOp}{a b:Int}{r:ae}(h:rC op k a b=some r)(h1:op≠.shl)(h2:op≠.shr)(J:fr.ai x= .int k a)(ay:fr.ai y= .int k b):
 ∃v,(∀H ids,den H r ids v)∧∀st,bK call (.bin op x y) fr st= .ok v fr st:=by
 have key:∀v,r5 op k a b=some v->(∀H ids,den H r ids v)->∃v,(∀H ids,den H r ids v)∧∀st,bK call (.bin op x y) fr st= .ok v fr st:=
  fun v e d=>⟨v,d,fun st=>BK h1 h2 J ay e⟩
 cases op<;>simp only[rC]at h
 case quo=>split at h<;>cases h;rename_i hb;exact key _ (by simp only[r5,zaa hb]) fun _ _=>rfl
 case rem=>split at h<;>cases h;rename_i hb;exact key _ (by simp only[r5,zaa hb]) fun _ _=>rfl
 all_goals first
  |(cases h;done)
  |(cases h;exact key _ rfl fun _ _=>rfl)
  |(cases h;exact key _ rfl fun _ _=>by show Value.bool _=Value.bool _;congr 1;rw[zbl];simp)
def xL(k:d8)(M:Nat):Prop:=(∀n:Int,k.wrap n=n%(M:Int))∧M=2^k.bits
variable{r:ae}{k':d8}{H:bu}{ids:ac Nat}{op:BinOp}{n M:Nat}{cs:ac ae}{o:Nat}
def Rb:xL .u8 256:=⟨fun n=>by rw[<-ma];exact tG _ _ (by decide),rfl⟩
def Q8:xL .u16 65536:=⟨fun n=>by rw[<-ma];exact tG _ _ (by decide),rfl⟩
def Q9:xL .u32 4294967296:=⟨fun n=>by rw[<-ma];exact tG _ _ (by decide),rfl⟩
def Ra:xL .u64 18446744073709551616:=⟨fun n=>by rw[<-ma];exact tG _ _ (by decide),rfl⟩
def Ga(e3:xL k M){a b:Int}(h:Aj op k M a b=some r)(h1:op≠.shl)(h2:op≠.shr)(J:fr.ai x= .int k a)(ay:fr.ai y= .int k b):
 ∃v,(∀H ids,den H r ids v)∧∀st,bK call (.bin op x y) fr st= .ok v fr st:=by
 have hp:0<M:=by rw[e3.2];exact zbO _
 have key:∀v,r5 op k a b=some v->(∀H ids,den H r ids v)->∃v,(∀H ids,den H r ids v)∧∀st,bK call (.bin op x y) fr st= .ok v fr st:=
  fun v e d=>⟨v,d,fun st=>BK h1 h2 J ay e⟩
 have kg:∀{m n:Int},m=n->∀(H:bu) (ids:ac Nat),den H (.i k n) ids (.int k m):=fun e _ _=>by rw[e];rfl
 have wn:∀n:Nat,k.wrap (n:Int)=((n%M:Nat):Int):=fun n=>by rw[e3.1];rfl
 have avX:∀n:Nat,n%M<2^k.bits:=fun n=>by rw[<-e3.2];exact zaj _ hp
 unfold Aj at h;split at h
 ·split at h
  ·rename_i m n;cases h;exact key _ rfl (kg (wn (m+n)))
  ·exact tR h h1 h2 J ay
 ·split at h
  ·rename_i m n;cases h;refine key _ rfl (kg ?_);rw[e3.1];have e:((m+(M*n-n):Nat):Int)=((m:Int)-n)+M*n:=by
    have:n<=M*n:=zdP n hp;rw[zdg,Int.ofNat_sub this,zaK];omega
   rw[Int.natCast_emod,e,Int.add_mul_emod_self_left];rfl
  ·exact tR h h1 h2 J ay
 ·split at h
  ·rename_i m n;cases h;exact key _ rfl (kg (wn (m*n)))
  ·exact tR h h1 h2 J ay
 ·split at h
  ·rename_i m n;split at h<;>cases h;rename_i hn;refine key (.int k (k.wrap ((m:Int).tdiv n))) (by show(if(n:Int)=0 then none else _)=_;rw[zaa (by omega)];rfl) (kg ?_);exact wn (m/n)
  ·exact tR h h1 h2 J ay
 ·split at h
  ·rename_i m n;split at h<;>cases h;rename_i hn;exact key (.int k ((m:Int).tmod n)) (by show(if(n:Int)=0 then none else _)=_;rw[zaa (by omega)];rfl) (kg rfl)
  ·exact tR h h1 h2 J ay
 ·split at h
  ·rename_i m n;cases h;refine key _ rfl (kg ?_);show k.wrap ((BitVec.ofInt k.bits (m:Int)&&&BitVec.ofInt k.bits (n:Int)).toNat:Nat)=_;rw[BitVec.toNat_and,zbN,zbN,zdQ,zdQ,<-e3.2,wn,gR];rw[e3.2];exact Nat.and_lt_two_pow _ (by rw[<-e3.2];exact zaj _ hp)
  ·exact tR h h1 h2 J ay
 ·split at h
  ·rename_i m n;cases h;refine key _ rfl (kg ?_);show k.wrap ((BitVec.ofInt k.bits (m:Int)|||BitVec.ofInt k.bits (n:Int)).toNat:Nat)=_;rw[BitVec.toNat_or,zbN,zbN,zdQ,zdQ,<-e3.2,wn,gR];rw[e3.2];exact Nat.or_lt_two_pow (by rw[<-e3.2];exact zaj _ hp) (by rw[<-e3.2];exact zaj _ hp)
  ·exact tR h h1 h2 J ay
 ·exact tR h h1 h2 J ay
def aee{a b:Int}(h:K9 op k a b=some r)(h1:op≠.shl)(h2:op≠.shr)(J:fr.ai x= .int k a)(ay:fr.ai y= .int k b):
 ∃v,(∀H ids,den H r ids v)∧∀st,bK call (.bin op x y) fr st= .ok v fr st:=by
 unfold K9 at h;split at h
 ·exact Ga Rb h h1 h2 J ay
 ·exact Ga Q8 h h1 h2 J ay
 ·exact Ga Q9 h h1 h2 J ay
 ·exact Ga Ra h h1 h2 J ay
 ·exact tR h h1 h2 J ay
def aef{n:Int}(h:Lb k n=some r)(H:bu)(ids:ac Nat):den H r ids (.int k (k.wrap n)):=by
 have u:∀{k:d8} {M:Nat},xL k M->Ak k M n=some r->den H r ids (.int k (k.wrap n)):=fun e3 h=>by
  unfold Ak at h;split at h<;>cases h
  ·show Value.int _ _=Value.int _ _;rw[e3.1];rfl
  ·rfl
 unfold Lb at h;split at h
 ·exact u Rb h
 ·exact u Q8 h
 ·exact u Q9 h
 ·exact u Ra h
 ·cases h;rfl
def acb{a:Int}(J:fr.ai x= .int k a)(ay:fr.ai y= .int k' (n:Int))(st:au):bK call (.bin .shl x y) fr st= .ok (.int k (k.wrap (a*2^(min n k.bits)))) fr st:=by
 rw[EY,J,ay,Mt];show ie (n:Int) (fun n=>iL k (zO k a n) (fun v=>aV.ok v fr st)) aV.no=_;rw[oI,iZ];have:zO k a n=k.wrap (a*2^(min n k.bits)):=by
  unfold zO;rw[ma,OF];simp
 rw[this]
def Gj(e3:xL k M){a b:Int}(h:An k M a b=some r)(J:fr.ai x= .int k a)(ay:fr.ai y= .int k' b):
 ∃v,(∀H ids,den H r ids v)∧∀st,bK call (.bin .shl x y) fr st= .ok v fr st:=by
 unfold An at h;split at h
 ·rename_i m n;cases h;refine⟨_,fun H ids=> ?_,fun st=>acb J ay st⟩;show Value.int _ _=Value.int _ _;congr 1;have e:((m:Int)*2^(min n k.bits))=((m*2^(min n k.bits):Nat):Int):=by simp
  show k.wrap ((m:Int)*2^(min n k.bits))=_;rw[e,e3.1,<-Int.natCast_emod];congr 1;rcases Nat.le_total n k.bits with hn|hn
  ·rw[zaC hn]
  ·rw[zdh hn,<-e3.2];have:2^n=M*2^(n-k.bits):=by rw[e3.2,<-zal];congr 1;omega
   rw[this,Nat.mul_mod_left,<-zan,zam m M,zan,Nat.mul_mod_right]
 ·cases h
def aew{a b:Int}(h:Lq k a b=some r)(J:fr.ai x= .int k a)(ay:fr.ai y= .int k' b):
 ∃v,(∀H ids,den H r ids v)∧∀st,bK call (.bin .shl x y) fr st= .ok v fr st:=by
 unfold Lq at h;cases b with
 |negSucc n=>cases h
 |ofNat n=>
  simp only at h;split at h<;>cases h;rename_i hn;refine⟨_,fun _ _=> ?_,fun st=>acb J ay st⟩;rw[zaC (kv hn)];rfl
def aex{a b:Int}(h:Lp k a b=some r)(J:fr.ai x= .int k a)(ay:fr.ai y= .int k' b):
 ∃v,(∀H ids,den H r ids v)∧∀st,bK call (.bin .shl x y) fr st= .ok v fr st:=by
 unfold Lp at h;split at h
 ·exact Gj Rb h J ay
 ·exact Gj Q8 h J ay
 ·exact Gj Q9 h J ay
 ·exact Gj Ra h J ay
 ·exact aew h J ay
def Se{a b:Int}(h:Lr k a b=some r)(J:fr.ai x= .int k a)(ay:fr.ai y= .int k' b):
 ∃v,(∀H ids,den H r ids v)∧∀st,bK call (.bin .shr x y) fr st= .ok v fr st:=by
 unfold Lr at h;cases b with
 |negSucc n=>cases h
 |ofNat n=>
  simp only at h;split at h<;>try cases h
  rename_i hn;have hn:=kv hn;have e:∀st,bK call (.bin .shr x y) fr st= .ok (.int k (vB k a n)) fr st:=fun st=>by
   rw[EY,J,ay,Mt];show ie (n:Int) (fun n=>iL k (vB k a n) (fun v=>aV.ok v fr st)) aV.no=_;rw[oI,iZ]
  refine⟨_,?_,e⟩;intro H ids;cases a with
  |ofNat m=>
   cases h;show Value.int _ _=Value.int _ _;congr 1;show vB k (m:Int) n=_;unfold vB;rw[oI,zaC hn];rfl
  |negSucc m=>
   cases h;show Value.int _ _=Value.int _ _;congr 1;unfold vB;rw[zaC hn];rfl
def aed(h:La op a b=some r)(J:den H a ids (fr.ai x))(ay:den H b ids (fr.ai y)):
 ∃v,(∀H ids,den H r ids v)∧∀st,bK call (.bin op x y) fr st= .ok v fr st:=by
 unfold La at h;split at h
 ·rename_i k m k' n;have J:fr.ai x= .int k m:=J;have ay:fr.ai y= .int k' n:=ay;unfold RC at h;split at h
  ·exact aex h J ay
  ·exact Se h J ay
  ·rename_i h1 h2;split at h
   ·rename_i hk;cases Yl hk;exact aee h (by simpa using h1) (by simpa using h2) J ay
   ·cases h
 ·rename_i l m;have J:fr.ai x= .string ⟨⟨l⟩⟩:=J;have ay:fr.ai y= .string ⟨⟨m⟩⟩:=ay;have e:∀st,bK call (.bin op x y) fr st=CU op ⟨⟨l⟩⟩ ⟨⟨m⟩⟩ (fun v=>.ok v fr st):=fun st=>by rw[EY,J,ay,T5]
  split at h<;>cases h
  ·exact⟨_,fun _ _=>rfl,e⟩
  ·exact⟨_,fun _ _=>rfl,e⟩
 ·cases h
def aez{op:UnOp}(h:Ls op a=some r)(J:den H a ids (fr.ai x)):
 ∃v,(∀H ids,den H r ids v)∧∀st,bK call (.un op x) fr st= .ok v fr st:=by
 unfold Ls at h;split at h
 ·rename_i k n;have J:fr.ai x= .int k n:=J;have e:∀st,bK call (.un op x) fr st=AR op (.int k n) (fun v=>.ok v fr st):=fun st=>by
   have:bK call (.un op x) fr st=AR op (fr.ai x) (fun v=>.ok v fr st):=rfl;rw[this,J]
  split at h<;>cases h
  ·refine⟨_,fun _ _=>rfl,fun st=> ?_⟩;rw[e];simp only[AR,na,iZ,ma,ON]
  ·refine⟨_,fun _ _=>rfl,fun st=> ?_⟩;rw[e];simp only[AR,na,iZ]
 ·rename_i t;have J:fr.ai x= .bool t:=J;split at h<;>cases h;refine⟨_,fun _ _=>rfl,fun st=> ?_⟩;have:bK call (.un .not x) fr st=AR .not (fr.ai x) (fun v=>.ok v fr st):=rfl;rw[this,J];rfl
 ·cases h
def aeh{neg:Bool}{t:pC}(h:Ld neg t a b=some r)(J:den H a ids (fr.ai x))(ay:den H b ids (fr.ai y)):
 ∃v,(∀H ids,den H r ids v)∧∀st,bK call (.eqv neg t x y) fr st= .ok v fr st:=by
 have key:∀c,lX 8 t (fr.ai x) (fr.ai y)=some c->r= .b (ng neg c)->∃v,(∀H ids,den H r ids v)∧∀st,bK call (.eqv neg t x y) fr st= .ok v fr st:=by
  intro c hc aL;subst aL;refine⟨_,fun _ _=>rfl,fun st=> ?_⟩;show bm (lX 8 t (fr.ai x) (fr.ai y)) (fun b=>aV.ok (.bool (cond neg (!b) b)) fr st) .no=_;rw[hc];rfl
 unfold Ld at h;split at h
 ·cases h;exact key _ (by rw[show fr.ai x=_ from J,show fr.ai y=_ from ay];simp only[lX,AP]) rfl
 ·split at h<;>cases h;rename_i hk;cases Yl hk;refine key _ ?_ rfl;rw[show fr.ai x=_ from J,show fr.ai y=_ from ay];simp only[lX,AP];simp only[if_true];congr 1
 ·cases h;exact key _ (by rw[show fr.ai x=_ from J,show fr.ai y=_ from ay];simp only[lX,AP]) rfl
 ·cases h;exact key true (by rw[show fr.ai x=_ from J,show fr.ai y=_ from ay];simp[lX,sR]) rfl
 ·cases h;rcases J with⟨rfl,J⟩|⟨hn,b,o,c,vs,el,bk,a3,J,_⟩
  ·exact key true (by rw[J,show fr.ai y=_ from ay];simp[lX,sR]) rfl
  ·exact key false (by rw[J,show fr.ai y=_ from ay];simp[lX,sR]) (by rw[zeC.2 hn])
 ·cases h;obtain⟨b,_,J⟩:=J;exact key false (by rw[J,show fr.ai y=_ from ay];simp[lX,sR]) rfl
 ·cases h;obtain⟨b,_,ay⟩:=ay;exact key false (by rw[show fr.ai x=_ from J,ay];simp[lX,sR]) rfl
 ·cases h;obtain⟨b,_,J⟩:=J;exact key false (by rw[J,show fr.ai y=_ from ay];simp[lX,sS]) rfl
 ·cases h;obtain⟨b,_,J⟩:=J;exact key false (by rw[J,show fr.ai y=_ from ay];simp[lX,sS]) rfl
 ·cases h;obtain⟨b,o,vs,el,bk,a3,J,_⟩:=J;exact key false (by rw[J,show fr.ai y=_ from ay];simp[lX,sS]) rfl
 ·cases h;obtain⟨b,o,J,_⟩:=J;exact key false (by rw[J,show fr.ai y=_ from ay];simp[lX,AO]) rfl
 ·cases h
theorem RO{H:bu}{ids:ac Nat}{e:bJ}(U:c1 fr H ids e){k:d8}:∀{xs:ac bi} {m:Int} {r:ae},Gd e k xs m=some r->∃n,r= .i k n∧EC k fr xs m=some n
 |[],m,r,h=>by cases h;exact⟨m,rfl,rfl⟩
 |x::xs,m,r,h=>by
  unfold Gd at h;split at h<;>try cases h
  rename_i k' z J;split at h<;>try cases h
  rename_i hk;obtain⟨n,h1,h2⟩:=RO U h;refine⟨n,h1,?_⟩;have aB:fr.ai x= .int k' z:=U.ai J;show g2 (fr.ai x) (fun k' y=>cond (kG k k') (EC k fr xs (cond (nz y m) m y)) none) none=_;rw[aB,na,hk,cond_true,<-h2];congr 1;rw[tf];by_cases av:z<=m
  ·rw[zad av,cond_true];omega
  ·rw[zai av,cond_false];omega
theorem RP{H:bu}{ids:ac Nat}{e:bJ}(U:c1 fr H ids e){k:d8}:∀{xs:ac bi} {m:Int} {r:ae},Ge e k xs m=some r->∃n,r= .i k n∧ED k fr xs m=some n
 |[],m,r,h=>by cases h;exact⟨m,rfl,rfl⟩
 |x::xs,m,r,h=>by
  unfold Ge at h;split at h<;>try cases h
  rename_i k' z J;split at h<;>try cases h
  rename_i hk;obtain⟨n,h1,h2⟩:=RP U h;refine⟨n,h1,?_⟩;have aB:fr.ai x= .int k' z:=U.ai J;show g2 (fr.ai x) (fun k' y=>cond (kG k k') (ED k fr xs (cond (nz m y) m y)) none) none=_;rw[aB,na,hk,cond_true,<-h2];congr 1;rw[tf];by_cases av:m<=z
  ·rw[zad av,cond_true];omega
  ·rw[zai av,cond_false];omega
theorem QY{β:Type _}{r:β}:∀{cs:ac ae} {n:Nat} {K:ac ae->am β},Kw cs n K=some r->n<=cs.length∧K (cs.take n)=some r
 |cs,0,K,h=>by
  have h:K []=some r:=by cases cs<;>exact h
  exact⟨zac _,by simpa using h⟩
 |[],n+1,K,h=>by cases h
 |a::as,n+1,K,h=>by
  obtain⟨h1,h2⟩:=QY (cs:=as) (n:=n) h;exact⟨by simpa using h1,by simpa using h2⟩
theorem Ix:∀{cs:ac ae} {n:Nat},Ez cs n=true->cs.length=n
 |[],0,_=>rfl
 |[],n+1,h=>by cases h
 |_::_,0,h=>by cases h
 |a::as,n+1,h=>by simp[Ix (cs:=as) (n:=n) h]
def AF{β:Type _}{r:β}{K:ac ae->am β}(h:vY cs o n K=some r):n<=(cs.drop o).length∧K ((cs.drop o).take n)=some r:=by
 unfold vY at h;split at h
 ·split at h
  ·rename_i hl;have:=Ix hl;refine⟨by simp;omega,?_⟩;rw[zar,zaV (by omega)];exact h
  ·exact QY h
 ·exact QY h
def uc{β:Type}(h:n<=(l.drop o).length)(k:ac α->β)(z:β):iE l o n k z=k ((l.drop o).take n):=by
 unfold iE;rw[Dg,FJ,zab h];rfl
def aak{il:Bool}(h:Jt il cs=some r):(il=true∧r= .agg cs)∨(il=false∧cs=[r]):=by
 unfold Jt at h;split at h<;>split at h<;>cases h
 ·exact .inl ⟨rfl,rfl⟩
 ·exact .inr ⟨rfl,rfl⟩
 ·exact .inl ⟨rfl,rfl⟩
def rD(b o n:Nat):(⟨b,o,none⟩:Addr).add n=⟨b,o+n,none⟩:=by
 unfold Addr.add;split
 ·rename_i h;rw[h];rfl
 ·rfl
def aes{e:bJ}(U:c1 fr H ids e){o:de}(h:Li e o=some r):∃v,den H r ids v∧∀st,bK call o fr st= .ok v fr st:=by
 have up:∀{r:ae} {o:de},(∃v,(∀H ids,den H r ids v)∧∀st,bK call o fr st= .ok v fr st)->∃v,den H r ids v∧∀st,bK call o fr st= .ok v fr st:=fun⟨v,h1,h2⟩=>⟨v,h1 _ _,h2⟩;cases o<;>simp only[Li]at h
 case m3 x=>exact⟨_,U.ai h,fun st=>rfl⟩
 case kI x=>exact⟨_,U.ai h,fun st=>rfl⟩
 case bin op x y=>
  split at h<;>try cases h
  split at h<;>try cases h
  rename_i J _ _ ay;exact up (aed h (U.ai J) (U.ai ay))
 case eqv neg t x y=>
  split at h<;>try cases h
  split at h<;>try cases h
  rename_i J _ _ ay;exact up (aeh h (U.ai J) (U.ai ay))
 case un op x=>
  split at h<;>try cases h
  rename_i J;exact up (aez h (U.ai J))
 case tZ k x=>
  split at h<;>try (cases h;done)
  rename_i k' n J;have J:fr.ai x= .int k' n:=U.ai J;exact⟨_,aef h H ids,fun st=>apm J⟩
 case xV x=>
  split at h<;>try cases h
  rename_i l J;have J:fr.ai x= .string ⟨⟨l⟩⟩:=U.ai J;refine⟨_,rfl,fun st=> ?_⟩;show jE (fr.ai x) _ _=_;rw[J];rfl
 case vb f cj cs=>
  split at h<;>try cases h
  split at h<;>try cases h
  rename_i h1 _ _ h2;exact⟨_,⟨_,_,rfl,U.er h1,U.er h2⟩,fun st=>rfl⟩
 case yc x i=>
  split at h<;>try cases h
  rename_i vs J;obtain⟨ws,J,ao⟩:=U.ai J;obtain⟨v,aB,ao⟩:=v8 ao h;refine⟨v,ao,fun st=> ?_⟩;show rr (fr.ai x) (fun vs=>iE vs.toList i 1 (fun l=>one l (fun v=>aV.ok v fr st) .no) .no) .no=_;rw[J,aug];obtain⟨aE,Bj⟩:=zaf.1 aB;show iE ws i 1 _ _=_;rw[AG (by omega),fP aE,Bj];rfl
 case p8 x=>
  split at h<;>try cases h
  ·rename_i J;have J:fr.ai x= .slice none 0 0:=U.ai J;exact⟨_,rfl,fun st=>wV J⟩
  ·rename_i J;obtain⟨b,_,J⟩:=U.ai J;exact⟨_,rfl,fun st=>wV J⟩
  ·rename_i J;rcases U.ai J with⟨hl,J⟩|⟨b,o,c,vs,el,bk,a3,J,_⟩
   ·rw[hl];exact⟨_,rfl,fun st=>wV J⟩
   ·exact⟨_,rfl,fun st=>wV J⟩
  ·rename_i J;rcases U.ai J with⟨hl,J⟩|⟨_,b,o,c,vs,el,bk,a3,J,_⟩
   ·rw[hl];exact⟨_,rfl,fun st=>wV J⟩
   ·exact⟨_,rfl,fun st=>wV J⟩
  ·rename_i J;rcases U.ai J with⟨hl,J⟩|⟨hl,J⟩|⟨b,o,c,vs,el,bk,a3,J,_⟩
   ·rw[hl];exact⟨_,rfl,fun st=>apo J⟩
   ·rw[hl];exact⟨_,rfl,fun st=>wV J⟩
   ·exact⟨_,rfl,fun st=>wV J⟩
 case u7 x=>
  split at h<;>try cases h
  rename_i l J;have J:fr.ai x= .string ⟨⟨l⟩⟩:=U.ai J;exact⟨_,rfl,fun st=>by rw[apN,J,Cs]⟩
 case y7 n=>cases h;exact⟨_,rfl,fun st=>rfl⟩
 case yd off x=>
  have e:∀{b o:Nat},fr.ai x= .pointer (some ⟨b,o,none⟩)->∀st,bK call (.yd off x) fr st= .ok (.pointer (some ⟨b,o+off,none⟩)) fr st:=fun J st=>by
   show jD (fr.ai x) (fun p=>bm p (fun a=>aV.ok (.pointer (some (a.add off))) fr st) .no) .no=_;rw[J,sA];show aV.ok (.pointer (some (Addr.add _ off))) fr st=_;rw[rD]
  split at h<;>try cases h
  ·rename_i J;obtain⟨b,hb,J⟩:=U.ai J;exact⟨_,⟨b,hb,rfl⟩,e J⟩
  ·rename_i k z j o J;obtain⟨b,hb,J⟩:=U.ai J;exact⟨_,⟨b,hb,by rw[zbW]⟩,e J⟩
  ·rename_i cs J;obtain⟨b,o,vs,el,bk,a3,J,hb,ao⟩:=U.ai J;refine⟨_,⟨b,o+off,vs,el,bk,a3,rfl,hb,?_⟩,e J⟩;have:=o6 off ao;rw[zdR,zbC]at this;rw[zaF];exact this
 case pO off a2 il x=>
  split at h<;>try cases h
  rename_i cs J;obtain⟨ws,J,ao⟩:=U.ai J;obtain⟨h1,h2⟩:=AF h;have ao:=uj a2 (o6 off ao);have hl:=iF ao;have e:∀st,bK call (.pO off a2 il x) fr st=bm (cond il (some (.agg ⟨(ws.drop off).take a2⟩)) (one ((ws.drop off).take a2) (fun v=>some v) none)) (fun v=>.ok v fr st) .no:=fun st=>by
   show vE (fr.ai x) (fun cs=>bm (vo off a2 il cs.toList) (fun v=>aV.ok v fr st) .no) .no=_;rw[J,aue];show bm (vo off a2 il ws) _ _=_;unfold vo;rw[uc (by rw[zay,zay,zaC h1]at hl;omega)]
  rcases aak h2 with⟨rfl,rfl⟩|⟨rfl,ab⟩
  ·exact⟨_,⟨_,rfl,ao⟩,fun st=>by rw[e];rfl⟩
  ·rw[ab]at ao;obtain⟨v,us,aB,ao,hn⟩:=ao;cases hn;rw[aB]at e;exact⟨v,ao,fun st=>by rw[e];rfl⟩
 case tj x=>
  have e:∀{a:Addr},fr.ai x= .pointer (some a)->∀st,bK call (.tj x) fr st= .ok (.pointer (some a)) fr st:=fun J st=>by
   show jD (fr.ai x) (fun p=>bm p (fun a=>aV.ok (.pointer (some a)) fr st) .no) _=_;rw[J];rfl
  split at h<;>try cases h
  ·rename_i J;obtain⟨b,hb,J⟩:=U.ai J;exact⟨_,⟨b,hb,rfl⟩,e J⟩
  ·rename_i J;obtain⟨b,hb,J⟩:=U.ai J;exact⟨_,⟨b,hb,rfl⟩,e J⟩
  ·rename_i J;obtain⟨b,o,vs,el,bk,a3,J,ao⟩:=U.ai J;exact⟨_,⟨b,o,vs,el,bk,a3,rfl,ao⟩,e J⟩
  ·rename_i g a b J;have J:fr.ai x= .func (.func g) a b:=U.ai J;refine⟨_,rfl,fun st=> ?_⟩;have:bK call (.tj x) fr st=jD (fr.ai x) (fun p=>bm p (fun a=>aV.ok (.pointer (some a)) fr st) .no) (Cr (fr.ai x) (fun f a b=>match f with|.func g=>.ok (.func (.func g) a b) fr st|_=>.no) .no):=rfl;rw[this,J];rfl
 case pick c x y=>
  split at h
  ·rename_i hc;exact⟨_,U.ai h,fun st=>aps (U.ai hc) rfl rfl⟩
  ·rename_i hc;exact⟨_,U.ai h,fun st=>apr (U.ai hc) rfl rfl⟩
  ·cases h
 case fb x xs=>
  split at h<;>try cases h
  rename_i k n J;have J:fr.ai x= .int k n:=U.ai J;obtain⟨m,rfl,hm⟩:=RO U h;refine⟨_,rfl,fun st=> ?_⟩;show g2 (fr.ai x) (fun k n=>bm (EC k fr xs n) (fun m=>iL k m fun v=>aV.ok v fr st) .no) .no=_;rw[J,na,hm,Sym.e6,iZ]
 case zf x xs=>
  split at h<;>try cases h
  rename_i k n J;have J:fr.ai x= .int k n:=U.ai J;obtain⟨m,rfl,hm⟩:=RP U h;refine⟨_,rfl,fun st=> ?_⟩;show g2 (fr.ai x) (fun k n=>bm (ED k fr xs n) (fun m=>iL k m fun v=>aV.ok v fr st) .no) .no=_;rw[J,na,hm,Sym.e6,iZ]
 all_goals cases h
end
inductive bd:Type 1
 |c (el:TypeId) (cs:List ae)
 |a (el:TypeId) (a3:Bool) (z:Nat) (α:Type) (R:α->List ae) (l:List α)
 |x
def bd.live:bd->Bool
 |.x=>false
 |_=>true
def nS(H:bu)(ids:ac Nat):bd->am bt->Prop
 |.c el cs,eK=>∃vs,eK=some (.cells vs el (0,0) false)∧dH H cs ids vs
 |.a el a3 z _ R l,eK=>∃vs,eK=some (.cells vs el (0,0) a3)∧vs.length=l.length*z∧∀i x,l[i]? =some x->dH H (R x) ids ((vs.drop (i*z)).take z)
 |.x,_=>True
def ug{H a5:bu}{i j:ac Nat}(h:dj H a5)(aa:dk i j):∀{o:bd} {eK:am bt},nS H i o eK->nS a5 j o eK
 |.c _ _,_,⟨vs,e,d⟩=>⟨vs,e,ni h _ aa d⟩
 |.a _ _ _ _ _ _,_,⟨vs,e,cK,d⟩=>⟨vs,e,cK,fun k x J=>ni h _ aa (d k x J)⟩
 |.x,_,_=>trivial
structure cr where
 own:ac bd
 n:Nat
 env:bJ
structure Fit(H:bu)(ids:ac Nat)(st:au)(own:ac bd)(n:Nat):Prop where
 wf:∀i,st.aj<=i->st.h.get i=none
 le:∀b o,H b=some o->st.h.get b=some o
 ct:own.length=n
 len:ids.length=n
 dg:ids.Nodup
 lt:∀b∈ids,b<st.aj
 own:∀(k:Nat) (o:bd) (b:Nat),own[k]? =some o->ids[k]? =some b->nS H ids o (st.h.get b)∧(o.live=true->H b=none)
structure dv(bY:bu)(i0:ac Nat)(aK:au)(H:bu)(ids:ac Nat)(st:au):Prop where
 hle:dj bY H
 hold:∀b,b<aK.aj->b∉i0->H b=bY b
 gN:∀b,b<aK.aj->b∉i0->st.h.get b=aK.h.get b
 aj:aK.aj<=st.aj
 l2:dk i0 ids
 new:∀b∈ids,b∈i0∨aK.aj<=b
variable{H:bu}{ids:ac Nat}{st:au}{n:Nat}{o:bd}{eK:bt}{bY:bu}{i0:ac Nat}{aK:au}
def Fit.aE{own:ac bd}(h:Fit H ids st own n){b:Nat}{o:bt}(hb:H b=some o):b<st.aj:=by
 rcases zao b st.aj with aC|aC
 ·exact aC
 ·have:=h.le b o hb;rw[h.wf b aC]at this;cases this
def Fit.p0{own:ac bd}(h:Fit H ids st own n){b:Nat}(hb:st.aj<=b):H b=none:=by
 cases e:H b with
 |none=>rfl
 |some o=>have:=h.aE e;omega
def Fit.add{own:ac bd}(h:Fit H ids st own n)(d:nS H (ids++[st.aj]) o (some eK)):
 Fit H (ids++[st.aj]) ⟨st.h.set st.aj eK,st.aj+1⟩ (own++[o]) (n+1):=by
 have s5:st.aj∉ids:=fun hm=>by have:=h.lt _ hm;omega
 refine⟨?_,?_,by simp[h.ct],by simp[h.len],?_,?_,?_⟩
 ·intro i aa;show(st.h.set st.aj eK).get i=none;have aa:st.aj+1<=i:=aa;rw[an.ji _ _ (by omega)];exact h.wf i (by omega)
 ·intro b bD hb;show(st.h.set st.aj eK).get b=_;have:=h.aE hb;rw[an.ji _ _ (by omega)];exact h.le b bD hb
 ·rw[List.nodup_append];refine⟨h.dg,by simp,?_⟩;intro a ha b hb;simp at hb;subst hb;exact fun e=>s5 (e▸ha)
 ·intro b hb;simp at hb;show b<st.aj+1;rcases hb with hb|hb
  ·have:=h.lt b hb;omega
  ·omega
 ·intro k bD b hk hb;show nS _ _ _ ((st.h.set st.aj eK).get b)∧_;by_cases jw:k<own.length
  ·rw[zbm jw]at hk;rw[zbm (by rw[h.len,<-h.ct];exact jw)]at hb;obtain⟨h1,h2⟩:=h.own k bD b hk hb;have:b≠st.aj:=fun e=>s5 (e▸zau hb);rw[an.ji _ _ this];exact⟨ug (dj.refl _) (dk.app _ _) h1,h2⟩
  ·have fs:=(zaf.1 hk).1;simp at fs;have jw:k=own.length:=by omega
   subst jw;rw[zaW (b6 _)]at hk;have hl:own.length=ids.length:=by rw[h.len,h.ct]
   rw[hl,zaW (b6 _)]at hb;simp at hk hb;subst hk hb;rw[an.uz];exact⟨d,fun _=>h.p0 (b6 _)⟩
def dv.add(h:dv bY i0 aK H ids st)(eK:bt):dv bY i0 aK H (ids++[st.aj]) ⟨st.h.set st.aj eK,st.aj+1⟩:=by
 refine⟨h.hle,h.hold,?_,by have:=h.aj;show aK.aj<=st.aj+1;omega,fun k b e=>dk.app _ _ k b (h.l2 k b e),?_⟩
 ·intro b hb hn;show(st.h.set st.aj eK).get b=_;have:=h.aj;rw[an.ji _ _ (by omega)];exact h.gN b hb hn
 ·intro b hb;simp at hb;rcases hb with hb|hb
  ·exact h.new b hb
  ·right;rw[hb];exact h.aj
def Fit.hI{own:ac bd}(h:Fit H ids st own n){k b:Nat}{bD:bd}(hk:own[k]? =some o)(hl:o.live=true)(hb:ids[k]? =some b)(d:nS H ids bD (some eK)):
 Fit H ids ⟨st.h.set b eK,st.aj⟩ (own.set k bD) n:=by
 have aE:b<st.aj:=h.lt b (zau hb);have gx:H b=none:=(h.own k o b hk hb).2 hl;refine⟨?_,?_,by simp[h.ct],h.len,h.dg,h.lt,?_⟩
 ·intro i aa;show(st.h.set b eK).get i=none;have aa:st.aj<=i:=aa;rw[an.ji _ _ (by omega)];exact h.wf i aa
 ·intro c q hc;show(st.h.set b eK).get c=_;rw[an.ji _ _ (fun e=>by rw[e,gx]at hc;cases hc)];exact h.le c q hc
 ·intro j q c hj hc;show nS _ _ _ ((st.h.set b eK).get c)∧_;rw[zbb]at hj;by_cases hE:k=j
  ·subst hE;rw[hb]at hc;cases hc;rw[zab rfl]at hj;split at hj<;>cases hj;rw[an.uz];exact⟨d,fun _=>gx⟩
  ·rw[zaa hE]at hj;have:c≠b:=fun e=>by
    subst e;have h1:=(zaf.1 hb);have h2:=(zaf.1 hc);exact hE ((zcw (h₀:=h1.1) (h₁:=h2.1) h.dg).1 (h1.2.trans h2.2.symm))
   rw[an.ji _ _ this];exact h.own j q c hj hc
def dv.hI(h:dv bY i0 aK H ids st){b:Nat}(hb:b∈ids)(eK:bt):dv bY i0 aK H ids ⟨st.h.set b eK,st.aj⟩:=by
 refine⟨h.hle,h.hold,?_,h.aj,h.l2,h.new⟩;intro c hc hn;show(st.h.set b eK).get c=_;rw[an.ji _ _ (fun e=>by
  subst e;rcases h.new _ hb with h1|h1
  ·exact hn h1
  ·omega)]
 exact h.gN c hc hn
section
def vR(own:ac bd)(e:bJ):de->am ae
 |.lE x=>match br e x with
  |some (.p k o)=>match own[k]? with
   |some (.c _ cs)=>cs[o]?
   |_=>none
  |some (.gp k z j o)=>match own[k]? with
   |some (.c _ cs)=>cs[j*z+o]?
   |_=>none
  |some (.ip cs)=>cs[0]?
  |_=>none
 |.p9 n x=>match br e x with
  |some (.p k o)=>match own[k]? with
   |some (.c _ cs)=>vY cs o n fun l=>some (.agg l)
   |_=>none
  |some (.gp k z j o)=>match own[k]? with
   |some (.c _ cs)=>vY cs (j*z+o) n fun l=>some (.agg l)
   |_=>none
  |some (.ip cs)=>vY cs 0 n fun l=>some (.agg l)
  |_=>none
 |_=>none
def qW(e:bJ):de->am Nat
 |.lE x|.p9 _ x=>match br e x with
  |some (.p k _)|some (.gp k _ _ _)=>some k
  |_=>none
 |_=>none
end
section
variable{call:bG}{fr:aJ}{x y i:bi}
variable{vs:ac be}{el:ce}{bk:Nat×Nat}{a3:Bool}{e:bJ}{r:ae}
def Bt{b o:Nat}(h:fr.ai x= .pointer (some ⟨b,o,none⟩))(ak:st.h.get b=some (.cells vs el bk a3))(aB:vs[o]? =some v):bK call (.lE x) fr st= .ok v fr st:=apq h rfl ak aB
def Iu{b o:Nat}(h:fr.ai x= .pointer (some ⟨b,o,none⟩))(ak:st.h.get b=some (.cells vs el bk a3))(hl:n<=(vs.drop o).length):bK call (.p9 n x) fr st= .ok (.agg ⟨(vs.drop o).take n⟩) fr st:=by
 rw[apO,h];show st.load ⟨b,o,none⟩ n _ _=_;unfold au.load au.hz;rw[Sym.jc,ak,mK,uc hl]
def atM{o:Nat}{v:α}(h:((l.drop o).take n)[0]? =some v):l[o]? =some v:=by
 have:=(zaf.1 h).1;rw[zaT]at h;split at h
 ·simpa using h
 ·cases h
def Le{own:ac bd}(U:c1 fr H ids e)(pY:own.length<=ids.length)(ar:∀(k:Nat) (o:bd) (b:Nat),own[k]? =some o->o.live=true->ids[k]? =some b->nS H ids o (st.h.get b)){o:de}(h:vR own e o=some r):
 ∃v,den H r ids v∧∀ef:au,((∀b o,H b=some o->ef.h.get b=some o)∨∃k,qW e o=some k)->(∀k b,qW e o=some k->ids[k]? =some b->ef.h.get b=st.h.get b)->bK call o fr ef= .ok v fr ef:=by
 have obj:∀{k:Nat} {el:ce} {cs:ac ae},own[k]? =some (.c el cs)->∃b vs,ids[k]? =some b∧st.h.get b=some (.cells vs el (0,0) false)∧dH H cs ids vs:=fun{k el cs} hk=>by
  have aE:=(zaf.1 hk).1;have aa:k<ids.length:=by omega
  obtain⟨vs,h1,h2⟩:=ar k _ _ hk rfl (bE aa);exact⟨_,vs,bE aa,h1,h2⟩
 cases o<;>simp only[vR]at h
 case lE x=>
  split at h<;>try cases h
  ·rename_i k o J;split at h<;>try cases h
   rename_i el cs hk;obtain⟨b,vs,hb,dz,ao⟩:=obj hk;obtain⟨v,aB,ao⟩:=v8 ao h;obtain⟨gw,h1,h2⟩:=U.ai J;rw[hb]at h1;cases h1;exact⟨v,ao,fun ef _ ab=>Bt h2 ((ab k b (by simp[qW,J]) hb).trans dz) aB⟩
  ·rename_i k z j o J;split at h<;>try cases h
   rename_i el cs hk;obtain⟨b,vs,hb,dz,ao⟩:=obj hk;obtain⟨v,aB,ao⟩:=v8 ao h;obtain⟨gw,h1,h2⟩:=U.ai J;rw[hb]at h1;cases h1;exact⟨v,ao,fun ef _ ab=>Bt h2 ((ab k b (by simp[qW,J]) hb).trans dz) aB⟩
  ·rename_i cs J;obtain⟨b,o,vs,el,bk,a3,h1,h2,ao⟩:=U.ai J;obtain⟨v,aB,ao⟩:=v8 ao h;refine⟨v,sL (dj.refl _) _ (dk.nil _) ao,fun ef ab _=> ?_⟩;rcases ab with ab|⟨k,ab⟩
   ·exact Bt h1 (ab _ _ h2) (atM aB)
   ·simp[qW,J]at ab
 case p9 m x=>
  split at h<;>try cases h
  ·rename_i k o J;split at h<;>try cases h
   rename_i el cs hk;obtain⟨b,vs,hb,dz,ao⟩:=obj hk;obtain⟨wo,pT⟩:=AF h;cases pT;obtain⟨gw,h1,h2⟩:=U.ai J;rw[hb]at h1;cases h1;have hl:=iF (o6 o ao);exact⟨_,⟨_,rfl,uj m (o6 o ao)⟩,fun ef _ ab=>Iu h2 ((ab k b (by simp[qW,J]) hb).trans dz) (by omega)⟩
  ·rename_i k z j o J;split at h<;>try cases h
   rename_i el cs hk;obtain⟨b,vs,hb,dz,ao⟩:=obj hk;obtain⟨wo,pT⟩:=AF h;cases pT;obtain⟨gw,h1,h2⟩:=U.ai J;rw[hb]at h1;cases h1;have hl:=iF (o6 (j*z+o) ao);exact⟨_,⟨_,rfl,uj m (o6 (j*z+o) ao)⟩,fun ef _ ab=>Iu h2 ((ab k b (by simp[qW,J]) hb).trans dz) (by omega)⟩
  ·rename_i cs J;obtain⟨b,o,vs,el,bk,a3,h1,h2,ao⟩:=U.ai J;obtain⟨wo,pT⟩:=AF h;cases pT;have hl:=iF ao;rw[zar]at wo;have g5:=uj m ao;rw[zdi,zaC wo]at g5;refine⟨.agg ⟨(vs.drop o).take m⟩,⟨_,rfl,?_⟩,fun ef ab _=> ?_⟩
   ·rw[zar];exact ni (dj.refl _) _ (dk.nil _) g5
   rcases ab with ab|⟨k,ab⟩
   ·exact Iu h1 (ab _ _ h2) (by rw[zay]at hl;omega)
   ·simp[qW,J]at ab
 all_goals cases h
def aob{own:ac bd}{o:de}{k:Nat}(h:vR own e o=some r)(hk:qW e o=some k):∃bD,own[k]? =some bD∧bD.live=true:=by
 cases o<;>simp only[qW]at hk
 case lE x=>
  simp only[vR]at h;split at hk<;>cases hk
  ·rename_i J;rw[J]at h;simp only at h;split at h<;>try cases h
   exact⟨_,by assumption,rfl⟩
  ·rename_i J;rw[J]at h;simp only at h;split at h<;>try cases h
   exact⟨_,by assumption,rfl⟩
 case p9 n x=>
  simp only[vR]at h;split at hk<;>cases hk
  ·rename_i J;rw[J]at h;simp only at h;split at h<;>try cases h
   exact⟨_,by assumption,rfl⟩
  ·rename_i J;rw[J]at h;simp only at h;split at h<;>try cases h
   exact⟨_,by assumption,rfl⟩
 all_goals cases hk
end
section
variable{β:Type _}
def O1(v:be)(K:ae->am β):am β:=
 match v with
 |.int k n=>K (.i k n)
 |.bool t=>K (.b t)
 |.string ⟨⟨l⟩⟩=>K (.s l)
 |.slice none 0 0=>K .nl
 |x=>K (.v x)
def BM:ac be->(ac ae->am β)->am β
 |[],K=>K []
 |v::vs,K=>O1 v fun a=>BM vs fun r=>K (a::r)
def tX:ae->am (ac ae)
 |.agg cs=>some cs
 |a=>match tW a with
  |true=>some [a]
  |false=>none
def zz:ac ae->Nat->ac ae->(ac ae->am β)->am β
 |cs,0,[],K=>K cs
 |_::cs,0,d::ds,K=>zz cs 0 ds fun r=>K (d::r)
 |c::cs,n+1,ds,K=>zz cs n ds fun r=>K (c::r)
 |[],_,_,_=>none
def AT(e:bJ):ac (Nat×Nat×bi)->ac ae->(ac ae->am β)->am β
 |[],cs,K=>K cs
 |(o,a2,x)::ps,cs,K=>match br e x with
  |some a=>match tX a with
   |some ds=>match Ez ds a2 with
    |true=>zz cs o ds fun cs'=>AT e ps cs' K
    |false=>none
   |none=>none
  |none=>none
def oa:ac bd->bd->(ac bd->am β)->am β
 |[],o,K=>K [o]
 |a::as,o,K=>oa as o fun r=>K (a::r)
def jm:ac bd->Nat->bd->(ac bd->am β)->am β
 |[],_,_,_=>none
 |_::as,0,o,K=>K (o::as)
 |a::as,n+1,o,K=>jm as n o fun r=>K (a::r)
def apk:ac Nat:=[1,2,3,4,5,6,7,8,9,10,11,12,13,14,15,16,17,18,19,20,21,22,23,24,25,26,27,28,29,30,31,32]
def Zz:ac Nat->Nat->am Nat
 |[],_=>none
 |a::_,0=>some a
 |_::as,n+1=>Zz as n
def mx(n:Nat)(K:Nat->am β):am β:=
 match Zz apk n with
 |some m=>match Nat.beq m (n+1)with
  |true=>K m
  |false=>K (n+1)
 |none=>K (n+1)
def aqa:ac (Nat×Nat×bi)->Nat
 |(_,a2,_)::_=>a2
 |[]=>1
def Ks(own:ac bd)(aG:Nat)(e:bJ)(k o n:Nat)(x:bi)(K:ae->ac bd->Nat->am β):am β:=
 match own[k]? with
 |some (.c el cs)=>match br e x with
  |some a=>match tX a with
   |some ds=>match Ez ds n with
    |true=>match rH ds with
     |true=>zz cs o ds fun cs'=>jm own k (.c el cs') fun bl=>K (.bM []) bl aG
     |false=>none
    |false=>none
   |none=>none
  |none=>none
 |_=>none
def Gc(own:ac bd)(aG:Nat)(e:bJ)(K:ae->ac bd->Nat->am β):de->am β
 |.alloc z el=>BM z fun cs=>oa own (.c el cs) fun bl=>mx aG fun b1=>K (.p aG 0) bl b1
 |.box el x=>match br e x with
  |some a=>match tX a with
   |some ds=>oa own (.c el ds) fun bl=>mx aG fun b1=>K (.p aG 0) bl b1
   |none=>none
  |none=>none
 |.pJ el len z ps=>BM z fun cs=>AT e ps cs fun cs'=>oa own (.c el cs') fun bl=>mx aG fun b1=>K (.aN aG (aqa ps) 0 len len) bl b1
 |.build z ps=>BM z fun cs=>AT e ps cs fun cs'=>K (.agg cs') own aG
 |.store n a x=>match br e a with
  |some (.p k o)=>Ks own aG e k o n x K
  |some (.gp k z j o)=>Ks own aG e k (j*z+o) n x K
  |_=>none
 |_=>none
def CR(e:bJ):de->am ae
 |.build z ps=>BM z fun cs=>AT e ps cs fun cs'=>some (.agg cs')
 |o=>Li e o
def iM(e:bJ):de->am Nat
 |.store _ a _=>match br e a with
  |some (.p k _)|some (.gp k _ _ _)=>some k
  |_=>none
 |.app _ _ _ x _|.rI _ x _=>match br e x with
  |some (.aN k _ _ _ _)=>some k
  |_=>none
 |.tE _ x _=>match br e x with
  |some (.p k _)=>some k
  |_=>none
 |_=>none
end
section
variable{β:Type _}{r:β}
variable{ds:ac ae}
def apv{K:ae->am β}(h:O1 v K=some r):K (BL v)=some r:=by
 unfold O1 at h;unfold BL;split at h<;>first|exact h|(split<;>first|exact h|(exfalso;simp_all))
theorem EW:∀{vs:ac be} {K:ac ae->am β},BM vs K=some r->K (vk vs)=some r
 |[],_,h=>h
 |_::vs,_,h=>EW (vs:=vs) (apv h)
def Gr(h:tX a=some ds)(d:den H a ids v):uW v=false∧dH H ds ids (jr v):=by
 unfold tX at h;split at h
 ·cases h;obtain⟨vs,rfl,d⟩:=d;exact⟨rfl,d⟩
 ·split at h<;>cases h;rename_i hc;have:=SJ hc d;refine⟨?_,?_⟩
  ·cases v<;>first|rfl|(cases this;done)|(rename_i r;cases r<;>first|rfl|cases this)
  ·rw[ae6 this];exact⟨v,[],rfl,d,rfl⟩
theorem JE:∀{cs:ac ae} {n:Nat} {ds:ac ae} {K:ac ae->am β},zz cs n ds K=some r->n+ds.length<=cs.length∧K (cs.take n++(ds++cs.drop (n+ds.length)))=some r
 |cs,0,[],K,h=>by
  have h:K cs=some r:=by cases cs<;>exact h
  exact⟨by simp,by simpa using h⟩
 |[],0,d::ds,K,h=>by cases h
 |c::cs,0,d::ds,K,h=>by
  have h:zz cs 0 ds (fun r=>K (d::r))=some r:=h;obtain⟨h1,h2⟩:=JE h;refine⟨by simp at h1 ⊢;omega,?_⟩;simp at h2;simpa using h2
 |[],n+1,ds,K,h=>by cases ds<;>cases h
 |c::cs,n+1,ds,K,h=>by
  have h:zz cs n ds (fun r=>K (c::r))=some r:=by cases ds<;>exact h
  obtain⟨h1,h2⟩:=JE h;refine⟨by simp;omega,?_⟩;rw[show n+1+ds.length=(n+ds.length)+1 by omega];simpa using h2
def Me{cs:ac ae}{vs ws:ac be}(n:Nat)(d:dH H cs ids vs)(kB:dH H ds ids ws):
 dH H (cs.take n++(ds++cs.drop (n+ds.length))) ids (vs.take n++(ws++vs.drop (n+ws.length))):=by
 rw[iF kB];exact sM (uj n d) (sM kB (o6 _ d))
theorem oY:∀{own:ac bd} {o:bd} {K:ac bd->am β},oa own o K=some r->K (own++[o])=some r
 |[],_,_,h=>h
 |_::as,_,_,h=>oY (own:=as) h
theorem j5:∀{own:ac bd} {k:Nat} {o:bd} {K:ac bd->am β},jm own k o K=some r->K (own.set k o)=some r
 |[],_,_,_,h=>by cases h
 |_::_,0,_,_,h=>h
 |_::as,k+1,_,_,h=>j5 (own:=as) (k:=k) h
def nC{K:Nat->am β}(h:mx n K=some r):K (n+1)=some r:=by
 unfold mx at h;split at h
 ·split at h
  ·rename_i hb;rw[<-eo hb];exact h
  ·exact h
 ·exact h
def Dt(e:bJ):ac (Nat×Nat×bi)->ac ae->am (ac ae)
 |[],cs=>some cs
 |(o,a2,x)::ps,cs=>match br e x with
  |some a=>match tX a with
   |some ds=>if ds.length=a2∧o+ds.length<=cs.length then Dt e ps (cs.take o++(ds++cs.drop (o+ds.length)))else none
   |none=>none
  |none=>none
theorem Ha{e:bJ}:∀{ps:ac (Nat×Nat×bi)} {cs:ac ae} {K:ac ae->am β},AT e ps cs K=some r->∃cs',Dt e ps cs=some cs'∧K cs'=some r
 |[],cs,K,h=>⟨cs,rfl,h⟩
 |(o,a2,x)::ps,cs,K,h=>by
  unfold AT at h;unfold Dt;split at h<;>try cases h
  split at h<;>try cases h
  split at h<;>try cases h
  rename_i hl;obtain⟨h1,h2⟩:=JE h;rw[zab ⟨Ix hl,h1⟩];exact Ha h2
theorem Hb{fr:aJ}{H:bu}{ids:ac Nat}{e:bJ}(U:c1 fr H ids e):∀{ps:ac (Nat×Nat×bi)} {cs cs':ac ae} {vs:ac be},Dt e ps cs=some cs'->dH H cs ids vs->
 ∃gG,dH H cs' ids gG∧∀c,o9 fr ps vs c=c gG
 |[],cs,_,vs,h,d=>by cases h;exact⟨vs,d,fun _=>rfl⟩
 |(o,a2,x)::ps,cs,cs',vs,h,d=>by
  unfold Dt at h;split at h<;>try cases h
  rename_i a J;split at h<;>try cases h
  rename_i ds kj;split at h<;>try cases h
  rename_i hl;obtain⟨hl,h1⟩:=hl;obtain⟨hp,d2⟩:=Gr kj (U.ai J);have kE:=iF d2;have Nm:=iF d;obtain⟨gG,aI,bj⟩:=Hb U h (Me o d d2);refine⟨gG,aI,fun c=> ?_⟩;have hu:o9 fr ((o,a2,x)::ps) vs c=cond (uW (fr.ai x)) .no (eQ (dL (jr (fr.ai x))) a2 (ey (o+a2) (dL vs) (ra vs o (jr (fr.ai x)) (fun cs'=>o9 fr ps cs' c) .no) .no) .no):=rfl;rw[hu,hp,cond_false,fC,fC,lv (by omega),gn (by omega),sl,zab (by omega),bj]
end
def Lj{call:bG}{fr:aJ}{e:bJ}(U:c1 fr H ids e){o:de}{r:ae}(h:CR e o=some r):∃v,den H r ids v∧∀st,bK call o fr st= .ok v fr st:=by
 unfold CR at h;split at h
 ·rename_i z ps;obtain⟨cs',aH,aI⟩:=Ha (EW h);cases aI;obtain⟨gG,d,bj⟩:=Hb U aH (v9 H ids z);refine⟨.agg ⟨gG⟩,⟨_,rfl,d⟩,fun st=> ?_⟩;have:bK call (.build z ps) fr st=o9 fr ps z fun cs=>.ok (.agg ⟨cs⟩) fr st:=rfl;rw[this,bj]
 ·exact aes U h
def gI(call:bG)(o:de)(s:cr)(a:ae)(bl:ac bd)(b1:Nat):Prop:=
 ∀(H:bu) (ids:ac Nat) (st:au) (fr:aJ),Fit H ids st s.own s.n->c1 fr H ids s.env->
  ∃v st' bO a5,bK call o fr st= .ok v fr st'∧Fit a5 bO st' bl b1∧den a5 a bO v∧dj H a5∧dk ids bO∧(∀bY i0 aK,dv bY i0 aK H ids st->dv bY i0 aK a5 bO st')∧
   st.aj<=st'.aj∧∀b,b<st.aj->(∀k,iM s.env o=some k->ids[k]? ≠some b)->st'.h.get b=st.h.get b
def Ae(bY:bu)(call:bG)(o:de)(s:cr)(a:ae)(bl:ac bd)(b1:Nat):Prop:=
 ∀(H:bu) (ids:ac Nat) (st:au) (fr:aJ),dj bY H->Fit H ids st s.own s.n->c1 fr H ids s.env->
  ∃v st' bO a5,bK call o fr st= .ok v fr st'∧Fit a5 bO st' bl b1∧den a5 a bO v∧dj H a5∧dk ids bO∧(∀bY i0 aK,dv bY i0 aK H ids st->dv bY i0 aK a5 bO st')∧
   st.aj<=st'.aj∧∀b,b<st.aj->(∀k,iM s.env o=some k->ids[k]? ≠some b)->st'.h.get b=st.h.get b
def gI.g{call:bG}{o:de}{s:cr}{bl:ac bd}{b1:Nat}(h:gI call o s a bl b1):Ae bY call o s a bl b1:=fun H ids st fr _ ar U=>h H ids st fr ar U
def Af(call:bG)(o:de)(s:cr)(a:ae)(bl:ac bd)(b1:Nat):Prop:=
 ∀(H:bu) (ids:ac Nat) (st:au) (fr:aJ),Fit H ids st s.own s.n->c1 fr H ids s.env->
  ∃v st' bO,bK call o fr st= .ok v fr st'∧Fit H bO st' bl b1∧den H a bO v∧dk ids bO∧(∀bY i0 aK,dv bY i0 aK H ids st->dv bY i0 aK H bO st')∧
   st.aj<=st'.aj∧∀b,b<st.aj->(∀k,iM s.env o=some k->ids[k]? ≠some b)->st'.h.get b=st.h.get b
def Af.to{call:bG}{o:de}{s:cr}{bl:ac bd}{b1:Nat}(h:Af call o s a bl b1):gI call o s a bl b1:=fun H ids st fr ar U=>
 let⟨v,st',bO,h1,h2,ab,aD,bg,cv,dq⟩:=h H ids st fr ar U
 ⟨v,st',bO,H,h1,h2,ab,dj.refl _,aD,bg,cv,dq⟩
section
variable{call:bG}{β:Type _}{r:β}
variable{s:cr}{K:ae->ac bd->Nat->am β}
def OO{own:ac bd}(ar:Fit H ids st own n){el:ce}{cs:ac ae}{vs:ac be}(d:dH H cs ids vs):
 Fit H (ids++[st.aj]) ⟨st.h.set st.aj (.cells vs el (0,0) false),st.aj+1⟩ (own++[.c el cs]) (n+1)∧(ids++[st.aj])[n]? =some st.aj:=by
 refine⟨ar.add ⟨vs,rfl,ni (dj.refl _) _ (dk.app _ _) d⟩,?_⟩;rw[<-ar.len,zaW (b6 _)];simp
def zq{b:Nat}(hb:b<st.aj):(an.set st.h st.aj eK).get b=st.h.get b:=an.ji _ _ (by omega)
def acB{k o m:Nat}{a x:bi}(h:Ks s.own s.n s.env k o m x K=some r)(hm:iM s.env (.store m a x)=some k)
 (ha:∀{H:bu} {ids:ac Nat} {fr:aJ},c1 fr H ids s.env->∃b,ids[k]? =some b∧fr.ai a= .pointer (some ⟨b,o,none⟩)):∃a' bl b1,K a' bl b1=some r∧Af call (.store m a x) s a' bl b1:=by
 unfold Ks at h;split at h<;>try cases h
 rename_i el cs hk;split at h<;>try cases h
 rename_i c J;split at h<;>try cases h
 rename_i ds kj;split at h<;>try cases h
 rename_i hl;split at h<;>try cases h
 rename_i hc;obtain⟨h1,h2⟩:=JE h;have ab:=j5 h2;refine⟨_,_,_,ab,?_⟩;intro H ids st fr ar U;obtain⟨b,hb,aB⟩:=ha U;obtain⟨⟨vs,dz,d⟩,_⟩:=ar.own k _ b hk hb;obtain⟨hp,d2⟩:=Gr kj (U.ai J);have hl:=Ix hl;have kE:=iF d2;have Nm:=iF d;refine⟨undef,_,ids,?_,ar.hI hk rfl hb ⟨_,rfl,Me o d d2⟩,⟨[],rfl,rfl⟩,dk.refl _,fun _ _ _ B=>B.hI (zau hb) _,b6 _,?_⟩
 ·have:bK call (.store m a x) fr st=jD (fr.ai a) (fun p=>bm p (fun a=>eQ (dL (jr (fr.ai x))) m (cond (h8 (jr (fr.ai x))) (st.store a (jr (fr.ai x)) (fun st=>aV.ok undef fr st) .no) .no) .no) .no) .no:=rfl;rw[this,aB,sA,Sym.e6,fC,lv (by omega),C0 hc d2,cond_true];unfold au.store au.hz;rw[Sym.jc,dz,mK,gn (b6 _),sl,zab (by show o+_<=_;omega),lk]
 ·intro gw _ cb;show(st.h.set b _).get gw=_;exact an.ji _ _ (fun e=>cb k hm (e▸hb))
def RJ{o:de}(h:Gc s.own s.n s.env K o=some r):∃a bl b1,K a bl b1=some r∧Af call o s a bl b1:=by
 cases o<;>simp only[Gc]at h
 case alloc z el=>
  refine⟨_,_,_,nC (oY (EW h)),?_⟩;intro H ids st fr ar U;obtain⟨h1,h2⟩:=OO ar (el:=el) (v9 H ids z);refine⟨_,_,_,?_,h1,⟨_,h2,rfl⟩,dk.app _ _,fun _ _ _ B=>B.add _,zba _,fun b hb _=>zq hb⟩;have:bK call (.alloc z el) fr st=st.j1 (.cells z el (0,0) false) fun id st=>.ok (.pointer (some ⟨id,0,none⟩)) fr st:=rfl;rw[this,g8]
 case box el x=>
  split at h<;>try cases h
  rename_i a J;split at h<;>try cases h
  rename_i ds kj;refine⟨_,_,_,nC (oY h),?_⟩;intro H ids st fr ar U;obtain⟨hp,d⟩:=Gr kj (U.ai J);obtain⟨h1,h2⟩:=OO ar (el:=el) d;refine⟨_,_,_,?_,h1,⟨_,h2,rfl⟩,dk.app _ _,fun _ _ _ B=>B.add _,zba _,fun b hb _=>zq hb⟩;have:bK call (.box el x) fr st=cond (uW (fr.ai x)) .no (st.j1 (.cells (jr (fr.ai x)) el (0,0) false) fun id st=>.ok (.pointer (some ⟨id,0,none⟩)) fr st):=rfl;rw[this,hp,cond_false,g8]
 case pJ el len z ps=>
  obtain⟨cs',aH,aI⟩:=Ha (EW h);refine⟨_,_,_,nC (oY aI),?_⟩;intro H ids st fr ar U;obtain⟨gG,d,bj⟩:=Hb U aH (v9 H ids z);obtain⟨h1,h2⟩:=OO ar (el:=el) d;refine⟨_,_,_,?_,h1,⟨_,h2,rfl⟩,dk.app _ _,fun _ _ _ B=>B.add _,zba _,fun b hb _=>zq hb⟩;have:bK call (.pJ el len z ps) fr st=o9 fr ps z fun cs=>st.j1 (.cells cs el (0,0) false) fun id st=>.ok (.slice (some ⟨id,0,none⟩) len len) fr st:=rfl;rw[this,bj,g8,zaA]
 case build z ps=>
  obtain⟨cs',aH,aI⟩:=Ha (EW h);refine⟨_,_,_,aI,?_⟩;intro H ids st fr ar U;obtain⟨gG,d,bj⟩:=Hb U aH (v9 H ids z);refine⟨.agg ⟨gG⟩,st,ids,?_,ar,⟨_,rfl,d⟩,dk.refl _,fun _ _ _ B=>B,b6 _,fun b hb _=>rfl⟩;have:bK call (.build z ps) fr st=o9 fr ps z fun cs=>.ok (.agg ⟨cs⟩) fr st:=rfl;rw[this,bj]
 case store m a x=>
  split at h<;>try cases h
  ·rename_i k o ha;exact acB h (by simp[iM,ha]) fun U=>by obtain⟨b,h1,h2⟩:=U.ai ha;exact⟨b,h1,h2⟩
  ·rename_i k z j o ha;exact acB h (by simp[iM,ha]) fun U=>by obtain⟨b,h1,h2⟩:=U.ai ha;exact⟨b,h1,h2⟩
 all_goals cases h
end
structure fI where
 call:bG
 cc:Nat
 fn:ci
 bY:bu
 i0:ac Nat
 aK:au
 Q:dM->cr->Prop
inductive eS where
 |seq (c:dw)
 |cJ (i:Nat)
 |bR (Ry:cr->Prop)
 |Dh (ms:List Nat) (n:Nat)
inductive bB where
 |c (c:dw)
 |o (l:List bA)
 |x (e:dM)
 |d (l:List (bA×cx)) (bp:List bd) (a7:bJ) (a6 bU:Nat)
variable(aw:fI)
def vL(Q:dM->cr->Prop):dM->aJ->au->Prop:=fun x fr st=>∃H ids s,dv aw.bY aw.i0 aw.aK H ids st∧Fit H ids st s.own s.n∧c1 fr H ids s.env∧Q x s
def RA(Q:dM->cr->Prop)(c:dw)(s:cr):Prop:=∀H ids st fr,dv aw.bY aw.i0 aw.aK H ids st->Fit H ids st s.own s.n->c1 fr H ids s.env->W (dA aw.call aw.cc aw.fn c fr st) (vL aw Q)
def ad5(Q:dM->cr->Prop)(l:ac bA)(s:cr):Prop:=∀H ids st fr,dv aw.bY aw.i0 aw.aK H ids st->Fit H ids st s.own s.n->c1 fr H ids s.env->W (jh aw.call l fr st) (vL aw Q)
structure ad7(fz H:bu)(ids:ac Nat)(st:au)(bp:ac bd)(a7:bJ)(a6 bU:Nat)(af:ac (an bt))(fr:aJ):Prop where
 len:af.length=a6
 hle:dj fz H
 fS:∀j a,dR a7 j=some a->den fz a ids (fr.tmp j)
 oM:bp.length<=ids.length
 wS:bU<=ids.length
 bp:∀(k:Nat) (o:bd) (b:Nat),bp[k]? =some o->o.live=true->ids[k]? =some b->nS fz ids o (st.h.get b)∧∀h∈af,h.get b=st.h.get b
 old:∀h∈af,∀b o,fz b=some o->h.get b=some o
 top:∀h,af.head?=some h->(∀b o,H b=some o->h.get b=some o)∧∀k b:Nat,k<bU->ids[k]? =some b->h.get b=st.h.get b
def KP(K:ac eS)(dh:tL):Prop:=
 match K with
 |.Dh ms n::_=>dh=ua aw.call ms n
 |_=>True
def ad4(C:tL->Prop)(Q:dM->cr->Prop)(l:ac (bA×cx))(bp:ac bd)(a7:bJ)(a6 bU:Nat)(s:cr):Prop:=∀dh,C dh->∀H ids st fr fz af,dv aw.bY aw.i0 aw.aK H ids st->Fit H ids st s.own s.n->c1 fr H ids s.env->ad7 fz H ids st bp a7 a6 bU af fr->W (iv aw.call dh l af fr st) (vL aw Q)
def Sem:ac eS->dM->cr->Prop
 |[]=>aw.Q
 |.seq c::K=>fun x s=>match x with
  |.norm=>RA aw (Sem K) c s
  |x=>Sem K x s
 |.cJ i::K=>fun x s=>match x with
  |.exit j=>if j=i then Sem K .norm s else Sem K (.exit j) s
  |x=>Sem K x s
 |.bR Ry::K=>fun x s=>match x with
  |.norm=>Ry s
  |x=>Sem K x s
 |.Dh _ _::K=>Sem K
def hy(K:ac eS)(c:bB)(s:cr):Prop:=
 match c with
 |.c c=>RA aw (Sem aw K) c s
 |.o l=>ad5 aw (Sem aw K) l s
 |.x e=>Sem aw K e s
 |.d l bp a7 a6 bU=>ad4 aw (KP aw K) (Sem aw K) l bp a7 a6 bU s
structure aS where
 K:ac eS
 c:bB
 s:cr
def aS.ok(g:aS):Prop:=hy aw g.K g.c g.s
def fO(d:am Tmp)(a:ae)(e:bJ):bJ:=
 match d with
 |none=>e
 |some d=>(d,a)::e
section
def CS(own:ac bd)(n:Nat)(e:bJ)(o:de)(K:ae->ac bd->Nat->am aS):am aS:=
 match CR e o with
 |some a=>K a own n
 |none=>match vR own e o with
  |some a=>K a own n
  |none=>Gc own n e K o
def sQ(d:am Tmp)(e:bJ):bJ:=
 match d with
 |none=>e
 |some d=>lV d e
def Mn:ac Nat->bJ->bJ
 |[],e=>e
 |d::ds,e=>Mn ds (lV d e)
def BU{β:Type _}(bp:ac bd)(m:am Nat)(K:ac bd->am β):am β:=
 match m with
 |none=>K bp
 |some k=>match bp[k]? with
  |some _=>jm bp k .x K
  |none=>K bp
def Sb(bp:ac bd)(e:bJ)(o:de):am ae:=
 match CR e o with
 |some a=>some a
 |none=>vR bp e o
def AL{β:Type _}(d:Nat):bJ->(bJ->am β)->am β
 |[],K=>K []
 |p::l,K=>match Nat.beq p.1 d with
  |true=>AL d l K
  |false=>AL d l fun r=>K (p::r)
def qB(K:ac eS)(d:am Tmp)(l:ac (bA×cx))(bp:ac bd)(a7:bJ)(a6 bU:Nat)(own:ac bd)(n:Nat)(a:ae)(e:bJ)(a0:am ae):am aS:=
 match d with
 |none=>some ⟨K,.d l bp a7 a6 bU,⟨own,n,e⟩⟩
 |some d=>match a0 with
  |some a0=>some ⟨K,.d l bp ((d,a0)::a7) a6 bU,⟨own,n,(d,a)::e⟩⟩
  |none=>AL d a7 fun agQ=>some ⟨K,.d l bp agQ a6 bU,⟨own,n,(d,a)::e⟩⟩
def Mp(K:ac eS)(d:am Tmp)(o:de)(c:cx)(l:ac (bA×cx))(bp:ac bd)(a7:bJ)(a6 bU:Nat)(own:ac bd)(n:Nat)(e:bJ):am aS:=
 match c with
 |.ep=>CS own n e o fun a bl b1=>BU bp (iM e o) fun gY=>mx a6 fun L3=>qB K d l gY a7 L3 b1 bl b1 a e none
 |.im ts=>Gc own n (fh ts e) (fun a bl b1=>match iM (fh ts e) o with
  |none=>qB K d l bp a7 a6 bU bl b1 a e none
  |some _=>none) o
 |.read back ts=>match Nat.ble (back+1) a6 with
  |true=>match Sb bp (fh ts a7) o with
   |some a0=>qB K d l bp a7 a6 bU own n a0 e (some a0)
   |none=>match CR (fh ts e) o with
    |some a=>qB K d l bp a7 a6 bU own n a e none
    |none=>match back with
     |0=>match vR own (fh ts e) o with
      |some a=>match qW (fh ts e) o with
       |none=>qB K d l bp a7 a6 bU own n a e none
       |some k=>match Nat.ble (k+1) bU with
        |true=>qB K d l bp a7 a6 bU own n a e none
        |false=>none
      |none=>none
     |_=>none
  |false=>none
def Gy(c:cx)(e:bJ):bJ:=
 match c with
 |.ep=>e
 |.im ts=>fh ts e
 |.read _ ts=>fh ts e
def Df(K:ac eS)(d:am Tmp)(c:cx)(l:ac (bA×cx))(bp:ac bd)(a7:bJ)(a6 bU:Nat)(own:ac bd)(n:Nat)(e:bJ):am aS:=
 match c with
 |.ep=>mx a6 fun L3=>qB K d l bp a7 L3 n own n (.bM []) e none
 |_=>qB K d l bp a7 a6 bU own n (.bM []) e none
def EV(K:ac eS)(l:ac bA)(d:am Tmp)(own:ac bd)(n:Nat)(e:bJ):am aS:=
 match d with
 |none=>some ⟨K,.o l,⟨own,n,e⟩⟩
 |some d=>some ⟨K,.o l,⟨own,n,(d,.bM [])::e⟩⟩
def On{β:Type _}:ac (bA×cx)->Nat->(Nat->am β)->am β
 |[],n,K=>K n
 |_::l,n,K=>mx n fun n=>On l n K
def Mo{β:Type _}:ac Nat->bJ->(bJ->am β)->am β
 |[],e,K=>K e
 |d::ds,e,K=>AL d e fun cK=>Mo ds cK K
def Ck:aS->am aS
 |⟨K,.c .skip,s⟩=>some ⟨K,.x .norm,s⟩
 |⟨K,.c (.vz l),s⟩=>some ⟨K,.o l,s⟩
 |⟨K,.c (.seq a b),s⟩=>some ⟨.seq b::K,.c a,s⟩
 |⟨K,.c (.block i a),s⟩=>some ⟨.cJ i::K,.c a,s⟩
 |⟨K,.c (.exit i),s⟩=>some ⟨K,.x (.exit i),s⟩
 |⟨K,.c .ret,s⟩=>some ⟨K,.x .ret,s⟩
 |⟨K,.c (.scope a),s⟩=>some ⟨K,.c a,s⟩
 |⟨K,.c (.cond c a b),s⟩=>match br s.env c with
  |some (.b true)=>some ⟨K,.c a,s⟩
  |some (.b false)=>some ⟨K,.c b,s⟩
  |_=>none
 |⟨K,.o [],s⟩=>some ⟨K,.x .norm,s⟩
 |⟨K,.o (⟨some d,o,none⟩::l),⟨own,n,e⟩⟩=>CS own n e o fun a bl b1=>some ⟨K,.o l,⟨bl,b1,(d,a)::e⟩⟩
 |⟨K,.o (⟨none,o,none⟩::l),⟨own,n,e⟩⟩=>CS own n e o fun _ bl b1=>some ⟨K,.o l,⟨bl,b1,e⟩⟩
 |⟨K,.o (⟨d,o,some (t,b)⟩::l),⟨own,n,e⟩⟩=>match dR e t with
  |some (.b true)=>match b with
   |true=>some ⟨K,.o (⟨d,o,none⟩::l),⟨own,n,e⟩⟩
   |false=>EV K l d own n e
  |some (.b false)=>match b with
   |false=>some ⟨K,.o (⟨d,o,none⟩::l),⟨own,n,e⟩⟩
   |true=>EV K l d own n e
  |some (.bM _)=>EV K l d own n e
  |_=>none
 |⟨K,.c (.uo l _ ek ms),⟨own,n,e⟩⟩=>Mo ek e fun cK=>On l 0 fun m=>some ⟨.Dh ms m::K,.d l own cK 1 n,⟨own,n,cK⟩⟩
 |⟨.Dh _ _::K,.d [] _ _ _ _,s⟩=>some ⟨K,.x .norm,s⟩
 |⟨K,.d [] _ _ _ _,s⟩=>some ⟨K,.x .norm,s⟩
 |⟨K,.d ((⟨d,o,none⟩,c)::l) bp a7 a6 bU,⟨own,n,e⟩⟩=>Mp K d o c l bp a7 a6 bU own n e
 |⟨K,.d ((⟨d,o,some (t,b)⟩,c)::l) bp a7 a6 bU,⟨own,n,e⟩⟩=>match dR (Gy c e) t with
  |some (.b true)=>match b with
   |true=>some ⟨K,.d ((⟨d,o,none⟩,c)::l) bp a7 a6 bU,⟨own,n,e⟩⟩
   |false=>Df K d c l bp a7 a6 bU own n e
  |some (.b false)=>match b with
   |false=>some ⟨K,.d ((⟨d,o,none⟩,c)::l) bp a7 a6 bU,⟨own,n,e⟩⟩
   |true=>Df K d c l bp a7 a6 bU own n e
  |some (.bM _)=>Df K d c l bp a7 a6 bU own n e
  |_=>none
 |⟨.seq c::K,.x .norm,s⟩=>some ⟨K,.c c,s⟩
 |⟨.seq _::K,.x (.exit i),s⟩=>some ⟨K,.x (.exit i),s⟩
 |⟨.seq _::K,.x .ret,s⟩=>some ⟨K,.x .ret,s⟩
 |⟨.cJ _::K,.x .norm,s⟩=>some ⟨K,.x .norm,s⟩
 |⟨.cJ i::K,.x (.exit j),s⟩=>match Nat.beq j i with
  |true=>some ⟨K,.x .norm,s⟩
  |false=>some ⟨K,.x (.exit j),s⟩
 |⟨.cJ _::K,.x .ret,s⟩=>some ⟨K,.x .ret,s⟩
 |⟨.bR _::K,.x (.exit i),s⟩=>some ⟨K,.x (.exit i),s⟩
 |⟨.bR _::K,.x .ret,s⟩=>some ⟨K,.x .ret,s⟩
 |⟨.seq _::K,.x (.a9 v),s⟩=>some ⟨K,.x (.a9 v),s⟩
 |⟨.cJ _::K,.x (.a9 v),s⟩=>some ⟨K,.x (.a9 v),s⟩
 |⟨.bR _::K,.x (.a9 v),s⟩=>some ⟨K,.x (.a9 v),s⟩
 |⟨.Dh _ _::K,.x e,s⟩=>some ⟨K,.x e,s⟩
 |_=>none
end
section
variable{aw:fI}{K:ac eS}{s:cr}
variable{d:am Tmp}{a7:bJ}{bp:ac bd}{a6 bU:Nat}{g:aS}{bl:ac bd}{b1:Nat}{fr:aJ}{e:bJ}{back:Nat}{c:cx}{t:Bool}{fz:bu}{gY:ac bd}
def c1.fO(h:c1 fr H ids e)(d:am Tmp)(aB:den H a ids v):c1 (fr.put d v) H ids (Go.ah.fO d a e):=by
 cases d with
 |none=>exact h
 |some d=>exact h.put d aB
def Ln{call:bG}{o:de}{C:ae->ac bd->Nat->am aS}{r:aS}(h:CS s.own s.n s.env o C=some r):∃a bl b1,C a bl b1=some r∧gI call o s a bl b1:=by
 unfold CS at h;split at h
 ·rename_i a ha;refine⟨a,_,_,h,fun H ids st fr ar U=> ?_⟩;obtain⟨v,ao,he⟩:=Lj (call:=call) U ha;exact⟨v,st,ids,H,he st,ar,ao,dj.refl _,dk.refl _,fun _ _ _ B=>B,b6 _,fun _ _ _=>rfl⟩
 ·split at h
  ·rename_i a ha;refine⟨a,_,_,h,fun H ids st fr ar U=> ?_⟩;obtain⟨v,ao,he⟩:=Le (call:=call) U (by rw[ar.len,ar.ct];exact b6 _) (fun k o b hk _ hb=>(ar.own k o b hk hb).1) ha;exact⟨v,st,ids,H,he st (.inl ar.le) (fun _ _ _ _=>rfl),ar,ao,dj.refl _,dk.refl _,fun _ _ _ B=>B,b6 _,fun _ _ _=>rfl⟩
  ·obtain⟨a,bl,b1,h1,h2⟩:=RJ (call:=call) h;exact⟨a,bl,b1,h1,h2.to⟩
def Kb{o:de}{l:ac bA}(h:Ae aw.bY aw.call o s a bl b1)(k:hy aw K (.o l) ⟨bl,b1,fO d a s.env⟩):hy aw K (.o (⟨d,o,none⟩::l)) s:=by
 intro H ids st fr a8 ar U;obtain⟨v,st',bO,a5,h1,h2,ab,cv,aD,bg,_⟩:=h H ids st fr a8.hle ar U;exact Cw h1 (k a5 bO st' _ (bg _ _ _ a8) h2 ((U.mono cv aD).fO d ab))
def Ka{o:de}{l:ac bA}(h:gI aw.call o s a bl b1)(k:hy aw K (.o l) ⟨bl,b1,fO d a s.env⟩):hy aw K (.o (⟨d,o,none⟩::l)) s:=Kb h.g k
def v7(h:∀j a,dR a7 j=some a->den fz a ids (fr.tmp j))(d:am Tmp)(v:be):∀j a,dR (sQ d a7) j=some a->den fz a ids ((fr.put d v).tmp j):=by
 cases d with
 |none=>exact h
 |some d=>
  intro j a hj;obtain⟨h1,h2⟩:=IA d a7 j a hj;rw[zS,zaa h1];exact h j a h2
def agv(h:∀j a,dR a7 j=some a->den fz a ids (fr.tmp j))(d:am Tmp)(aB:den fz b ids v):∀j a,dR (fO d b a7) j=some a->den fz a ids ((fr.put d v).tmp j):=by
 cases d with
 |none=>exact h
 |some d=>
  intro j a hj;have hj:cond (Nat.beq d j) (some b) (dR a7 j)=some a:=hj;rw[zS];cases hb:Nat.beq d j with
  |true=>
   rw[hb]at hj;rw[zab (eo hb).symm];cases hj;exact aB
  |false=>
   rw[hb]at hj;rw[zaa (fun e=>by rw[e,zaN]at hb;cases hb)];exact h j a hj
theorem G0{β:Type _}{r:β}{d:Nat}:∀{e:bJ} {C:bJ->am β},AL d e C=some r->C (lV d e)=some r
 |[],_,h=>h
 |p::l,C,h=>by
  unfold AL at h;unfold lV;cases hb:Nat.beq p.1 d with
  |true=>rw[hb]at h;exact G0 (e:=l) h
  |false=>rw[hb]at h;exact G0 (e:=l) h
theorem YA{β:Type _}{r:β}:∀{l:ac (bA×cx)} {n:Nat} {C:Nat->am β},On l n C=some r->C (n+dL l)=some r
 |[],_,_,h=>h
 |x::l,n,C,h=>by
  have h:=YA (l:=l) (nC h);have e:n+dL (x::l)=n+1+dL l:=by
   rw[fC,fC,zax];omega
  rw[e];exact h
theorem TF{β:Type _}{r:β}:∀{ds:ac Nat} {e:bJ} {C:bJ->am β},Mo ds e C=some r->C (Mn ds e)=some r
 |[],_,_,h=>h
 |_::ds,_,_,h=>TF (ds:=ds) (G0 h)
def xZ{l:ac (bA×cx)}{own:ac bd}(h:qB K d l bp a7 a6 bU own n a e none=some g)(k:g.ok aw):hy aw K (.d l bp (sQ d a7) a6 bU) ⟨own,n,fO d a e⟩:=by
 unfold qB at h;split at h
 ·cases h;exact k
 ·have:=G0 h;cases this;exact k
def ago{l:ac (bA×cx)}{own:ac bd}(h:qB K d l bp a7 a6 bU own n a e (some a)=some g)(k:g.ok aw):hy aw K (.d l bp (fO d a a7) a6 bU) ⟨own,n,fO d a e⟩:=by
 unfold qB at h;split at h
 ·cases h;exact k
 ·cases h;exact k
def O0{l:ac bA}{own:ac bd}(h:EV K l d own n e=some g)(k:g.ok aw):hy aw K (.o l) ⟨own,n,fO d (.bM []) e⟩:=by
 unfold EV at h;split at h
 ·cases h;exact k
 ·cases h;exact k
def Jr{β:Type _}{r:β}{m:am Nat}{C:ac bd->am β}(h:BU bp m C=some r):∃gY,C gY=some r∧gY.length=bp.length∧∀(k:Nat) (o:bd),gY[k]? =some o->o.live=true->bp[k]? =some o∧m≠some k:=by
 unfold BU at h;split at h
 ·exact⟨_,h,rfl,fun k o hk _=>⟨hk,by simp⟩⟩
 ·rename_i m;split at h
  ·refine⟨_,j5 h,by simp,fun k o hk hl=> ?_⟩;rw[zbb]at hk;by_cases mT:m=k
   ·rw[zab mT]at hk;split at hk<;>cases hk;cases hl
   ·rw[zaa mT]at hk;exact⟨hk,by simpa using mT⟩
  ·rename_i hn;refine⟨_,h,rfl,fun k o hk hl=>⟨hk,fun e=> ?_⟩⟩;cases e;rw[hn]at hk;cases hk
def Ma{o:de}{l:ac (bA×cx)}(h:Ae aw.bY aw.call o s a bl b1)(hl:gY.length=bp.length)(h1:∀(k:Nat) (bD:bd),gY[k]? =some bD->bD.live=true->bp[k]? =some bD∧iM s.env o≠some k)
 (k:hy aw K (.d l gY (sQ d a7) (a6+1) b1) ⟨bl,b1,fO d a s.env⟩):hy aw K (.d ((⟨d,o,none⟩,.ep)::l) bp a7 a6 bU) s:=by
 intro dh hP H ids st fr fz af a8 ar U bX;obtain⟨v,st',bO,a5,aH,aI,bj,cn,cT,eB,gb,nV⟩:=h H ids st fr a8.hle ar U;have s0:∀(k:Nat) (b:Nat),k<ids.length->bO[k]? =some b->ids[k]? =some b:=fun k b hk hb=>by
  have:=cT k _ (bE hk);rw[hb]at this;rw[bE hk,this]
 have A9:∀(k:Nat) (b:Nat),iM s.env o≠some k->ids[k]? =some b->st'.h.get b=st.h.get b:=fun k b hk hb=>by
  refine nV b (ar.lt b (zau hb)) fun k' fs cZ=> ?_;have aq:=zaf.1 hb;have e2:=zaf.1 cZ;have:=(zcw (h₀:=aq.1) (h₁:=e2.1) ar.dg).1 (aq.2.trans e2.2.symm);exact hk (this▸fs)
 have fm:=k dh hP a5 bO st' (fr.put d v) fz (st'.h::af) (eB _ _ _ a8) aI ((U.mono cn cT).fO d bj) ⟨by simp[bX.len],bX.hle.trans cn,v7 (fun j a hj=>sL (dj.refl _) _ cT (bX.fS j a hj)) d v,?_,by rw[aI.len];exact b6 _,?_,?_,?_⟩
 ·refine W.of_eq ?_ fm;show aV.rec (motive:=fun _=>cU) (fun v aA st'=>ey st.aj st'.aj (iv aw.call dh l (st'.h::af) (aJ.put ⟨fr.t,aA.cW,aA.a9,aA.cD,aA.bR⟩ d v) st') .no) (fun v st'=>cond o.mh (cond (dh l (st.h::af) (fr.put d undef) st) (.out (.a9 v) fr st') .no) .no) .no (bK aw.call o fr st)=_;rw[aH];show ey st.aj st'.aj _ _=_;rw[gn gb]
 ·rw[hl];have:ids.length<=bO.length:=by
   rcases zao bO.length ids.length with aE|mR
   ·have:=cT bO.length _ (bE aE);simp at this
   ·exact mR
  exact zag bX.oM this
 ·intro k bD b hk s4 hb;obtain⟨h2,ab⟩:=h1 k bD hk s4;have DU:k<ids.length:=gH (zaf.1 h2).1 bX.oM;have hb:=s0 k b DU hb;obtain⟨aD,bg⟩:=bX.bp k bD b h2 s4 hb;have e:=A9 k b ab hb;rw[e];refine⟨ug (dj.refl _) cT aD,fun h hm=> ?_⟩;rcases zap.1 hm with rfl|hm
  ·exact e
  ·exact bg h hm
 ·intro h hm b bD hb;rcases zap.1 hm with rfl|hm
  ·exact aI.le _ _ (cn _ _ (bX.hle _ _ hb))
  ·exact bX.old h hm b bD hb
 ·intro h hm;simp at hm;subst hm;exact⟨aI.le,fun _ _ _ _=>rfl⟩
def v3{o:de}{l:ac (bA×cx)}(h:gI aw.call o s a bl b1)(hl:gY.length=bp.length)(h1:∀(k:Nat) (bD:bd),gY[k]? =some bD->bD.live=true->bp[k]? =some bD∧iM s.env o≠some k)
 (k:hy aw K (.d l gY (sQ d a7) (a6+1) b1) ⟨bl,b1,fO d a s.env⟩):hy aw K (.d ((⟨d,o,none⟩,.ep)::l) bp a7 a6 bU) s:=Ma h.g hl h1 k
def Ie{i j:ac Nat}(h:dk i j):i.length<=j.length:=by
 rcases zao j.length i.length with aE|mR
 ·have:=h j.length _ (bE aE);simp at this
 ·exact mR
def Tj{o:de}{ts:ac Tmp}{l:ac (bA×cx)}(h:Af aw.call o ⟨s.own,s.n,fh ts s.env⟩ a bl b1)(hm:iM (fh ts s.env) o=none)
 (k:hy aw K (.d l bp (sQ d a7) a6 bU) ⟨bl,b1,fO d a s.env⟩):hy aw K (.d ((⟨d,o,none⟩,.im ts)::l) bp a7 a6 bU) s:=by
 intro dh hP H ids st fr fz af a8 ar U bX;obtain⟨v,st',bO,aH,aI,bj,cT,eB,gb,nV⟩:=h H ids st (fr.only ts) ar (U.only ts);have s0:∀(k:Nat) (b:Nat),k<ids.length->bO[k]? =some b->ids[k]? =some b:=fun k b hk hb=>by
  have:=cT k _ (bE hk);rw[hb]at this;rw[bE hk,this]
 have A9:∀(k:Nat) (b:Nat),ids[k]? =some b->st'.h.get b=st.h.get b:=fun k b hb=>nV b (ar.lt b (zau hb)) fun k' fs=>by rw[hm]at fs;cases fs
 have fm:=k dh hP H bO st' (fr.put d v) fz af (eB _ _ _ a8) aI ((U.mono (dj.refl _) cT).fO d bj) ⟨bX.len,bX.hle,v7 (fun j a hj=>sL (dj.refl _) _ cT (bX.fS j a hj)) d v,zag bX.oM (Ie cT),zag bX.wS (Ie cT),?_,bX.old,?_⟩
 ·refine W.of_eq ?_ fm;show m5 fr.t ts (fun t=>aV.rec (motive:=fun _=>cU) (fun v _ st'=>iv aw.call dh l af (fr.put d v) st') (fun _ _=>.no) .no (bK aw.call o ⟨t,[],none,false,none⟩ st))=_;rw[q7];have e:bK aw.call o ⟨EX fr.t ts,[],none,false,none⟩ st= .ok v (fr.only ts) st':=aH;rw[e]
 ·intro k bD b hk s4 hb;have DU:k<ids.length:=gH (zaf.1 hk).1 bX.oM;have hb:=s0 k b DU hb;obtain⟨aD,bg⟩:=bX.bp k bD b hk s4 hb;rw[A9 k b hb];exact⟨ug (dj.refl _) cT aD,bg⟩
 ·intro h k1;obtain⟨h1,h2⟩:=bX.top h k1;refine⟨h1,fun k b hk hb=> ?_⟩;have hb:=s0 k b (gH hk bX.wS) hb;rw[A9 k b hb];exact h2 k b hk hb
def Qp{dh:tL}{o:de}{ts:ac Tmp}{l:ac (bA×cx)}{af:ac (an bt)}{Q:dM->aJ->au->Prop}(h1:bK aw.call o (fr.only ts) st= .ok v (fr.only ts) st)(h2:∀h∈af.take (back+1),bK aw.call o (fr.only ts) ⟨h,st.aj⟩= .ok v (fr.only ts) ⟨h,st.aj⟩)(hl:back<af.length)
 (k:W (iv aw.call dh l af (fr.put d v) st) Q):W (iv aw.call dh ((⟨d,o,none⟩,.read back ts)::l) af fr st) Q:=by
 refine aun (fun h hm=> ?_) hl k;rcases zap.1 hm with rfl|hm
 ·exact h1
 ·exact h2 h hm
def qz{o:de}{ts:ac Tmp}{l:ac (bA×cx)}(hb:back<a6)
 (h:∀(H:bu) (ids:ac Nat) (st:au) (fr:aJ),c1 fr H ids (fh ts a7)->bp.length<=ids.length->(∀(k:Nat) (o:bd) (b:Nat),bp[k]? =some o->o.live=true->ids[k]? =some b->nS H ids o (st.h.get b))->
  ∃v,den H a ids v∧∀ef:au,(∀b o,H b=some o->ef.h.get b=some o)->(∀(k:Nat) (o:bd) (b:Nat),bp[k]? =some o->o.live=true->ids[k]? =some b->ef.h.get b=st.h.get b)->bK aw.call o fr ef= .ok v fr ef)
 (k:hy aw K (.d l bp (fO d a a7) a6 bU) ⟨s.own,s.n,fO d a s.env⟩):hy aw K (.d ((⟨d,o,none⟩,.read back ts)::l) bp a7 a6 bU) s:=by
 intro dh hP H ids st fr fz af a8 ar U bX;have nr:c1 fr fz ids a7:=⟨U.pl,bX.fS⟩;obtain⟨v,h1,h2⟩:=h fz ids st (fr.only ts) (nr.only ts) bX.oM (fun k o b hk hl hb=>(bX.bp k o b hk hl hb).1);have fm:=k dh hP H ids st (fr.put d v) fz af a8 ar (U.fO d (sL bX.hle _ (dk.refl _) h1)) ⟨bX.len,bX.hle,agv bX.fS d h1,bX.oM,bX.wS,bX.bp,bX.old,bX.top⟩;refine Qp (h2 st (fun b o alo=>ar.le _ _ (bX.hle _ _ alo)) (fun _ _ _ _ _ _=>rfl)) (fun h hm=> ?_) (by rw[bX.len];exact hb) fm;have hm:=zbY hm;exact h2 ⟨h,st.aj⟩ (bX.old h hm) (fun k o b hk hl hb=>(bX.bp k o b hk hl hb).2 h hm)
def agi{o:de}{ts:ac Tmp}{l:ac (bA×cx)}(hb:back<a6)
 (h:∀(H:bu) (ids:ac Nat) (fr:aJ),c1 fr H ids (fh ts s.env)->∃v,den H a ids v∧∀st,bK aw.call o fr st= .ok v fr st)
 (k:hy aw K (.d l bp (sQ d a7) a6 bU) ⟨s.own,s.n,fO d a s.env⟩):hy aw K (.d ((⟨d,o,none⟩,.read back ts)::l) bp a7 a6 bU) s:=by
 intro dh hP H ids st fr fz af a8 ar U bX;obtain⟨v,h1,h2⟩:=h H ids (fr.only ts) (U.only ts);have fm:=k dh hP H ids st (fr.put d v) fz af a8 ar (U.fO d h1) ⟨bX.len,bX.hle,v7 bX.fS d v,bX.oM,bX.wS,bX.bp,bX.old,bX.top⟩;exact Qp (h2 st) (fun h hm=>h2 _) (by rw[bX.len];exact hb) fm
def agh{o:de}{ts:ac Tmp}{l:ac (bA×cx)}(hb:0<a6)
 (h:∀(H:bu) (ids:ac Nat) (st:au) (fr:aJ),Fit H ids st s.own s.n->c1 fr H ids (fh ts s.env)->∃v,den H a ids v∧∀ef:au,(∀b o,H b=some o->ef.h.get b=some o)->(∀k b:Nat,k<bU->ids[k]? =some b->ef.h.get b=st.h.get b)->bK aw.call o fr ef= .ok v fr ef)
 (k:hy aw K (.d l bp (sQ d a7) a6 bU) ⟨s.own,s.n,fO d a s.env⟩):hy aw K (.d ((⟨d,o,none⟩,.read 0 ts)::l) bp a7 a6 bU) s:=by
 intro dh hP H ids st fr fz af a8 ar U bX;obtain⟨v,h1,h2⟩:=h H ids st (fr.only ts) ar (U.only ts);have fm:=k dh hP H ids st (fr.put d v) fz af a8 ar (U.fO d h1) ⟨bX.len,bX.hle,v7 bX.fS d v,bX.oM,bX.wS,bX.bp,bX.old,bX.top⟩;refine Qp (h2 st ar.le (fun _ _ _ _=>rfl)) (fun h hm=> ?_) (by rw[bX.len];exact hb) fm;have hl:=bX.len
 match af,hl,hm with
 |[],hl,_=>simp at hl;omega
 |h0::af,_,hm=>
  simp at hm;subst hm;obtain⟨aH,aI⟩:=bX.top h rfl;exact h2 ⟨h,st.aj⟩ aH aI
def agP{o:de}{l:ac (bA×cx)}(h:Mp K d o c l bp a7 a6 bU s.own s.n s.env=some g)(k:g.ok aw):hy aw K (.d ((⟨d,o,none⟩,c)::l) bp a7 a6 bU) s:=by
 unfold Mp at h;split at h
 ·obtain⟨a,bl,b1,h1,h2⟩:=Ln (call:=aw.call) h;obtain⟨gY,ab,aD,bg⟩:=Jr h1;exact v3 h2 aD bg (xZ (nC ab) k)
 ·rename_i ts;obtain⟨a,bl,b1,h1,h2⟩:=RJ (call:=aw.call) (s:=⟨s.own,s.n,fh ts s.env⟩) h;split at h1
  ·rename_i hm;exact Tj h2 hm (xZ h1 k)
  ·cases h1
 ·rename_i back ts;split at h<;>try cases h
  rename_i hb;have hb:back<a6:=kv hb;split at h
  ·rename_i a0 ha;refine qz hb (fun H ids st fr U hl ak=> ?_) (ago h k);unfold Sb at ha;split at ha
   ·rename_i J;cases ha;obtain⟨v,h1,h2⟩:=Lj (call:=aw.call) U J;exact⟨v,h1,fun ef _ _=>h2 ef⟩
   ·obtain⟨v,h1,h2⟩:=Le (call:=aw.call) U hl ak ha;refine⟨v,h1,fun ef aH aI=>h2 ef (.inl aH) fun k b hk hb=> ?_⟩;obtain⟨bD,fs,cy⟩:=aob ha hk;exact aI k bD b fs cy hb
  ·split at h
   ·rename_i a ha;exact agi hb (fun H ids fr U=>Lj U ha) (xZ h k)
   ·split at h<;>try cases h
    split at h<;>try cases h
    rename_i a ha;have key:(∀k,qW (fh ts s.env) o=some k->k<bU)->aS.ok aw ⟨K,.d l bp (sQ d a7) a6 bU,⟨s.own,s.n,fO d a s.env⟩⟩->hy aw K (.d ((⟨d,o,none⟩,.read 0 ts)::l) bp a7 a6 bU) s:=fun hk k=>by
     refine agh hb (fun H ids st fr ar U=> ?_) k;obtain⟨v,h1,h2⟩:=Le (call:=aw.call) U (by rw[ar.len,ar.ct];exact b6 _) (fun k o b hk _ hb=>(ar.own k o b hk hb).1) ha;exact⟨v,h1,fun ef aH aI=>h2 ef (.inl aH) fun k b fs cZ=>aI k b (hk k fs) cZ⟩
    split at h
    ·rename_i hn;exact key (fun k hk=>by rw[hn]at hk;cases hk) (xZ h k)
    ·rename_i k0 hn;split at h
     ·rename_i aE;exact key (fun k hk=>by rw[hn]at hk;cases hk;exact kv aE) (xZ h k)
     ·cases h
def Mm{o:de}{t:Tmp}{b:Bool}{l:ac (bA×cx)}(aO:dR (Gy c s.env) t=some (.b (!b))∨∃vs,dR (Gy c s.env) t=some (.bM vs))(h:Df K d c l bp a7 a6 bU s.own s.n s.env=some g)(k:g.ok aw):hy aw K (.d ((⟨d,o,some (t,b)⟩,c)::l) bp a7 a6 bU) s:=by
 have want:∀{fr:aJ} {H:bu} {ids:ac Nat} {e:bJ} {y n z:cU},c1 fr H ids e->(dR e t=some (.b (!b))∨∃vs,dR e t=some (.bM vs))->h7 fr (some (t,b)) y n z=n:=fun{fr H ids e y n z} U aO=>by
  rcases aO with aO|⟨vs,aO⟩
  ·exact auH (U.get _ _ aO)
  ·obtain⟨ws,aB,_⟩:=U.get _ _ aO;show oc (fr.tmp t) (fun c=>cond c (cond b y n) (cond b n y)) (rr (fr.tmp t) (fun _=>n) z)=_;rw[aB];rfl
 unfold Df at h;intro dh hP H ids st fr fz af a8 ar U bX;split at h
 ·have k:=xZ (nC h) k;have fm:=k dh hP H ids st (fr.put d undef) fz (st.h::af) a8 ar (U.fO d ⟨[],rfl,rfl⟩) ⟨by simp[bX.len],bX.hle,v7 bX.fS d _,bX.oM,by rw[ar.len];exact b6 _,fun k o b hk hl hb=> ?_,fun h hm=> ?_,fun h hm=> ?_⟩
  ·refine W.of_eq ?_ fm;show h7 fr (some (t,b)) _ (iv aw.call dh l (st.h::af) (fr.put d undef) st) _=_;exact want U aO
  ·obtain⟨h1,h2⟩:=bX.bp k o b hk hl hb;refine⟨h1,fun h hm=> ?_⟩;rcases zap.1 hm with rfl|hm
   ·rfl
   ·exact h2 h hm
  ·rcases zap.1 hm with rfl|hm
   ·exact fun b o hb=>ar.le _ _ (bX.hle _ _ hb)
   ·exact bX.old h hm
  ·simp at hm;subst hm;exact⟨ar.le,fun _ _ _ _=>rfl⟩
 ·rename_i cb;have k:=xZ h k;have fm:=k dh hP H ids st (fr.put d undef) fz af a8 ar (U.fO d ⟨[],rfl,rfl⟩) ⟨bX.len,bX.hle,v7 bX.fS d _,bX.oM,bX.wS,bX.bp,bX.old,bX.top⟩;refine W.of_eq ?_ fm;cases c with
  |ep=>exact absurd rfl cb
  |im ts=>
   show m5 fr.t ts (fun cL=>h7 ⟨cL,[],none,false,none⟩ (some (t,b)) _ _ _)=_;rw[q7];exact want (U.only ts) aO
  |read back ts=>
   show m5 fr.t ts (fun cL=>h7 ⟨cL,[],none,false,none⟩ (some (t,b)) _ _ _)=_;rw[q7];exact want (U.only ts) aO
def TE{o:de}{t:Tmp}{b:Bool}{l:ac (bA×cx)}(aO:dR (Gy c s.env) t=some (.b b))(k:hy aw K (.d ((⟨d,o,none⟩,c)::l) bp a7 a6 bU) s):hy aw K (.d ((⟨d,o,some (t,b)⟩,c)::l) bp a7 a6 bU) s:=by
 intro dh hP H ids st fr fz af a8 ar U bX;refine W.of_eq ?_ (k dh hP H ids st fr fz af a8 ar U bX);cases c with
 |ep=>
  show h7 fr (some (t,b)) _ _ _=h7 fr none _ _ _;exact Rh (U.get _ _ aO)
 |im ts=>
  show m5 fr.t ts (fun cL=>h7 ⟨cL,[],none,false,none⟩ (some (t,b)) _ _ _)=m5 fr.t ts (fun cL=>h7 ⟨cL,[],none,false,none⟩ none _ _ _);rw[q7,q7];exact Rh ((U.only ts).get _ _ aO)
 |read back ts=>
  show m5 fr.t ts (fun cL=>h7 ⟨cL,[],none,false,none⟩ (some (t,b)) _ _ _)=m5 fr.t ts (fun cL=>h7 ⟨cL,[],none,false,none⟩ none _ _ _);rw[q7,q7];exact Rh ((U.only ts).get _ _ aO)
def c1.aas:∀(ek:ac Tmp) {fr:aJ} {e:bJ},c1 fr H ids e->c1 (qh fr ek) H ids (Mn ek e)
 |[],_,_,h=>h
 |d::ek,_,_,h=>c1.aas ek (h.agO d jB)
def Kv{hr:aS}(h:Ck g=some hr)(k:hr.ok aw):g.ok aw:=by
 unfold Ck at h;split at h
 ·cases h;exact fun H ids st fr a8 ar U=>auD ⟨H,ids,_,a8,ar,U,k⟩
 ·cases h;exact fun H ids st fr a8 ar U=>auy (k H ids st fr a8 ar U)
 ·cases h;intro H ids st fr a8 ar U;refine auC ((k H ids st fr a8 ar U).mono ?_);rintro x aA st' ⟨a5,bO,bh,du,dG,eJ,hq⟩;cases x with
  |norm=>exact hq a5 bO st' aA du dG eJ
  |exit i=>exact⟨a5,bO,bh,du,dG,eJ,hq⟩
  |ret=>exact⟨a5,bO,bh,du,dG,eJ,hq⟩
  |a9 v=>exact⟨a5,bO,bh,du,dG,eJ,hq⟩
 ·cases h;rename_i i a s;intro H ids st fr a8 ar U;refine aum ((k H ids st fr a8 ar U).mono ?_);rintro x aA st' ⟨a5,bO,bh,du,dG,eJ,hq⟩;cases x with
  |norm=>exact⟨a5,bO,bh,du,dG,eJ,hq⟩
  |exit j=>
   show(if j=i then _ else _);have hq:(if j=i then _ else _):=hq;split at hq
   ·rw[zab (by assumption)];exact⟨a5,bO,bh,du,dG,eJ,hq⟩
   ·rw[zaa (by assumption)];exact⟨a5,bO,bh,du,dG,eJ,hq⟩
  |ret=>exact⟨a5,bO,bh,du,dG,eJ,hq⟩
  |a9 v=>exact⟨a5,bO,bh,du,dG,eJ,hq⟩
 ·cases h;exact fun H ids st fr a8 ar U=>auq ⟨H,ids,_,a8,ar,U,k⟩
 ·cases h;exact fun H ids st fr a8 ar U=>auz ⟨H,ids,_,a8,ar,U,k⟩
 ·cases h;exact fun H ids st fr a8 ar U=>auB (k H ids st fr a8 ar U)
 ·split at h<;>cases h
  ·rename_i hc;exact fun H ids st fr a8 ar U=>auE (U.ai hc) rfl (k H ids st fr a8 ar U)
  ·rename_i hc;exact fun H ids st fr a8 ar U=>aup (U.ai hc) rfl (k H ids st fr a8 ar U)
 ·cases h;exact fun H ids st fr a8 ar U=>aut ⟨H,ids,_,a8,ar,U,k⟩
 ·rename_i K d o l own n e;obtain⟨a,bl,b1,h1,h2⟩:=Ln (call:=aw.call) (s:=⟨own,n,e⟩) h;cases h1;exact Ka (s:=⟨own,n,e⟩) (d:=some d) h2 k
 ·rename_i K o l own n e;obtain⟨a,bl,b1,h1,h2⟩:=Ln (call:=aw.call) (s:=⟨own,n,e⟩) h;cases h1;exact Ka (s:=⟨own,n,e⟩) (d:=none) h2 k
 ·rename_i K d o t b l own n e;have on:∀{b:Bool},dR e t=some (.b b)->hy aw K (.o (⟨d,o,none⟩::l)) ⟨own,n,e⟩->hy aw K (.o (⟨d,o,some (t,b)⟩::l)) ⟨own,n,e⟩:=fun aO k H ids st fr a8 ar U=>auw (U.get _ _ aO) rfl (k H ids st fr a8 ar U);have off:∀{b:Bool},dR e t=some (.b (!b))->hy aw K (.o l) ⟨own,n,fO d (.bM []) e⟩->hy aw K (.o (⟨d,o,some (t,b)⟩::l)) ⟨own,n,e⟩:=fun aO k H ids st fr a8 ar U=>auu (U.get _ _ aO) rfl (k H ids st _ a8 ar (U.fO d ⟨[],rfl,rfl⟩));split at h
  ·rename_i aO;cases b
   ·exact off aO (O0 h k)
   ·cases h;exact on aO k
  ·rename_i aO;cases b
   ·cases h;exact on aO k
   ·exact off aO (O0 h k)
  ·rename_i aO;have k:=O0 h k;intro H ids st fr a8 ar U;obtain⟨vs,aB,_⟩:=U.get _ _ aO;exact auv aB (k H ids st _ a8 ar (U.fO d ⟨[],rfl,rfl⟩))
  ·cases h
 ·rename_i K l cd ek ms own n e;have h:=YA (TF h);cases h;intro H ids st fr a8 ar U;have U:=U.aas ek;exact auo (k _ (show ua aw.call ms (dL l)=ua aw.call ms (0+dL l) by rw[zaP]) H ids st _ H [st.h] a8 ar U ⟨rfl,dj.refl _,U.get,by rw[ar.len,<-ar.ct];exact b6 _,by rw[ar.len];exact b6 _,fun k o b hk hl hb=>⟨(ar.own k o b hk hb).1,fun h hm=>by simp at hm;rw[hm]⟩,fun h hm=>by simp at hm;subst hm;exact ar.le,fun h hm=>by simp at hm;subst hm;exact⟨ar.le,fun _ _ _ _=>rfl⟩⟩)
 ·cases h;exact fun dh hP H ids st fr fz af a8 ar U bX=>adE ⟨H,ids,_,a8,ar,U,k⟩
 ·cases h;exact fun dh hP H ids st fr fz af a8 ar U bX=>adE ⟨H,ids,_,a8,ar,U,k⟩
 ·exact agP (s:=⟨_,_,_⟩) h k
 ·split at h
  ·rename_i aO;split at h
   ·cases h;exact TE (s:=⟨_,_,_⟩) aO k
   ·exact Mm (s:=⟨_,_,_⟩) (.inl aO) h k
  ·rename_i aO;split at h
   ·cases h;exact TE (s:=⟨_,_,_⟩) aO k
   ·exact Mm (s:=⟨_,_,_⟩) (.inl aO) h k
  ·rename_i aO;exact Mm (s:=⟨_,_,_⟩) (.inr ⟨_,aO⟩) h k
  ·cases h
 ·cases h;exact k
 ·cases h;exact k
 ·cases h;exact k
 ·cases h;exact k
 ·split at h<;>cases h
  ·rename_i hb;show(if _ then _ else _);rw[zab (eo hb)];exact k
  ·rename_i hb;show(if _ then _ else _);rw[zaa (fun e=>by rw[e,zaN]at hb;cases hb)];exact k
 ·cases h;exact k
 ·cases h;exact k
 ·cases h;exact k
 ·cases h;exact k
 ·cases h;exact k
 ·cases h;exact k
 ·cases h;exact k
 ·cases h
def zI{c:bi}{a b:dw}(hc:br s.env c=some (.b t))(ha:t=true->aS.ok aw ⟨K,.c a,s⟩)(hb:t=false->aS.ok aw ⟨K,.c b,s⟩):aS.ok aw ⟨K,.c (.cond c a b),s⟩:=fun H ids st fr a8 ar U=>
 aur (U.ai hc) (fun h=>ha h H ids st fr a8 ar U) (fun h=>hb h H ids st fr a8 ar U)
def abC{c:bi}{a b:dw}(hc:br s.env c=some (.b t))(aF:t=true)(ha:aS.ok aw ⟨K,.c a,s⟩):aS.ok aw ⟨K,.c (.cond c a b),s⟩:=zI hc (fun _=>ha) (fun h=>by rw[aF]at h;cases h)
def aqW{c:bi}{a b:dw}(hc:br s.env c=some (.b t))(aF:t=false)(hb:aS.ok aw ⟨K,.c b,s⟩):aS.ok aw ⟨K,.c (.cond c a b),s⟩:=zI hc (fun h=>by rw[aF]at h;cases h) (fun _=>hb)
def aq2{L:Type _}{b:dw}(eV:L->cr->Prop)(fF:L->Nat)(ny:L)(h0:eV ny s)(hm:fF ny<aw.cc)(h:∀l bh,eV l bh->aS.ok aw ⟨.bR (fun t=>∃l',fF l'<fF l∧eV l' t)::K,.c b,bh⟩):aS.ok aw ⟨K,.c (.loop b),s⟩:=by
 intro H ids st fr a8 ar U;refine aus (fun m fr st=>∃l H ids s,fF l=m∧eV l s∧dv aw.bY aw.i0 aw.aK H ids st∧Fit H ids st s.own s.n∧c1 fr H ids s.env) (fF ny) hm ⟨ny,H,ids,s,rfl,h0,a8,ar,U⟩ ?_;rintro m fr st ⟨l,H,ids,bh,rfl,aa,a8,ar,U⟩;refine(h l bh aa H ids st fr a8 ar U).mono ?_;rintro x aA st' ⟨a5,bO,bh,du,dG,eJ,hq⟩;cases x with
 |norm=>obtain⟨l',h1,h2⟩:=hq;exact⟨_,h1,l',a5,bO,bh,rfl,h2,du,dG,eJ⟩
 |exit i=>exact⟨a5,bO,bh,du,dG,eJ,hq⟩
 |ret=>exact⟨a5,bO,bh,du,dG,eJ,hq⟩
 |a9 v=>exact⟨a5,bO,bh,du,dG,eJ,hq⟩
end
def jd{aw:fI}{g hr:aS}(k:hr.ok aw)(h:Ck g=some hr:=by rfl):g.ok aw:=Kv h k
inductive Ah:aS->aS->Prop
 |o {g:aS}:Ah g g
 |i {g aH aI:aS} (h:Ck g=some aH) (t:Ah aH aI):Ah g aI
variable{g hr:aS}
def atH{aw:fI}(h:Ah g hr)(k:hr.ok aw):g.ok aw:=by
 induction h with
 |o=>exact k
 |i h _ a1=>exact Kv h (a1 k)
def I{aw:fI}(k:hr.ok aw)(h:Ah g hr:=by(repeat(apply Ah.i;exact rfl));exact .o):g.ok aw:=atH h k
end Go.ah
namespace Go.ah
open Sym
variable{f:ac Nat}
def mH(f:ac Nat):bJ->bJ->Prop
 |[],_=>True
 |p::l,e=>dR e p.1=some (m8 f p.2)∧mH f l e
def mH.get:∀{l e:bJ},mH f l e->∀{j:Nat} {a:ae},dR l j=some a->dR e j=some (m8 f a)
 |[],_,_,_,_,h=>by cases h
 |p::l,e,af,j,v,h=>by
  rw[tg]at h;cases hb:Nat.beq p.1 j with
  |true=>rw[hb]at h;cases h;rw[<-eo hb];exact af.1
  |false=>rw[hb]at h;exact mH.get af.2 h
def jT(f:ac Nat):bd->bd->Prop
 |.c el cs,o=>o= .c el (n8 f cs)
 |.a el a3 z α R l,o=>o= .a el a3 z α R l∧∀x,n8 f (R x)=R x
 |.x,_=>True
def tQ(f:ac Nat)(own:ac bd):ac Nat->ac bd->Prop
 |[],[]=>True
 |m::ms,o::os=>(∃bD,own[m]? =some bD∧jT f o bD)∧tQ f own ms os
 |_,_=>False
def tQ.len{own:ac bd}:∀{ms:ac Nat} {os:ac bd},tQ f own ms os->os.length=ms.length
 |[],[],_=>rfl
 |[],_::_,h=>h.elim
 |_::_,[],h=>h.elim
 |_::ms,_::os,h=>by simp[tQ.len h.2]
def tQ.get{own:ac bd}:∀{ms:ac Nat} {os:ac bd},tQ f own ms os->∀{k:Nat} {o:bd},os[k]? =some o->∃m bD,ms[k]? =some m∧own[m]? =some bD∧jT f o bD
 |[],[],_,_,_,h=>by simp at h
 |[],_::_,h,_,_,_=>h.elim
 |_::_,[],h,_,_,_=>h.elim
 |m::ms,o::os,⟨⟨bD,h1,h2⟩,ab⟩,0,q,h=>by simp at h;subst h;exact⟨m,bD,rfl,h1,h2⟩
 |m::ms,o::os,⟨_,ab⟩,k+1,q,h=>tQ.get ab (by simpa using h)
def pinned:Nat->ac Nat->Nat->Bool
 |0,_,_=>true
 |n+1,m::f,k=>Nat.beq m k&&pinned n f (k+1)
 |_+1,[],_=>false
theorem PC:∀{n:Nat} {f:ac Nat} {k:Nat},pinned n f k=true->∀i,i<n->f[i]? =some (k+i)
 |0,_,_,_,i,h=>by omega
 |n+1,[],k,h,_,_=>by cases h
 |n+1,m::f,k,h,i,aa=>by
  have h:(Nat.beq m k&&pinned n f (k+1))=true:=h;rw[b4]at h;cases i with
  |zero=>simp[eo h.1]
  |succ i=>rw[show k+(i+1)=(k+1)+i by omega];simpa using PC h.2 i (by omega)
structure Sub(p:Nat)(f:ac Nat)(s t:cr):Prop where
 dg:f.Nodup
 n:t.n=f.length
 own:tQ f s.own f t.own
 env:mH f t.env s.env
 aao:pinned p f 0=true
section
variable{H:bu}{ids:ac Nat}{st:au}{fr:aJ}{s t:cr}{f:ac Nat}
variable{o bD:bd}{p:Nat}
def agt{eK:am bt}(h:jT f o bD)(d:nS H ids bD eK):nS H (pick f ids) o eK:=by
 cases o with
 |c el cs=>cases h;obtain⟨vs,e,d⟩:=d;exact⟨vs,e,ui f cs d⟩
 |a el a3 z α R l=>
  obtain⟨h,hp⟩:=h;cases h;obtain⟨vs,aq,e2,d⟩:=d;exact⟨vs,aq,e2,fun i x J=>ui f _ (by rw[hp x];exact d i x J)⟩
 |x=>trivial
def jT.live(h:jT f o bD)(hl:o.live=true):bD.live=true:=by
 cases o with
 |c el cs=>cases h;rfl
 |a el a3 z α R l=>cases h.1;rfl
 |x=>cases hl
def Sub.fit(h:Sub p f s t)(ar:Fit H ids st s.own s.n):Fit H (pick f ids) st t.own t.n:=by
 have aO:∀{k m:Nat},f[k]? =some m->(∃o,s.own[m]? =some o)->∃b,ids[m]? =some b∧(pick f ids)[k]? =some b:=fun{k m} hk ⟨o,ak⟩=>by
  have aE:=(zaf.1 ak).1;have aa:m<ids.length:=by rw[ar.len,<-ar.ct];exact aE
  exact⟨_,bE aa,w3 hk (bE aa)⟩
 have eI:∀k m:Nat,f[k]? =some m->∃o,s.own[m]? =some o:=fun k m hk=>by
  have hl:=h.own.len;have aE:=(zaf.1 hk).1;obtain⟨gF,bD,h1,h2,_⟩:=h.own.get (bE (show k<t.own.length by omega));rw[hk]at h1;cases h1;exact⟨bD,h2⟩
 have hQ:(pick f ids).length=f.length:=by simp[pick]
 refine⟨ar.wf,ar.le,by rw[h.n,h.own.len],by rw[h.n,hQ],?_,?_,?_⟩
 ·rw[List.Nodup,zdc];intro i j aa hj ju;rw[hQ]at aa hj;obtain⟨b,h1,h2⟩:=aO (bE aa) (eI _ _ (bE aa));obtain⟨c,ab,aD⟩:=aO (bE hj) (eI _ _ (bE hj));have aq:=(zaf.1 h2).2;have e2:=(zaf.1 aD).2;rw[aq,e2];intro e;subst e;have aH:=zaf.1 h1;have aI:=zaf.1 ab;have:=(zcw (h₀:=aH.1) (h₁:=aI.1) ar.dg).1 (aH.2.trans aI.2.symm);have:=(zcw (h₀:=aa) (h₁:=hj) h.dg).1 this;omega
 ·intro b hb;obtain⟨k,hk⟩:=zbP.1 hb;have aE:=(zaf.1 hk).1;rw[hQ]at aE;obtain⟨c,h1,h2⟩:=aO (bE aE) (eI _ _ (bE aE));rw[hk]at h2;cases h2;exact ar.lt _ (zau h1)
 ·intro k o b hk hb;obtain⟨m,bD,h1,h2,ab⟩:=h.own.get hk;obtain⟨c,aD,bg⟩:=aO h1 ⟨bD,h2⟩;rw[hb]at bg;cases bg;obtain⟨aH,aI⟩:=ar.own m bD b h2 aD;exact⟨agt ab aH,fun hl=>aI (ab.live hl)⟩
def Sub.MF(h:Sub p f s t)(U:c1 fr H ids s.env):c1 fr H (pick f ids) t.env:=⟨U.pl,fun j a hj=>Mc f a (U.get j _ (h.env.get hj))⟩
def Sub.bs{bY:bu}{i0:ac Nat}{aK:au}(h:Sub i0.length f s t)(ar:Fit H ids st s.own s.n)(a8:dv bY i0 aK H ids st):dv bY i0 aK H (pick f ids) st:=by
 refine⟨a8.hle,a8.hold,a8.gN,a8.aj,?_,?_⟩
 ·intro k b hk;have aE:=(zaf.1 hk).1;have:=PC h.aao k aE;rw[zaP]at this;exact w3 this (a8.l2 k b hk)
 ·intro b hb;obtain⟨k,hk⟩:=zbP.1 hb;unfold pick at hk;rw[zdf]at hk;cases HE:f[k]? with
  |none=>rw[HE]at hk;cases hk
  |some m=>
   rw[HE]at hk;have hk:some ((ids[m]?).getD 0)=some b:=hk;have hl:=h.own.len;have aE:=(zaf.1 HE).1;obtain⟨gF,bD,h1,h2,_⟩:=h.own.get (bE (show k<t.own.length by omega));rw[HE]at h1;cases h1;have aa:m<ids.length:=by rw[ar.len,<-ar.ct];exact(zaf.1 h2).1
   rw[bE aa]at hk;cases hk;exact a8.new _ (fy aa)
end
section
variable{aw:fI}{K:ac eS}{s t:cr}{f:ac Nat}
def vL.sub{Q CG:dM->cr->Prop}{x:dM}{fr:aJ}{st:au}(hq:∀s,Q x s->∃f t,Sub aw.i0.length f s t∧CG x t)(h:vL aw Q x fr st):vL aw CG x fr st:=by
 obtain⟨H,ids,s,a8,ar,U,h⟩:=h;obtain⟨f,t,af,aC⟩:=hq s h;exact⟨H,_,t,af.bs ar a8,af.fit ar,af.MF U,aC⟩
def Qk{c:dw}(f:ac Nat)(t:cr)(h:Sub aw.i0.length f s t)(k:aS.ok aw ⟨K,.c c,t⟩):aS.ok aw ⟨K,.c c,s⟩:=fun H ids st fr a8 ar U=>k H _ st fr (h.bs ar a8) (h.fit ar) (h.MF U)
def ri{l:ac bA}(f:ac Nat)(t:cr)(h:Sub aw.i0.length f s t)(k:aS.ok aw ⟨K,.o l,t⟩):aS.ok aw ⟨K,.o l,s⟩:=fun H ids st fr a8 ar U=>k H _ st fr (h.bs ar a8) (h.fit ar) (h.MF U)
def xC(p:Nat){L:Type _}(P:L->Prop)(T:L->cr)(s:cr):Prop:=∃f l,P l∧Sub p f s (T l)
variable{e:bJ}{a:ae}{aG:Nat}{L:Type _}{p:Nat}{c:bB}
def cw{b:dw}(P:L->Prop)(T:L->cr)(fF:L->Nat)(f0:ac Nat)(ny:L)(eZ:P ny)(hm:fF ny<aw.cc)(h0:Sub aw.i0.length f0 s (T ny))
 (h:∀l,P l->aS.ok aw ⟨.bR (xC aw.i0.length (fun l'=>fF l'<fF l∧P l') T)::K,.c b,T l⟩):aS.ok aw ⟨K,.c (.loop b),s⟩:=
 aq2 (fun l s=>P l∧∃f,Sub aw.i0.length f s (T l)) fF ny ⟨eZ,f0,h0⟩ hm fun l bh ⟨hp,f,af⟩=>Qk f _ af (by
  refine fun H ids st fr a8 ar U=>(h l hp H ids st fr a8 ar U).mono ?_;rintro x aA st' ⟨a5,bO,bh,du,dG,eJ,hq⟩;refine⟨a5,bO,bh,du,dG,eJ,?_⟩;cases x with
  |norm=>obtain⟨rP,l',⟨h1,h2⟩,ab⟩:=hq;exact⟨l',h1,h2,rP,ab⟩
  |exit i=>exact hq
  |ret=>exact hq
  |a9 v=>exact hq)
def aU{P:L->Prop}{T:L->cr}(f:ac Nat)(l:L)(eZ:P l)(h:Sub p f s (T l)):aS.ok aw ⟨.bR (xC p P T)::K,.x .norm,s⟩:=⟨f,l,eZ,h⟩
def l9{e:dM}(h:aw.Q e s):aS.ok aw ⟨[],.x e,s⟩:=h
def r7{fr:aJ}{H:bu}{ids:ac Nat}{t:Nat}{b:ae}(h:dR e t=some a)(hn:∀H ids v,den H a ids v->den H b ids v)(U:c1 fr H ids e):c1 fr H ids ((t,b)::e):=⟨U.pl,fun j c hj=>by
 rw[tg]at hj;cases hb:Nat.beq t j with
 |true=>rw[hb]at hj;cases hj;rw[<-eo hb];exact hn _ _ _ (U.get t _ h)
 |false=>rw[hb]at hj;exact U.get j c hj⟩
def bB.uX:bB->Bool
 |.x _=>true
 |_=>false
def ax(t:Nat)(b:ae){own:ac bd}(h:dR e t=some a)(iT:a=b)(b8:aS.ok aw ⟨K,c,⟨own,aG,(t,b)::e⟩⟩)(hc:c.uX=false:=by rfl):aS.ok aw ⟨K,c,⟨own,aG,e⟩⟩:=by
 subst iT;cases c with
 |c c=>exact fun H ids st fr a8 ar aC=>b8 H ids st fr a8 ar (r7 h (fun _ _ _ d=>d) aC)
 |o l=>exact fun H ids st fr a8 ar aC=>b8 H ids st fr a8 ar (r7 h (fun _ _ _ d=>d) aC)
 |x e=>cases hc
 |d l bp a7 a6 bU=>exact fun dh hP H ids st fr fz af a8 ar aC bX=>b8 dh hP H ids st fr fz af a8 ar (r7 h (fun _ _ _ d=>d) aC) bX
def dS(t:Nat)(b:ae){own:ac bd}(h:dR e t=some a)(iT:bV a b)(b8:aS.ok aw ⟨K,c,⟨own,aG,(t,b)::e⟩⟩)(hc:c.uX=false:=by rfl):aS.ok aw ⟨K,c,⟨own,aG,e⟩⟩:=by
 cases c with
 |c c=>exact fun H ids st fr a8 ar aC=>b8 H ids st fr a8 ar (r7 h iT aC)
 |o l=>exact fun H ids st fr a8 ar aC=>b8 H ids st fr a8 ar (r7 h iT aC)
 |x e=>cases hc
 |d l bp a7 a6 bU=>exact fun dh hP H ids st fr fz af a8 ar aC bX=>b8 dh hP H ids st fr fz af a8 ar (r7 h iT aC) bX
def dO(t:Nat)(b:ae){own bp:ac bd}{a6 bU:Nat}{a7:bJ}{l:ac (bA×cx)}(h:dR e t=some a)(h0:dR a7 t=some a)(iT:a=b)(b8:aS.ok aw ⟨K,.d l bp ((t,b)::a7) a6 bU,⟨own,aG,(t,b)::e⟩⟩):aS.ok aw ⟨K,.d l bp a7 a6 bU,⟨own,aG,e⟩⟩:=by
 subst iT;exact fun dh hP H ids st fr fz af a8 ar aC bX=>b8 dh hP H ids st fr fz af a8 ar (r7 h (fun _ _ _ d=>d) aC) ⟨bX.len,bX.hle,(r7 (fr:=fr) h0 (fun _ _ _ d=>d) ⟨aC.pl,bX.fS⟩).get,bX.oM,bX.wS,bX.bp,bX.old,bX.top⟩
def kr{own:ac bd}{n:Nat}{cK:bJ}(h:mH [] cK e)(hp:pinned p [] 0=true:=by rfl):Sub p [] ⟨own,n,e⟩ ⟨[],0,cK⟩:=⟨zdS,rfl,trivial,h,hp⟩
end
section
variable{aw:fI}{K:ac eS}{own bl:ac bd}{aG b1:Nat}{e:bJ}
variable{o:de}{l:ac bA}{a:ae}
def g9{d:Tmp}(h:gI aw.call o ⟨own,aG,e⟩ a bl b1)(k:aS.ok aw ⟨K,.o l,⟨bl,b1,(d,a)::e⟩⟩):aS.ok aw ⟨K,.o (⟨some d,o,none⟩::l),⟨own,aG,e⟩⟩:=Ka (d:=some d) h k
def aq3(h:gI aw.call o ⟨own,aG,e⟩ a bl b1)(k:aS.ok aw ⟨K,.o l,⟨bl,b1,e⟩⟩):aS.ok aw ⟨K,.o (⟨none,o,none⟩::l),⟨own,aG,e⟩⟩:=Ka (d:=none) h k
end
section
variable{call:bG}{s:cr}{x y i:bi}{a b:ae}
variable{z j k:Nat}{α:Type}{el:ce}{a3:Bool}{q:Nat}{H:bu}{ids:ac Nat}{ds:ac ae}{R:α->ac ae}{l:ac α}{w:α}
def l5{o:de}(h:∀H ids st fr,Fit H ids st s.own s.n->c1 fr H ids s.env->∃v,den H a ids v∧bK call o fr st= .ok v fr st):gI call o s a s.own s.n:=fun H ids st fr ar U=>
 let⟨v,h1,h2⟩:=h H ids st fr ar U
 ⟨v,st,ids,H,h2,ar,h1,dj.refl _,dk.refl _,fun _ _ _ B=>B,b6 _,fun _ _ _=>rfl⟩
def X0{o n c:Nat}{b8:d8}(J:br s.env x=some (.aN k z o n c))(aa:br s.env i=some (.i b8 (j:Int)))(hj:j<n):gI call (.mZ z x i) s (.gp k z (o+j) 0) s.own s.n:=l5 fun H ids st fr ar U=>by
 obtain⟨b,h1,h2⟩:=U.ai J;have ab:fr.ai i= .int b8 (j:Int):=U.ai aa;exact⟨_,⟨b,h1,by rw[zah,zbh]⟩,I9 h2 ab hj⟩
def N0{q:α}{b8:d8}(J:br s.env x=some (.aZ z α R l))(aa:br s.env i=some (.i b8 (j:Int)))(hj:l[j]? =some q):gI call (.mZ z x i) s (.ip (R q)) s.own s.n:=l5 fun H ids st fr ar U=>by
 have ab:fr.ai i= .int b8 (j:Int):=U.ai aa;have aE:=(zaf.1 hj).1;rcases U.ai J with⟨hl,_⟩|⟨b,o,c,vs,el,bk,a3,h1,h2,aD,bg⟩
 ·subst hl;simp at aE
 ·refine⟨_,⟨b,o+j*z,vs,el,bk,a3,rfl,aD,?_⟩,I9 h1 ab aE⟩;have ao:=bg j q hj;have hl:=iF ao;rw[<-hl];rw[show(vs.drop (o+j*z)).take ((vs.drop (o+j*z)).take z).length=(vs.drop (o+j*z)).take z by rw[zay,<-List.take_eq_take_min]];exact ao
def rG{st:au}(ar:Fit H ids st s.own s.n)(hk:s.own[k]? =some (.a el a3 z α R l)){b:Nat}(hb:ids[k]? =some b):∃vs,st.h.get b=some (.cells vs el (0,0) a3)∧vs.length=l.length*z∧∀i x,l[i]? =some x->dH H (R x) ids ((vs.drop (i*z)).take z):=(ar.own k _ b hk hb).1
def aoa(J:br s.env x=some (.gp k z j q))(hk:s.own[k]? =some (.a el a3 z α R l))(hj:l[j]? =some w)(hq:(R w)[q]? =some a):gI call (.lE x) s a s.own s.n:=l5 fun H ids st fr ar U=>by
 obtain⟨b,h1,h2⟩:=U.ai J;obtain⟨vs,ab,aD,bg⟩:=rG ar hk h1;obtain⟨v,aB,ao⟩:=v8 (bg j w hj) hq;refine⟨v,ao,Bt h2 ab ?_⟩;rw[zaT]at aB;split at aB
 ·rw[zaR]at aB;exact aB
 ·cases aB
def afa{v:be}(h:tX a=some ds)(hc:rH ds=true)(d:den H a ids v):dH H ds ids (jr v)∧h8 (jr v)=true:=by
 obtain⟨_,d2⟩:=Gr h d;exact⟨d2,C0 hc d2⟩
def afd{vs ws:ac be}(i:Nat)(aB:(j+1)*z<=vs.length)(hq:q+ws.length<=z):
 ((vs.take (j*z+q)++(ws++vs.drop (j*z+q+ws.length))).drop (i*z)).take z=if i=j then((vs.drop (j*z)).take z).take q++(ws++((vs.drop (j*z)).take z).drop (q+ws.length))else(vs.drop (i*z)).take z:=by
 rw[zah,zaw]at aB;apply zbA;intro p;rw[zaT,zaR];by_cases hp:p<z
 ·rw[zab hp];have get:∀m,(vs.take (j*z+q)++(ws++vs.drop (j*z+q+ws.length)))[m]? =if m<j*z+q then vs[m]? else if m<j*z+q+ws.length then ws[m-(j*z+q)]? else vs[m]? :=by
   intro m;by_cases h1:m<j*z+q
   ·rw[zab h1,zbm (by simp;omega),zaT,zab h1]
   ·rw[zaa h1,zaW (by simp;omega),zay,zaC (by omega)];by_cases h2:m<j*z+q+ws.length
    ·rw[zab h2,zbm (by omega)]
    ·rw[zaa h2,zaW (by omega),zaR];congr 1;omega
  rw[get];by_cases ju:i=j
  ·subst ju;rw[zab rfl];by_cases h1:p<q
   ·rw[zab (by omega),zbm (by simp;omega),zaT,zab h1,zaT,zab hp,zaR]
   ·rw[zaa (by omega),zaW (by simp;omega)];have e:(((vs.drop (i*z)).take z).take q).length=q:=by simp;omega
    rw[e];by_cases h2:p<q+ws.length
    ·rw[zab (by omega),zbm (by omega)];congr 1;omega
    ·rw[zaa (by omega),zaW (by omega),zaR,zaT,zab (by omega),zaR];congr 1;omega
  ·rw[zaa ju,zaT,zab hp,zaR];have:i*z+p<j*z∨j*z+z<=i*z+p:=by
    rcases Nat.lt_or_gt_of_ne ju with h|h
    ·left;have:(i+1)*z<=j*z:=jo z h;rw[zah,zaw]at this;omega
    ·right;have:(j+1)*z<=i*z:=jo z h;rw[zah,zaw]at this;omega
   rcases this with h|h
   ·rw[zab (by omega)]
   ·rw[zaa (by omega),zaa (by omega)]
 ·rw[zaa hp]
  symm
  rw[List.getElem?_eq_none_iff];split
  ·simp;omega
  ·simp;omega
def acH{m:Nat}(w':α)(J:br s.env x=some (.gp k z j q))(ay:br s.env y=some a)(hc:tX a=some ds)(hl:ds.length=m)(eT:rH ds=true)
 (hk:s.own[k]? =some (.a el a3 z α R l)) (hj:l[j]? =some w) (dY:R w'=(R w).take q++(ds++(R w).drop (q+ds.length))) (av:q+m<=z):
 gI call (.store m x y) s (.bM []) (s.own.set k (.a el a3 z α R (l.set j w'))) s.n:=fun H ids st fr ar U=>by
 obtain⟨b,h1,h2⟩:=U.ai J;obtain⟨vs,ab,aD,bg⟩:=rG ar hk h1;obtain⟨d2,bH⟩:=afa hc eT (U.ai ay);have kE:=iF d2;have aE:=(zaf.1 hj).1;have iz:(j+1)*z<=vs.length:=by rw[aD];exact jo z aE
 have amY:=iz;rw[zah,zaw]at amY;refine⟨undef,⟨st.h.set b (.cells (vs.take (j*z+q)++(jr (fr.ai y)++vs.drop (j*z+q+(jr (fr.ai y)).length))) el (0,0) a3),st.aj⟩,ids,H,?_,ar.hI hk rfl h1 ⟨_,rfl,?_,?_⟩,⟨[],rfl,rfl⟩,dj.refl _,dk.refl _,fun _ _ _ B=>B.hI (zau h1) _,b6 _,?_⟩
 ·have:bK call (.store m x y) fr st=jD (fr.ai x) (fun p=>bm p (fun a=>eQ (dL (jr (fr.ai y))) m (cond (h8 (jr (fr.ai y))) (st.store a (jr (fr.ai y)) (fun st=>aV.ok undef fr st) .no) .no) .no) .no) .no:=rfl;rw[this,h2,sA,Sym.e6,fC,lv (by omega),bH,cond_true];unfold au.store au.hz;rw[Sym.jc,ab,mK,gn (b6 _),sl,zab (by show j*z+q+_<=_;omega),lk]
 ·simp only[zaE,zay,zaF,zbj];rw[<-aD];omega
 ·intro i p hp;rw[afd i iz (by omega)];rw[zbb]at hp;by_cases ju:j=i
  ·subst ju;rw[zab rfl,zab aE]at hp;cases hp;rw[zab rfl,dY];exact Me q (bg j w hj) d2
  ·rw[zaa ju]at hp;rw[zaa (Ne.symm ju)];exact bg i p hp
 ·intro gw _ cb;exact an.ji _ _ (fun e=>cb k (by simp[iM,J]) (e▸h1))
def acI(w':α)(J:br s.env x=some (.gp k 1 j 0))(ay:br s.env y=some a)(hk:s.own[k]? =some (.a el a3 1 α R l))(dY:R w'=[a])(hj:j<l.length)(hc:tW a=true)(h1:∀w,(R w).length=1):
 gI call (.store 1 x y) s (.bM []) (s.own.set k (.a el a3 1 α R (l.set j w'))) s.n:=by
 refine acH (w:=l[j]) w' J ay (ds:=[a]) ?_ rfl ?_ hk (bE hj) ?_ (by decide)
 ·cases a<;>first|rfl|cases hc|(show(match tW _ with|true=>_|false=>_)=_;rw[hc])
 ·show(tW a&&true)=true;rw[hc];rfl
 ·rw[dY];have:=h1 l[j];rw[show(R l[j]).drop (0+[a].length)=[] by apply zcl;simp;omega];rfl
end
set_option maxRecDepth 10000
section
variable{call:bG}{s:cr}{x y i:bi}{a b:ae}
def j9(H:bu)(ids:ac Nat){α:Type}(R:α->ac ae)(z:Nat)(l:ac α)(vs:ac be):Prop:=vs.length=l.length*z∧∀i x,l[i]? =some x->dH H (R x) ids ((vs.drop (i*z)).take z)
variable{α:Type}{z:Nat}{H:bu}{ids:ac Nat}{vs:ac be}{R:α->ac ae}{l:ac α}
def C2(H:bu)(ids:ac Nat)(R:α->ac ae)(z:Nat):j9 H ids R z [] []:=⟨by simp,fun i x h=>by simp at h⟩
def tY{m:ac α}{ws:ac be}(h:j9 H ids R z l vs)(aC:j9 H ids R z m ws):j9 H ids R z (l++m) (vs++ws):=by
 refine⟨by rw[zaE,zaE,h.1,aC.1,zah],fun i x J=> ?_⟩;by_cases aa:i<l.length
 ·rw[zbm aa]at J;have h1:=h.2 i x J;have hle:(i+1)*z<=vs.length:=by rw[h.1];exact jo z aa
  rw[zah,zaw]at hle;rw[zeD (by omega),zdj (by simp;omega)];exact h1
 ·rw[zaW (by omega)]at J;have h1:=aC.2 _ x J;have e:i*z=vs.length+(i-l.length)*z:=by rw[h.1,<-zah];congr 1;omega
  rw[e,<-zbC,List.drop_left];exact h1
def Gw(h:j9 H ids R z l vs)(n:Nat)(hn:n<=l.length):j9 H ids R z (l.take n) (vs.take (n*z)):=by
 have D5:n*z<=l.length*z:=jo z hn;refine⟨by rw[zay,zay,h.1,zaC D5,zaC hn],fun i x J=> ?_⟩;rw[zaT]at J;split at J
 ·rename_i aa;have hle:(i+1)*z<=n*z:=jo z aa;rw[zah,zaw]at hle;rw[zdR,zdi,zaC (by omega)];exact h.2 i x J
 ·cases J
def Ax(h:j9 H ids R z l vs)(n:Nat):j9 H ids R z (l.drop n) (vs.drop (n*z)):=by
 refine⟨by rw[zaF,zaF,h.1,Nat.sub_mul],fun i x J=> ?_⟩;rw[zaR]at J;rw[zbC,<-zah];exact h.2 _ x J
def Gv{w:α}(h:dH H (R w) ids vs)(av:(R w).length=z):j9 H ids R z [w] vs:=by
 have hl:=iF h;refine⟨by simp;omega,fun i x J=> ?_⟩;cases i with
 |zero=>simp at J;subst J;rw[zaA,zar,zaV (by omega)];exact h
 |succ i=>simp at J
theorem LZ{H:bu}{ids:ac Nat}{α:Type}{R:α->ac ae}{w:α}{gS:ac be}(h:dH H (R w) ids gS):∀n,j9 H ids R gS.length (List.replicate n w) (nR gS n)
 |0=>C2 _ _ _ _
 |n+1=>by
  have e:nR gS (n+1)=gS++nR gS n:=by show gJ gS (nR gS n)=_;rw[rF]
  rw[e,zdT,<-List.singleton_append];exact tY (Gv h (by rw[iF h])) (LZ h n)
theorem L0{H:bu}{ids:ac Nat}{α:Type}{R:α->ac ae}{z:Nat}(av:∀w,(R w).length=z):∀{l:ac α} {vs:ac be},dH H (l.flatMap R) ids vs->j9 H ids R z l vs
 |[],vs,d=>by cases d;exact C2 _ _ _ _
 |w::l,vs,d=>by
  rw[zdk]at d;have h1:=uj z d;have h2:=o6 z d;rw[zeE (av w)]at h1;rw[zdU (av w)]at h2;rw[<-zbD z vs];exact tY (l:=[w]) (Gv h1 (av w)) (L0 av h2)
def mk{el:ce}{cu n c:Nat}{gS:ac be}{k k':d8}(R:α->ac ae)(w:α)(J:br s.env x=some (.i k (n:Int)))(ay:br s.env y=some (.i k' (c:Int)))(av:gS.length=z)(dY:vk gS=R w)(hn:n<=c)(hc:c*(cu+1)<=1099511627776):
 gI call (.qc el cu gS x y) s (.aN s.n z 0 n c) (s.own++[.a el false z α R (List.replicate c w)]) (s.n+1):=fun H ids st fr ar U=>by
 have h1:fr.ai x= .int k (n:Int):=U.ai J;have h2:fr.ai y= .int k' (c:Int):=U.ai ay;subst av;have ao:=v9 H (ids++[st.aj]) gS;rw[dY]at ao;have jK:=LZ ao c;refine⟨_,_,_,H,?_,ar.add (eK:=.cells (nR gS c) el (0,0) false) ⟨_,rfl,jK.1,jK.2⟩,⟨st.aj,by rw[<-ar.len,zaW (b6 _)];simp,rfl⟩,dj.refl _,dk.app _ _,fun _ _ _ B=>B.add _,zba _,fun b hb _=>zq hb⟩;show tq el cu gS x y call fr st=_;unfold tq;rw[h1,h2,na,na,oI,oI,gn hn,gn (show Nat.mul c (Nat.succ cu)<=2^40 from hc),g8,zaA]
def oh(s:cr)(x:bi){α:Type}(R:α->ac ae)(z:Nat)(l:ac α):Prop:=∀(H:bu) (ids:ac Nat) (st:au) (fr:aJ),Fit H ids st s.own s.n->c1 fr H ids s.env->
 (l=[]∧∃c,fr.ai x= .slice none 0 c)∨∃b o c vs el bk a3,fr.ai x= .slice (some ⟨b,o,none⟩) l.length c∧st.h.get b=some (.cells vs el bk a3)∧l.length*z<=(vs.drop o).length∧j9 H ids R z l ((vs.drop o).take (l.length*z))∧h8 ((vs.drop o).take (l.length*z))=true
variable{o:Nat}
theorem RN:∀(vs:ac be) (n:Nat),h8 vs=true->h8 (vs.take n)=true
 |[],n,_=>by simp[h8]
 |v::vs,0,_=>rfl
 |v::vs,n+1,h=>by
  have h:cond (nQ v) (h8 vs) false=true:=h;show cond (nQ v) (h8 (vs.take n)) false=true;cases aB:nQ v with
  |false=>rw[aB]at h;cases h
  |true=>rw[aB]at h;exact RN vs n h
theorem RM:∀(vs ws:ac be),h8 vs=true->h8 ws=true->h8 (vs++ws)=true
 |[],ws,_,h=>h
 |v::vs,ws,h,aC=>by
  have h:cond (nQ v) (h8 vs) false=true:=h;show cond (nQ v) (h8 (vs++ws)) false=true;cases aB:nQ v with
  |false=>rw[aB]at h;cases h
  |true=>rw[aB]at h;exact RM vs ws h aC
def atb{k n c:Nat}{el:ce}{cs:ac ae}(l:ac α)(J:br s.env x=some (.aN k z o l.length c))(ak:o=0)(hk:s.own[k]? =some (.c el cs))(eT:cs=l.flatMap R)(av:∀w,(R w).length=z)(hc:rH cs=true)(hn:l.length=n):oh s x R z l:=by
 intro H ids st fr ar U;subst ak;obtain⟨b,h1,h2⟩:=U.ai J;obtain⟨⟨vs,ab,d⟩,_⟩:=ar.own k _ b hk h1;rw[eT]at d;have jK:=L0 av d;have bH:=C0 (eT▸hc) d;rw[zaA]at h2;refine .inr ⟨b,0,c,vs,el,_,_,h2,ab,by simp[jK.1],?_,RN _ _ (by simpa using bH)⟩;rw[zar,zaV (by rw[jK.1];exact b6 _)];exact jK
def anp(av:∀w,(R w).length=z):∀{l:ac α},(∀i x,l[i]? =some x->dH H (R x) [] ((vs.drop (o+i*z)).take z))->∀n,n<=l.length->n*z<=(vs.drop o).length∧j9 H [] R z (l.take n) ((vs.drop o).take (n*z)):=by
 intro l h n
 induction n with
 |zero=>intro _;exact⟨by simp,by simpa using C2 _ _ _ _⟩
 |succ n a1=>
  intro hn;obtain⟨h1,h2⟩:=a1 (by omega);have aO:l[n]? =some l[n]:=bE (by omega);have ab:=h n _ aO;have hl:=iF ab;rw[av,zay]at hl;rw[<-zbC,zaF]at hl;have hle:(n+1)*z<=(vs.drop o).length:=by
   rw[zah,zaw];rcases zcx z with h0|h0
   ·subst h0;simp
   ·omega
  refine⟨hle,?_⟩;rw[zce (by omega)];have e:(vs.drop o).take ((n+1)*z)=(vs.drop o).take (n*z)++(vs.drop (o+n*z)).take z:=by
   rw[zah,zaw,List.take_add,zbC]
  rw[e];exact tY h2 (Gv ab (av _))
def Gu{a5:bu}{i j:ac Nat}(hh:dj H a5)(aa:dk i j)(h:j9 H i R z l vs):j9 a5 j R z l vs:=⟨h.1,fun k x J=>ni hh _ aa (h.2 k x J)⟩
theorem SR{H:bu}{ids:ac Nat}{α:Type}{R:α->ac ae}{z:Nat}(av:∀w,(R w).length=z)(hc:∀w,rH (R w)=true):∀{l:ac α} {vs:ac be},j9 H ids R z l vs->h8 vs=true
 |[],vs,h=>by
  have:vs=[]:=zbz (by rw[h.1];simp);subst this;rfl
 |w::l,vs,h=>by
  rw[<-zbD z vs];have h1:=h.2 0 w (by simp);rw[zaA,zar]at h1;have h2:=Ax h 1;rw[zaw]at h2;exact RM _ _ (C0 (hc w) h1) (SR av hc (l:=l) h2)
def QR(J:br s.env x=some (.aZ z α R l))(av:∀w,(R w).length=z)(hc:∀w,rH (R w)=true):oh s x R z l:=by
 intro H ids st fr ar U;rcases U.ai J with⟨hl,h1⟩|⟨b,o,c,vs,el,bk,a3,h1,h2,aD,bg⟩
 ·exact .inl ⟨hl,0,h1⟩
 ·obtain⟨aH,aI⟩:=anp av bg l.length (b6 _);rw[zaX]at aI;exact .inr ⟨b,o,c,vs,el,bk,a3,h1,ar.le _ _ aD,aH,Gu (dj.refl _) (dk.nil _) aI,SR av hc aI⟩
def xK(call:bG)(el:ce)(cu:Nat)(s:cr)(y:bi){α:Type}(R:α->ac ae)(z:Nat)(l:ac α):Prop:=∀(H:bu) (ids:ac Nat) (st:au) (fr:aJ),Fit H ids st s.own s.n->c1 fr H ids s.env->∀(x:bi) (p:am Addr) (n c:Nat),fr.ai x= .slice p n c->
 ∃new,j9 H ids R z l new∧h8 new=true∧bK call (.app el z cu x y) fr st=kV fr st el z cu p n c l.length new
variable{a2 cu:Nat}{el:ce}{k n c:Nat}{m:ac α}
def tS(af:oh s y R a2 l):xK call el cu s y R a2 l:=fun H ids st fr ar U x p n c J=>by
 have e:bK call (.app el a2 cu x y) fr st=j8 (fr.ai x) (fun base len cap=>j8 (fr.ai y) (fun b n _=>bm b (fun b=>st.load b (Nat.mul n a2) (fun new=>cond (h8 new) (kV fr st el a2 cu base len cap n new) .no) .no) (eQ n 0 (kV fr st el a2 cu base len cap 0 []) .no)) (xx (fr.ai y) (kV fr st el a2 cu base len cap 0 []) (jE (fr.ai y) (fun s=>eQ a2 1 (kV fr st el a2 cu base len cap (dL s.data.toList) (mD s.data.toList)) .no) .no))) .no:=rfl;rw[e,J,rq];rcases af H ids st fr ar U with⟨rfl,bW,h1⟩|⟨b,o,bW,vs,Dj,bk,a3,h1,h2,ab,aD,bg⟩
 ·refine⟨[],C2 _ _ _ _,rfl,?_⟩;rw[h1,rq,Sym.jc,lv rfl];rfl
 ·refine⟨_,aD,bg,?_⟩;rw[h1,rq,Sym.e6];show st.load ⟨b,o,none⟩ (l.length*a2) _ _=_;unfold au.load au.hz;rw[Sym.jc,h2,mK,uc ab,bg];rfl
def Lh(J:br s.env x=some .nl)(af:xK call el cu s y R a2 l)(h0:l≠[])(hb:(5*l.length+1792)*(cu+1)<=1125899906842624):
 gI call (.app el a2 cu x y) s (.aN s.n a2 0 l.length l.length) (s.own++[.a el true a2 α R l]) (s.n+1):=fun H ids st fr ar U=>by
 obtain⟨new,h1,h2,ab⟩:=af H ids st fr ar U x _ _ _ (show fr.ai x= .slice none 0 0 from U.ai J);have lZ:=Gu (dj.refl H) (dk.app ids [st.aj]) h1;have hl:0<l.length:=zbn.2 h0;refine⟨_,_,_,H,?_,ar.add (eK:=.cells new el (0,0) true) ⟨_,rfl,lZ.1,lZ.2⟩,⟨st.aj,by rw[<-ar.len,zaW (b6 _)];simp,rfl⟩,dj.refl _,dk.app _ _,fun _ _ _ B=>B.add _,zba _,fun b hb _=>zq hb⟩;rw[ab];unfold kV;simp only[zdl,zdm,zaP];rw[gn (show(5*l.length+1792)*Nat.succ cu<=2^50 from hb),Sym.jc,lv rfl,lv rfl,ur (by omega),g8,zaA]
def Gf(J:br s.env x=some (.aN k a2 0 n c))(hk:s.own[k]? =some (.a el true a2 α R l))(af:xK call el cu s y R a2 m)(h0:m≠[])(hn:n<=l.length)(k3:n<=c)(hc:c<=l.length)(hb:(5*(n+m.length)+1792)*(cu+1)<=1125899906842624):
 gI call (.app el a2 cu x y) s (.aN s.n a2 0 (n+m.length) (n+m.length)) (s.own.set k .x++[.a el true a2 α R (l.take n++m)]) (s.n+1):=fun H ids st fr ar U=>by
 obtain⟨b,aH,aI⟩:=U.ai J;obtain⟨vs,bj,cn,cT⟩:=rG ar hk aH;obtain⟨new,h1,h2,ab⟩:=af H ids st fr ar U x _ _ _ aI;have hl:0<m.length:=zbn.2 h0;have ow:Fit H ids ⟨st.h.set b .dead,st.aj⟩ (s.own.set k .x) s.n:=ar.hI hk rfl aH trivial;have jK:=tY (Gw ⟨cn,cT⟩ n hn) h1;have lZ:=Gu (dj.refl H) (dk.app ids [st.aj]) jK;have Hz:c*a2<=l.length*a2:=jo a2 hc;have D5:n*a2<=l.length*a2:=jo a2 hn;have avm:b<st.aj:=ar.lt b (zau aH);refine⟨.slice (some ⟨st.aj,0,none⟩) (n+m.length) (n+m.length),_,_,H,?_,ow.add (eK:=.cells (vs.take (n*a2)++new) el (0,0) true) ⟨_,rfl,lZ.1,lZ.2⟩,⟨st.aj,by rw[<-ar.len,zaW (b6 _)];simp,by rw[zaA]⟩,dj.refl _,dk.app _ _,fun _ _ _ B=>(B.hI (zau aH) .dead).add _,zba _,?_⟩
 ·rw[ab];unfold kV au.hz;simp only[zdl,zdm,Sym.e6,Sym.jc,bj,mK,zaA];rw[gn (show(5*(n+m.length)+1792)*Nat.succ cu<=2^50 from hb),gn (b6 _),gn k3,gn (by rw[fC,cn];show 0+c*a2<=_;omega),lv rfl,ur (by omega),cond_true,uc (by simp;omega),lk,g8,rF,zar]
 ·intro gw cZ cb;show((st.h.set b .dead).set st.aj _).get gw=_;rw[an.ji _ _ (by omega)];exact an.ji _ _ (fun e=>cb k (by simp[iM,J]) (e▸aH))
def aep(J:br s.env x=some (.aN k a2 0 n c))(hk:s.own[k]? =some (.a el false a2 α R l))(af:xK call el cu s y R a2 m)(h0:m≠[])(hn:n+m.length<=c)(hc:c<=l.length)(hb:(5*(n+m.length)+1792)*(cu+1)<=1125899906842624):
 gI call (.app el a2 cu x y) s (.aN k a2 0 (n+m.length) c) (s.own.set k (.a el false a2 α R (l.take n++(m++l.drop (n+m.length))))) s.n:=fun H ids st fr ar U=>by
 obtain⟨b,aH,aI⟩:=U.ai J;obtain⟨vs,bj,cn,cT⟩:=rG ar hk aH;obtain⟨new,h1,h2,ab⟩:=af H ids st fr ar U x _ _ _ aI;have hl:0<m.length:=zbn.2 h0;have jK:=tY (Gw ⟨cn,cT⟩ n (by omega)) (tY h1 (Ax ⟨cn,cT⟩ (n+m.length)));have Hz:c*a2<=l.length*a2:=jo a2 hc;have D5:(n+m.length)*a2<=l.length*a2:=jo a2 (by omega);have e:n*a2+new.length=(n+m.length)*a2:=by rw[h1.1,zah]
 refine⟨.slice (some ⟨b,0,none⟩) (n+m.length) c,_,ids,H,?_,ar.hI hk rfl aH (eK:=.cells (vs.take (n*a2)++(new++vs.drop (n*a2+new.length))) el (0,0) false) ⟨_,rfl,by rw[e];exact jK.1,by rw[e];exact jK.2⟩,⟨b,aH,by rw[zaA]⟩,dj.refl _,dk.refl _,fun _ _ _ B=>B.hI (zau aH) _,b6 _,?_⟩
 ·rw[ab];unfold kV au.hz;simp only[zdl,zdm,Sym.e6,Sym.jc,bj,mK,zaA,zaP];rw[gn (show(5*(n+m.length)+1792)*Nat.succ cu<=2^50 from hb),gn (b6 _),gn (by omega),gn (by rw[fC,cn];exact Hz),lv rfl,ur (by omega),cond_false,gn hn,sl,zab (by rw[e,cn];exact D5),lk]
 ·intro gw _ cb;exact an.ji _ _ (fun e=>cb k (by simp[iM,J]) (e▸aH))
end
section
variable{call:bG}{s:cr}{x y i:bi}{a b:ae}
def fV(s:cr)(x:am bi)(dflt n:Nat):Prop:=
 match x with
 |none=>n=dflt
 |some x=>∃b8,br s.env x=some (.i b8 (n:Int))
variable{p q:Nat}{lo aa:am bi}{n z:Nat}{α:Type}{k:d8}{H:bu}{ids:ac Nat}{fr:aJ}{m:Int}{R:α->ac ae}{l:ac α}
def fV.ai{x:am bi}{dflt y:Nat}(h:fV s x dflt n)(U:c1 fr H ids s.env)(ay:n<=y)(k:Nat->aV):fp fr x dflt y k=k n:=by
 cases x with
 |none=>cases h;rfl
 |some x=>
  obtain⟨b8,h⟩:=h;have h:fr.ai x= .int b8 (n:Int):=U.ai h;show g2 (fr.ai x) (fun _ n=>ie n (fun n=>ey n y (k n) .no) .no) .no=_;rw[h,na,oI,gn ay]
def Gm(fr:aJ)(d y:Nat)(k:Nat->aV):fp fr none d y k=k d:=rfl
def aco(J:br s.env x=some (.aZ z α R l))(fG:fV s lo 0 p)(g6:fV s aa l.length q)(hp:p<=q)(hq:q<=l.length)(U:c1 fr H ids s.env):
 ∃v,den H (.aZ z α R ((l.drop p).take (q-p))) ids v∧∀st:au,(∀b o,H b=some o->st.h.get b=some o)->bK call (.n9 z x lo aa none) fr st= .ok v fr st:=by
 have hl:((l.drop p).take (q-p)).length=q-p:=by simp;omega
 have e:∀st:au,bK call (.n9 z x lo aa none) fr st=j8 (fr.ai x) (fun b len cap=>bm b (fun a=>st.hz a (fun _ _ _ a3=>cond a3 (ey len cap (fp fr aa len len fun h=>fp fr lo 0 h fun l=>.ok (.slice (some (a.add (l*z))) (h-l) (cap-l)) fr st) .no) (fp fr none cap cap fun m=>fp fr aa len m fun h=>fp fr lo 0 h fun l=>.ok (.slice (some (eQ m l a (a.add (l*z)))) (h-l) (m-l)) fr st)) .no) (fp fr none cap cap fun m=>fp fr aa len m fun h=>fp fr lo 0 h fun l=>.ok (.slice none (h-l) (m-l)) fr st)) .no:=fun st=>rfl;rcases U.ai J with⟨hn,h1⟩|⟨b,o,c,vs,el,bk,a3,h1,h2,aD,bg⟩
 ·subst hn;simp at hq;subst hq;have:p=0:=by omega
  subst this;refine⟨.slice none 0 0,.inl ⟨by simp,rfl⟩,fun st _=> ?_⟩;rw[e,h1,rq,Sym.jc];rw[Gm,fV.ai (dflt:=0) g6 U (b6 _),fV.ai fG U (b6 _)]
 ·have e2:∀st:au,(∀b o,H b=some o->st.h.get b=some o)->bK call (.n9 z x lo aa none) fr st=cond a3 (ey l.length c (fp fr aa l.length l.length fun h=>fp fr lo 0 h fun l=>.ok (.slice (some ((⟨b,o,none⟩:Addr).add (l*z))) (h-l) (c-l)) fr st) .no) (fp fr none c c fun m=>fp fr aa l.length m fun h=>fp fr lo 0 h fun l=>.ok (.slice (some (eQ m l ⟨b,o,none⟩ ((⟨b,o,none⟩:Addr).add (l*z)))) (h-l) (m-l)) fr st):=fun st hle=>by
   rw[e,h1,rq,Sym.e6];unfold au.hz;rw[Sym.jc,hle _ _ aD,mK]
  have chunk:∀i x,((l.drop p).take (q-p))[i]? =some x->dH H (R x) [] ((vs.drop (o+p*z+i*z)).take z):=fun i x J=>by
   rw[zaT]at J;split at J
   ·rw[zaR]at J;have:=bg _ x J;rw[zah]at this;rw[zbW];exact this
   ·cases J
  cases a3 with
  |true=>
   exact⟨_,.inr ⟨b,o+p*z,c-p,vs,el,bk,true,by rw[hl],by rw[hl];omega,aD,chunk⟩,fun st hle=>by rw[e2 st hle,cond_true,gn h2,fV.ai g6 U hq,fV.ai fG U hp,rD]⟩
  |false=>
   have bS:∀st:au,(∀b o,H b=some o->st.h.get b=some o)->bK call (.n9 z x lo aa none) fr st= .ok (.slice (some (eQ c p ⟨b,o,none⟩ ((⟨b,o,none⟩:Addr).add (p*z)))) (q-p) (c-p)) fr st:=fun st hle=>by
    rw[e2 st hle,cond_false,Gm,fV.ai g6 U (by omega),fV.ai fG U hp]
   by_cases hc:c=p
   ·have NH:q=p:=by omega
    refine⟨_,.inr ⟨b,o,c-p,vs,el,bk,false,by rw[hl],by rw[hl];omega,aD,fun i x J=> ?_⟩,fun st hle=>by rw[bS st hle,lv hc]⟩;rw[NH]at J;simp at J
   ·exact⟨_,.inr ⟨b,o+p*z,c-p,vs,el,bk,false,by rw[hl],by rw[hl];omega,aD,chunk⟩,fun st hle=>by rw[bS st hle,ur hc,rD]⟩
def QM(J:br s.env x=some (.aZ z α R l))(fG:fV s lo 0 p)(g6:fV s aa l.length q)(hp:p<=q)(hq:q<=l.length):
 gI call (.n9 z x lo aa none) s (.aZ z α R ((l.drop p).take (q-p))) s.own s.n:=l5 fun H ids st fr ar U=>
 let⟨v,h1,h2⟩:=aco J fG g6 hp hq U
 ⟨v,h1,h2 st ar.le⟩
def as2{k o c:Nat}{el:ce}{a3:Bool}(J:br s.env x=some (.aN k z o n c))(hk:s.own[k]? =some (.a el a3 z α R l))(fG:fV s lo 0 p)(g6:fV s aa n q)(hp:p<=q)(hq:q<=n)(hn:n<=c)(hc:p<c∨p=0):
 gI call (.n9 z x lo aa none) s (.aN k z (o+p) (q-p) (c-p)) s.own s.n:=l5 fun H ids st fr ar U=>by
 have e:bK call (.n9 z x lo aa none) fr st=j8 (fr.ai x) (fun b len cap=>bm b (fun a=>st.hz a (fun _ _ _ a3=>cond a3 (ey len cap (fp fr aa len len fun h=>fp fr lo 0 h fun l=>.ok (.slice (some (a.add (l*z))) (h-l) (cap-l)) fr st) .no) (fp fr none cap cap fun m=>fp fr aa len m fun h=>fp fr lo 0 h fun l=>.ok (.slice (some (eQ m l a (a.add (l*z)))) (h-l) (m-l)) fr st)) .no) (fp fr none cap cap fun m=>fp fr aa len m fun h=>fp fr lo 0 h fun l=>.ok (.slice none (h-l) (m-l)) fr st)) .no:=rfl;obtain⟨b,aH,aI⟩:=U.ai J;obtain⟨vs,bj,cn,cT⟩:=rG ar hk aH;refine⟨_,⟨b,aH,rfl⟩,?_⟩;rw[e,aI,rq,Sym.e6];unfold au.hz;rw[Sym.jc,bj,mK];cases a3 with
 |true=>rw[cond_true,gn hn,fV.ai g6 U hq,fV.ai fG U hp,rD,zah]
 |false=>
  rw[cond_false];rw[Gm,fV.ai g6 U (by omega),fV.ai fG U hp];by_cases ei:c=p
  ·rw[lv ei];have:p=0:=by omega
   subst this;rw[zbh]
  ·rw[ur ei,rD,zah]
def anL{l:ac bv}{j:Nat}{b8:d8}{b7:bv}(J:br s.env x=some (.s l))(aa:br s.env i=some (.i b8 (j:Int)))(hj:l[j]? =some b7):gI call (.uY x i) s (.i .u8 (b7.toNat:Int)) s.own s.n:=l5 fun H ids st fr ar U=>by
 have h1:fr.ai x= .string ⟨⟨l⟩⟩:=U.ai J;have h2:fr.ai i= .int b8 (j:Int):=U.ai aa;refine⟨_,rfl,?_⟩;have e:bK call (.uY x i) fr st=jE (fr.ai x) (fun s=>g2 (fr.ai i) (fun _ j=>ie j (fun j=>iE s.data.toList j 1 (fun bs=>one bs (fun b=>.ok (.int .u8 (.ofNat b.toNat)) fr st) .no) .no) .no) .no) .no:=rfl;obtain⟨aE,aB⟩:=zaf.1 hj;rw[e,h1,Cs,h2,na,oI];show iE l j 1 _ _=_;rw[AG (by omega),fP aE,aB];rfl
def as4{l:ac bv}(J:br s.env x=some (.s l))(fG:fV s lo 0 p)(g6:fV s aa l.length q)(hp:p<=q)(hq:q<=l.length):gI call (.tA x lo aa) s (.s ((l.drop p).take (q-p))) s.own s.n:=l5 fun H ids st fr ar U=>by
 have h1:fr.ai x= .string ⟨⟨l⟩⟩:=U.ai J;refine⟨_,rfl,?_⟩;have e:bK call (.tA x lo aa) fr st=jE (fr.ai x) (fun s=>fp fr aa (dL s.data.toList) (dL s.data.toList) fun h=>fp fr lo 0 h fun l=>iE s.data.toList l (h-l) (fun bs=>.ok (.string ⟨⟨bs⟩⟩) fr st) .no) .no:=rfl;rw[e,h1,Cs];show fp fr aa (dL l) (dL l) _=_;rw[fC,fV.ai g6 U hq,fV.ai fG U hp,AG (by show p+(q-p)<=l.length;omega)]
def ae4{l m:ac bv}(J:br s.env x=some (.s l))(ay:br s.env y=some (.s m))(hl:l.length+m.length<=1099511627776):gI call (.bin .add x y) s (.s (l++m)) s.own s.n:=l5 fun H ids st fr ar U=>by
 have h1:fr.ai x= .string ⟨⟨l⟩⟩:=U.ai J;have h2:fr.ai y= .string ⟨⟨m⟩⟩:=U.ai ay;refine⟨_,rfl,?_⟩;rw[EY,h1,h2,T5];show ey (dL l+dL m) (2^40) _ _=_;rw[fC,fC,gn (show _<=2^40 from hl),rF]
def abj{n:Int}(J:br s.env x=some (.i k m))(ay:br s.env y=some (.i k n))(hn:n≠0):gI call (.bin .quo x y) s (.i k (k.wrap (m.tdiv n))) s.own s.n:=l5 fun H ids st fr ar U=>
 ⟨_,rfl,BK (by decide) (by decide) (U.ai J) (U.ai ay) (by show(if n=0 then none else _)=_;rw[zaa hn])⟩
def arl{n:Int}(J:br s.env x=some (.i k m))(ay:br s.env y=some (.i k n))(hn:n≠0):gI call (.bin .rem x y) s (.i k (m.tmod n)) s.own s.n:=l5 fun H ids st fr ar U=>
 ⟨_,rfl,BK (by decide) (by decide) (U.ai J) (U.ai ay) (by show(if n=0 then none else _)=_;rw[zaa hn])⟩
def ar9{k':d8}{m:Nat}(J:br s.env x=some (.i k (m:Int)))(ay:br s.env y=some (.i k' (n:Int)))(hn:n<=k.bits):gI call (.bin .shr x y) s (.i k ((m/2^n:Nat):Int)) s.own s.n:=l5 fun H ids st fr ar U=>by
 obtain⟨v,h1,h2⟩:=Se (call:=call) (k:=k) (a:=(m:Int)) (b:=(n:Int)) (r:=.i k ((m/2^n:Nat):Int)) (by show(match Nat.ble n k.bits with|true=>_|false=>_)=_;rw[zdA hn]) (U.ai J) (U.ai ay);exact⟨v,h1 _ _,h2 st⟩
end
def lz(H:bu)(st:au)(b:Nat):bu:=fun c=>open Classical in if c=b then st.h.get b else H c
section
variable{H:bu}{ids:ac Nat}{st:au}{own:ac bd}{n:Nat}
variable{k b:Nat}{o:bd}
def Dx(ar:Fit H ids st own n)(hk:own[k]? =some o)(hl:o.live=true)(hb:ids[k]? =some b):dj H (lz H st b):=fun c q hc=>by
 unfold lz;rw[zaa]
 ·exact hc
 ·intro e;rw[e,(ar.own k o b hk hb).2 hl]at hc;cases hc
def Fit.lz(ar:Fit H ids st own n)(hk:own[k]? =some o)(hl:o.live=true)(hb:ids[k]? =some b):Fit (Go.ah.lz H st b) ids st (own.set k .x) n:=by
 refine⟨ar.wf,?_,by simp[ar.ct],ar.len,ar.dg,ar.lt,?_⟩
 ·intro c q hc;unfold Go.ah.lz at hc;split at hc
  ·rename_i e;rw[e];exact hc
  ·exact ar.le c q hc
 ·intro j q c hj hc;rw[zbb]at hj;by_cases hE:k=j
  ·rw[zab hE]at hj;split at hj<;>cases hj;exact⟨trivial,fun h=>by cases h⟩
  ·rw[zaa hE]at hj;obtain⟨h1,h2⟩:=ar.own j q c hj hc;refine⟨ug (Dx ar hk hl hb) (dk.refl _) h1,fun hq=> ?_⟩;unfold Go.ah.lz;rw[zaa]
   ·exact h2 hq
   ·intro e;subst e;have aH:=zaf.1 hb;have aI:=zaf.1 hc;exact hE ((zcw (h₀:=aH.1) (h₁:=aI.1) ar.dg).1 (aH.2.trans aI.2.symm))
def dv.lz{bY:bu}{i0:ac Nat}{aK:au}(a8:dv bY i0 aK H ids st)(ar:Fit H ids st own n)(hk:own[k]? =some o)(hl:o.live=true)(hb:ids[k]? =some b):dv bY i0 aK (Go.ah.lz H st b) ids st:=by
 refine⟨a8.hle.trans (Dx ar hk hl hb),?_,a8.gN,a8.aj,a8.l2,a8.new⟩;intro c hc hn;unfold Go.ah.lz;rw[zaa]
 ·exact a8.hold c hc hn
 ·intro e;subst e;rcases a8.new _ (zau hb)with h|h
  ·exact hn h
  ·omega
end
section
variable{aw:fI}{K:ac eS}{own:ac bd}{aG:Nat}{e:bJ}
variable{z:Nat}{el:ce}{α:Type}{k o n c:Nat}{a3:Bool}{t:Nat}{p:ac bA}{cs:ac ae}{R:α->ac ae}{l:ac α}
def MG(l':ac α)(aF:dR e t=some (.aN k z o n c))(hk:own[k]? =some (.a el a3 z α R l))(hl:(l.drop o).take n=l')(hn:l'.length=n)(hc:n<=c)(hp:∀x,jk (R x)=true)
 {H:bu} {ids:ac Nat} {st:au} {fr:aJ} (a8:dv aw.bY aw.i0 aw.aK H ids st) (ar:Fit H ids st own aG) (U:c1 fr H ids e):
 ∃a5,dv aw.bY aw.i0 aw.aK a5 ids st∧Fit a5 ids st (own.set k .x) aG∧c1 fr a5 ids ((t,.aZ z α R l')::e)∧dj H a5:=by
 obtain⟨b,aH,aI⟩:=U.get t _ aF;obtain⟨⟨vs,bj,cn,cT⟩,_⟩:=ar.own k _ b hk aH;have hle:=Dx ar hk rfl aH;refine⟨lz H st b,a8.lz ar hk rfl aH,ar.lz hk rfl aH,⟨(U.mono hle (dk.refl _)).pl,fun j q hj=> ?_⟩,hle⟩;rw[tg]at hj;cases hb:Nat.beq t j with
 |false=>rw[hb]at hj;exact(U.mono hle (dk.refl _)).get j q hj
 |true=>
  rw[hb]at hj;cases hj;rw[<-eo hb];refine .inr ⟨b,o*z,c,vs,el,(0,0),a3,by rw[hn];exact aI,by rw[hn];exact hc,by unfold lz;rw[zab rfl];exact bj,fun i x J=> ?_⟩;rw[<-hl,zaT]at J;split at J
  ·rw[zaR]at J;rw[<-zah];exact ni hle _ (dk.refl _) (sN _ (hp x) (cT _ x J) [])
  ·cases J
def Uo(l':ac α)(aF:dR e t=some (.aN k z o n c))(hk:own[k]? =some (.a el a3 z α R l))(hl:(l.drop o).take n=l')(hn:l'.length=n)(hc:n<=c)(hp:∀x,jk (R x)=true)
 {H:bu} {ids:ac Nat} {st:au} {fr:aJ} (a8:dv aw.bY aw.i0 aw.aK H ids st) (ar:Fit H ids st own aG) (U:c1 fr H ids e):
 ∃a5,dv aw.bY aw.i0 aw.aK a5 ids st∧Fit a5 ids st (own.set k .x) aG∧c1 fr a5 ids ((t,.aZ z α R l')::e):=let⟨a5,h1,h2,ab,_⟩:=MG l' aF hk hl hn hc hp a8 ar U;⟨a5,h1,h2,ab⟩
def aqX(t:Nat)(l':ac α){p:dw}(aF:dR e t=some (.aN k z o n c))(hk:own[k]? =some (.a el a3 z α R l))(hl:(l.drop o).take n=l')(hn:l'.length=n)(hc:n<=c)(hp:∀x,jk (R x)=true)
 (b8:aS.ok aw ⟨K,.c p,⟨own.set k .x,aG,(t,.aZ z α R l')::e⟩⟩):aS.ok aw ⟨K,.c p,⟨own,aG,e⟩⟩:=fun H ids st fr a8 ar U=>by
 obtain⟨a5,h1,h2,ab⟩:=Uo l' aF hk hl hn hc hp a8 ar U;exact b8 a5 ids st fr h1 h2 ab
def abz(t:Nat)(l':ac α)(aF:dR e t=some (.aN k z o n c))(hk:own[k]? =some (.a el a3 z α R l))(hl:(l.drop o).take n=l')(hn:l'.length=n)(hc:n<=c)(hp:∀x,jk (R x)=true)
 (b8:aS.ok aw ⟨K,.o p,⟨own.set k .x,aG,(t,.aZ z α R l')::e⟩⟩):aS.ok aw ⟨K,.o p,⟨own,aG,e⟩⟩:=fun H ids st fr a8 ar U=>by
 obtain⟨a5,h1,h2,ab⟩:=Uo l' aF hk hl hn hc hp a8 ar U;exact b8 a5 ids st fr h1 h2 ab
def Lm(l:ac α)(hk:own[k]? =some (.c el cs))(eT:cs=l.flatMap R)(av:∀w,(R w).length=z){H:bu}{ids:ac Nat}{st:au}(ar:Fit H ids st own aG):Fit H ids st (own.set k (.a el false z α R l)) aG:=by
 refine⟨ar.wf,ar.le,by simp[ar.ct],ar.len,ar.dg,ar.lt,?_⟩;intro j q c hj hc;rw[zbb]at hj;by_cases hE:k=j
 ·subst hE;rw[zab rfl]at hj;split at hj<;>cases hj;obtain⟨⟨vs,ab,d⟩,aD⟩:=ar.own k _ c hk hc;rw[eT]at d;have:=L0 av d;exact⟨⟨vs,ab,this.1,this.2⟩,fun _=>aD rfl⟩
 ·rw[zaa hE]at hj;exact ar.own j q c hj hc
def abx(k:Nat)(l:ac α)(hk:own[k]? =some (.c el cs))(eT:cs=l.flatMap R)(av:∀w,(R w).length=z)(b8:aS.ok aw ⟨K,.o p,⟨own.set k (.a el false z α R l),aG,e⟩⟩):aS.ok aw ⟨K,.o p,⟨own,aG,e⟩⟩:=fun H ids st fr a8 ar U=>
 b8 H ids st fr a8 (Lm l hk eT av ar) U
end
structure bN where
 L:Type
 args:L->ac ae
 pre:L->Prop
 res:L->ae
 hp:bu->Prop:=fun _=>True
 hm:∀{H a5:bu},dj H a5->hp H->hp a5:=by exact fun _ _=>trivial
def bN.spec(S:bN):Spec where
 L:=S.L×bu
 pre:=fun l vs st=>S.pre l.1∧S.hp l.2∧Fit l.2 [] st [] 0∧dH l.2 (S.args l.1) [] vs
 post:=fun l vs st v st'=>∃a5,Fit a5 [] st' [] 0∧dv l.2 [] st a5 [] st'∧den a5 (S.res l.1) [] v
def Fin(S:bN)(l:S.L)(res:ac jq)(x:dM)(s:cr):Prop:=(x= .norm∨x= .ret)∧∃r,xn s res=some r∧q9 r=true∧bV r (S.res l)
where
 Qv (s:cr):jq->am ae
  |.tmp t=>dR s.env t
  |.cell a il n=>match dR s.env a with
   |some (.p k o)=>match s.own[k]? with
    |some (.c _ cs)=>vY cs o n (Jt il)
    |_=>none
   |_=>none
 Kg (s:cr):ac jq->am (ac ae)
  |[]=>some []
  |r::rs=>match Qv s r with
   |some a=>match Kg s rs with
    |some as=>some (a::as)
    |none=>none
   |none=>none
 xn (s:cr) (l:ac jq):am ae:=match Kg s l with
  |some [a]=>some a
  |some as=>some (.bM as)
  |none=>none
variable{H:bu}{ids:ac Nat}{st:au}{s:cr}{fr:aJ}
def Fit.less{own:ac bd}{n:Nat}(h:Fit H ids st own n):Fit H [] st [] 0:=⟨h.wf,h.le,rfl,rfl,zdS,fun b hb=>by simp at hb,fun k o b hk=>by simp at hk⟩
def dv.refl(H:bu)(i:ac Nat)(st:au):dv H i st H i st:=⟨dj.refl _,fun _ _ _=>rfl,fun _ _ _=>rfl,b6 _,dk.refl _,fun b hb=>.inl hb⟩
def dv.less{bY:bu}{aK:au}(h:dv bY [] aK H ids st):dv bY [] aK H [] st:=⟨h.hle,h.hold,h.gN,h.aj,dk.refl _,fun b hb=>.inl hb⟩
def arC(ar:Fit H ids st s.own s.n)(U:c1 fr H ids s.env){r:jq}{a:ae}(h:Fin.Qv s r=some a):
 ∃v,den H a ids v∧∀vs:ac be,(jq.rec (motive:=fun _=>am (ac be)) (fun t=>some (fr.tmp t::vs)) (fun a agg n=>jD (fr.tmp a) (fun p=>bm p (fun ad=>st.load ad n (fun cs=>cond agg (some (.agg ⟨cs⟩::vs)) (one cs (fun v=>some (v::vs)) none)) none) none) none) r:am (ac be))=some (v::vs):=by
 cases r with
 |tmp t=>exact⟨_,U.get t a h,fun vs=>rfl⟩
 |cell t il n=>
  simp only[Fin.Qv]at h;split at h<;>try cases h
  rename_i k o aF;split at h<;>try cases h
  rename_i el cs hk;obtain⟨b,aH,aI⟩:=U.get t _ aF;obtain⟨⟨ws,bj,d⟩,_⟩:=ar.own k _ b hk aH;obtain⟨h1,h2⟩:=AF h;have ao:=uj n (o6 o d);have hl:=iF (o6 o d);have e:∀vs:ac be,jD (fr.tmp t) (fun p=>bm p (fun ad=>st.load ad n (fun cs=>cond il (some (.agg ⟨cs⟩::vs)) (one cs (fun v=>some (v::vs)) none)) none) none) none=cond il (some (.agg ⟨(ws.drop o).take n⟩::vs)) (one ((ws.drop o).take n) (fun v=>some (v::vs)) none):=fun vs=>by
   rw[aI,sA,Sym.e6];unfold au.load au.hz;rw[Sym.jc,bj,mK,uc (by show n<=(ws.drop o).length;omega)]
  rcases aak h2 with⟨rfl,rfl⟩|⟨rfl,ab⟩
  ·exact⟨_,⟨_,rfl,ao⟩,fun vs=>e vs⟩
  ·rw[ab]at ao;obtain⟨v,us,aB,ao,hn⟩:=ao;cases hn;refine⟨v,ao,fun vs=>(e vs).trans ?_⟩;rw[aB];rfl
theorem Qw{s:cr}{H:bu}{ids:ac Nat}{st:au}{fr:aJ}(ar:Fit H ids st s.own s.n)(U:c1 fr H ids s.env):∀{rs:ac jq} {as:ac ae},Fin.Kg s rs=some as->∃vs,dH H as ids vs∧rN fr st rs=some vs
 |[],as,h=>by cases h;exact⟨[],rfl,rfl⟩
 |r::rs,as,h=>by
  unfold Fin.Kg at h;split at h<;>try cases h
  rename_i a h1;split at h<;>try cases h
  rename_i as' h2;obtain⟨v,aH,aI⟩:=arC ar U h1;obtain⟨vs,bj,cn⟩:=Qw ar U h2;refine⟨v::vs,⟨v,vs,rfl,aH,bj⟩,?_⟩;show bm (rN fr st rs) _ none=_;rw[cn];exact aI vs
def Ft{call:bG}(ar:Fit H ids st s.own s.n)(U:c1 fr H ids s.env){rs:ac jq}{r:ae}(h:Fin.xn s rs=some r):∃v,den H r ids v∧lx call rs none fr st= .ret v st false:=by
 have e:∀vs,rN fr st rs=some vs->lx call rs none fr st=one vs (fun v=>.ret v st false) (.ret (.tuple ⟨vs⟩) st false):=fun vs aB=>by
  unfold lx;rw[U.pl.cW,U.pl.cD];simp only[kt];show bm (rN fr st rs) _ _=_;rw[aB];rfl
 unfold Fin.xn at h;split at h
 ·rename_i a ha;cases h;obtain⟨vs,⟨v,ws,rfl,h1,h2⟩,ab⟩:=Qw ar U ha;cases h2;exact⟨v,h1,(e _ ab).trans rfl⟩
 ·rename_i as hn ha;cases h;obtain⟨vs,h1,ab⟩:=Qw ar U ha;refine⟨_,⟨vs,rfl,h1⟩,(e _ ab).trans ?_⟩;have hl:=iF h1
  match vs,as,hl with
  |[],_,_=>rfl
  |[v],[a],_=>exact absurd ha (by intro _;exact hn a rfl)
  |_::_::_,_,_=>rfl
 ·cases h
def ov:Nat->ac ae->bJ
 |_,[]=>[]
 |i,a::as=>(i,a)::ov (i+1) as
theorem TV:∀(as:ac ae) (i j:Nat) (a:ae),dR (ov i as) j=some a->i<=j∧as[j-i]? =some a
 |[],_,_,_,h=>by cases h
 |w::as,i,j,a,h=>by
  rw[ov,tg]at h;cases hb:Nat.beq i j with
  |true=>
   rw[hb]at h;have:=eo hb;subst this;cases h;exact⟨b6 _,by simp⟩
  |false=>
   rw[hb]at h;obtain⟨h1,h2⟩:=TV as (i+1) j a h;refine⟨by omega,?_⟩;have:j-i=(j-(i+1))+1:=by omega
   rw[this];simpa using h2
def c1.zero{as:ac ae}{vs:ac be}(d:dH H as ids vs):c1 (fS vs) H ids (ov 0 as):=by
 refine⟨sG.zero _,fun j a h=> ?_⟩;obtain⟨_,h2⟩:=TV as 0 j a h;obtain⟨v,ab,aD⟩:=v8 d h2;have hj:=(zaf.1 ab).1;have:(fS vs).tmp j=v:=by
  show Option.rec (motive:=fun _=>be) _ _ ((oi vs 0 .nil).get j)=v;rw[Ll,zab (by omega),ab]
 rw[this];exact aD
variable{X:Ctx}
variable{S:bN}{xf:dy}
def L6{bn:an dy}(eh:Good X)(kn:pF X bn)(cq:ci->fX){f:ci}(J:bn.get f=some xf)(hl:∀l,(S.args l).length<=xf.aP)
 (h:∀l,S.pre l->∀H aK,S.hp H->aS.ok ⟨cG bn (c0 X cq) (bc+1),bc+1,f,H,[],aK,Fin S l xf.res⟩ ⟨[],.c xf.body,⟨[],0,ov 0 (S.args l)⟩⟩):bw X f S.spec:=by
 refine Td eh kn cq J (fun l vs st ⟨_,_,_,d⟩=>by rw[iF d];exact hl l.1) ?_;rintro⟨l,H⟩ vs st ⟨hp,hh,ar,d⟩;refine(h l hp H st hh H [] st (fS vs) (dv.refl _ _ _) ar (c1.zero d)).mono ?_;rintro x fr st' ⟨a5,ids,s,a8,dG,U,J,r,h1,h2,hle⟩;obtain⟨v,ab,aD⟩:=Ft (call:=cG bn (c0 X cq) (bc+1)) dG U h1;exact⟨J,v,aD,a5,dG.less,a8.less,hle _ _ _ (GQ _ h2 ab _)⟩
def af1{bn:an dy}(eh:Good X)(kn:pF X bn)(cq:ci->fX){f:ci}(J:bn.get f=some xf)(hl:∀l,(S.args l).length<=xf.aP)
 (h:∀l,S.pre l->∀H aK,aS.ok ⟨cG bn (c0 X cq) (bc+1),bc+1,f,H,[],aK,Fin S l xf.res⟩ ⟨[],.c xf.body,⟨[],0,ov 0 (S.args l)⟩⟩):bw X f S.spec:=L6 eh kn cq J hl fun l hp H aK _=>h l hp H aK
def Gq{bn:an dy}{cq:ci->fX}{g:ci}(hc:bw X g S.spec)(dJ:cq g=S.spec.K){cz:ac bi}{as:ac ae}{n:Nat}(l:S.L)(ha:k6 s.env cz=some as)(oD:jk as=true)(he:ik as (S.args l))(hp:S.pre l){bY:bu}(hh:S.hp bY):
 Ae bY (cG bn (c0 X cq) (n+1)) (.call (.func g) cz) s (S.res l) s.own s.n:=fun H ids st fr gx ar U=>by
 have ao:=he.den (sN _ oD (U.er ha) []);obtain⟨v,st',h1,h2⟩:=hc _ st ⟨(l,H),hp,S.hm gx hh,ar.less,ao⟩;obtain⟨v1,cm,aH,aI⟩:=Jq (X:=X) (K:=cq) (f:=g) ⟨v,st',by rw[dJ];exact h1,h2⟩;rw[dJ]at aI;obtain⟨a5,dG,du,g5⟩:=aI (l,H) ⟨hp,S.hm gx hh,ar.less,ao⟩;have bj:cG bn (c0 X cq) (n+1) (.func (.func g) #[] #[]) (er fr cz) none st= .ret v1 cm false:=by
  rw[vU];have e:gJ (#[]:ap be).toList (gJ (er fr cz) (#[]:ap be).toList)=er fr cz:=by simp
  rw[e,aH];rfl
 have hle:dj H a5:=du.hle;refine⟨v1,cm,ids,a5,?_,?_,sL (dj.refl _) _ (dk.nil _) g5,hle,dk.refl _,?_,du.aj,fun b hb _=>du.gN b hb (by simp)⟩
 ·rw[vn];show wi (cG bn (c0 X cq) (n+1) (.func (.func g) #[] #[]) (er fr cz) none st) _ _=_;rw[bj];rfl
 ·refine⟨dG.wf,dG.le,ar.ct,ar.len,ar.dg,fun b hb=>gH (ar.lt b hb) du.aj,fun k o b hk hb=> ?_⟩;obtain⟨ab,aD⟩:=ar.own k o b hk hb;have aE:=ar.lt b (zau hb);rw[du.gN b aE (by simp)];exact⟨ug hle (dk.refl _) ab,fun hl=>by rw[du.hold b aE (by simp)];exact aD hl⟩
 ·intro bY i0 aK B;refine⟨B.hle.trans hle,fun b hb hn=> ?_,fun b hb hn=> ?_,zag B.aj du.aj,B.l2,B.new⟩
  ·rw[du.hold b (gH hb B.aj) (by simp)];exact B.hold b hb hn
  ·rw[du.gN b (gH hb B.aj) (by simp)];exact B.gN b hb hn
section
variable{bn:an dy}{cq:ci->fX}{cc n:Nat}{fn:ci}{bY:bu}{i0:ac Nat}{aK:au}{Q:dM->cr->Prop}{K:ac eS}{own:ac bd}{aG:Nat}{e:bJ}
variable{g:ci}{cz:ac bi}{as:ac ae}{d:Tmp}
def aX(hc:bw X g S.spec){xs:ac bA}(l:S.L)(hp:S.pre l)(k:aS.ok ⟨cG bn (c0 X cq) (n+1),cc,fn,bY,i0,aK,Q⟩ ⟨K,.o xs,⟨own,aG,(d,S.res l)::e⟩⟩)
 (ha:k6 e cz=some as:=by rfl) (he:ik as (S.args l):=by exact ik.refl _) (oD:jk as=true:=by rfl) (dJ:cq g=S.spec.K:=by rfl) (hh:S.hp bY:=by exact trivial):
 aS.ok ⟨cG bn (c0 X cq) (n+1),cc,fn,bY,i0,aK,Q⟩ ⟨K,.o (⟨some d,.call (.func g) cz,none⟩::xs),⟨own,aG,e⟩⟩:=Kb (d:=some d) (s:=⟨own,aG,e⟩) (Gq hc dJ l ha oD he hp hh) k
def bC(hc:bw X g S.spec){xs:ac (bA×cx)}{bp:ac bd}{a7:bJ}{a6 bU:Nat}(l:S.L)(hp:S.pre l)(k:aS.ok ⟨cG bn (c0 X cq) (n+1),cc,fn,bY,i0,aK,Q⟩ ⟨K,.d xs bp (lV d a7) (a6+1) aG,⟨own,aG,(d,S.res l)::e⟩⟩)
 (ha:k6 e cz=some as:=by rfl) (he:ik as (S.args l):=by exact ik.refl _) (oD:jk as=true:=by rfl) (dJ:cq g=S.spec.K:=by rfl) (hh:S.hp bY:=by exact trivial):
 aS.ok ⟨cG bn (c0 X cq) (n+1),cc,fn,bY,i0,aK,Q⟩ ⟨K,.d ((⟨some d,.call (.func g) cz,none⟩,.ep)::xs) bp a7 a6 bU,⟨own,aG,e⟩⟩:=
 Ma (d:=some d) (s:=⟨own,aG,e⟩) (Gq hc dJ l ha oD he hp hh) rfl (fun _ _ hk _=>⟨hk,by simp[iM]⟩) k
end
variable{l:S.L}{r:ae}{e:dM}
def b8:ac (Nat×fX)->ci->fX
 |[],_=>fX.no
 |p::l,g=>cond (Nat.beq p.1 g) p.2 (b8 l g)
def ahU{res:ac jq}(h1:Fin.xn s res=some r)(h2:q9 r=true)(ab:bV r (S.res l))(he:e= .ret∨e= .norm:=by first|exact .inl rfl|exact .inr rfl):Fin S l res e s:=⟨he.symm,r,h1,h2,ab⟩
def aM{call:bG}{cc:Nat}{fn:ci}{bY:bu}{i0:ac Nat}{aK:au}{res:ac jq}(h1:Fin.xn s res=some r)(ab:bV r (S.res l))(h2:q9 r=true:=by rfl)(he:e= .ret∨e= .norm:=by first|exact .inl rfl|exact .inr rfl):aS.ok ⟨call,cc,fn,bY,i0,aK,Fin S l res⟩ ⟨[],.x e,s⟩:=l9 (ahU h1 h2 ab he)
end Go.ah
namespace Go.ah
open Sym
section
variable{aw:fI}{K:ac eS}{own bl:ac bd}{aG b1:Nat}{e:bJ}{d:Tmp}{xs:ac bA}{x y i:bi}
variable{α:Type}{z:Nat}{el:ce}{n c j:Nat}{a3:Bool}{q cu p:Nat}{lo aa:am bi}{o a2:Nat}{a:ae}{cs:ac ae}{R:α->ac ae}{l:ac α}
def db(q:α){b8:d8}(hj:l[j]? =some q)(k:aS.ok aw ⟨K,.o xs,⟨own,aG,(d,.ip (R q))::e⟩⟩)(J:br e x=some (.aZ z α R l):=by rfl)(aa:br e i=some (.i b8 (j:Int)):=by rfl):aS.ok aw ⟨K,.o (⟨some d,.mZ z x i,none⟩::xs),⟨own,aG,e⟩⟩:=
 g9 (N0 J aa hj) k
def xj{k0:Nat}{b8:d8}(k:aS.ok aw ⟨K,.o xs,⟨own,aG,(d,.gp k0 z (o+j) 0)::e⟩⟩)(J:br e x=some (.aN k0 z o n c):=by rfl)(aa:br e i=some (.i b8 (j:Int)):=by rfl)(hj:j<n:=by omega):aS.ok aw ⟨K,.o (⟨some d,.mZ z x i,none⟩::xs),⟨own,aG,e⟩⟩:=
 g9 (X0 J aa hj) k
def hU{k0:Nat}{b8:d8}(k:aS.ok aw ⟨K,.o xs,⟨own,aG,(d,.gp k0 z j 0)::e⟩⟩)(J:br e x=some (.aN k0 z 0 n c):=by rfl)(aa:br e i=some (.i b8 (j:Int)):=by rfl)(hj:j<n:=by omega):aS.ok aw ⟨K,.o (⟨some d,.mZ z x i,none⟩::xs),⟨own,aG,e⟩⟩:=
 g9 (X0 J aa hj) (by rw[zaP];exact k)
def sq{k0:Nat}(w:α)(hj:l[j]? =some w)(k:aS.ok aw ⟨K,.o xs,⟨own,aG,(d,a)::e⟩⟩)(J:br e x=some (.gp k0 z j q):=by rfl)(hk:own[k0]? =some (.a el a3 z α R l):=by rfl)(hq:(R w)[q]? =some a:=by rfl):aS.ok aw ⟨K,.o (⟨some d,.lE x,none⟩::xs),⟨own,aG,e⟩⟩:=
 g9 (aoa J hk hj hq) k
def iC{k0:Nat}(w':α)(k:aS.ok aw ⟨K,.o xs,⟨bl,aG,e⟩⟩)(J:br e x=some (.gp k0 1 j 0):=by rfl)(ay:br e y=some a:=by rfl)(hk:own[k0]? =some (.a el a3 1 α R l):=by rfl)(dY:R w'=[a]:=by rfl)(hc:tW a=true:=by rfl)(h1:∀w,(R w).length=1:=by exact fun _=>rfl)
 (ak:jm own k0 (.a el a3 1 α R (l.set j w')) some=some bl:=by rfl) (hj:j<l.length:=by first|omega|(simp;done)|(simp;omega)):aS.ok aw ⟨K,.o (⟨none,.store 1 x y,none⟩::xs),⟨own,aG,e⟩⟩:=by
 have:=j5 ak;cases this;exact aq3 (acI (s:=⟨own,aG,e⟩) w' J ay hk dY hj hc h1) k
def Iy:ac be->am Nat
 |[]=>some 0
 |[_]=>some 1
 |[_,_]=>some 2
 |[_,_,_]=>some 3
 |[_,_,_,_]=>some 4
 |[_,_,_,_,_]=>some 5
 |[_,_,_,_,_,_]=>some 6
 |[_,_,_,_,_,_,_]=>some 7
 |l=>some l.length
def YB{l:ac be}(h:Iy l=some n):l.length=n:=by
 unfold Iy at h;split at h<;>cases h<;>rfl
def lj{gS:ac be}{k0 k':d8}(R:α->ac ae)(w:α)(k:aS.ok aw ⟨K,.o xs,⟨bl,b1,(d,.aN aG z 0 n c)::e⟩⟩)(J:br e x=some (.i k0 (n:Int)):=by rfl)(ay:br e y=some (.i k' (c:Int)):=by rfl)(av:Iy gS=some z:=by rfl)(dY:vk gS=R w:=by rfl)
 (ak:oa own (.a el false z α R (List.replicate c w)) some=some bl:=by rfl) (jx:mx aG some=some b1:=by rfl) (hn:n<=c:=by omega) (hc:c*(cu+1)<=1099511627776:=by omega):aS.ok aw ⟨K,.o (⟨some d,.qc el cu gS x y,none⟩::xs),⟨own,aG,e⟩⟩:=by
 have h1:=oY ak;have h2:=nC jx;cases h1;cases h2;exact g9 (mk (s:=⟨own,aG,e⟩) R w J ay (YB av) dY hn hc) k
def Qj{k0:Nat}(t:Nat)(l':ac α)(k:aS.ok aw ⟨K,.o xs,⟨bl,aG,(t,.aZ z α R l')::e⟩⟩)(aF:dR e t=some (.aN k0 z o n c):=by rfl)(hk:own[k0]? =some (.a el a3 z α R l):=by rfl)(hp:∀x,jk (R x)=true:=by exact fun _=>rfl)
 (ak:jm own k0 .x some=some bl:=by rfl) (hl:(l.drop o).take n=l':=by first|rfl|simp) (hn:l'.length=n:=by first|omega|(simp;done)|(simp;omega)) (hc:n<=c:=by omega):aS.ok aw ⟨K,.o xs,⟨own,aG,e⟩⟩:=by
 have h1:=j5 ak;cases h1;exact abz t l' aF hk hl hn hc hp k
def gq{k0:Nat}(t:Nat)(k:aS.ok aw ⟨K,.o xs,⟨bl,aG,(t,.aZ z α R l)::e⟩⟩)(aF:dR e t=some (.aN k0 z 0 n c):=by rfl)(hk:own[k0]? =some (.a el a3 z α R l):=by rfl)(hp:∀x,jk (R x)=true:=by exact fun _=>rfl)
 (ak:jm own k0 .x some=some bl:=by rfl) (hn:l.length=n:=by first|omega|(simp;done)|(simp;omega)) (hc:n<=c:=by omega):aS.ok aw ⟨K,.o xs,⟨own,aG,e⟩⟩:=
 Qj t (l:=l) l k aF hk hp ak (by rw[zar,zaV (by omega)]) hn hc
def m7(k0:Nat)(R:α->ac ae)(l:ac α)(k:aS.ok aw ⟨K,.o xs,⟨bl,aG,e⟩⟩)(hk:own[k0]? =some (.c el cs):=by rfl)(av:∀w,(R w).length=z:=by exact fun _=>rfl)
 (ak:jm own k0 (.a el false z α R l) some=some bl:=by rfl) (eT:cs=l.flatMap R:=by rfl):aS.ok aw ⟨K,.o xs,⟨own,aG,e⟩⟩:=by
 have h1:=j5 ak;cases h1;exact abx k0 l hk eT av k
def aq6(l':ac α)(k:aS.ok aw ⟨K,.o xs,⟨own,aG,(d,.aZ z α R l')::e⟩⟩)(J:br e x=some (.aZ z α R l):=by rfl)(fG:fV ⟨own,aG,e⟩ lo 0 p:=by first|exact rfl|exact⟨_,rfl⟩)(g6:fV ⟨own,aG,e⟩ aa l.length q:=by first|exact rfl|exact⟨_,rfl⟩)(hl:(l.drop p).take (q-p)=l':=by first|rfl|simp)(hp:p<=q:=by omega)(hq:q<=l.length:=by first|omega|(simp;done)|(simp;omega)):aS.ok aw ⟨K,.o (⟨some d,.n9 z x lo aa none,none⟩::xs),⟨own,aG,e⟩⟩:=by
 subst hl;exact g9 (QM J fG g6 hp hq) k
def aq7{k0:Nat}(k:aS.ok aw ⟨K,.o xs,⟨own,aG,(d,.aN k0 z (o+p) (q-p) (c-p))::e⟩⟩)(J:br e x=some (.aN k0 z o n c):=by rfl)(hk:own[k0]? =some (.a el a3 z α R l):=by rfl)(fG:fV ⟨own,aG,e⟩ lo 0 p:=by first|exact rfl|exact⟨_,rfl⟩)(g6:fV ⟨own,aG,e⟩ aa n q:=by first|exact rfl|exact⟨_,rfl⟩)(hp:p<=q:=by omega)(hq:q<=n:=by omega)(hn:n<=c:=by omega)(hc:p<c∨p=0:=by omega):aS.ok aw ⟨K,.o (⟨some d,.n9 z x lo aa none,none⟩::xs),⟨own,aG,e⟩⟩:=
 g9 (as2 J hk fG g6 hp hq hn hc) k
def abB{k0:Nat}(k:aS.ok aw ⟨K,.o xs,⟨own,aG,(d,.aN k0 z p (q-p) (c-p))::e⟩⟩)(J:br e x=some (.aN k0 z 0 n c):=by rfl)(hk:own[k0]? =some (.a el a3 z α R l):=by rfl)(fG:fV ⟨own,aG,e⟩ lo 0 p:=by first|exact rfl|exact⟨_,rfl⟩)(g6:fV ⟨own,aG,e⟩ aa n q:=by first|exact rfl|exact⟨_,rfl⟩)(hp:p<=q:=by omega)(hq:q<=n:=by omega)(hn:n<=c:=by omega)(hc:p<c∨p=0:=by omega):aS.ok aw ⟨K,.o (⟨some d,.n9 z x lo aa none,none⟩::xs),⟨own,aG,e⟩⟩:=
 aq7 (by rw[zaP];exact k) J hk fG g6 hp hq hn hc
def l8(R:α->ac ae)(l:ac α)(af:oh ⟨own,aG,e⟩ y R a2 l)(k:aS.ok aw ⟨K,.o xs,⟨bl,b1,(d,.aN aG a2 0 l.length l.length)::e⟩⟩)(J:br e x=some .nl:=by rfl)
 (ak:oa own (.a el true a2 α R l) some=some bl:=by rfl) (jx:mx aG some=some b1:=by rfl) (h0:l≠[]:=by first|rfl|simp) (hb:(5*l.length+1792)*(cu+1)<=1125899906842624:=by first|omega|(simp;done)|(simp;omega)):aS.ok aw ⟨K,.o (⟨some d,.app el a2 cu x y,none⟩::xs),⟨own,aG,e⟩⟩:=by
 have h1:=oY ak;have h2:=nC jx;cases h1;cases h2;exact g9 (Lh (s:=⟨own,aG,e⟩) J (tS af) h0 hb) k
def lI{k0:Nat}{gY:ac bd}(m:ac α)(af:oh ⟨own,aG,e⟩ y R a2 m)(k:aS.ok aw ⟨K,.o xs,⟨bl,b1,(d,.aN aG a2 0 (n+m.length) (n+m.length))::e⟩⟩)(J:br e x=some (.aN k0 a2 0 n c):=by rfl)(hk:own[k0]? =some (.a el true a2 α R l):=by rfl)
 (oB:jm own k0 .x some=some gY:=by rfl) (ak:oa gY (.a el true a2 α R (l++m)) some=some bl:=by rfl) (jx:mx aG some=some b1:=by rfl) (h0:m≠[]:=by first|rfl|simp) (hn:n=l.length:=by first|omega|(simp;done)|(simp;omega)) (k3:n=c:=by omega) (hb:(5*(n+m.length)+1792)*(cu+1)<=1125899906842624:=by first|omega|(simp;done)|(simp;omega)):aS.ok aw ⟨K,.o (⟨some d,.app el a2 cu x y,none⟩::xs),⟨own,aG,e⟩⟩:=by
 have kh:=j5 oB;cases kh;have h1:=oY ak;have h2:=nC jx;cases h1;cases h2;have:=Gf (call:=aw.call) (s:=⟨own,aG,e⟩) (cu:=cu) J hk (tS af) h0 (by omega) (by omega) (by omega) hb;rw[hn,zaX]at this;rw[hn]at k;exact g9 this k
def abv{k0:Nat}(m:ac α)(af:oh ⟨own,aG,e⟩ y R a2 m)(l':ac α)(k:aS.ok aw ⟨K,.o xs,⟨bl,aG,(d,.aN k0 a2 0 (n+m.length) c)::e⟩⟩)(J:br e x=some (.aN k0 a2 0 n c):=by rfl)(hk:own[k0]? =some (.a el false a2 α R l):=by rfl)
 (ak:jm own k0 (.a el false a2 α R l') some=some bl:=by rfl) (h0:m≠[]:=by first|rfl|simp) (hn:n+m.length<=c:=by first|omega|(simp;done)|(simp;omega)) (hc:c<=l.length:=by first|omega|(simp;done)|(simp;omega)) (hb:(5*(n+m.length)+1792)*(cu+1)<=1125899906842624:=by first|omega|(simp;done)|(simp;omega)) (hl:l.take n++(m++l.drop (n+m.length))=l':=by first|rfl|simp):aS.ok aw ⟨K,.o (⟨some d,.app el a2 cu x y,none⟩::xs),⟨own,aG,e⟩⟩:=by
 subst hl;have h1:=j5 ak;cases h1;exact g9 (aep (s:=⟨own,aG,e⟩) J hk (tS af) h0 hn hc hb) k
def eR{k0:Nat}(l:ac α)(eT:cs=l.flatMap R)(J:br e x=some (.aN k0 z 0 l.length c):=by rfl)(hk:own[k0]? =some (.c el cs):=by rfl)(av:∀w,(R w).length=z:=by exact fun _=>rfl)(hc:rH cs=true:=by rfl):oh ⟨own,aG,e⟩ x R z l:=atb l J rfl hk eT av hc rfl
def nH{l:ac bv}{b8:d8}(b7:bv)(hj:l[j]? =some b7)(k:aS.ok aw ⟨K,.o xs,⟨own,aG,(d,.i .u8 (b7.toNat:Int))::e⟩⟩)(J:br e x=some (.s l):=by rfl)(aa:br e i=some (.i b8 (j:Int)):=by rfl):aS.ok aw ⟨K,.o (⟨some d,.uY x i,none⟩::xs),⟨own,aG,e⟩⟩:=g9 (anL J aa hj) k
def sr{l:ac bv}(l':ac bv)(k:aS.ok aw ⟨K,.o xs,⟨own,aG,(d,.s l')::e⟩⟩)(J:br e x=some (.s l):=by rfl)(fG:fV ⟨own,aG,e⟩ lo 0 p:=by first|exact rfl|exact⟨_,rfl⟩)(g6:fV ⟨own,aG,e⟩ aa l.length q:=by first|exact rfl|exact⟨_,rfl⟩)(hl:(l.drop p).take (q-p)=l':=by first|rfl|simp)(hp:p<=q:=by omega)(hq:q<=l.length:=by first|omega|(simp;done)|(simp;omega)):aS.ok aw ⟨K,.o (⟨some d,.tA x lo aa,none⟩::xs),⟨own,aG,e⟩⟩:=by
 subst hl;exact g9 (as4 J fG g6 hp hq) k
def tz{l m:ac bv}(k:aS.ok aw ⟨K,.o xs,⟨own,aG,(d,.s (l++m))::e⟩⟩)(J:br e x=some (.s l):=by rfl)(ay:br e y=some (.s m):=by rfl)(hl:l.length+m.length<=1099511627776:=by first|omega|(simp;done)|(simp;omega)):aS.ok aw ⟨K,.o (⟨some d,.bin .add x y,none⟩::xs),⟨own,aG,e⟩⟩:=g9 (ae4 J ay hl) k
end
section
variable{aw:fI}{K:ac eS}{own:ac bd}{aG:Nat}{e:bJ}{d:Tmp}{xs:ac bA}{x y:bi}
variable{m n:Nat}
def aq5(k:aS.ok aw ⟨K,.o xs,⟨own,aG,(d,.i .u64 ((m/n:Nat):Int))::e⟩⟩)(J:br e x=some (.i .u64 (m:Int)):=by rfl)(ay:br e y=some (.i .u64 (n:Int)):=by rfl)(hn:n≠0:=by omega)(hm:m<18446744073709551616:=by omega):aS.ok aw ⟨K,.o (⟨some d,.bin .quo x y,none⟩::xs),⟨own,aG,e⟩⟩:=by
 have h:=abj (call:=aw.call) (s:=⟨own,aG,e⟩) J ay (by omega);have aq:IntKind.u64.wrap ((m:Int).tdiv n)=((m/n:Nat):Int):=by
  show IntKind.u64.wrap ((m/n:Nat):Int)=_;have:=zaH m n;generalize m/n=q at *;exact adt (by omega) (by omega)
 rw[aq]at h;exact g9 h k
def aq4(k:aS.ok aw ⟨K,.o xs,⟨own,aG,(d,.i .i64 ((m/n:Nat):Int))::e⟩⟩)(J:br e x=some (.i .i64 (m:Int)):=by rfl)(ay:br e y=some (.i .i64 (n:Int)):=by rfl)(hn:n≠0:=by omega)(hm:m<9223372036854775808:=by omega):aS.ok aw ⟨K,.o (⟨some d,.bin .quo x y,none⟩::xs),⟨own,aG,e⟩⟩:=by
 have h:=abj (call:=aw.call) (s:=⟨own,aG,e⟩) J ay (by omega);have aq:IntKind.i64.wrap ((m:Int).tdiv n)=((m/n:Nat):Int):=by
  show IntKind.i64.wrap ((m/n:Nat):Int)=_;have:=zaH m n;generalize m/n=q at *;exact hG (by omega) (by omega)
 rw[aq]at h;exact g9 h k
def abA{k0:d8}(k:aS.ok aw ⟨K,.o xs,⟨own,aG,(d,.i k0 ((m%n:Nat):Int))::e⟩⟩)(J:br e x=some (.i k0 (m:Int)):=by rfl)(ay:br e y=some (.i k0 (n:Int)):=by rfl)(hn:n≠0:=by omega):aS.ok aw ⟨K,.o (⟨some d,.bin .rem x y,none⟩::xs),⟨own,aG,e⟩⟩:=
 g9 (arl (s:=⟨own,aG,e⟩) J ay (by omega)) k
def aq8{k0 bf:d8}(k:aS.ok aw ⟨K,.o xs,⟨own,aG,(d,.i k0 ((m/2^n:Nat):Int))::e⟩⟩)(J:br e x=some (.i k0 (m:Int)):=by rfl)(ay:br e y=some (.i bf (n:Int)):=by rfl)(hn:n<=k0.bits:=by first|decide|(show _<=64;omega)):aS.ok aw ⟨K,.o (⟨some d,.bin .shr x y,none⟩::xs),⟨own,aG,e⟩⟩:=
 g9 (ar9 (s:=⟨own,aG,e⟩) J ay hn) k
end
variable{aw:fI}{K:ac eS}{s:cr}{n m:Int}{b:dw}{g hr:aS}{c:bB}{a:dw}{P:Prop}{k:d8}{p:Nat}{e cK:bJ}{o:bd}
def Ku(d:Nat):aS->am aS
 |⟨K,c,⟨own,n,(t,a)::e⟩⟩=>match Nat.beq t d with
  |true=>none
  |false=>Ck ⟨K,c,⟨own,n,(t,a)::e⟩⟩
 |g=>Ck g
def acK(d:Nat)(h:Ku d g=some hr)(k:hr.ok aw):g.ok aw:=by
 unfold Ku at h;split at h
 ·split at h
  ·cases h
  ·exact Kv h k
 ·exact Kv h k
def R.mono{Ab:ac eS}(h:∀x s,Sem aw K x s->Sem aw Ab x s)(k:hy aw K c s)(dJ:∀dh,KP aw Ab dh->KP aw K dh:=by exact fun _ h=>h):hy aw Ab c s:=by
 have up:∀x fr st,vL aw (Sem aw K) x fr st->vL aw (Sem aw Ab) x fr st:=fun x fr st ⟨H,ids,s,h1,h2,ab,aD⟩=>⟨H,ids,s,h1,h2,ab,h x s aD⟩;cases c with
 |c c=>exact fun H ids st fr a8 ar U=>(k H ids st fr a8 ar U).mono up
 |o l=>exact fun H ids st fr a8 ar U=>(k H ids st fr a8 ar U).mono up
 |x e=>exact h e s k
 |d l bp a7 a6 bU=>exact fun dh hP H ids st fr fz af a8 ar U bX=>(k dh (dJ dh hP) H ids st fr fz af a8 ar U bX).mono up
def cP{c:bi}[ao:Decidable P](ha:P->aS.ok aw ⟨K,.c a,s⟩)(hb:¬P->aS.ok aw ⟨K,.c b,s⟩)(hc:br s.env c=some (.b (decide P)):=by rfl):aS.ok aw ⟨K,.c (.cond c a b),s⟩:=zI hc (fun h=>ha (zbB h)) (fun h=>hb (of_decide_eq_false h))
def B6{c:bi}[ao:Decidable P](ha:¬P->aS.ok aw ⟨K,.c a,s⟩)(hb:P->aS.ok aw ⟨K,.c b,s⟩)(hc:br s.env c=some (.b (!decide P)):=by rfl):aS.ok aw ⟨K,.c (.cond c a b),s⟩:=zI hc (fun h=>ha (by simpa using h)) (fun h=>hb (by simpa using h))
def ih{L:Type _}(P:L->Prop)(T:L->cr)(h1:aS.ok aw ⟨.bR (xC aw.i0.length P T)::K,c,s⟩)(h2:∀l,P l->aS.ok aw ⟨K,.c b,T l⟩):aS.ok aw ⟨.seq b::K,c,s⟩:=by
 refine R.mono (fun x s J=> ?_) h1;cases x with
 |norm=>obtain⟨f,l,hp,af⟩:=J;exact Qk f _ af (h2 l hp)
 |exit i=>exact J
 |ret=>exact J
 |a9 v=>exact J
def fa(h:n=m:=by omega)(h1: -9223372036854775808<=n:=by omega)(h2:n<9223372036854775808:=by omega):some (ae.i .i64 (IntKind.i64.wrap n))=some (ae.i .i64 m):=by rw[hG h1 h2,h]
def cS(h:n=m:=by omega)(h1: -9223372036854775808<=n:=by omega)(h2:n<9223372036854775808:=by omega):ae.i .i64 (IntKind.i64.wrap n)=ae.i .i64 m:=by rw[hG h1 h2,h]
def nw(h:n=m:=by omega):some (ae.i k n)=some (ae.i k m):=by rw[h]
def fv(h:n=m:=by omega):ae.i k n=ae.i k m:=by rw[h]
def eO{own:ac bd}{n:Nat}(h:mH [0] cK e)(ak:∃bD,own[0]? =some bD∧jT [0] o bD)(hp:pinned p [0] 0=true:=by rfl):Sub p [0] ⟨own,n,e⟩ ⟨[o],1,cK⟩:=⟨by simp,rfl,⟨ak,trivial⟩,h,hp⟩
def rl{own:ac bd}{n:Nat}{q:bd}(h:mH [0,1] cK e)(ak:∃bD,own[0]? =some bD∧jT [0,1] o bD)(hq:∃bD,own[1]? =some bD∧jT [0,1] q bD)(hp:pinned p [0,1] 0=true:=by rfl):Sub p [0,1] ⟨own,n,e⟩ ⟨[o,q],2,cK⟩:=⟨by simp,rfl,⟨ak,hq,trivial⟩,h,hp⟩
def av7(d:Nat)(k:hr.ok aw)(h:Ku d g=some hr:=by rfl):g.ok aw:=acK d h k
inductive Ai(d:Nat):aS->aS->Prop
 |o {g:aS}:Ai d g g
 |i {g aH aI:aS} (h:Ku d g=some aH) (t:Ai d aH aI):Ai d g aI
variable{q:bd}{aG:Nat}{ao:Decidable P}{j:Nat}{r:bd}
def atG{d:Nat}(h:Ai d g hr)(k:hr.ok aw):g.ok aw:=by
 induction h with
 |o=>exact k
 |i h _ a1=>exact acK d h (a1 k)
def ag(d:Nat)(k:hr.ok aw)(h:Ai d g hr:=by(repeat(apply Ai.i;exact rfl));exact .o):g.ok aw:=atG h k
def yg{n:Nat}(h:n<4611686018427387905:=by first|(show _-0<_;omega)|(show 0<_;omega)|omega):n<bc+1:=h
def KE{own:ac bd}(t:Nat)(h:P)(k:aS.ok aw ⟨K,c,⟨own,aG,(t,.b true)::e⟩⟩)(hl:dR e t=some (.b (decide P)):=by rfl)(hc:c.uX=false:=by rfl):aS.ok aw ⟨K,c,⟨own,aG,e⟩⟩:=ax t (.b true) hl (by rw[zad h]) k hc
def KD{own:ac bd}(t:Nat)(h:¬P)(k:aS.ok aw ⟨K,c,⟨own,aG,(t,.b false)::e⟩⟩)(hl:dR e t=some (.b (decide P)):=by rfl)(hc:c.uX=false:=by rfl):aS.ok aw ⟨K,c,⟨own,aG,e⟩⟩:=ax t (.b false) hl (by rw[zai h]) k hc
def eW{own:ac bd}{n:Nat}(h:mH [] cK e:=by repeat first|exact trivial|refine⟨rfl,?_⟩)(hp:pinned p [] 0=true:=by rfl):Sub p [] ⟨own,n,e⟩ ⟨[],0,cK⟩:=kr h hp
def hd{own:ac bd}{n k:Nat}(h:mH [k] cK e:=by repeat first|exact trivial|refine⟨rfl,?_⟩)(ak:∃bD,own[k]? =some bD∧jT [k] o bD:=by first|exact⟨_,rfl,rfl,fun _=>rfl⟩|exact⟨_,rfl,rfl⟩)(hp:pinned p [k] 0=true:=by rfl):Sub p [k] ⟨own,n,e⟩ ⟨[o],1,cK⟩:=⟨by simp,rfl,⟨ak,trivial⟩,h,hp⟩
def xp{own:ac bd}{n k m:Nat}(h:mH [k,m] cK e:=by repeat first|exact trivial|refine⟨rfl,?_⟩)(ak:∃bD,own[k]? =some bD∧jT [k,m] o bD:=by first|exact⟨_,rfl,rfl,fun _=>rfl⟩|exact⟨_,rfl,rfl⟩)(hq:∃bD,own[m]? =some bD∧jT [k,m] q bD:=by first|exact⟨_,rfl,rfl,fun _=>rfl⟩|exact⟨_,rfl,rfl⟩)(hk:k≠m:=by decide)(hp:pinned p [k,m] 0=true:=by rfl):Sub p [k,m] ⟨own,n,e⟩ ⟨[o,q],2,cK⟩:=⟨by simpa using hk,rfl,⟨ak,hq,trivial⟩,h,hp⟩
def Fz{own:ac bd}{n k m:Nat}(h:mH [k,m,j] cK e:=by repeat first|exact trivial|refine⟨rfl,?_⟩)(ak:∃bD,own[k]? =some bD∧jT [k,m,j] o bD:=by first|exact⟨_,rfl,rfl,fun _=>rfl⟩|exact⟨_,rfl,rfl⟩)(hq:∃bD,own[m]? =some bD∧jT [k,m,j] q bD:=by first|exact⟨_,rfl,rfl,fun _=>rfl⟩|exact⟨_,rfl,rfl⟩)(aL:∃bD,own[j]? =some bD∧jT [k,m,j] r bD:=by first|exact⟨_,rfl,rfl,fun _=>rfl⟩|exact⟨_,rfl,rfl⟩)(hk:[k,m,j].Nodup:=by decide)(hp:pinned p [k,m,j] 0=true:=by rfl):Sub p [k,m,j] ⟨own,n,e⟩ ⟨[o,q,r],3,cK⟩:=⟨hk,rfl,⟨ak,hq,aL,trivial⟩,h,hp⟩
def av5{own:ac bd}{n k m i:Nat}{t:bd}(h:mH [k,m,j,i] cK e:=by repeat first|exact trivial|refine⟨rfl,?_⟩)(ak:∃bD,own[k]? =some bD∧jT [k,m,j,i] o bD:=by first|exact⟨_,rfl,rfl,fun _=>rfl⟩|exact⟨_,rfl,rfl⟩)(hq:∃bD,own[m]? =some bD∧jT [k,m,j,i] q bD:=by first|exact⟨_,rfl,rfl,fun _=>rfl⟩|exact⟨_,rfl,rfl⟩)(aL:∃bD,own[j]? =some bD∧jT [k,m,j,i] r bD:=by first|exact⟨_,rfl,rfl,fun _=>rfl⟩|exact⟨_,rfl,rfl⟩)(aF:∃bD,own[i]? =some bD∧jT [k,m,j,i] t bD:=by first|exact⟨_,rfl,rfl,fun _=>rfl⟩|exact⟨_,rfl,rfl⟩)(hk:[k,m,j,i].Nodup:=by decide)(hp:pinned p [k,m,j,i] 0=true:=by rfl):Sub p [k,m,j,i] ⟨own,n,e⟩ ⟨[o,q,r,t],4,cK⟩:=⟨hk,rfl,⟨ak,hq,aL,aF,trivial⟩,h,hp⟩
section
variable{call:bG}{fr:aJ}{H:bu}{ids:ac Nat}{e:bJ}{x y i:bi}
variable{z:Nat}
def anh{α:Type}{R:α->ac ae}{l:ac α}{q:α}{b8:d8}(U:c1 fr H ids e)(J:br e x=some (.aZ z α R l))(aa:br e i=some (.i b8 (j:Int)))(hj:l[j]? =some q):∃v,den H (.ip (R q)) ids v∧∀st,bK call (.mZ z x i) fr st= .ok v fr st:=by
 have ab:fr.ai i= .int b8 (j:Int):=U.ai aa;have aE:=(zaf.1 hj).1;rcases U.ai J with⟨hl,_⟩|⟨b,o,c,vs,el,bk,a3,h1,h2,aD,bg⟩
 ·subst hl;simp at aE
 ·refine⟨_,⟨b,o+j*z,vs,el,bk,a3,rfl,aD,?_⟩,fun st=>I9 h1 ab aE⟩;have ao:=bg j q hj;have hl:=iF ao;rw[<-hl];rw[show(vs.drop (o+j*z)).take ((vs.drop (o+j*z)).take z).length=(vs.drop (o+j*z)).take z by rw[zay,<-List.take_eq_take_min]];exact ao
def ani{k o n c:Nat}{b8:d8}(U:c1 fr H ids e)(J:br e x=some (.aN k z o n c))(aa:br e i=some (.i b8 (j:Int)))(hj:j<n):∃v,den H (.gp k z (o+j) 0) ids v∧∀st,bK call (.mZ z x i) fr st= .ok v fr st:=by
 obtain⟨b,h1,h2⟩:=U.ai J;have ab:fr.ai i= .int b8 (j:Int):=U.ai aa;exact⟨_,⟨b,h1,by rw[zah,zbh]⟩,fun st=>I9 h2 ab hj⟩
end
section
variable{aw:fI}{K:ac eS}{own bp:ac bd}{aG a6 bU back:Nat}{e a7:bJ}{d:Tmp}{ts:ac Tmp}{xs:ac (bA×cx)}{x y i:bi}
variable{z:Nat}{α:Type}{el:ce}{a3:Bool}{R:α->ac ae}{l:ac α}
def dp(q:α){b8:d8}(hj:l[j]? =some q)(k:aS.ok aw ⟨K,.d xs bp ((d,.ip (R q))::a7) a6 bU,⟨own,aG,(d,.ip (R q))::e⟩⟩)(J:br (fh ts a7) x=some (.aZ z α R l):=by rfl)(aa:br (fh ts a7) i=some (.i b8 (j:Int)):=by rfl)(hb:back<a6:=by decide):aS.ok aw ⟨K,.d ((⟨some d,.mZ z x i,none⟩,.read back ts)::xs) bp a7 a6 bU,⟨own,aG,e⟩⟩:=
 qz (d:=some d) hb (fun H ids st fr U _ _=>let⟨v,h1,h2⟩:=anh U J aa hj;⟨v,h1,fun ef _ _=>h2 ef⟩) k
def age{k0 o n c:Nat}{b8:d8}(k:aS.ok aw ⟨K,.d xs bp ((d,.gp k0 z (o+j) 0)::a7) a6 bU,⟨own,aG,(d,.gp k0 z (o+j) 0)::e⟩⟩)(J:br (fh ts a7) x=some (.aN k0 z o n c):=by rfl)(aa:br (fh ts a7) i=some (.i b8 (j:Int)):=by rfl)(hj:j<n:=by omega)(hb:back<a6:=by decide):aS.ok aw ⟨K,.d ((⟨some d,.mZ z x i,none⟩,.read back ts)::xs) bp a7 a6 bU,⟨own,aG,e⟩⟩:=
 qz (d:=some d) hb (fun H ids st fr U _ _=>let⟨v,h1,h2⟩:=ani U J aa hj;⟨v,h1,fun ef _ _=>h2 ef⟩) k
def gl{k0 n c:Nat}{b8:d8}(k:aS.ok aw ⟨K,.d xs bp ((d,.gp k0 z j 0)::a7) a6 bU,⟨own,aG,(d,.gp k0 z j 0)::e⟩⟩)(J:br (fh ts a7) x=some (.aN k0 z 0 n c):=by rfl)(aa:br (fh ts a7) i=some (.i b8 (j:Int)):=by rfl)(hj:j<n:=by omega)(hb:back<a6:=by decide):aS.ok aw ⟨K,.d ((⟨some d,.mZ z x i,none⟩,.read back ts)::xs) bp a7 a6 bU,⟨own,aG,e⟩⟩:=
 age (by rw[zaP];exact k) J aa hj hb
def pM{k0 q:Nat}(w:α){a:ae}(hj:l[j]? =some w)(k:aS.ok aw ⟨K,.d xs bp ((d,a)::a7) a6 bU,⟨own,aG,(d,a)::e⟩⟩)(J:br (fh ts a7) x=some (.gp k0 z j q):=by rfl)(hk:bp[k0]? =some (.a el a3 z α R l):=by rfl)(hq:(R w)[q]? =some a:=by rfl)(hb:back<a6:=by decide):aS.ok aw ⟨K,.d ((⟨some d,.lE x,none⟩,.read back ts)::xs) bp a7 a6 bU,⟨own,aG,e⟩⟩:=
 qz (d:=some d) hb (fun H ids st fr U hl ak=>by
  obtain⟨b,h1,h2⟩:=U.ai J;obtain⟨vs,ab,aD,bg⟩:=ak k0 _ b hk rfl h1;obtain⟨v,aB,ao⟩:=v8 (bg j w hj) hq;refine⟨v,ao,fun ef _ af=>Bt h2 ((af k0 _ b hk rfl h1).trans ab) ?_⟩;rw[zaT]at aB;split at aB
  ·rw[zaR]at aB;exact aB
  ·cases aB) k
def oq{k0:Nat}{a:ae}{bl gY:ac bd}(w':α)(k:aS.ok aw ⟨K,.d xs gY a7 (a6+1) aG,⟨bl,aG,e⟩⟩)(J:br e x=some (.gp k0 1 j 0):=by rfl)(ay:br e y=some a:=by rfl)(hk:own[k0]? =some (.a el a3 1 α R l):=by rfl)(dY:R w'=[a]:=by rfl)(hc:tW a=true:=by rfl)(h1:∀w,(R w).length=1:=by exact fun _=>rfl)
 (ak:jm own k0 (.a el a3 1 α R (l.set j w')) some=some bl:=by rfl) (oB:BU bp (some k0) some=some gY:=by rfl) (hj:j<l.length:=by first|omega|(simp;done)|(simp;omega)):aS.ok aw ⟨K,.d ((⟨none,.store 1 x y,none⟩,.ep)::xs) bp a7 a6 bU,⟨own,aG,e⟩⟩:=by
 have h:=j5 ak;cases h;obtain⟨EZ,aH,aI,bj⟩:=Jr oB;cases aH;exact v3 (d:=none) (s:=⟨own,aG,e⟩) (acI (s:=⟨own,aG,e⟩) w' J ay hk dY hj hc h1) aI (fun k o fs hl=>by
  have:=bj k o fs hl;simp only[iM,J];exact this) k
end
structure ka where
 L:Type
 own:L->ac bd
 args:L->ac ae
 pre:L->Prop
 bl:L->ac bd
 res:L->ae
 hp:bu->Prop:=fun _=>True
 hm:∀{H a5:bu},dj H a5->hp H->hp a5:=by exact fun _ _=>trivial
def ka.spec(S:ka):Spec where
 L:=S.L×bu×ac Nat
 pre:=fun l vs st=>S.pre l.1∧S.hp l.2.1∧Fit l.2.1 l.2.2 st (S.own l.1) (S.own l.1).length∧dH l.2.1 (S.args l.1) l.2.2 vs
 post:=fun l vs st v st'=>∃a5,Fit a5 l.2.2 st' (S.bl l.1) (S.own l.1).length∧dv l.2.1 l.2.2 st a5 l.2.2 st'∧den a5 (S.res l.1) l.2.2 v
def KU(S:ka)(l:S.L)(res:ac jq)(x:dM)(s:cr):Prop:=(x= .norm∨x= .ret)∧(∃r,Fin.xn s res=some r∧q9 r=true∧bV r (S.res l))∧∃f,f.length=(S.own l).length∧Sub (S.own l).length f s ⟨S.bl l,(S.own l).length,[]⟩
def ap0{f ids i0:ac Nat}(U:f.length=i0.length)(hp:pinned i0.length f 0=true)(aa:dk i0 ids):pick f ids=i0:=by
 apply zbA;intro k;by_cases hk:k<i0.length
 ·have h1:=PC hp k hk;rw[zaP]at h1;have h2:=aa k _ (bE hk);rw[w3 h1 h2,bE hk]
 ·rw[zbi (by simp[pick];omega),zbi (by omega)]
variable{X:Ctx}
variable{f:ci}{xf:dy}{S:ka}
def afZ{bn:an dy}(eh:Good X)(kn:pF X bn)(cq:ci->fX)(J:bn.get f=some xf)(hl:∀l,(S.args l).length<=xf.aP)
 (h:∀l,S.pre l->∀H i0 aK,S.hp H->i0.length=(S.own l).length->aS.ok ⟨cG bn (c0 X cq) (bc+1),bc+1,f,H,i0,aK,KU S l xf.res⟩ ⟨[],.c xf.body,⟨S.own l,(S.own l).length,ov 0 (S.args l)⟩⟩):bw X f S.spec:=by
 refine Td eh kn cq J (fun l vs st ⟨_,_,_,d⟩=>by rw[iF d];exact hl l.1) ?_;rintro⟨l,H,i0⟩ vs st ⟨hp,hh,ar,d⟩;simp only at hp hh ar d;refine(h l hp H i0 st hh ar.len H i0 st (fS vs) (dv.refl _ _ _) ar (c1.zero d)).mono ?_;rintro x fr st' ⟨a5,ids,s,a8,dG,U,J,⟨r,h1,h2,hle⟩,g,aO,af⟩;obtain⟨v,ab,aD⟩:=Ft (call:=cG bn (c0 X cq) (bc+1)) dG U h1;have DV:i0.length=(S.own l).length:=ar.len;have ft:Sub i0.length g s ⟨S.bl l,(S.own l).length,[]⟩:=by rw[DV];exact af
 have amq:=ap0 (by omega) ft.aao a8.l2;have yl:=ft.fit dG;have W5:=ft.bs dG a8;rw[amq]at yl W5;exact⟨J,v,aD,a5,yl,W5,hle _ _ _ (GQ _ h2 ab _)⟩
def af0{bn:an dy}(eh:Good X)(kn:pF X bn)(cq:ci->fX)(J:bn.get f=some xf)(hl:∀l,(S.args l).length<=xf.aP)
 (h:∀l,S.pre l->∀H i0 aK,i0.length=(S.own l).length->aS.ok ⟨cG bn (c0 X cq) (bc+1),bc+1,f,H,i0,aK,KU S l xf.res⟩ ⟨[],.c xf.body,⟨S.own l,(S.own l).length,ov 0 (S.args l)⟩⟩):bw X f S.spec:=afZ eh kn cq J hl fun l hp H i0 aK _ hl=>h l hp H i0 aK hl
mutual
theorem Md{H:bu}{f ids:ac Nat}(U:∀k m:Nat,f[k]? =some m->m<ids.length):∀(a:ae) {v:be},den H a (pick f ids) v->den H (m8 f a) ids v
 |.i _ _,_,d=>d
 |.b _,_,d=>d
 |.s _,_,d=>d
 |.nl,_,d=>d
 |.v _,_,d=>d
 |.p k o,v,⟨b,e,d⟩=>by
  obtain⟨m,h1,h2⟩:=w4 U e;unfold m8;rw[h1];exact⟨b,h2,d⟩
 |.gp k z j o,v,⟨b,e,d⟩=>by
  obtain⟨m,h1,h2⟩:=w4 U e;unfold m8;rw[h1];exact⟨b,h2,d⟩
 |.aN k z o n c,v,⟨b,e,d⟩=>by
  obtain⟨m,h1,h2⟩:=w4 U e;unfold m8;rw[h1];exact⟨b,h2,d⟩
 |.aZ _ _ _ _,_,d=>d
 |.ko _ _ _ _,_,d=>d
 |.bb _ _ _ _,_,d=>d
 |.ip _,_,d=>d
 |.fn _ cj cs,_,⟨vs,ws,e,d1,d2⟩=>⟨vs,ws,e,x1 U cj d1,x1 U cs d2⟩
 |.agg cs,_,⟨vs,e,d⟩=>⟨vs,e,x1 U cs d⟩
 |.bM cs,_,⟨vs,e,d⟩=>⟨vs,e,x1 U cs d⟩
 |.bad,_,d=>d.elim
theorem x1{H:bu}{f ids:ac Nat}(U:∀k m:Nat,f[k]? =some m->m<ids.length):∀(a:ac ae) {v:ac be},dH H a (pick f ids) v->dH H (n8 f a) ids v
 |[],_,d=>d
 |a::as,_,⟨v,ws,e,d1,d2⟩=>⟨v,ws,e,Md U a d1,x1 U as d2⟩
theorem w4{f ids:ac Nat}(U:∀k m:Nat,f[k]? =some m->m<ids.length){k b:Nat}(h:(pick f ids)[k]? =some b):∃m,f[k]? =some m∧ids[m]? =some b:=by
 unfold pick at h;rw[zdf]at h;cases hk:f[k]? with
 |none=>rw[hk]at h;cases h
 |some m=>
  rw[hk]at h;have hm:=U k m hk;have h:some ((ids[m]?).getD 0)=some b:=h;rw[bE hm]at h;exact⟨m,rfl,by rw[bE hm];exact h⟩
end
def xG(f:ac Nat):bd->bd->Prop
 |.c el cs,o=>o= .c el (n8 f cs)
 |.a el a3 z α R l,o=>o= .a el a3 z α R l∧∀x,n8 f (R x)=R x
 |.x,o=>o= .x
def xG.den{H:bu}{f ids:ac Nat}(U:∀k m:Nat,f[k]? =some m->m<ids.length){bD:bd}{eK:am bt}(h:xG f o bD)(d:nS H (pick f ids) o eK):nS H ids bD eK∧bD.live=o.live:=by
 cases o with
 |c el cs=>cases h;obtain⟨vs,e,d⟩:=d;exact⟨⟨vs,e,x1 U cs d⟩,rfl⟩
 |a el a3 z α R l=>
  obtain⟨h,hp⟩:=h;cases h;obtain⟨vs,aq,e2,d⟩:=d;exact⟨⟨vs,aq,e2,fun i x J=>by have:=x1 U _ (d i x J);rw[hp x]at this;exact this⟩,rfl⟩
 |x=>cases h;exact⟨trivial,rfl⟩
def z8(f:ac Nat)(own bl:ac bd)(os:ac bd):Prop:=bl.length=own.length∧(∀j:Nat,j∉f->bl[j]? =own[j]?)∧∀(i k:Nat) (bD:bd),f[i]? =some k->bl[k]? =some bD->∃o,os[i]? =some o∧xG f o bD
variable{bl:ac bd}{cq:ci->fX}{bY:bu}{i0:ac Nat}{aK:au}{cz:ac bi}{as:ac ae}{bD:bd}{cc:Nat}{Q:dM->cr->Prop}{d:am Tmp}{xs:ac bA}
def aeE{k:Nat}{own:ac bd}(h:jm own k bD some=some bl)(hb:xG [k] o bD):z8 [k] own bl [o]:=by
 have:=j5 h;cases this;refine⟨by simp,fun j hj=>zbq (by simpa using fun e=>hj (by simp[e])),fun i k' q hk hq=> ?_⟩;cases i with
 |zero=>
  simp at hk;subst hk;rw[zbb]at hq;rw[zab rfl]at hq;split at hq<;>cases hq;exact⟨o,rfl,hb⟩
 |succ i=>simp at hk
def ae1{bn:an dy}{n:Nat}{own:ac bd}{g:ci}(hc:bw X g S.spec)(f:ac Nat)(l:S.L)(hp:S.pre l)(hh:S.hp bY)
 (af:Sub 0 f ⟨own,aG,e⟩ ⟨S.own l,(S.own l).length,[]⟩) (hb:z8 f own bl (S.bl l))
 (ha:k6 e cz=some as) (he:as=n8 f (S.args l)) (dJ:cq g=S.spec.K) {H:bu} {ids:ac Nat} {st:au} {fr:aJ} (a8:dv bY i0 aK H ids st) (ar:Fit H ids st own aG) (U:c1 fr H ids e):
 ∃v st' bO a5,bK (cG bn (c0 X cq) (n+1)) (.call (.func g) cz) fr st= .ok v fr st'∧Fit a5 bO st' bl aG∧den a5 (m8 f (S.res l)) bO v∧dj H a5∧dk ids bO∧dv bY i0 aK a5 bO st'∧st.aj<=st'.aj:=by
 subst he;have ow:=af.fit ar;have ao:=ui f _ (U.er ha);obtain⟨v,st',h1,h2⟩:=hc _ st ⟨(l,H,pick f ids),hp,S.hm a8.hle hh,ow,ao⟩;obtain⟨v1,cm,aH,aI⟩:=Jq (X:=X) (K:=cq) (f:=g) ⟨v,st',by rw[dJ];exact h1,h2⟩;rw[dJ]at aI;obtain⟨a5,dG,du,g5⟩:=aI (l,H,pick f ids) ⟨hp,S.hm a8.hle hh,ow,ao⟩;simp only at dG du g5;have aE:∀k m:Nat,f[k]? =some m->m<ids.length:=fun k m hk=>by
  have hl:(S.own l).length=f.length:=af.own.len;have h1:=(zaf.1 hk).1;obtain⟨gF,bD,h2,ab,_⟩:=af.own.get (bE (show k<(S.own l).length by omega));rw[hk]at h2;cases h2;rw[ar.len,<-ar.ct];exact(zaf.1 ab).1
 have D4:∀(j b:Nat),j∉f->ids[j]? =some b->b∉pick f ids:=fun j b hj hb hm=>by
  obtain⟨k,hk⟩:=zbP.1 hm;obtain⟨m,ab,aD⟩:=w4 aE hk;have aq:=zaf.1 hb;have e2:=zaf.1 aD;have:=(zcw (h₀:=aq.1) (h₁:=e2.1) ar.dg).1 (aq.2.trans e2.2.symm);exact hj (this▸zau ab)
 have bj:cG bn (c0 X cq) (n+1) (.func (.func g) #[] #[]) (er fr cz) none st= .ret v1 cm false:=by
  rw[vU];have e:gJ (#[]:ap be).toList (gJ (er fr cz) (#[]:ap be).toList)=er fr cz:=by simp
  rw[e,aH];rfl
 have hle:dj H a5:=du.hle;refine⟨v1,cm,ids,a5,?_,?_,Md aE _ g5,hle,dk.refl _,?_,du.aj⟩
 ·rw[vn];show wi (cG bn (c0 X cq) (n+1) (.func (.func g) #[] #[]) (er fr cz) none st) _ _=_;rw[bj];rfl
 ·obtain⟨iU,mm,M4⟩:=hb;refine⟨dG.wf,dG.le,by rw[iU];exact ar.ct,ar.len,ar.dg,fun b hb=>gH (ar.lt b hb) du.aj,fun j o b hj jt=> ?_⟩;by_cases yD:j∈f
  ·obtain⟨i,aa⟩:=zbP.1 yD;obtain⟨q5,Nz,uM⟩:=M4 i j o aa hj;have D8:=w3 aa jt;obtain⟨ab,aD⟩:=dG.own i q5 b Nz D8;obtain⟨bg,cv⟩:=uM.den aE ab;exact⟨bg,fun hl=>aD (by rw[<-cv];exact hl)⟩
  ·have hj:bl[j]? =some o:=hj;rw[mm j yD]at hj;obtain⟨ab,aD⟩:=ar.own j o b hj jt;have DZ:=ar.lt b (zau jt);have yL:=D4 j b yD jt;rw[du.gN b DZ yL];exact⟨ug hle (dk.refl _) ab,fun hl=>by rw[du.hold b DZ yL];exact aD hl⟩
 ·have s0:∀b,b∈pick f ids->b∈ids:=fun b hb=>by
   obtain⟨k,hk⟩:=zbP.1 hb;obtain⟨m,_,aD⟩:=w4 aE hk;exact zau aD
  have pZ:∀b,b<aK.aj->b∉i0->b∉pick f ids:=fun b hb hn hm=>by
   rcases a8.new b (s0 b hm)with h|h
   ·exact hn h
   ·have h:aK.aj<=b:=h;omega
  refine⟨a8.hle.trans hle,fun b hb hn=> ?_,fun b hb hn=> ?_,zag a8.aj du.aj,a8.l2,a8.new⟩
  ·rw[du.hold b (gH hb a8.aj) (pZ b hb hn)];exact a8.hold b hb hn
  ·rw[du.gN b (gH hb a8.aj) (pZ b hb hn)];exact a8.gN b hb hn
def ae0{bn:an dy}{n:Nat}{fn:ci}{own:ac bd}{g:ci}(hc:bw X g S.spec)(f:ac Nat)(l:S.L)(hp:S.pre l)
 (af:Sub 0 f ⟨own,aG,e⟩ ⟨S.own l,(S.own l).length,[]⟩) (hb:z8 f own bl (S.bl l)) (k:aS.ok ⟨cG bn (c0 X cq) (n+1),cc,fn,bY,i0,aK,Q⟩ ⟨K,.o xs,⟨bl,aG,fO d (m8 f (S.res l)) e⟩⟩)
 (ha:k6 e cz=some as) (he:as=n8 f (S.args l)) (dJ:cq g=S.spec.K) (hh:S.hp bY):
 aS.ok ⟨cG bn (c0 X cq) (n+1),cc,fn,bY,i0,aK,Q⟩ ⟨K,.o (⟨d,.call (.func g) cz,none⟩::xs),⟨own,aG,e⟩⟩:=fun H ids st fr a8 ar U=>by
 obtain⟨v,st',bO,a5,eD,eU,fT,j2,vv,zA,_⟩:=ae1 (n:=n) hc f l hp hh af hb ha he dJ a8 ar U;exact Cw eD (k a5 bO st' _ zA eU ((U.mono j2 vv).fO d fT))
def aby{bn:an dy}{n:Nat}{fn:ci}{own:ac bd}{g:ci}(hc:bw X g S.spec)(k0:Nat)(l:S.L)(hp:S.pre l)
 (k:aS.ok ⟨cG bn (c0 X cq) (n+1),cc,fn,bY,i0,aK,Q⟩ ⟨K,.o xs,⟨bl,aG,fO d (m8 [k0] (S.res l)) e⟩⟩) (ak:S.own l=[o]:=by rfl) (lC:S.bl l=[bD]:=by rfl)
 (hk:∃sf,own[k0]? =some sf∧jT [k0] o sf:=by exact⟨_,rfl,rfl,fun _=>rfl⟩) (af:jm own k0 bD some=some bl:=by rfl) (hb:xG [k0] bD bD:=by exact⟨rfl,fun _=>rfl⟩)
 (ha:k6 e cz=some as:=by rfl) (he:as=n8 [k0] (S.args l):=by rfl) (dJ:cq g=S.spec.K:=by rfl) (hh:S.hp bY:=by first|exact trivial|assumption):
 aS.ok ⟨cG bn (c0 X cq) (n+1),cc,fn,bY,i0,aK,Q⟩ ⟨K,.o (⟨d,.call (.func g) cz,none⟩::xs),⟨own,aG,e⟩⟩:=
 ae0 hc [k0] l hp ⟨by simp,by rw[ak];rfl,by rw[ak];exact⟨hk,trivial⟩,trivial,rfl⟩ (by rw[lC];exact aeE af hb) k ha he dJ hh
end Go.ah
namespace Go.ah
open Sym
set_option maxRecDepth 10000
section
variable{aw:fI}{K:ac eS}{own bl:ac bd}{aG:Nat}{e:bJ}
def J9{k0 z n c:Nat}(t:Nat){el:ce}{a3:Bool}{α:Type}{R:α->ac ae}{l:ac α}{p:dw}(k:aS.ok aw ⟨K,.c p,⟨bl,aG,(t,.aZ z α R l)::e⟩⟩)(aF:dR e t=some (.aN k0 z 0 n c):=by rfl)(hk:own[k0]? =some (.a el a3 z α R l):=by rfl)(hp:∀x,jk (R x)=true:=by exact fun _=>rfl)
 (ak:jm own k0 .x some=some bl:=by rfl) (hn:l.length=n:=by first|omega|(simp;done)|(simp;omega)) (hc:n<=c:=by omega):aS.ok aw ⟨K,.c p,⟨own,aG,e⟩⟩:=by
 have h1:=j5 ak;cases h1;exact aqX t l aF hk (by rw[zar,zaV (by omega)]) hn hc hp k
end
section
variable{call:bG}{s:cr}{x y:bi}
def afr{k z n c:Nat}{el:ce}{a3:Bool}{α:Type}{R:α->ac ae}{l m:ac α}(J:br s.env x=some (.aN k z 0 n c))(hk:s.own[k]? =some (.a el a3 z α R l))(af:oh s y R z m)(h1:m.length<=n)(h2:n<=l.length)(av:0<z):
 gI call (.rI z x y) s (.i .i64 (m.length:Nat)) (s.own.set k (.a el a3 z α R (m++l.drop m.length))) s.n:=fun H ids st fr ar U=>by
 obtain⟨b,aH,aI⟩:=U.ai J;obtain⟨vs,bj,cn,cT⟩:=rG ar hk aH;have e:bK call (.rI z x y) fr st=j8 (fr.ai x) (fun a dl _=>j8 (fr.ai y) (fun b aN _=>bm a (fun a=>bm b (fun b=>st.load b (Nat.mul (ey aN dl aN dl) z) (fun vs=>cond (h8 vs) (st.store a vs (fun st=>.ok (.int .i64 (.ofNat (ey aN dl aN dl))) fr st) .no) .no) .no) (eQ aN 0 (.ok (.int .i64 0) fr st) .no)) (eQ dl 0 (.ok (.int .i64 0) fr st) .no)) .no) .no:=rfl;rw[e,aI,rq,zaA];rcases af H ids st fr ar U with⟨rfl,bW,eD⟩|⟨gw,o,bW,ws,Dj,bk,DC,eD,eU,fT,j2,vv⟩
 ·refine⟨.int .i64 0,st,ids,H,by rw[eD,rq,Sym.e6,Sym.jc,lv rfl],?_,rfl,dj.refl _,dk.refl _,fun _ _ _ B=>B,b6 _,fun _ _ _=>rfl⟩;rw[show([]++l.drop ([]:ac α).length)=l by simp,show s.own.set k (.a el a3 z α R l)=s.own from ?_]
  ·exact ar
  ·apply zbA;intro i;rw[zbb];split
   ·rename_i h;subst h;rw[hk];simp[(zaf.1 hk).1]
   ·rfl
 ·have HO:((ws.drop o).take (m.length*z)).length=m.length*z:=by simp at fT ⊢;omega
  have avx:m.length*z<=l.length*z:=jo z (by omega);have jK:=tY j2 (Ax (n:=m.length) ⟨cn,cT⟩);have ao:vs.take 0++((ws.drop o).take (m.length*z)++vs.drop (0+((ws.drop o).take (m.length*z)).length))=(ws.drop o).take (m.length*z)++vs.drop (m.length*z):=by rw[HO];simp
  refine⟨_,_,ids,H,?_,ar.hI hk rfl aH (eK:=.cells ((ws.drop o).take (m.length*z)++vs.drop (m.length*z)) el (0,0) a3) ⟨_,rfl,jK.1,jK.2⟩,rfl,dj.refl _,dk.refl _,fun _ _ _ B=>B.hI (zau aH) _,b6 _,fun au3 _ cb=>an.ji _ _ (fun e=>cb k (by simp[iM,J]) (e▸aH))⟩;rw[eD,rq,Sym.e6,Sym.e6,gn h1];show au.load st ⟨gw,o,none⟩ (m.length*z) _ _=_;unfold au.load au.hz;rw[Sym.jc,eU,mK,uc fT,vv,cond_true];unfold au.store au.hz;rw[Sym.jc,bj,mK,gn (b6 _),sl,zab (by show 0+_<=_;rw[HO,cn];omega),lk,ao];rfl
end
section
variable{aw:fI}{K:ac eS}{own bl:ac bd}{aG:Nat}{e:bJ}{d:Tmp}{xs:ac bA}{x y:bi}
def aqU{k0 z n c:Nat}{el:ce}{a3:Bool}{α:Type}{R:α->ac ae}{l:ac α}(m:ac α)(af:oh ⟨own,aG,e⟩ y R z m)(k:aS.ok aw ⟨K,.o xs,⟨bl,aG,(d,.i .i64 (m.length:Nat))::e⟩⟩)(J:br e x=some (.aN k0 z 0 n c):=by rfl)(hk:own[k0]? =some (.a el a3 z α R l):=by rfl)
 (ak:jm own k0 (.a el a3 z α R (m++l.drop m.length)) some=some bl:=by rfl) (h1:m.length<=n:=by omega) (h2:n<=l.length:=by first|omega|(simp;done)|(simp;omega)) (av:0<z:=by decide):aS.ok aw ⟨K,.o (⟨some d,.rI z x y,none⟩::xs),⟨own,aG,e⟩⟩:=by
 have h:=j5 ak;cases h;exact g9 (afr (s:=⟨own,aG,e⟩) J hk af h1 h2 av) k
end
section
variable{aw:fI}{K:ac eS}{own bp:ac bd}{aG a6 bU back:Nat}{e a7:bJ}{d:Tmp}{ts:ac Tmp}{xs:ac (bA×cx)}{x y i:bi}
variable{m n:Nat}
def agf(k:aS.ok aw ⟨K,.d xs bp ((d,.i .u64 ((m/n:Nat):Int))::a7) a6 bU,⟨own,aG,(d,.i .u64 ((m/n:Nat):Int))::e⟩⟩)(J:br (fh ts a7) x=some (.i .u64 (m:Int)):=by rfl)(ay:br (fh ts a7) y=some (.i .u64 (n:Int)):=by rfl)(hb:back<a6:=by decide)(hn:n≠0:=by omega)(hm:m<18446744073709551616:=by omega):aS.ok aw ⟨K,.d ((⟨some d,.bin .quo x y,none⟩,.read back ts)::xs) bp a7 a6 bU,⟨own,aG,e⟩⟩:=
 qz (d:=some d) (a:=.i .u64 ((m/n:Nat):Int)) hb (fun H ids st fr U _ _=>⟨.int .u64 ((m/n:Nat):Int),rfl,fun ef _ _=>by
  rw[ZH (U.ai J) (U.ai ay) hn];have:=zaH m n;generalize m/n=q at *;rw[adt (by omega) (by omega)]⟩) k
def agj{k0:d8}(k:aS.ok aw ⟨K,.d xs bp ((d,.i k0 ((m%n:Nat):Int))::a7) a6 bU,⟨own,aG,(d,.i k0 ((m%n:Nat):Int))::e⟩⟩)(J:br (fh ts a7) x=some (.i k0 (m:Int)):=by rfl)(ay:br (fh ts a7) y=some (.i k0 (n:Int)):=by rfl)(hb:back<a6:=by decide)(hn:n≠0:=by omega):aS.ok aw ⟨K,.d ((⟨some d,.bin .rem x y,none⟩,.read back ts)::xs) bp a7 a6 bU,⟨own,aG,e⟩⟩:=
 qz (d:=some d) (a:=.i k0 ((m%n:Nat):Int)) hb (fun H ids st fr U _ _=>⟨.int k0 ((m%n:Nat):Int),rfl,fun ef _ _=>apt (U.ai J) (U.ai ay) hn⟩) k
def agl{z p q:Nat}{α:Type}{R:α->ac ae}{l:ac α}{lo aa:am bi}(l':ac α)(k:aS.ok aw ⟨K,.d xs bp ((d,.aZ z α R l')::a7) a6 bU,⟨own,aG,(d,.aZ z α R l')::e⟩⟩)(J:br (fh ts a7) x=some (.aZ z α R l):=by rfl)(fG:fV ⟨[],0,fh ts a7⟩ lo 0 p:=by first|exact rfl|exact⟨_,rfl⟩)(g6:fV ⟨[],0,fh ts a7⟩ aa l.length q:=by first|exact rfl|exact⟨_,rfl⟩)(hb:back<a6:=by decide)(hl:(l.drop p).take (q-p)=l':=by first|rfl|simp)(hp:p<=q:=by omega)(hq:q<=l.length:=by first|omega|(simp;done)|(simp;omega)):aS.ok aw ⟨K,.d ((⟨some d,.n9 z x lo aa none,none⟩,.read back ts)::xs) bp a7 a6 bU,⟨own,aG,e⟩⟩:=by
 subst hl;refine qz (d:=some d) hb (fun H ids st fr U _ _=> ?_) k;obtain⟨v,h1,h2⟩:=aco (call:=aw.call) (s:=⟨[],0,fh ts a7⟩) J fG g6 hp hq U;exact⟨v,h1,fun ef hle _=>h2 ef hle⟩
end
section
variable{call:bG}{s:cr}{x y:bi}
variable{a2 cu k n c:Nat}{el:ce}{α:Type}{R:α->ac ae}{l:ac α}
def aeo{a3:Bool}(J:br s.env x=some (.aN k a2 0 n c))(hk:s.own[k]? =some (.a el a3 a2 α R l))(af:xK call el cu s y R a2 [])(k3:n<=c)(hc:c<=l.length)(hb:(5*n+1792)*(cu+1)<=1125899906842624):
 gI call (.app el a2 cu x y) s (.aN k a2 0 n c) s.own s.n:=fun H ids st fr ar U=>by
 obtain⟨b,aH,aI⟩:=U.ai J;obtain⟨vs,bj,cn,cT⟩:=rG ar hk aH;obtain⟨new,h1,h2,ab⟩:=af H ids st fr ar U x _ _ _ aI;have Hz:c*a2<=l.length*a2:=jo a2 hc;refine⟨_,st,ids,H,?_,ar,⟨b,aH,rfl⟩,dj.refl _,dk.refl _,fun _ _ _ B=>B,b6 _,fun _ _ _=>rfl⟩;rw[ab];unfold kV au.hz;simp only[zdl,zdm,Sym.e6,Sym.jc,bj,mK,zaA,List.length_nil,zbh];rw[gn (show(5*n+1792)*Nat.succ cu<=2^50 from hb),gn (b6 _),gn k3,gn (by rw[fC,cn];show 0+c*a2<=_;omega),lv rfl,lv rfl]
def RS{m:ac α}(J:br s.env x=some (.aN k a2 0 n c))(hk:s.own[k]? =some (.a el false a2 α R l))(af:xK call el cu s y R a2 m)(h0:m≠[])(k3:n<=c)(HU:c<n+m.length)(hc:c<=l.length)(hb:(5*(n+m.length)+1792)*(cu+1)<=1125899906842624):
 gI call (.app el a2 cu x y) s (.aN s.n a2 0 (n+m.length) (n+m.length)) (s.own++[.a el true a2 α R (l.take n++m)]) (s.n+1):=fun H ids st fr ar U=>by
 obtain⟨b,aH,aI⟩:=U.ai J;obtain⟨vs,bj,cn,cT⟩:=rG ar hk aH;obtain⟨new,h1,h2,ab⟩:=af H ids st fr ar U x _ _ _ aI;have hl:0<m.length:=zbn.2 h0;have jK:=tY (Gw ⟨cn,cT⟩ n (by omega)) h1;have lZ:=Gu (dj.refl H) (dk.app ids [st.aj]) jK;have Hz:c*a2<=l.length*a2:=jo a2 hc;have D5:n*a2<=l.length*a2:=jo a2 (by omega);refine⟨.slice (some ⟨st.aj,0,none⟩) (n+m.length) (n+m.length),_,_,H,?_,ar.add (eK:=.cells (vs.take (n*a2)++new) el (0,0) true) ⟨_,rfl,lZ.1,lZ.2⟩,⟨st.aj,by rw[<-ar.len,zaW (b6 _)];simp,by rw[zaA]⟩,dj.refl _,dk.app _ _,fun _ _ _ B=>B.add _,zba _,fun b hb _=>zq hb⟩;rw[ab];unfold kV au.hz;simp only[zdl,zdm,Sym.e6,Sym.jc,bj,mK,zaA];rw[gn (show(5*(n+m.length)+1792)*Nat.succ cu<=2^50 from hb),gn (b6 _),gn k3,gn (by rw[fC,cn];show 0+c*a2<=_;omega),lv rfl,ur (by omega),cond_false,aod (by omega),uc (by simp;omega),g8,rF,zar]
end
section
variable{aw:fI}{K:ac eS}{own bl:ac bd}{aG b1:Nat}{e:bJ}{d:Tmp}{xs:ac bA}{x y:bi}
variable{a2 cu n c:Nat}{el:ce}{α:Type}{R:α->ac ae}{l:ac α}
def aqO{k0:Nat}{a3:Bool}(af:oh ⟨own,aG,e⟩ y R a2 ([]:ac α))(k:aS.ok aw ⟨K,.o xs,⟨own,aG,(d,.aN k0 a2 0 n c)::e⟩⟩)(J:br e x=some (.aN k0 a2 0 n c):=by rfl)(hk:own[k0]? =some (.a el a3 a2 α R l):=by rfl)
 (k3:n<=c:=by omega) (hc:c<=l.length:=by first|omega|(simp;done)|(simp;omega)) (hb:(5*n+1792)*(cu+1)<=1125899906842624:=by omega):aS.ok aw ⟨K,.o (⟨some d,.app el a2 cu x y,none⟩::xs),⟨own,aG,e⟩⟩:=g9 (aeo (s:=⟨own,aG,e⟩) J hk (tS af) k3 hc hb) k
def abw{k0:Nat}(m:ac α)(af:oh ⟨own,aG,e⟩ y R a2 m)(l':ac α)(k:aS.ok aw ⟨K,.o xs,⟨bl,b1,(d,.aN aG a2 0 (n+m.length) (n+m.length))::e⟩⟩)(J:br e x=some (.aN k0 a2 0 n c):=by rfl)(hk:own[k0]? =some (.a el false a2 α R l):=by rfl)
 (ak:oa own (.a el true a2 α R l') some=some bl:=by rfl) (jx:mx aG some=some b1:=by rfl) (h0:m≠[]:=by first|rfl|simp) (k3:n<=c:=by omega) (HU:c<n+m.length:=by first|omega|(simp;done)|(simp;omega)) (hc:c<=l.length:=by first|omega|(simp;done)|(simp;omega))
 (hb:(5*(n+m.length)+1792)*(cu+1)<=1125899906842624:=by first|omega|(simp;done)|(simp;omega)) (hl:l.take n++m=l':=by first|rfl|simp):aS.ok aw ⟨K,.o (⟨some d,.app el a2 cu x y,none⟩::xs),⟨own,aG,e⟩⟩:=by
 subst hl;have h1:=oY ak;have h2:=nC jx;cases h1;cases h2;exact g9 (RS (s:=⟨own,aG,e⟩) J hk (tS af) h0 k3 HU hc hb) k
end
section
variable{aw:fI}{K:ac eS}{own bp:ac bd}{aG a6 bU back:Nat}{e a7:bJ}{d:Tmp}{ts:ac Tmp}{xs:ac (bA×cx)}{x y:bi}
def Mb{m n:Nat}(k:aS.ok aw ⟨K,.d xs bp ((d,.i .i64 ((m/n:Nat):Int))::a7) a6 bU,⟨own,aG,(d,.i .i64 ((m/n:Nat):Int))::e⟩⟩)(J:br (fh ts a7) x=some (.i .i64 (m:Int)):=by rfl)(ay:br (fh ts a7) y=some (.i .i64 (n:Int)):=by rfl)(hb:back<a6:=by decide)(hn:n≠0:=by omega)(hm:m<9223372036854775808:=by omega):aS.ok aw ⟨K,.d ((⟨some d,.bin .quo x y,none⟩,.read back ts)::xs) bp a7 a6 bU,⟨own,aG,e⟩⟩:=
 qz (d:=some d) (a:=.i .i64 ((m/n:Nat):Int)) hb (fun H ids st fr U _ _=>⟨.int .i64 ((m/n:Nat):Int),rfl,fun ef _ _=>by
  rw[ZH (U.ai J) (U.ai ay) hn];have:=zaH m n;generalize m/n=q at *;rw[hG (by omega) (by omega)]⟩) k
end
def rf{aw:fI}{K:ac eS}{i:Nat}{c:bB}{s:cr}{b:dw}{L:Type _}(P:L->Prop)(T:L->cr)(h1:aS.ok aw ⟨.cJ i:: .bR (xC aw.i0.length P T)::K,c,s⟩)(h2:∀l,P l->aS.ok aw ⟨K,.c b,T l⟩):aS.ok aw ⟨.cJ i:: .seq b::K,c,s⟩:=by
 have up:∀s,xC aw.i0.length P T s->Sem aw (.seq b::K) .norm s:=fun s J=>by
  obtain⟨f,l,hp,af⟩:=J;exact Qk f _ af (h2 l hp)
 refine R.mono (fun x s J=> ?_) h1;cases x with
 |norm=>exact up s J
 |exit j=>
  show if j=i then Sem aw (.seq b::K) .norm s else Sem aw (.seq b::K) (.exit j) s;have J:if j=i then Sem aw (.bR (xC aw.i0.length P T)::K) .norm s else Sem aw (.bR (xC aw.i0.length P T)::K) (.exit j) s:=J;split
  ·rename_i h;rw[zab h]at J;exact up s J
  ·rename_i h;rw[zaa h]at J;exact J
 |ret=>exact J
 |a9 v=>exact J
def av8{own:ac bd}{n p:Nat}{e cK:bJ}{o q r:bd}(h:mH [0,1,2] cK e)(ak:∃bD,own[0]? =some bD∧jT [0,1,2] o bD)(hq:∃bD,own[1]? =some bD∧jT [0,1,2] q bD)(aL:∃bD,own[2]? =some bD∧jT [0,1,2] r bD)(hp:pinned p [0,1,2] 0=true:=by rfl):Sub p [0,1,2] ⟨own,n,e⟩ ⟨[o,q,r],3,cK⟩:=⟨by simp,rfl,⟨ak,hq,aL,trivial⟩,h,hp⟩
def lP(c:bv):ac ae:=[.i .u8 (c.toNat:Int)]
theorem LX{H:bu}{ids:ac Nat}:∀{l:ac bv} {vs:ac be},j9 H ids lP 1 l vs->bytesOf vs=some l
 |[],vs,h=>by
  have:vs=[]:=zbz (by rw[h.1];simp);subst this;rfl
 |c::l,vs,h=>by
  have h1:=h.2 0 c (by simp);rw[zaA,zar]at h1;have h2:=Ax h 1;obtain⟨v,ws,aq,e2,bS⟩:=h1;have e2:v= .int .u8 (c.toNat:Int):=e2;have bS:ws=[]:=bS;subst e2 bS;have aB:vs= .int .u8 (c.toNat:Int)::vs.drop 1:=by
   conv=>lhs;rw[<-zbD 1 vs,aq]
   rfl
  have a1:=LX (l:=l) (vs:=vs.drop 1) (by simpa using h2);rw[aB];show bm (bytesOf (vs.drop 1)) (fun bs=>some (UInt8.ofNat ((c.toNat:Int)).toNat::bs)) none=_;rw[a1];show some (UInt8.ofNat ((c.toNat:Int)).toNat::l)=_;rw[zcj,zeF]
theorem SU(H:bu)(ids:ac Nat):∀l:ac bv,j9 H ids lP 1 l (mD l)∧h8 (mD l)=true
 |[]=>⟨C2 _ _ _ _,rfl⟩
 |c::l=>by
  obtain⟨h1,h2⟩:=SU H ids l;exact⟨tY (l:=[c]) (m:=l) (vs:=[.int .u8 (c.toNat:Int)]) (Gv ⟨_,[],rfl,rfl,rfl⟩ rfl) h1,h2⟩
section
variable{call:bG}{s:cr}{x y:bi}
def ae5{k o n c:Nat}{el:ce}{a3:Bool}{l:ac bv}(J:br s.env x=some (.aN k 1 o n c))(hk:s.own[k]? =some (.a el a3 1 bv lP l))(hn:o+n<=l.length):gI call (.Av x) s (.s ((l.drop o).take n)) s.own s.n:=l5 fun H ids st fr ar U=>by
 obtain⟨b,aH,aI⟩:=U.ai J;obtain⟨vs,bj,cn,cT⟩:=rG ar hk aH;have jK:j9 H ids lP 1 ((l.drop o).take n) ((vs.drop o).take n):=by
  have:=Gw (Ax (⟨cn,cT⟩:j9 H ids lP 1 l vs) o) n (by simp;omega)
  rwa [zbc,zbc]at this
 refine⟨_,rfl,?_⟩;show Jf x call fr st=_;unfold Jf;rw[aI,rq,zbc,Sym.e6];unfold au.load au.hz;rw[Sym.jc,bj,mK,uc (by show n<=(vs.drop o).length;rw[zaF,cn];omega)];show bm (bytesOf ((vs.drop o).take n)) _ _=_;rw[LX jK];rfl
end
section
variable{aw:fI}{K:ac eS}{own:ac bd}{aG:Nat}{e:bJ}{d:Tmp}{xs:ac bA}{x y:bi}
def Qi{k0 n c:Nat}{el:ce}{a3:Bool}{l:ac bv}(l':ac bv)(k:aS.ok aw ⟨K,.o xs,⟨own,aG,(d,.s l')::e⟩⟩)(J:br e x=some (.aN k0 1 0 n c):=by rfl)(hk:own[k0]? =some (.a el a3 1 bv lP l):=by rfl)(hn:n<=l.length:=by first|omega|(simp;done)|(simp;omega))(hl:l.take n=l':=by first|rfl|simp):aS.ok aw ⟨K,.o (⟨some d,.Av x,none⟩::xs),⟨own,aG,e⟩⟩:=by
 have:=ae5 (call:=aw.call) (s:=⟨own,aG,e⟩) J hk (by omega);rw[zar,hl]at this;exact g9 this k
end
section
variable{aw:fI}{K:ac eS}{own bp:ac bd}{aG a6 bU back:Nat}{e a7:bJ}{d:Tmp}{ts:ac Tmp}{xs:ac (bA×cx)}{x y:bi}
variable{l:ac bv}{p q:Nat}{lo aa:am bi}
def as3{call:bG}{s:cr}{H:bu}{ids:ac Nat}{fr:aJ}{st:au}(U:c1 fr H ids s.env)(J:br s.env x=some (.s l))(fG:fV s lo 0 p)(g6:fV s aa l.length q)(hp:p<=q)(hq:q<=l.length):bK call (.tA x lo aa) fr st= .ok (.string ⟨⟨(l.drop p).take (q-p)⟩⟩) fr st:=by
 have h1:fr.ai x= .string ⟨⟨l⟩⟩:=U.ai J;have e:bK call (.tA x lo aa) fr st=jE (fr.ai x) (fun s=>fp fr aa (dL s.data.toList) (dL s.data.toList) fun h=>fp fr lo 0 h fun l=>iE s.data.toList l (h-l) (fun bs=>.ok (.string ⟨⟨bs⟩⟩) fr st) .no) .no:=rfl;rw[e,h1,Cs];show fp fr aa (dL l) (dL l) _=_;rw[fC,fV.ai g6 U hq,fV.ai fG U hp,AG (by show p+(q-p)<=l.length;omega)]
def GN(l':ac bv)(k:aS.ok aw ⟨K,.d xs bp ((d,.s l')::a7) a6 bU,⟨own,aG,(d,.s l')::e⟩⟩)(J:br (fh ts a7) x=some (.s l):=by rfl)(fG:fV ⟨[],0,fh ts a7⟩ lo 0 p:=by first|exact rfl|exact⟨_,rfl⟩)(g6:fV ⟨[],0,fh ts a7⟩ aa l.length q:=by first|exact rfl|exact⟨_,rfl⟩)(hb:back<a6:=by decide)(hl:(l.drop p).take (q-p)=l':=by first|rfl|simp)(hp:p<=q:=by omega)(hq:q<=l.length:=by first|omega|(simp;done)|(simp;omega)):aS.ok aw ⟨K,.d ((⟨some d,.tA x lo aa,none⟩,.read back ts)::xs) bp a7 a6 bU,⟨own,aG,e⟩⟩:=by
 subst hl;exact qz (d:=some d) (a:=.s ((l.drop p).take (q-p))) hb (fun H ids st fr U _ _=>⟨_,rfl,fun ef _ _=>as3 (s:=⟨[],0,fh ts a7⟩) U J fG g6 hp hq⟩) k
end
