/- Rules for what a function computes on abstract states (part 1); no condition. -/
import Derived.Test.YtlnaeofgmkmfdaaGreatDoorM1
import Derived.Test.YtlnaeofgmkmfdaaGreatDoorM3
noncomputable section
set_option linter.all false
namespace Go.an
namespace Sym
section
variable{α β:Type}
variable{a b:Nat}
def sk(r:a1)(k:bi->aO->ar->ct)(p:bi->ar->ct):ct:=a1.rec (motive:=fun _=>ct) k p .no r
def sl(v:bi)(fr:aO)(st:ar)(k:bi->aO->ar->ct)(p:bi->ar->ct):sk (.ok v fr st) k p=k v fr st:=rfl
def O3(v:bi)(st:ar)(k:bi->aO->ar->ct)(p:bi->ar->ct):sk (.aQ v st) k p=p v st:=rfl
def ZQ(k:bi->aO->ar->ct)(p:bi->ar->ct):sk .no k p= .no:=rfl
def ma(r:dk)(k:bi->ar->a1)(p:bi->ar->a1):a1:=dk.rec (motive:=fun _=>a1) (fun v st _=>k v st) (fun v st _=>p v st) .no r
def My(v:bi)(st:ar)(t:Bool)(k p:bi->ar->a1):ma (.ret v st t) k p=k v st:=rfl
def Mx(v:bi)(st:ar)(t:Bool)(k p:bi->ar->a1):ma (.aQ v st t) k p=p v st:=rfl
def xO(fr:aO)(st:ar)(k:aO->ar->ct):l0 (.out .norm fr st) k=k fr st:=rfl
def avd(v:bi)(fr:aO)(st:ar)(k:aO->ar->ct):l0 (.out (.aQ v) fr st) k= .out (.aQ v) fr st:=rfl
def afb(id:Nat)(fr:aO)(st:ar):qG id (.out .norm fr st)= .out .norm fr st:=rfl
def afa(id i:Nat)(fr:aO)(st:ar):qG id (.out (.exit i) fr st)=if i=id then .out .norm fr st else .out (.exit i) fr st:=by
 show dQ i id _ _=_;rw[pZ]
@[congr] theorem axG {v v':bi} (h:v=v') (k:f6->β) (z:β):jv v k z=jv v' k z:=by rw[h]
@[congr] theorem axF {v v':bi} (h:v=v') (k:am Addr->Nat->Nat->β) (z:β):ju v k z=ju v' k z:=by rw[h]
def pI(a:d8)(n:Int)(k:d8->Int->β)(z:β):g6 (.int a n) k z=k a n:=rfl
def Gh(s:f6)(k:f6->β)(z:β):jv (.string s) k z=k s:=rfl
def rC(a:am Addr)(k:am Addr->β)(z:β):iM (.pointer a) k z=k a:=rfl
def qt(a:am Addr)(n c:Nat)(k:am Addr->Nat->Nat->β)(z:β):ju (.slice a n c) k z=k a n c:=rfl
def avE(x:be bi)(k:be bi->β)(z:β):sH (.agg x) k z=k x:=rfl
def avF(x:be bi)(k:be bi->β)(z:β):rD (.tuple x) k z=k x:=rfl
@[congr] theorem axp {o a8:am α} (h:o=a8) (k:α->β) (z:β):bp o k z=bp a8 k z:=by rw[h]
def eB(a:α)(k:α->β)(z:β):bp (some a) k z=k a:=rfl
def gI(k:α->β)(z:β):bp (none:am α) k z=z:=rfl
@[congr] theorem axm {a a' b eR:Nat} (h:a=a') (aG:b=eR) (x y:β):eh a b x y=eh a' eR x y:=by rw[h,aG]
def gi(h:a<=b)(x y:β):eh a b x y=x:=by rw[od,zab h]
def YL(h:¬a<=b)(x y:β):eh a b x y=y:=by rw[od,zaa h]
def kC(h:a=b)(x y:β):dQ a b x y=x:=by rw[pZ,zab h]
def uy(h:¬a=b)(x y:β):dQ a b x y=y:=by rw[pZ,zaa h]
def sj(n:Nat)(k:Nat->β)(z:β):iv (n:Int) k z=k n:=rfl
def aqd{n:Int}(h:0<=n)(k:Nat->β)(z:β):iv n k z=k n.toNat:=by
 obtain⟨m,rfl⟩:=Int.eq_ofNat_of_zero_le h;rfl
@[congr] theorem awv {l l':ac α} {o a8 n ch:Nat} (h:l=l') (aG:o=a8) (rW:n=ch) (k:ac α->β) (z:β):iB l o n k z=iB l' a8 ch k z:=by rw[h,aG,rW]
def DC{l:ac α}{o n:Nat}(h:o+n<=l.length)(k:ac α->β)(z:β):iB l o n k z=k ((l.drop o).take n):=by
 unfold iB;rw[DJ,Ga,zab (by simp;omega)];rfl
end
def DR(fr:aO)(t:Tmp):fr.ak (.tmp t)=fr.tmp t:=rfl
def ars(fr:aO)(v:bi):fr.put none v=fr:=rfl
def xR(fr:aO)(d:Tmp)(v:bi)(j:Nat):(fr.put (some d) v).tmp j=if j=d then v else fr.tmp j:=by
 rw[sG];by_cases h:j=d
 ·subst h;simp
 ·rw[zaa h,zaa (by simpa using fun e=>h e.symm)]
def ahq(fr:aO)(d:am Tmp)(v:bi):(fr.put d v).cL=fr.cL:=(sq fr d v).1
def avg(fr:aO)(d:am Tmp)(v:bi):(fr.put d v).cx=fr.cx:=(sq fr d v).2.2.1
def air(fr:aO):dG fr []=[]:=rfl
def aiq(fr:aO)(x:bv)(xs:ac bv):dG fr (x::xs)=fr.ak x::dG fr xs:=rfl
section
variable(call:bF)(bE:Nat)(fn:co)(fr:aO)(st:ar)
variable{β:Type}
def TE:fT call [] fr st= .out .norm fr st:=rfl
def rS(d:am Tmp)(o:da)(xs:ac bA):fT call (⟨d,o,none⟩::xs) fr st=
 sk (bG call o fr st) (fun v fr st=>fT call xs (fr.put d v) st) (fun v st=>cond o.jh (.out (.aQ v) fr st) .no):=rfl
def wO(v:bi)(b:Bool)(yes h7 z:β):β:=mu v (fun c=>cond c (cond b yes h7) (cond b h7 yes)) (rD v (fun _=>h7) z)
def ama(x y z:β):wO (.bool true) true x y z=x:=rfl
def al9(x y z:β):wO (.bool true) false x y z=y:=rfl
def al8(x y z:β):wO (.bool false) true x y z=y:=rfl
def al7(x y z:β):wO (.bool false) false x y z=x:=rfl
def amb(b:Bool)(x y z:β)(a:be bi):wO (.tuple a) b x y z=y:=rfl
def Mk(d:am Tmp)(o:da)(t:Tmp)(b:Bool)(xs:ac bA):fT call (⟨d,o,some (t,b)⟩::xs) fr st=
 wO (fr.tmp t) b (sk (bG call o fr st) (fun v fr st=>fT call xs (fr.put d v) st) (fun v st=>cond o.jh (.out (.aQ v) fr st) .no)) (fT call xs (fr.put d undef) st) .no:=rfl
def TC(ops:ac bA):cR call bE fn (.g3 ops) fr st=fT call ops fr st:=rfl
def yx(a b:du):cR call bE fn (.seq a b) fr st=l0 (cR call bE fn a fr st) (cR call bE fn b):=rfl
def Mi(c:bv)(a b:du):cR call bE fn (.cond c a b) fr st=G6 (fr.ak c) (cR call bE fn a fr st) (cR call bE fn b fr st):=rfl
def Mh(i:Nat)(a:du):cR call bE fn (.block i a) fr st=qG i (cR call bE fn a fr st):=rfl
def aij:cR call bE fn .ret fr st= .out .ret fr st:=rfl
def Mj(b:du)(n:Nat)(fr:aO)(st:ar):ct:=
 Nat.rec (motive:=fun _=>aO->ar->ct) (fun _ _=>.no) (fun _ ba fr st=>l0 (cR call bE fn b fr st) ba) n fr st
def ain(b:du)(n:Nat):Mj call bE fn b (n+1) fr st=l0 (cR call bE fn b fr st) (Mj call bE fn b n):=rfl
end
section
variable(call:bF)(fr:aO)(st:ar)
def aad(c a b:bv):bG call (.pick c a b) fr st=mu (fr.ak c) (fun t=>.ok (cond t (fr.ak a) (fr.ak b)) fr st) .no:=rfl
def Z4(x:bv):bG call (.pw x) fr st=ju (fr.ak x) (fun _ n _=>.ok (.int .i64 (n:Int)) fr st) (vI (fr.ak x) (.ok (.int .i64 (.ofNat 0)) fr st) .no):=rfl
def aq0(x:bv):bG call (.vd x) fr st=jv (fr.ak x) (fun s=>.ok (.int .i64 (s.data.toList.length:Int)) fr st) .no:=by
 show jv (fr.ak x) (fun s=>gb (dd s.data.toList) fun n=>a1.ok (.int .i64 (.ofNat n)) fr st) a1.no=_;simp only[A2,fe];rfl
def rk(f:bv)(args:ac bv):bG call (.call f args) fr st=ma (call (fr.ak f) (dG fr args) none st) (fun v st=>.ok v fr st) (fun v st=>.aQ v st):=rfl
def aqX(a4:Nat)(x i:bv):bG call (.mY a4 x i) fr st=
 ju (fr.ak x) (fun b len _=>bp b (fun a=>g6 (fr.ak i) (fun _ j=>iv j (fun j=>eh (j+1) len (.ok (.pointer (some (a.add (j*a4)))) fr st) .no) .no) .no) .no) .no:=rfl
def O8(x:bv):bG call (.jr x) fr st=iM (fr.ak x) (fun p=>bp p (fun a=>st.load a 1 (fun vs=>one vs (fun v=>.ok v fr st) .no) .no) .no) .no:=rfl
def aq1(n:Nat)(x:bv):bG call (.rf n x) fr st=iM (fr.ak x) (fun p=>bp p (fun a=>st.load a n (fun vs=>.ok (.agg ⟨vs⟩) fr st) .no) .no) .no:=rfl
def aqS(k:d8)(x:bv):bG call (.uk k x) fr st=g6 (fr.ak x) (fun _ n=>.ok (.int k (k.wrap n)) fr st) .no:=by
 show g6 (fr.ak x) (fun _ n=>iI k (o9 k n) fun v=>a1.ok v fr st) a1.no=_;simp only[iZ,l3]
def Ft(op:BinOp)(x y:bv):bG call (.bin op x y) fr st=DP op (fr.ak x) (fr.ak y) (fun v=>.ok v fr st):=rfl
def Mg(op:BinOp)(k x0:d8)(a b:Int)(c:bi->a1):DP op (.int k a) (.int x0 b) c=AW op k a x0 b c:=rfl
def TB(op:BinOp)(a b:f6)(c:bi->a1):DP op (.string a) (.string b) c=Dk op a b c:=rfl
def apk(k:d8):kK k k=true:=by cases k<;>rfl
end
end Sym
end Go.an
namespace Go.an
open Sym
def W(r:ct)(Q:dq->aO->ar->Prop):Prop:=∃e fr st,r= .out e fr st∧Q e fr st
variable{Q:dq->aO->ar->Prop}{r:ct}
def W.mk{e:dq}{fr:aO}{st:ar}(h:Q e fr st):W (.out e fr st) Q:=⟨e,fr,st,rfl,h⟩
def W.of_eq{dV:ct}(e:r=dV)(h:W dV Q):W r Q:=by rw[e];exact h
def W.mono{C3:dq->aO->ar->Prop}(h:W r Q)(hq:∀e fr st,Q e fr st->C3 e fr st):W r C3:=
 let⟨e,fr,st,I,U⟩:=h;⟨e,fr,st,I,hq _ _ _ U⟩
def aee(call:bF)(bE:Nat)(fn:co)(b:du)(Q:dq->aO->ar->Prop):dq->aO->ar->Prop
 |.norm,fr,st=>W (cR call bE fn b fr st) Q
 |e,fr,st=>Q e fr st
def ad2(id:Nat)(Q:dq->aO->ar->Prop):dq->aO->ar->Prop
 |.exit i,fr,st=>if i=id then Q .norm fr st else Q (.exit i) fr st
 |e,fr,st=>Q e fr st
def Round(jy:Nat->aO->ar->Prop)(m:Nat)(Q:dq->aO->ar->Prop):dq->aO->ar->Prop
 |.norm,fr,st=>∃eG,eG<m∧jy eG fr st
 |e,fr,st=>Q e fr st
section
variable{call:bF}{bE:Nat}{fn:co}{fr:aO}{st:ar}{Q:dq->aO->ar->Prop}
variable{a b:du}{c:bv}{t:Bool}{v:bi}{i:Nat}{d:Tmp}
def avZ(h:W (cR call bE fn a fr st) (aee call bE fn b Q)):W (cR call bE fn (.seq a b) fr st) Q:=by
 obtain⟨e,aF,st',I,U⟩:=h;rw[yx,I];cases e with
 |norm=>exact U
 |exit i=>exact .mk U
 |ret=>exact .mk U
 |aQ v=>exact .mk U
def av0(h:Q .norm fr st):W (cR call bE fn .skip fr st) Q:=.mk h
def avO(h:Q (.exit i) fr st):W (cR call bE fn (.exit i) fr st) Q:=.mk h
def avX(h:Q .ret fr st):W (cR call bE fn .ret fr st) Q:=.mk h
def avY(h:W (cR call bE fn a fr st) Q):W (cR call bE fn (.scope a) fr st) Q:=h
def avK(h:W (cR call bE fn a fr st) (ad2 i Q)):W (cR call bE fn (.block i a) fr st) Q:=by
 obtain⟨e,aF,st',I,U⟩:=h;rw[Mh,I];cases e with
 |norm=>exact .mk U
 |exit j=>
  rw[afa];have ag:(if j=i then Q .norm aF st' else Q (.exit j) aF st'):=U;split at ag
  ·rw[zab (by assumption)];exact .mk ag
  ·rw[zaa (by assumption)];exact .mk ag
 |ret=>exact .mk U
 |aQ v=>exact .mk U
def avW{ops:ac bA}(h:W (fT call ops fr st) Q):W (cR call bE fn (.g3 ops) fr st) Q:=h
def avR(h:Q .norm fr st):W (fT call [] fr st) Q:=.mk h
def avP(hc:fr.ak c= .bool t)(ha:t=true->W (cR call bE fn a fr st) Q)(hb:t=false->W (cR call bE fn b fr st) Q):W (cR call bE fn (.cond c a b) fr st) Q:=by
 rw[Mi,hc];cases t
 ·exact hb rfl
 ·exact ha rfl
def av1(hc:fr.ak c= .bool t)(aV:t=true)(ha:W (cR call bE fn a fr st) Q):W (cR call bE fn (.cond c a b) fr st) Q:=by
 rw[Mi,hc,aV];exact ha
def avN(hc:fr.ak c= .bool t)(aV:t=false)(hb:W (cR call bE fn b fr st) Q):W (cR call bE fn (.cond c a b) fr st) Q:=by
 rw[Mi,hc,aV];exact hb
theorem adR{b:du}(jy:Nat->aO->ar->Prop)
 (cj:∀m fr st,jy m fr st->W (cR call bE fn b fr st) (Round jy m Q)):∀(n m:Nat) (fr:aO) (st:ar),m<n->jy m fr st->W (Mj call bE fn b n fr st) Q
 |0,m,_,_,h,_=>by omega
 |n+1,m,fr,st,h,ae=>by
  obtain⟨e,aF,st',I,U⟩:=cj m fr st ae;rw[ain,I];cases e with
  |norm=>
   obtain⟨eG,hm,ag⟩:=U;exact adR jy cj n eG aF st' (by omega) ag
  |exit i=>exact .mk U
  |ret=>exact .mk U
  |aQ v=>exact .mk U
def avQ(jy:Nat->aO->ar->Prop)(m:Nat)(hm:m<bE)(h0:jy m fr st)
 (cj:∀m fr st,jy m fr st->W (cR call bE fn b fr st) (Round jy m Q)):W (cR call bE fn (.loop b) fr st) Q:=
 adR jy cj bE m fr st hm h0
def E:(fr.put (some d) v).ak (.tmp d)=v:=by rw[DR,xR,zab rfl]
def N{j:Tmp}{x:bi}(h:fr.ak (.tmp j)=x)(hne:Nat.beq j d=false:=by rfl):(fr.put (some d) v).ak (.tmp j)=x:=by
 rw[DR,xR,zaa];exact h;intro e;subst e;simp at hne
def C:fr.ak (.const v)=v:=rfl
section
variable{xs:ac bA}{d:am Tmp}{o:da}{x y i:bv}
def rE{st':ar}(h:bG call o fr st= .ok v fr st')(k:W (fT call xs (fr.put d v) st') Q):W (fT call (⟨d,o,none⟩::xs) fr st) Q:=by
 rw[rS,h,sl];exact k
def avU{t:Tmp}{b c:Bool}(aM:fr.ak (.tmp t)= .bool c)(hc:c=b)(k:W (fT call (⟨d,o,none⟩::xs) fr st) Q):W (fT call (⟨d,o,some (t,b)⟩::xs) fr st) Q:=by
 subst hc;rw[Mk,show fr.tmp t= .bool c from aM];rw[rS]at k;cases c
 ·rw[al7];exact k
 ·rw[ama];exact k
def avS{t:Tmp}{b c:Bool}(aM:fr.ak (.tmp t)= .bool c)(hc:c= !b)(k:W (fT call xs (fr.put d undef) st) Q):W (fT call (⟨d,o,some (t,b)⟩::xs) fr st) Q:=by
 subst hc;rw[Mk,show fr.tmp t= .bool (!b)from aM];cases b
 ·rw[show wO (.bool (!false)) false _ _ ct.no=_ from al9 _ _ _];exact k
 ·rw[show wO (.bool (!true)) true _ _ ct.no=_ from al8 _ _ _];exact k
def avT{t:Tmp}{b:Bool}{a:be bi}(aM:fr.ak (.tmp t)= .tuple a)(k:W (fT call xs (fr.put d undef) st) Q):W (fT call (⟨d,o,some (t,b)⟩::xs) fr st) Q:=by
 rw[Mk,show fr.tmp t= .tuple a from aM,amb];exact k
end
section
variable{x y i c a b:bv}
variable{n m:Nat}{k:d8}{p:Addr}
def xm{p:am Addr}(h:fr.ak x= .slice p n m):bG call (.pw x) fr st= .ok (.int .i64 (n:Int)) fr st:=by rw[Z4,h];rfl
def aqE(h:fr.ak x= .chan none):bG call (.pw x) fr st= .ok (.int .i64 0) fr st:=by rw[Z4,h];rfl
def aqC{k':d8}{n:Int}(h:fr.ak x= .int k' n):bG call (.uk k x) fr st= .ok (.int k (k.wrap n)) fr st:=by rw[aqS,h];rfl
def aqD{a4:Nat}{j:Int}(h:fr.ak x= .slice (some p) n m)(aG:fr.ak i= .int k j)(h0:0<=j)(I:j<n):
 bG call (.mY a4 x i) fr st= .ok (.pointer (some (p.add (j.toNat*a4)))) fr st:=by
 rw[aqX,h,aG];show iv j (fun j=>eh (j+1) n _ _) _=_;rw[aqd h0,gi (by omega)]
def aqF{cs:ac bi}{el:ci}{bk:Nat×Nat}{bc:Bool}(h:fr.ak x= .pointer (some p))(hp:p.spot=none)(al:st.h.get p.block=some (.cells cs el bk bc))(aE:cs[p.off]? =some v):
 bG call (.jr x) fr st= .ok v fr st:=by
 rw[O8,h];show st.load p 1 _ _=_;unfold ar.load ar.gN;rw[hp,al];show iB cs p.off 1 _ _=_;have aT:p.off<cs.length:=by
  rcases zaj p.off cs.length with h|h
  ·exact h
  ·rw[zbq h]at aE;cases aE
 rw[DC (by omega)];have:(cs.drop p.off).take 1=[v]:=by
  rw[bg aT]at aE;cases aE;rw[hx aT];rfl
 rw[this];rfl
end
end
end Go.an
namespace Go.an
open Sym
variable{X:Ctx}
structure eE where
 r:ac bi->ar->bi->ar->Prop
 p:ac bi->ar->bi->ar->Prop
def eE.no:eE:=⟨fun _ _ _ _=>False,fun _ _ _ _=>False⟩
def C1(X:Ctx)(f:co)(as:ac bi)(st:ar)(v:bi)(st':ar):Prop:=
 ∀(ι:bu) (as':ac bi) (w:d7),bP ι as as'->bx X ι st w->
  (∀as w,(callFunc f as).run X.P w= .ok (.enter f as) w)∧
  ∀(K:CallKind) (bf:Bool->ac Frame),j0 ⟨f,K,none⟩ none ι bf->ic X ι w ⟨f,K,none⟩ bf (lone (Frame.enter X.P f as'.toArray K) (bf false) w) (.aQ v st' false)
def bO(X:Ctx)(K:co->eE):na:=fun f as st=>
 open Classical in if h:∃p:bi×ar,(K f).r as st p.1 p.2∧ei X f ⟨as,st,p.1,p.2⟩then some (.ret (Classical.choose h).1 (Classical.choose h).2 false)
 else if h:∃p:bi×ar,(K f).p as st p.1 p.2∧C1 X f as st p.1 p.2 then some (.aQ (Classical.choose h).1 (Classical.choose h).2 false)else none
def aao(K:co->eE):sM X (bO X K):=by
 intro f as st r aD ι as' w ha hw _;unfold bO at aD;split at aD
 ·rename_i h;cases aD;exact(Classical.choose_spec h).2 ι as' w ha hw
 ·split at aD
  ·rename_i h;cases aD;exact(Classical.choose_spec h).2 ι as' w ha hw
  ·cases aD
def Fv{K:co->eE}{f:co}{as:ac bi}{st:ar}(h:∃v st',(K f).r as st v st'∧ei X f ⟨as,st,v,st'⟩):
 ∃v st',bO X K f as st=some (.ret v st' false)∧(K f).r as st v st':=by
 obtain⟨v,st',I,U⟩:=h;have hp:∃p:bi×ar,(K f).r as st p.1 p.2∧ei X f ⟨as,st,p.1,p.2⟩:=⟨(v,st'),I,U⟩;refine⟨(Classical.choose hp).1,(Classical.choose hp).2,?_,(Classical.choose_spec hp).1⟩;unfold bO;rw[dif_pos hp]
structure Spec where
 L:Type
 pre:L->ac bi->ar->Prop
 post:L->ac bi->ar->bi->ar->Prop
def Spec.K(S:Spec):eE:=⟨fun as st v st'=>∀l,S.pre l as st->S.post l as st v st',fun _ _ _ _=>False⟩
instance:Coe Spec eE:=⟨Spec.K⟩
def bD(X:Ctx)(f:co)(S:Spec):Prop:=∀as st,(∃l,S.pre l as st)->∃v st',S.K.r as st v st'∧ei X f ⟨as,st,v,st'⟩
structure C4 where
 L:Type
 pre:L->ac bi->ar->Prop
 post:L->ac bi->ar->bi->ar->Prop
 Cd:L->ac bi->ar->bi->ar->Prop
def C4.K(S:C4):eE:=⟨fun as st v st'=>∀l,S.pre l as st->S.post l as st v st',fun as st v st'=>∀l,S.pre l as st->S.Cd l as st v st'⟩
def ou(X:Ctx)(f:co)(S:C4):Prop:=∀as st,(∃l,S.pre l as st)->(∃v st',S.K.r as st v st'∧ei X f ⟨as,st,v,st'⟩)∨∃v st',S.K.p as st v st'∧C1 X f as st v st'
variable{K:co->eE}{f:co}{as:ac bi}{st:ar}{xf:cJ}{n:Nat}{v:bi}{st':ar}
def aq8(h:(∃v st',(K f).r as st v st'∧ei X f ⟨as,st,v,st'⟩)∨∃v st',(K f).p as st v st'∧C1 X f as st v st'):
 (∃v st',bO X K f as st=some (.ret v st' false)∧(K f).r as st v st')∨∃v st',bO X K f as st=some (.aQ v st' false)∧(K f).p as st v st':=by
 by_cases hp:∃p:bi×ar,(K f).r as st p.1 p.2∧ei X f ⟨as,st,p.1,p.2⟩
 ·exact .inl (Fv ⟨_,_,hp.choose_spec.1,hp.choose_spec.2⟩)
 ·rcases h with⟨v,st',I,U⟩|⟨v,st',I,U⟩
  ·exact absurd ⟨(v,st'),I,U⟩ hp
  ·have hq:∃p:bi×ar,(K f).p as st p.1 p.2∧C1 X f as st p.1 p.2:=⟨(v,st'),I,U⟩;refine .inr ⟨(Classical.choose hq).1,(Classical.choose hq).2,?_,(Classical.choose_spec hq).1⟩;unfold bO;rw[dif_neg hp,dif_pos hq]
def b0:Nat:=4611686018427387904
def Qc{aS:aq cJ}(db:Good X)(gf:lK X aS)(aa:aS.get f=some xf)
 (h:hF (bH aS (bO X K) n) n f xf as none st= .ret v st' false):ei X f ⟨as,st,v,st'⟩:=by
 obtain⟨Fn,c,ok⟩:=gf f xf aa;obtain⟨kJ,j8⟩:=Du db gf (aao (X:=X) K) n;intro ι as' w ha hw;refine⟨ok.enters,fun vT bf aD=> ?_⟩;have:=LI db j8 kJ (fun b aI bf _=>FQ j8 b aI bf) ok n (K:=vT) (bf:=bf) ha hw aD;rw[h]at this;exact this
def arb{aS:aq cJ}(db:Good X)(gf:lK X aS)(aa:aS.get f=some xf)
 (h:hF (bH aS (bO X K) n) n f xf as none st= .aQ v st' false):C1 X f as st v st':=by
 obtain⟨Fn,c,ok⟩:=gf f xf aa;obtain⟨kJ,j8⟩:=Du db gf (aao (X:=X) K) n;intro ι as' w ha hw;refine⟨ok.enters,fun vT bf aD=> ?_⟩;have:=LI db j8 kJ (fun b aI bf _=>FQ j8 b aI bf) ok n (K:=vT) (bf:=bf) ha hw aD;rw[h]at this;exact this
structure vX(fr:aO):Prop where
 cL:fr.cL=[]
 aQ:fr.aQ=none
 cx:fr.cx=false
variable{call:bF}{Post:bi->ar->Prop}
def vX.put{fr:aO}(h:vX fr)(d:am Tmp)(v:bi):vX (fr.put d v):=by
 obtain⟨I,U,ag,au⟩:=sq fr d v;exact⟨I.trans h.cL,U.trans h.aQ,ag.trans h.cx⟩
def er(as:ac bi):aO:=⟨l7 as 0 .nil,[],none,false,none⟩
def vX.zero(as:ac bi):vX (er as):=⟨rfl,rfl,rfl⟩
def LH(hl:as.length<=xf.aI)
 (h:W (cR call n f xf.body (er as) st) (fun e fr st'=>(e= .norm∨e= .ret)∧∃v,ff call xf.res none fr st'= .ret v st' false∧Post v st')):
 ∃v st',hF call n f xf as none st= .ret v st' false∧Post v st':=by
 obtain⟨e,fr,st',I,he,v,U,ag⟩:=h;refine⟨v,st',?_,ag⟩;unfold hF;rw[od,zab (by rw[fe];exact hl)];show ct.rec (motive:=fun _=>dk) _ _ (cR call n f xf.body (er as) st)=_;rw[I];rcases he with rfl|rfl
 ·exact U
 ·exact U
def LY{aS:aq cJ}(db:Good X)(gf:lK X aS)(K:co->eE)(aa:aS.get f=some xf){S:Spec}(hl:∀l as st,S.pre l as st->as.length<=xf.aI)
 (h:∀l as st,S.pre l as st->W (cR (bH aS (bO X K) (b0+1)) (b0+1) f xf.body (er as) st)
  (fun e fr st'=>(e= .norm∨e= .ret)∧∃v,ff (bH aS (bO X K) (b0+1)) xf.res none fr st'= .ret v st' false∧S.post l as st v st')):bD X f S:=by
 intro as st ⟨l,hp⟩;obtain⟨v,st',I,U⟩:=LH (Post:=S.post l as st) (hl l as st hp) (h l as st hp);refine⟨v,st',fun l' fG=> ?_,Qc db gf aa I⟩;obtain⟨v2,cc,g1,aP⟩:=LH (Post:=S.post l' as st) (hl l' as st fG) (h l' as st fG);rw[I]at g1;cases g1;exact aP
def Dp{x7:bi->ar->Prop}(hl:as.length<=xf.aI)
 (h:W (cR call n f xf.body (er as) st) (fun e fr st'=>((e= .norm∨e= .ret)∧∃v,ff call xf.res none fr st'= .ret v st' false∧Post v st')∨∃v,e= .aQ v∧ff call xf.res (some v) fr st'= .aQ v st' false∧x7 v st')):
 (∃v st',hF call n f xf as none st= .ret v st' false∧Post v st')∨∃v st',hF call n f xf as none st= .aQ v st' false∧x7 v st':=by
 obtain⟨e,fr,st',I,h⟩:=h;have hb:hF call n f xf as none st=ct.rec (motive:=fun _=>dk) (fun e fr st=>dq.rec (motive:=fun _=>dk) (ff call xf.res none fr st) (fun _=>.no) (ff call xf.res none fr st) (fun v=>ff call xf.res (some v) fr st) e) .no (cR call n f xf.body (er as) st):=by
  unfold hF;rw[od,zab (by rw[fe];exact hl)];rfl
 rw[I]at hb;rcases h with⟨he,v,U,ag⟩|⟨v,rfl,U,ag⟩
 ·refine .inl ⟨v,st',hb.trans ?_,ag⟩;rcases he with rfl|rfl
  ·exact U
  ·exact U
 ·exact .inr ⟨v,st',hb.trans U,ag⟩
def agU{aS:aq cJ}(db:Good X)(gf:lK X aS)(K:co->eE)(aa:aS.get f=some xf){S:C4}(hl:∀l as st,S.pre l as st->as.length<=xf.aI)
 (h:∀l as st,S.pre l as st->W (cR (bH aS (bO X K) (b0+1)) (b0+1) f xf.body (er as) st)
  (fun e fr st'=>((e= .norm∨e= .ret)∧∃v,ff (bH aS (bO X K) (b0+1)) xf.res none fr st'= .ret v st' false∧S.post l as st v st')∨∃v,e= .aQ v∧ff (bH aS (bO X K) (b0+1)) xf.res (some v) fr st'= .aQ v st' false∧S.Cd l as st v st')):ou X f S:=by
 intro as st ⟨l,hp⟩;rcases Dp (Post:=S.post l as st) (x7:=S.Cd l as st) (hl l as st hp) (h l as st hp)with⟨v,st',I,U⟩|⟨v,st',I,U⟩
 ·refine .inl ⟨v,st',fun l' fG=> ?_,Qc db gf aa I⟩;rcases Dp (Post:=S.post l' as st) (x7:=S.Cd l' as st) (hl l' as st fG) (h l' as st fG)with⟨v2,cc,g1,aP⟩|⟨v2,cc,g1,aP⟩
  ·rw[I]at g1;cases g1;exact aP
  ·rw[I]at g1;cases g1
 ·refine .inr ⟨v,st',fun l' fG=> ?_,arb db gf aa I⟩;rcases Dp (Post:=S.post l' as st) (x7:=S.Cd l' as st) (hl l' as st fG) (h l' as st fG)with⟨v2,cc,g1,aP⟩|⟨v2,cc,g1,aP⟩
  ·rw[I]at g1;cases g1
  ·rw[I]at g1;cases g1;exact aP
section
variable{call:bF}{fr:aO}{st:ar}{x y i:bv}
def lr{β:Type}(cs:ac bi)(e:ci)(bk:Nat×Nat)(bc:Bool)(k:ac bi->ci->Nat×Nat->Bool->β)(z:β):yh (some (.cells cs e bk bc)) k z=k cs e bk bc:=rfl
end
def e1:ac Nat->ac Nat
 |[]=>[]
 |d::ds=>match e1 ds with
  |[]=>if d=0 then[]else[d]
  |r=>d::r
end Go.an
namespace Go.an
open Sym
section
variable{call:bF}{fr:aO}{st:ar}{Q:dq->aO->ar->Prop}{bE:Nat}{fn:co}
variable{ops:ac (bA×cD)}{cQ:sK}{ah:ac (aq bB)}{c a b:bv}{t:Bool}{u:bi}{n:Int}
def O{ts:ac Tmp}{j:Tmp}{x:bi}(h:fr.ak (.tmp j)=x)(hj:ts.contains j=true:=by rfl):(fr.only ts).ak (.tmp j)=x:=by
 rw[DR,ZP,zab (by simpa using hj)];exact h
def avM{cm eb ms:ac Nat}(h:W (ga call (qK call ms (dd ops)) ops [st.h] (ql fr eb) st) Q):W (cR call bE fn (.rP ops cm eb ms) fr st) Q:=h
def adP(h:Q .norm fr st):W (ga call cQ [] ah fr st) Q:=.mk h
theorem ab5{o:da}{f:aO}{v:bi}{ai:Nat}:∀(n:Nat) (ah:ac (aq bB)),n<=ah.length->(∀h∈ah.take n,∃nk bo,bG call o f ⟨h,ai⟩= .ok v nk bo)->sameAt call o f v ai n ah=true
 |0,_,_,_=>rfl
 |n+1,[],h,_=>by simp at h
 |n+1,h::ah,hl,hh=>by
  obtain⟨nk,bo,e⟩:=hh h (by simp);show a1.rec (motive:=fun _=>Bool) (fun v' _ _=>cond (dM v v') (sameAt call o f v ai n ah) false) (fun _ _=>false) false (bG call o f ⟨h,ai⟩)=true;rw[e];show cond (dM v v) (sameAt call o f v ai n ah) false=true;rw[z1];exact ab5 n ah (by simpa using hl) fun aG hm=>hh aG (by simp[hm])
def avL{o:da}{d:am Tmp}{ts:ac Tmp}{back:Nat}{v:bi}(dD:∀h∈st.h::ah.take (back+1),bG call o (fr.only ts) ⟨h,st.ai⟩= .ok v (fr.only ts) ⟨h,st.ai⟩)(hl:back<ah.length)
 (k:W (ga call cQ ops ah (fr.put d v) st) Q):W (ga call cQ ((⟨d,o,none⟩,.read back ts)::ops) ah fr st) Q:=by
 refine W.of_eq ?_ k;show kp fr.t ts (fun t=>gC ⟨t,[],none,false,none⟩ none
  (a1.rec (motive:=fun _=>ct) (fun v _ _=>cond (sameAt call o ⟨t,[],none,false,none⟩ v st.ai (Nat.succ back) ah) (ga call cQ ops ah (fr.put d v) st) .no) (fun _ _=>.no) .no (bG call o ⟨t,[],none,false,none⟩ st))
  (ga call cQ ops ah (fr.put d undef) st) .no)=_
 rw[pC];have e:=dD st.h (by simp);have e:bG call o ⟨Fs fr.t ts,[],none,false,none⟩ st= .ok v (fr.only ts) st:=e;show a1.rec (motive:=fun _=>ct) _ _ _ (bG call o ⟨Fs fr.t ts,[],none,false,none⟩ st)=_;rw[e];show cond (sameAt call o (fr.only ts) v st.ai (Nat.succ back) ah) _ _=_;rw[ab5 _ _ (by omega) fun h hm=>⟨_,_,dD h (by simp[hm])⟩];rfl
def aqH(hc:fr.ak c= .bool t)(aV:t=true)(ha:fr.ak a=u):bG call (.pick c a b) fr st= .ok u fr st:=by
 rw[aad,hc,ha,aV];rfl
def aqG(hc:fr.ak c= .bool t)(aV:t=false)(hb:fr.ak b=u):bG call (.pick c a b) fr st= .ok u fr st:=by
 rw[aad,hc,hb,aV];rfl
def Jf{x i:bv}{a4 id off n m j:Nat}{k:d8}(h:fr.ak x= .slice (some ⟨id,off,none⟩) n m)(aG:fr.ak i= .int k (j:Int))(hj:j<n):
 bG call (.mY a4 x i) fr st= .ok (.pointer (some ⟨id,off+j*a4,none⟩)) fr st:=by
 rw[aqD h aG (by omega) (by omega)];rw[zbb];congr 3;unfold Addr.add;split
 ·rename_i h0;rw[h0];rfl
 ·rfl
def hK(h: -9223372036854775808<=n)(aG:n<9223372036854775808):IntKind.i64.wrap n=n:=by
 rw[<-l3];show z3 18446744073709551616 9223372036854775808 n=n;rw[z4 _ _ _ (by decide)];split<;>omega
def adG(h:0<=n)(aG:n<18446744073709551616):IntKind.u64.wrap n=n:=by
 rw[<-l3];show CP 18446744073709551616 n=n;rw[tV _ _ (by decide)];omega
end
abbrev Env:=ac (Nat×bi)
def gh(L:ac Nat)(e:Env):Env:=e.filter fun p=>L.any (Nat.beq p.1)
abbrev ad9:=dq->Env->ar->Prop
end Go.an
namespace Go.an
open Sym
variable{X:Ctx}
theorem RS:∀(vs:ac bi) (i:Nat) (t:aq bi) (j:Nat),(l7 vs i t).get j=if i<=j∧j<i+vs.length then vs[j-i]? else t.get j
 |[],i,t,j=>by rw[zaa (by simp)];rfl
 |v::vs,i,t,j=>by
  have e:l7 (v::vs) i t=l7 vs (i+1) (t.set i v):=by
   show aq.jd (Nat.succ i) t i v (fun t=>l7 vs (Nat.succ i) t)=_;rw[aq.zQ]
  rw[e,RS vs (i+1) _ j,aq.eI];by_cases ab:j=i
  ·subst ab;rw[zaa (by omega),zab rfl,zab (by simp)];simp
  ·rw[zaa ab];by_cases I:i+1<=j∧j<i+1+vs.length
   ·rw[zab I,zab (by simp;omega)];have:j-i=(j-(i+1))+1:=by omega
    rw[this];simp
   ·rw[zaa I,zaa (by simp;omega)]
end Go.an
namespace Go.an
open Sym
section
variable{call:bF}{fr:aO}{st:ar}{x y i:bv}
variable{k:d8}{m n:Nat}
def BZ{op:BinOp}{m n:Int}{v:bi}(I:op≠.shl)(U:op≠.shr)(h:fr.ak x= .int k m)(aG:fr.ak y= .int k n)(aE:sc op k m n=some v):bG call (.bin op x y) fr st= .ok v fr st:=by
 rw[Ft,h,aG,Mg];have:AW op k m k n (fun v=>a1.ok v fr st)=cond (kK k k) (As op k m n (fun v=>a1.ok v fr st)) .no:=by
  cases op<;>first|rfl|(exact absurd rfl I)|(exact absurd rfl U)
 rw[this,apk,Ly,aE];rfl
def ZN(h:fr.ak x= .int k (m:Int))(aG:fr.ak y= .int k (n:Int))(hn:n≠0):bG call (.bin .quo x y) fr st= .ok (.int k (k.wrap ((m/n:Nat):Int))) fr st:=
 BZ (by decide) (by decide) h aG (by
  show(if(n:Int)=0 then none else _)=_;rw[zaa (by omega)];rfl)
def aqI(h:fr.ak x= .int k (m:Int))(aG:fr.ak y= .int k (n:Int))(hn:n≠0):bG call (.bin .rem x y) fr st= .ok (.int k ((m%n:Nat):Int)) fr st:=
 BZ (by decide) (by decide) h aG (by
  show(if(n:Int)=0 then none else _)=_;rw[zaa (by omega)];rfl)
end
section
variable{call:bF}{bE:Nat}{fn:co}{e:Env}{st:ar}{Q:ad9}
variable{fr:aO}{t:Tmp}{b:Bool}{yes h7 z:ct}
def QU(h:fr.tmp t= .bool b):gC fr (some (t,b)) yes h7 z=yes:=by
 show mu (fr.tmp t) (fun c=>cond c (cond b yes h7) (cond b h7 yes)) _=_;rw[h];cases b<;>rfl
def av5(h:fr.tmp t= .bool (!b)):gC fr (some (t,b)) yes h7 z=h7:=by
 show mu (fr.tmp t) (fun c=>cond c (cond b yes h7) (cond b h7 yes)) _=_;rw[h];cases b<;>rfl
end
end Go.an
namespace Go.an
inductive aj:Type 1
 |i (k:IntKind) (n:Int)
 |b (t:Bool)
 |s (l:List UInt8)
 |nl
 |v (x:Value)
 |p (k o:Nat)
 |gk (k z j o:Nat)
 |a5 (k z o n c:Nat)
 |bq (z:Nat) (α:Type) (R:α->List aj) (l:List α)
 |jT (z:Nat) (α:Type) (R:α->List aj) (l:List α)
 |cw (z:Nat) (α:Type) (R:α->List aj) (l:List α)
 |ip (cs:List aj)
 |fn (f:Fn) (bJ cs:List aj)
 |agg (cs:List aj)
 |bn (cs:List aj)
 |bad
abbrev bm:=Nat->am bB
mutual
def den(H:bm):aj->ac Nat->bi->Prop
 |.i k n,_,v=>v= .int k n
 |.b t,_,v=>v= .bool t
 |.s l,_,v=>v= .string ⟨⟨l⟩⟩
 |.nl,_,v=>v= .slice none 0 0
 |.v x,_,v=>v=x
 |.p k o,ids,v=>∃b,ids[k]? =some b∧v= .pointer (some ⟨b,o,none⟩)
 |.gk k z j o,ids,v=>∃b,ids[k]? =some b∧v= .pointer (some ⟨b,j*z+o,none⟩)
 |.a5 k z o n c,ids,v=>∃b,ids[k]? =some b∧v= .slice (some ⟨b,o*z,none⟩) n c
 |.bq z _ R l,_,v=>(l=[]∧v= .slice none 0 0)∨∃b o c vs el bk bc,v= .slice (some ⟨b,o,none⟩) l.length c∧l.length<=c∧H b=some (.cells vs el bk bc)∧∀i x,l[i]? =some x->c4 H (R x) [] ((vs.drop (o+i*z)).take z)
 |.jT z _ R l,_,v=>(l=[]∧v= .slice none 0 0)∨(l≠[]∧∃b o c vs el bk bc,v= .slice (some ⟨b,o,none⟩) l.length c∧l.length<=c∧H b=some (.cells vs el bk bc)∧∀i x,l[i]? =some x->c4 H (R x) [] ((vs.drop (o+i*z)).take z))
 |.cw z _ R l,_,v=>(l=[]∧v= .chan none)∨(l=[]∧v= .slice none 0 0)∨∃b o c vs el bk bc,v= .slice (some ⟨b,o,none⟩) l.length c∧l.length<=c∧H b=some (.cells vs el bk bc)∧∀i x,l[i]? =some x->c4 H (R x) [] ((vs.drop (o+i*z)).take z)
 |.ip cs,_,v=>∃b o vs el bk bc,v= .pointer (some ⟨b,o,none⟩)∧H b=some (.cells vs el bk bc)∧c4 H cs [] ((vs.drop o).take cs.length)
 |.fn f bJ cs,ids,v=>∃vs ws,v= .func f ⟨vs⟩ ⟨ws⟩∧c4 H bJ ids vs∧c4 H cs ids ws
 |.agg cs,ids,v=>∃vs,v= .agg ⟨vs⟩∧c4 H cs ids vs
 |.bn cs,ids,v=>∃vs,v= .tuple ⟨vs⟩∧c4 H cs ids vs
 |.bad,_,_=>False
def c4(H:bm):ac aj->ac Nat->ac bi->Prop
 |[],_,vs=>vs=[]
 |c::cs,ids,vs=>∃v ws,vs=v::ws∧den H c ids v∧c4 H cs ids ws
end
def dm(H a2:bm):Prop:=∀b o,H b=some o->a2 b=some o
def dm.refl(H:bm):dm H H:=fun _ _ h=>h
def dm.trans{H a2 Q8:bm}(h:dm H a2)(aG:dm a2 Q8):dm H Q8:=fun b o e=>aG b o (h b o e)
def c0(i j:ac Nat):Prop:=∀k b:Nat,i[k]? =some b->j[k]? =some b
def c0.refl(i:ac Nat):c0 i i:=fun _ _ h=>h
def c0.nil(i:ac Nat):c0 [] i:=fun k b h=>by simp at h
def c0.app(i j:ac Nat):c0 i (i++j):=fun k b h=>by
 rw[zaD (zac.1 h).1];exact h
mutual
theorem uv{H a2:bm}(h:dm H a2):∀(a:aj) {i j:ac Nat} {v:bi},c0 i j->den H a i v->den a2 a j v
 |.i _ _,_,_,_,_,d=>d
 |.b _,_,_,_,_,d=>d
 |.s _,_,_,_,_,d=>d
 |.nl,_,_,_,_,d=>d
 |.v _,_,_,_,_,d=>d
 |.p _ _,_,_,_,ae,⟨b,e,d⟩=>⟨b,ae _ _ e,d⟩
 |.gk _ _ _ _,_,_,_,ae,⟨b,e,d⟩=>⟨b,ae _ _ e,d⟩
 |.a5 _ _ _ _ _,_,_,_,ae,⟨b,e,d⟩=>⟨b,ae _ _ e,d⟩
 |.bq _ _ _ _,_,_,_,_,.inl d=>.inl d
 |.bq _ _ R _,_,_,_,_,.inr ⟨b,o,c,vs,el,bk,bc,az,e2,b8,fa⟩=>.inr ⟨b,o,c,vs,el,bk,bc,az,e2,h _ _ b8,fun i x aa=>mC h (R x) (c0.refl _) (fa i x aa)⟩
 |.jT _ _ _ _,_,_,_,_,.inl d=>.inl d
 |.jT _ _ R _,_,_,_,_,.inr ⟨hn,b,o,c,vs,el,bk,bc,az,e2,b8,fa⟩=>.inr ⟨hn,b,o,c,vs,el,bk,bc,az,e2,h _ _ b8,fun i x aa=>mC h (R x) (c0.refl _) (fa i x aa)⟩
 |.cw _ _ _ _,_,_,_,_,.inl d=>.inl d
 |.cw _ _ _ _,_,_,_,_,.inr (.inl d)=>.inr (.inl d)
 |.cw _ _ R _,_,_,_,_,.inr (.inr ⟨b,o,c,vs,el,bk,bc,az,e2,b8,fa⟩)=>.inr (.inr ⟨b,o,c,vs,el,bk,bc,az,e2,h _ _ b8,fun i x aa=>mC h (R x) (c0.refl _) (fa i x aa)⟩)
 |.ip cs,_,_,_,_,⟨b,o,vs,el,bk,bc,az,e2,b8⟩=>⟨b,o,vs,el,bk,bc,az,h _ _ e2,mC h cs (c0.refl _) b8⟩
 |.fn _ bJ cs,_,_,_,ae,⟨vs,ws,e,d1,d2⟩=>⟨vs,ws,e,mC h bJ ae d1,mC h cs ae d2⟩
 |.agg cs,_,_,_,ae,⟨vs,e,d⟩=>⟨vs,e,mC h cs ae d⟩
 |.bn cs,_,_,_,ae,⟨vs,e,d⟩=>⟨vs,e,mC h cs ae d⟩
 |.bad,_,_,_,_,d=>d.elim
theorem mC{H a2:bm}(h:dm H a2):∀(a:ac aj) {i j:ac Nat} {v:ac bi},c0 i j->c4 H a i v->c4 a2 a j v
 |[],_,_,_,_,d=>d
 |a::as,_,_,_,ae,⟨v,ws,e,d1,d2⟩=>⟨v,ws,e,uv h a ae d1,mC h as ae d2⟩
end
mutual
def lZ(f:ac Nat):aj->aj
 |.p k o=>match f[k]? with|some j=>.p j o|none=>.bad
 |.gk k z j o=>match f[k]? with|some m=>.gk m z j o|none=>.bad
 |.a5 k z o n c=>match f[k]? with|some m=>.a5 m z o n c|none=>.bad
 |.fn g bJ cs=>.fn g (o5 f bJ) (o5 f cs)
 |.agg cs=>.agg (o5 f cs)
 |.bn cs=>.bn (o5 f cs)
 |.i k n=>.i k n
 |.b t=>.b t
 |.s l=>.s l
 |.nl=>.nl
 |.v x=>.v x
 |.bq z α R l=>.bq z α R l
 |.jT z α R l=>.jT z α R l
 |.cw z α R l=>.cw z α R l
 |.ip cs=>.ip cs
 |.bad=>.bad
def o5(f:ac Nat):ac aj->ac aj
 |[]=>[]
 |a::as=>lZ f a::o5 f as
end
def pick(f ids:ac Nat):ac Nat:=f.map (fun k=>(ids[k]?).getD 0)
def rl{f ids:ac Nat}{k m b:Nat}(af:f[k]? =some m)(hb:ids[m]? =some b):(pick f ids)[k]? =some b:=by
 unfold pick;rw[zcR,af];simp[hb]
mutual
theorem Hh{H:bm}(f:ac Nat){ids:ac Nat}:∀(a:aj) {v:bi},den H (lZ f a) ids v->den H a (pick f ids) v
 |.i _ _,_,d=>d
 |.b _,_,d=>d
 |.s _,_,d=>d
 |.nl,_,d=>d
 |.v _,_,d=>d
 |.p k o,v,d=>by
  unfold lZ at d;cases h:f[k]? with
  |none=>rw[h]at d;exact d.elim
  |some j=>rw[h]at d;obtain⟨b,e,d⟩:=d;exact⟨b,rl h e,d⟩
 |.gk k z j o,v,d=>by
  unfold lZ at d;cases h:f[k]? with
  |none=>rw[h]at d;exact d.elim
  |some j=>rw[h]at d;obtain⟨b,e,d⟩:=d;exact⟨b,rl h e,d⟩
 |.a5 k z o n c,v,d=>by
  unfold lZ at d;cases h:f[k]? with
  |none=>rw[h]at d;exact d.elim
  |some j=>rw[h]at d;obtain⟨b,e,d⟩:=d;exact⟨b,rl h e,d⟩
 |.bq _ _ _ _,_,d=>d
 |.jT _ _ _ _,_,d=>d
 |.cw _ _ _ _,_,d=>d
 |.ip _,_,d=>d
 |.fn _ bJ cs,_,⟨vs,ws,e,d1,d2⟩=>⟨vs,ws,e,wy f bJ d1,wy f cs d2⟩
 |.agg cs,_,⟨vs,e,d⟩=>⟨vs,e,wy f cs d⟩
 |.bn cs,_,⟨vs,e,d⟩=>⟨vs,e,wy f cs d⟩
 |.bad,_,d=>d.elim
theorem wy{H:bm}(f:ac Nat){ids:ac Nat}:∀(a:ac aj) {v:ac bi},c4 H (o5 f a) ids v->c4 H a (pick f ids) v
 |[],_,d=>d
 |a::as,_,⟨v,ws,e,d1,d2⟩=>⟨v,ws,e,Hh f a d1,wy f as d2⟩
end
mutual
def oY:aj->Bool
 |.p _ _|.gk _ _ _ _|.a5 _ _ _ _ _=>false
 |.fn _ bJ cs=>ht bJ&&ht cs
 |.agg cs=>ht cs
 |.bn cs=>ht cs
 |_=>true
def ht:ac aj->Bool
 |[]=>true
 |a::as=>oY a&&ht as
end
mutual
theorem AK{H:bm}{ids:ac Nat}:∀(a:aj) {v:bi},oY a=true->den H a ids v->∀j,den H a j v
 |.i _ _,_,_,d,_=>d
 |.b _,_,_,d,_=>d
 |.s _,_,_,d,_=>d
 |.nl,_,_,d,_=>d
 |.v _,_,_,d,_=>d
 |.p _ _,_,h,_,_=>by cases h
 |.gk _ _ _ _,_,h,_,_=>by cases h
 |.a5 _ _ _ _ _,_,h,_,_=>by cases h
 |.bq _ _ _ _,_,_,d,_=>d
 |.jT _ _ _ _,_,_,d,_=>d
 |.cw _ _ _ _,_,_,d,_=>d
 |.ip _,_,_,d,_=>d
 |.fn _ bJ cs,_,h,⟨vs,ws,e,d1,d2⟩,j=>by
  have h:(ht bJ&&ht cs)=true:=h;rw[b1]at h;exact⟨vs,ws,e,oB bJ h.1 d1 j,oB cs h.2 d2 j⟩
 |.agg cs,_,h,⟨vs,e,d⟩,j=>⟨vs,e,oB cs h d j⟩
 |.bn cs,_,h,⟨vs,e,d⟩,j=>⟨vs,e,oB cs h d j⟩
 |.bad,_,_,d,_=>d.elim
theorem oB{H:bm}{ids:ac Nat}:∀(a:ac aj) {v:ac bi},ht a=true->c4 H a ids v->∀j,c4 H a j v
 |[],_,_,d,_=>d
 |a::as,_,h,⟨v,ws,e,d1,d2⟩,j=>by
  have h:(oY a&&ht as)=true:=h;rw[b1]at h;exact⟨v,ws,e,AK a h.1 d1 j,oB as h.2 d2 j⟩
end
variable{v:bi}
def wi:aj->Bool
 |.v x=>nU x
 |.agg _|.bn _|.bad=>false
 |_=>true
def qI:ac aj->Bool
 |[]=>true
 |a::as=>wi a&&qI as
def Sx{H:bm}{ids:ac Nat}{a:aj}(h:wi a=true)(d:den H a ids v):nU v=true:=by
 cases a<;>first
  |(cases h;done)
  |(obtain⟨b,_,rfl⟩:=d;rfl;done)
  |(rcases d with⟨_,rfl⟩|⟨b,o,c,_,_,_,_,rfl,_⟩<;>rfl;done)
  |(rcases d with⟨_,rfl⟩|⟨_,b,o,c,_,_,_,_,rfl,_⟩<;>rfl;done)
  |(rcases d with⟨_,rfl⟩|⟨_,rfl⟩|⟨b,o,c,_,_,_,_,rfl,_⟩<;>rfl;done)
  |(obtain⟨b,o,c,_,_,_,rfl,_⟩:=d;rfl;done)
  |(obtain⟨b,_,rfl,_⟩:=d;rfl;done)
  |(have hO:=d;unfold den at hO;subst hO;first|rfl|exact h)
def afA(h:nU v=true):ih v=[v]:=by
 cases v<;>first|rfl|cases h
theorem Dv{H:bm}{ids:ac Nat}:∀{as:ac aj} {vs:ac bi},qI as=true->c4 H as ids vs->hD vs=true
 |[],_,_,d=>by cases d;rfl
 |a::as,_,h,⟨v,ws,e,d1,d2⟩=>by
  subst e;have h:(wi a&&qI as)=true:=h;rw[b1]at h;show cond (nU v) (hD ws) false=true;rw[Sx h.1 d1,Dv h.2 d2];rfl
theorem hP{H:bm}{ids:ac Nat}:∀{as:ac aj} {vs:ac bi},c4 H as ids vs->vs.length=as.length
 |[],_,d=>by cases d;rfl
 |a::as,_,⟨v,ws,e,d1,d2⟩=>by subst e;simp[hP d2]
theorem wx{H:bm}{ids:ac Nat}:∀{as:ac aj} {vs:ac bi} {k:Nat} {a:aj},c4 H as ids vs->as[k]? =some a->∃v,vs[k]? =some v∧den H a ids v
 |[],_,_,_,_,h=>by simp at h
 |a::as,_,0,_,⟨v,ws,e,d1,d2⟩,h=>by subst e;simp at h;subst h;exact⟨v,rfl,d1⟩
 |a::as,_,k+1,c,⟨v,ws,e,d1,d2⟩,h=>by
  subst e;obtain⟨u,I,U⟩:=wx (k:=k) (a:=c) d2 (by simpa using h);exact⟨u,by simpa using I,U⟩
theorem AL{H:bm}{ids:ac Nat}:∀{as bh:ac aj} {vs ws:ac bi},c4 H as ids vs->c4 H bh ids ws->c4 H (as++bh) ids (vs++ws)
 |[],_,_,_,d,hO=>by cases d;exact hO
 |a::as,_,_,_,⟨v,ws,e,d1,d2⟩,hO=>by subst e;exact⟨v,_,rfl,d1,AL d2 hO⟩
theorem pW{H:bm}{ids:ac Nat}:∀{as:ac aj} {vs:ac bi} (n:Nat),c4 H as ids vs->c4 H (as.drop n) ids (vs.drop n)
 |_,_,0,d=>d
 |[],_,n+1,d=>by cases d;exact rfl
 |a::as,_,n+1,⟨v,ws,e,d1,d2⟩=>by subst e;exact pW n d2
theorem wz{H:bm}{ids:ac Nat}:∀{as:ac aj} {vs:ac bi} (n:Nat),c4 H as ids vs->c4 H (as.take n) ids (vs.take n)
 |_,_,0,d=>rfl
 |[],_,n+1,d=>by cases d;exact rfl
 |a::as,_,n+1,⟨v,ws,e,d1,d2⟩=>by subst e;exact⟨v,_,rfl,d1,wz n d2⟩
def b7(a b:aj):Prop:=∀(H:bm) (i:ac Nat) (v:bi),den H a i v->den H b i v
variable{z:Nat}{α:Type}{a b:aj}{as bh:ac aj}{R:α->ac aj}{l:ac α}
def hA:ac aj->ac aj->Prop
 |[],[]=>True
 |a::as,b::bh=>b7 a b∧hA as bh
 |_,_=>False
def b7.refl(a:aj):b7 a a:=fun _ _ _ d=>d
def b7.of(h:a=b):b7 a b:=h▸b7.refl a
def hA.refl:∀l:ac aj,hA l l
 |[]=>trivial
 |a::as=>⟨b7.refl a,hA.refl as⟩
def hA.den{H:bm}{i:ac Nat}:∀{as bh:ac aj} {vs:ac bi},hA as bh->c4 H as i vs->c4 H bh i vs
 |[],[],_,_,d=>d
 |[],_::_,_,h,_=>h.elim
 |_::_,[],_,h,_=>h.elim
 |_::_,_::_,_,⟨I,U⟩,⟨v,ws,e,d1,d2⟩=>⟨v,ws,e,I _ _ _ d1,hA.den U d2⟩
def b7.agg(h:hA as bh):b7 (.agg as) (.agg bh):=fun _ _ _ ⟨vs,e,d⟩=>⟨vs,e,h.den d⟩
def b7.bn(h:hA as bh):b7 (.bn as) (.bn bh):=fun _ _ _ ⟨vs,e,d⟩=>⟨vs,e,h.den d⟩
def b7.nl:b7 .nl (.bq z α R []):=fun _ _ _ d=>.inl ⟨rfl,d⟩
def b7.ZF:b7 .nl (.jT z α R []):=fun _ _ _ d=>.inl ⟨rfl,d⟩
def b7.iQ(h:l≠[]):b7 (.cw z α R l) (.bq z α R l):=fun _ _ _ d=>d.elim (fun d=>absurd d.1 h) id
def b7.cw:b7 (.bq z α R l) (.cw z α R l):=fun _ _ _ d=>.inr d
def b7.awq:b7 (.jT z α R l) (.bq z α R l):=fun _ _ _ d=>d.elim .inl (fun d=>.inr d.2)
def b7.jT(h:l≠[]):b7 (.bq z α R l) (.jT z α R l):=fun _ _ _ d=>d.elim .inl (fun d=>.inr ⟨h,d⟩)
def b7.trans{c:aj}(h:b7 a b)(aG:b7 b c):b7 a c:=fun H i v d=>aG H i v (h H i v d)
open Sym
section
abbrev bQ:=ac (Nat×aj)
def ea:bQ->Nat->am aj
 |[],_=>none
 |(i,a)::l,j=>cond (Nat.beq i j) (some a) (ea l j)
def sf(p:Nat×aj)(l:bQ)(j:Nat):ea (p::l) j=cond (Nat.beq p.1 j) (some p.2) (ea l j):=rfl
def Fo:bi->aj
 |.int k n=>.i k n
 |.bool t=>.b t
 |.string ⟨⟨l⟩⟩=>.s l
 |.slice none 0 0=>.nl
 |x=>.v x
def B0:ac bi->ac aj
 |[]=>[]
 |v::vs=>Fo v::B0 vs
def aho(H:bm)(ids:ac Nat)(v:bi):den H (Fo v) ids v:=by
 unfold Fo;split<;>rfl
theorem yq(H:bm)(ids:ac Nat):∀vs:ac bi,c4 H (B0 vs) ids vs
 |[]=>rfl
 |v::vs=>⟨v,vs,rfl,aho H ids v,yq H ids vs⟩
def OY:bi->am aj
 |.agg ⟨l⟩=>some (.agg (B0 l))
 |.int k n=>some (.i k n)
 |.bool t=>some (.b t)
 |.string ⟨⟨l⟩⟩=>some (.s l)
 |.slice none 0 0=>some .nl
 |.tuple ⟨[]⟩=>some (.bn [])
 |x=>some (.v x)
def aqM(h:OY v=some a)(H:bm)(ids:ac Nat):den H a ids v:=by
 unfold OY at h;split at h<;>cases h
 ·exact⟨_,rfl,yq H ids _⟩
 all_goals first|rfl|exact⟨[],rfl,rfl⟩
def bM(e:bQ):bv->am aj
 |.tmp j=>ea e j
 |.const v=>OY v
 |.global g=>some (.v (.pointer (some ⟨g,0,none⟩)))
 |.func f=>some (.v (.func (.func f) #[] #[]))
def jq(e:bQ):ac bv->am (ac aj)
 |[]=>some []
 |x::xs=>match bM e x with
  |some a=>match jq e xs with
   |some as=>some (a::as)
   |none=>none
  |none=>none
structure cU(fr:aO)(H:bm)(ids:ac Nat)(e:bQ):Prop where
 pl:vX fr
 get:∀j a,ea e j=some a->den H a ids (fr.tmp j)
variable{fr:aO}{H:bm}{ids:ac Nat}{e:bQ}
def cU.ak(h:cU fr H ids e){x:bv}(aa:bM e x=some a):den H a ids (fr.ak x):=by
 cases x with
 |tmp j=>exact h.get j a aa
 |const w=>exact aqM aa H ids
 |global g=>cases aa;rfl
 |func f=>cases aa;rfl
theorem cU.dG{fr:aO}{H:bm}{ids:ac Nat}{e:bQ}(h:cU fr H ids e):∀{xs:ac bv} {as:ac aj},jq e xs=some as->c4 H as ids (dG fr xs)
 |[],_,aa=>by cases aa;rfl
 |x::xs,_,aa=>by
  unfold jq at aa;cases I:bM e x with
  |none=>rw[I]at aa;cases aa
  |some a=>
   cases U:jq e xs with
   |none=>rw[I,U]at aa;cases aa
   |some as=>
    rw[I,U]at aa;cases aa;exact⟨_,_,rfl,h.ak I,h.dG U⟩
def cU.put(h:cU fr H ids e)(d:Tmp)(aE:den H a ids v):cU (fr.put (some d) v) H ids ((d,a)::e):=by
 refine⟨h.pl.put _ _,fun j w hj=> ?_⟩;rw[sf]at hj;rw[xR];cases hb:Nat.beq d j with
 |true=>
  rw[hb]at hj;rw[zab (dI hb).symm];cases hj;exact aE
 |false=>
  rw[hb]at hj;rw[zaa (fun e=>by rw[e,zax]at hb;cases hb)];exact h.get j w hj
def mF(d:Nat):bQ->bQ
 |[]=>[]
 |p::l=>cond (Nat.beq p.1 d) (mF d l) (p::mF d l)
theorem IW(d:Nat):∀(e:bQ) (j:Nat) (a:aj),ea (mF d e) j=some a->j≠d∧ea e j=some a
 |[],_,_,h=>by cases h
 |p::e,j,a,h=>by
  unfold mF at h;cases hb:Nat.beq p.1 d with
  |true=>
   rw[hb]at h;obtain⟨I,U⟩:=IW d e j a h;refine⟨I,?_⟩;rw[sf];have:Nat.beq p.1 j=false:=by
    cases hc:Nat.beq p.1 j with
    |false=>rfl
    |true=>exact absurd ((dI hc).symm.trans (dI hb)) I
   rw[this];exact U
  |false=>
   rw[hb]at h;have h:cond (Nat.beq p.1 j) (some p.2) (ea (mF d e) j)=some a:=h;rw[sf];cases hc:Nat.beq p.1 j with
   |true=>
    rw[hc]at h;refine⟨fun e=> ?_,h⟩;rw[<-e,hc]at hb;cases hb
   |false=>rw[hc]at h;exact IW d e j a h
def cU.ahG(h:cU fr H ids e)(d:Tmp)(v:bi):cU (fr.put (some d) v) H ids (mF d e):=by
 refine⟨h.pl.put _ _,fun j w hj=> ?_⟩;obtain⟨I,U⟩:=IW d e j w hj;rw[xR,zaa I];exact h.get j w U
def cU.mono{a2:bm}{bX:ac Nat}(h:cU fr H ids e)(hh:dm H a2)(ae:c0 ids bX):cU fr a2 bX e:=⟨h.pl,fun j a hj=>uv hh a ae (h.get j a hj)⟩
def fJ(L:ac Nat):bQ->bQ
 |[]=>[]
 |p::l=>cond (L.any (Nat.beq p.1)) (p::fJ L l) (fJ L l)
theorem Ou(L:ac Nat):∀(e:bQ) (j:Nat) (a:aj),ea (fJ L e) j=some a->L.contains j=true∧ea e j=some a
 |[],_,_,h=>by cases h
 |p::e,j,a,h=>by
  unfold fJ at h;cases hb:L.any (Nat.beq p.1)with
  |true=>
   rw[hb]at h;have h:cond (Nat.beq p.1 j) (some p.2) (ea (fJ L e) j)=some a:=h;rw[sf];cases hc:Nat.beq p.1 j with
   |true=>
    rw[hc]at h;refine⟨?_,h⟩;obtain⟨x,aa,b4⟩:=zcP.1 hb;rw[<-dI hc,dI b4];simpa using aa
   |false=>rw[hc]at h;exact Ou L e j a h
  |false=>
   rw[hb]at h;obtain⟨I,U⟩:=Ou L e j a h;refine⟨I,?_⟩;rw[sf];have:Nat.beq p.1 j=false:=by
    cases hc:Nat.beq p.1 j with
    |false=>rfl
    |true=>
     rw[dI hc]at hb;rw[List.any_eq_false]at hb;exact absurd (zax j) (hb j (by simpa using I))
   rw[this];exact U
def cU.only(h:cU fr H ids e)(ts:ac Tmp):cU (fr.only ts) H ids (fJ ts e):=
 ⟨⟨rfl,rfl,rfl⟩,fun j a hj=>by
   obtain⟨I,U⟩:=Ou ts e j a hj;have:=O (ts:=ts) (fr:=fr) (j:=j) (x:=fr.tmp j) rfl I;rw[DR]at this;rw[this];exact h.get j a U⟩
def rJ(op:BinOp)(k:d8)(a b:Int):am aj:=
 match op with
 |.add=>some (.i k (k.wrap (a+b)))
 |.sub=>some (.i k (k.wrap (a-b)))
 |.mul=>some (.i k (k.wrap (a*b)))
 |.quo=>if b=0 then none else some (.i k (k.wrap (a.tdiv b)))
 |.rem=>if b=0 then none else some (.i k (a.tmod b))
 |.and=>some (.i k (k.wrap (BitVec.ofInt k.bits a&&&BitVec.ofInt k.bits b).toNat))
 |.or=>some (.i k (k.wrap (BitVec.ofInt k.bits a|||BitVec.ofInt k.bits b).toNat))
 |.xor=>some (.i k (k.wrap (BitVec.ofInt k.bits a^^^BitVec.ofInt k.bits b).toNat))
 |.andNot=>some (.i k (k.wrap (BitVec.ofInt k.bits a&&& ~~~(BitVec.ofInt k.bits b)).toNat))
 |.eql=>some (.b (decide (a=b)))
 |.neq=>some (.b (decide (a≠b)))
 |.lss=>some (.b (decide (a<b)))
 |.leq=>some (.b (decide (a<=b)))
 |.gtr=>some (.b (decide (b<a)))
 |.geq=>some (.b (decide (b<=a)))
 |_=>none
def Al(op:BinOp)(k:d8)(M:Nat)(a b:Int):am aj:=
 match op with
 |.add=>match a,b with
  |.ofNat m,.ofNat n=>some (.i k (((m+n)%M:Nat):Int))
  |a,b=>rJ .add k a b
 |.sub=>match a,b with
  |.ofNat m,.ofNat n=>some (.i k (((m+(M*n-n))%M:Nat):Int))
  |a,b=>rJ .sub k a b
 |.mul=>match a,b with
  |.ofNat m,.ofNat n=>some (.i k ((m*n%M:Nat):Int))
  |a,b=>rJ .mul k a b
 |.quo=>match a,b with
  |.ofNat m,.ofNat n=>if n=0 then none else some (.i k ((m/n%M:Nat):Int))
  |a,b=>rJ .quo k a b
 |.rem=>match a,b with
  |.ofNat m,.ofNat n=>if n=0 then none else some (.i k ((m%n:Nat):Int))
  |a,b=>rJ .rem k a b
 |.and=>match a,b with
  |.ofNat m,.ofNat n=>some (.i k (((m%M)&&&(n%M):Nat):Int))
  |a,b=>rJ .and k a b
 |.or=>match a,b with
  |.ofNat m,.ofNat n=>some (.i k (((m%M)|||(n%M):Nat):Int))
  |a,b=>rJ .or k a b
 |op=>rJ op k a b
def Ld(op:BinOp)(k:d8)(a b:Int):am aj:=
 match k with
 |.u8=>Al op .u8 256 a b
 |.u16=>Al op .u16 65536 a b
 |.u32=>Al op .u32 4294967296 a b
 |.u64=>Al op .u64 18446744073709551616 a b
 |k=>rJ op k a b
def Am(k:d8)(M:Nat)(n:Int):am aj:=
 match n with
 |.ofNat m=>some (.i k ((m%M:Nat):Int))
 |n=>some (.i k (k.wrap n))
def Lf(k:d8)(n:Int):am aj:=
 match k with
 |.u8=>Am .u8 256 n
 |.u16=>Am .u16 65536 n
 |.u32=>Am .u32 4294967296 n
 |.u64=>Am .u64 18446744073709551616 n
 |k=>some (.i k (k.wrap n))
def Aq(k:d8)(M:Nat)(a b:Int):am aj:=
 match a,b with
 |.ofNat m,.ofNat n=>some (.i k ((m*2^n%M:Nat):Int))
 |_,_=>none
def Lu(k:d8)(a b:Int):am aj:=
 match b with
 |.ofNat n=>match Nat.ble n k.bits with
  |true=>some (.i k (k.wrap (a*2^n)))
  |false=>none
 |_=>none
def Lt(k:d8)(a b:Int):am aj:=
 match k with
 |.u8=>Aq .u8 256 a b
 |.u16=>Aq .u16 65536 a b
 |.u32=>Aq .u32 4294967296 a b
 |.u64=>Aq .u64 18446744073709551616 a b
 |k=>Lu k a b
def Lv(k:d8)(a b:Int):am aj:=
 match b with
 |.ofNat n=>match Nat.ble n k.bits with
  |true=>match a with
   |.ofNat m=>some (.i k ((m/2^n:Nat):Int))
   |a=>some (.i k (a.fdiv (2^n)))
  |false=>none
 |_=>none
def Rj(op:BinOp)(k k':d8)(a b:Int):am aj:=
 match op with
 |.shl=>Lt k a b
 |.shr=>Lv k a b
 |op=>match kK k k' with
  |true=>Ld op k a b
  |false=>none
def Le(op:BinOp):aj->aj->am aj
 |.i k a,.i k' b=>Rj op k k' a b
 |.s x,.s y=>match op with
  |.eql=>some (.b (x==y))
  |.neq=>some (.b (!(x==y)))
  |_=>none
 |_,_=>none
def Lw(op:UnOp):aj->am aj
 |.i k n=>match op with
  |.neg=>some (.i k (k.wrap (-n)))
  |.xor=>some (.i k (k.wrap (BitVec.ofInt k.bits (if k.signed then -1 else k.max)^^^BitVec.ofInt k.bits n).toNat))
  |_=>none
 |.b t=>match op with
  |.not=>some (.b (!t))
  |_=>none
 |_=>none
def l8(neg:Bool)(b:Bool):Bool:=cond neg (!b) b
def Li(neg:Bool):qw->aj->aj->am aj
 |.tG,.b x,.b y=>some (.b (l8 neg (x==y)))
 |.tG,.i k x,.i k' y=>match kK k k' with
  |true=>some (.b (l8 neg (decide (x=y))))
  |false=>none
 |.tG,.s x,.s y=>some (.b (l8 neg (x==y)))
 |.lD,.nl,.nl=>some (.b (l8 neg true))
 |.lD,.jT _ _ _ l,.nl=>some (.b (l8 neg l.isEmpty))
 |.lD,.a5 _ _ _ _ _,.nl=>some (.b (l8 neg false))
 |.lD,.nl,.a5 _ _ _ _ _=>some (.b (l8 neg false))
 |.ptr,.p _ _,.v (.pointer none)=>some (.b (l8 neg false))
 |.ptr,.gk _ _ _ _,.v (.pointer none)=>some (.b (l8 neg false))
 |.ptr,.ip _,.v (.pointer none)=>some (.b (l8 neg false))
 |.xh,.fn _ _ _,.v .nilFunc=>some (.b (l8 neg false))
 |_,_,_=>none
def GK(e:bQ)(k:d8):ac bv->Int->am aj
 |[],m=>some (.i k m)
 |x::xs,m=>match bM e x with
  |some (.i k' y)=>match kK k k' with
   |true=>GK e k xs (max m y)
   |false=>none
  |_=>none
def GL(e:bQ)(k:d8):ac bv->Int->am aj
 |[],m=>some (.i k m)
 |x::xs,m=>match bM e x with
  |some (.i k' y)=>match kK k k' with
   |true=>GL e k xs (min m y)
   |false=>none
  |_=>none
def KA{β:Type _}:ac aj->Nat->(ac aj->am β)->am β
 |_,0,K=>K []
 |[],_+1,_=>none
 |a::as,n+1,K=>KA as n fun r=>K (a::r)
def E1:ac aj->Nat->Bool
 |[],0=>true
 |_::as,n+1=>E1 as n
 |_,_=>false
def ym{β:Type _}(cs:ac aj)(o n:Nat)(K:ac aj->am β):am β:=
 match o with
 |0=>match E1 cs n with
  |true=>K cs
  |false=>KA cs n K
 |o=>KA (cs.drop o) n K
def Jt(ig:Bool):ac aj->am aj
 |[a]=>match ig with
  |true=>some (.agg [a])
  |false=>some a
 |cs=>match ig with
  |true=>some (.agg cs)
  |false=>none
def Lo(e:bQ):da->am aj
 |.iu x=>bM e x
 |.kM x=>bM e x
 |.bin op x y=>match bM e x with
  |some a=>match bM e y with
   |some b=>Le op a b
   |none=>none
  |none=>none
 |.eqv neg t x y=>match bM e x with
  |some a=>match bM e y with
   |some b=>Li neg t a b
   |none=>none
  |none=>none
 |.un op x=>match bM e x with
  |some a=>Lw op a
  |none=>none
 |.uk k x=>match bM e x with
  |some (.i _ n)=>Lf k n
  |_=>none
 |.yj x=>match bM e x with
  |some (.s l)=>some (.s l)
  |_=>none
 |.sh f bJ cs=>match jq e bJ with
  |some as=>match jq e cs with
   |some bh=>some (.fn f as bh)
   |none=>none
  |none=>none
 |.rT x i=>match bM e x with
  |some (.bn vs)=>vs[i]?
  |_=>none
 |.pw x=>match bM e x with
  |some .nl=>some (.i .i64 0)
  |some (.a5 _ _ _ n _)=>some (.i .i64 (n:Int))
  |some (.bq _ _ _ l)=>some (.i .i64 (l.length:Int))
  |some (.jT _ _ _ l)=>some (.i .i64 (l.length:Int))
  |some (.cw _ _ _ l)=>some (.i .i64 (l.length:Int))
  |_=>none
 |.vd x=>match bM e x with
  |some (.s l)=>some (.i .i64 (l.length:Int))
  |_=>none
 |.zh n=>some (.i .i64 (n:Int))
 |.qS off x=>match bM e x with
  |some (.p k o)=>some (.p k (o+off))
  |some (.gk k z j o)=>some (.gk k z j (o+off))
  |some (.ip cs)=>some (.ip (cs.drop off))
  |_=>none
 |.p3 off a4 ig x=>match bM e x with
  |some (.agg cs)=>ym cs off a4 (Jt ig)
  |_=>none
 |.tw x=>match bM e x with
  |some (.p k o)=>some (.p k o)
  |some (.gk k z j o)=>some (.gk k z j o)
  |some (.ip cs)=>some (.ip cs)
  |some (.v (.func (.func g) a b))=>some (.v (.func (.func g) a b))
  |_=>none
 |.pick c x y=>match bM e c with
  |some (.b true)=>bM e x
  |some (.b false)=>bM e y
  |_=>none
 |.e8 x xs=>match bM e x with
  |some (.i k n)=>GK e k xs n
  |_=>none
 |.zs x xs=>match bM e x with
  |some (.i k n)=>GL e k xs n
  |_=>none
 |_=>none
end
section
variable{call:bF}{fr:aO}{x y i:bv}
variable{k:d8}
def YC{k':d8}(h:kK k k'=true):k=k':=by cases k<;>cases k'<;>first|rfl|cases h
def ug{op:BinOp}{a b:Int}{r:aj}(h:rJ op k a b=some r)(I:op≠.shl)(U:op≠.shr)(aa:fr.ak x= .int k a)(aJ:fr.ak y= .int k b):
 ∃v,(∀H ids,den H r ids v)∧∀st,bG call (.bin op x y) fr st= .ok v fr st:=by
 have key:∀v,sc op k a b=some v->(∀H ids,den H r ids v)->∃v,(∀H ids,den H r ids v)∧∀st,bG call (.bin op x y) fr st= .ok v fr st:=
  fun v e d=>⟨v,d,fun st=>BZ I U aa aJ e⟩
 cases op<;>simp only[rJ]at h
 case quo=>split at h<;>cases h;rename_i hb;exact key _ (by simp only[sc,zaa hb]) fun _ _=>rfl
 case rem=>split at h<;>cases h;rename_i hb;exact key _ (by simp only[sc,zaa hb]) fun _ _=>rfl
 all_goals first
  |(cases h;done)
  |(cases h;exact key _ rfl fun _ _=>rfl)
  |(cases h;exact key _ rfl fun _ _=>by show Value.bool _=Value.bool _;congr 1;rw[zaU];simp)
def ya(k:d8)(M:Nat):Prop:=(∀n:Int,k.wrap n=n%(M:Int))∧M=2^k.bits
variable{r:aj}{k':d8}{H:bm}{ids:ac Nat}{op:BinOp}{n M:Nat}{cs:ac aj}{o:Nat}
def QL:ya .u8 256:=⟨fun n=>by rw[<-l3];exact tV _ _ (by decide),rfl⟩
def QI:ya .u16 65536:=⟨fun n=>by rw[<-l3];exact tV _ _ (by decide),rfl⟩
def QJ:ya .u32 4294967296:=⟨fun n=>by rw[<-l3];exact tV _ _ (by decide),rfl⟩
def QK:ya .u64 18446744073709551616:=⟨fun n=>by rw[<-l3];exact tV _ _ (by decide),rfl⟩
def GG(mH:ya k M){a b:Int}(h:Al op k M a b=some r)(I:op≠.shl)(U:op≠.shr)(aa:fr.ak x= .int k a)(aJ:fr.ak y= .int k b):
 ∃v,(∀H ids,den H r ids v)∧∀st,bG call (.bin op x y) fr st= .ok v fr st:=by
 have hp:0<M:=by rw[mH.2];exact zaE _
 have key:∀v,sc op k a b=some v->(∀H ids,den H r ids v)->∃v,(∀H ids,den H r ids v)∧∀st,bG call (.bin op x y) fr st= .ok v fr st:=
  fun v e d=>⟨v,d,fun st=>BZ I U aa aJ e⟩
 have wE:∀{m n:Int},m=n->∀(H:bm) (ids:ac Nat),den H (.i k n) ids (.int k m):=fun e _ _=>by rw[e];rfl
 have wn:∀n:Nat,k.wrap (n:Int)=((n%M:Nat):Int):=fun n=>by rw[mH.1];rfl
 have axo:∀n:Nat,n%M<2^k.bits:=fun n=>by rw[<-mH.2];exact zai _ hp
 unfold Al at h;split at h
 ·split at h
  ·rename_i m n;cases h;exact key _ rfl (wE (wn (m+n)))
  ·exact ug h I U aa aJ
 ·split at h
  ·rename_i m n;cases h;refine key _ rfl (wE ?_);rw[mH.1];have e:((m+(M*n-n):Nat):Int)=((m:Int)-n)+M*n:=by
    have:n<=M*n:=Nat.le_mul_of_pos_left n hp;rw[Int.natCast_add,Int.ofNat_sub this,zaY];omega
   rw[Int.natCast_emod,e,Int.add_mul_emod_self_left];rfl
  ·exact ug h I U aa aJ
 ·split at h
  ·rename_i m n;cases h;exact key _ rfl (wE (wn (m*n)))
  ·exact ug h I U aa aJ
 ·split at h
  ·rename_i m n;split at h<;>cases h;rename_i hn;refine key (.int k (k.wrap ((m:Int).tdiv n))) (by show(if(n:Int)=0 then none else _)=_;rw[zaa (by omega)];rfl) (wE ?_);exact wn (m/n)
  ·exact ug h I U aa aJ
 ·split at h
  ·rename_i m n;split at h<;>cases h;rename_i hn;exact key (.int k ((m:Int).tmod n)) (by show(if(n:Int)=0 then none else _)=_;rw[zaa (by omega)];rfl) (wE rfl)
  ·exact ug h I U aa aJ
 ·split at h
  ·rename_i m n;cases h;refine key _ rfl (wE ?_);show k.wrap ((BitVec.ofInt k.bits (m:Int)&&&BitVec.ofInt k.bits (n:Int)).toNat:Nat)=_;rw[BitVec.toNat_and,zbz,zbz,zdo,zdo,<-mH.2,wn,hy];rw[mH.2];exact Nat.and_lt_two_pow _ (by rw[<-mH.2];exact zai _ hp)
  ·exact ug h I U aa aJ
 ·split at h
  ·rename_i m n;cases h;refine key _ rfl (wE ?_);show k.wrap ((BitVec.ofInt k.bits (m:Int)|||BitVec.ofInt k.bits (n:Int)).toNat:Nat)=_;rw[BitVec.toNat_or,zbz,zbz,zdo,zdo,<-mH.2,wn,hy];rw[mH.2];exact Nat.or_lt_two_pow (by rw[<-mH.2];exact zai _ hp) (by rw[<-mH.2];exact zai _ hp)
  ·exact ug h I U aa aJ
 ·exact ug h I U aa aJ
def aeh{a b:Int}(h:Ld op k a b=some r)(I:op≠.shl)(U:op≠.shr)(aa:fr.ak x= .int k a)(aJ:fr.ak y= .int k b):
 ∃v,(∀H ids,den H r ids v)∧∀st,bG call (.bin op x y) fr st= .ok v fr st:=by
 unfold Ld at h;split at h
 ·exact GG QL h I U aa aJ
 ·exact GG QI h I U aa aJ
 ·exact GG QJ h I U aa aJ
 ·exact GG QK h I U aa aJ
 ·exact ug h I U aa aJ
def aej{n:Int}(h:Lf k n=some r)(H:bm)(ids:ac Nat):den H r ids (.int k (k.wrap n)):=by
 have u:∀{k:d8} {M:Nat},ya k M->Am k M n=some r->den H r ids (.int k (k.wrap n)):=fun mH h=>by
  unfold Am at h;split at h<;>cases h
  ·show Value.int _ _=Value.int _ _;rw[mH.1];rfl
  ·rfl
 unfold Lf at h;split at h
 ·exact u QL h
 ·exact u QI h
 ·exact u QJ h
 ·exact u QK h
 ·cases h;rfl
def aco{a:Int}(aa:fr.ak x= .int k a)(aJ:fr.ak y= .int k' (n:Int))(st:ar):bG call (.bin .shl x y) fr st= .ok (.int k (k.wrap (a*2^(min n k.bits)))) fr st:=by
 rw[Ft,aa,aJ,Mg];show iv (n:Int) (fun n=>iI k (zS k a n) (fun v=>a1.ok v fr st)) a1.no=_;rw[sj,iZ];have:zS k a n=k.wrap (a*2^(min n k.bits)):=by
  unfold zS;rw[l3,OG];simp
 rw[this]
def GS(mH:ya k M){a b:Int}(h:Aq k M a b=some r)(aa:fr.ak x= .int k a)(aJ:fr.ak y= .int k' b):
 ∃v,(∀H ids,den H r ids v)∧∀st,bG call (.bin .shl x y) fr st= .ok v fr st:=by
 unfold Aq at h;split at h
 ·rename_i m n;cases h;refine⟨_,fun H ids=> ?_,fun st=>aco aa aJ st⟩;show Value.int _ _=Value.int _ _;congr 1;have e:((m:Int)*2^(min n k.bits))=((m*2^(min n k.bits):Nat):Int):=by simp
  show k.wrap ((m:Int)*2^(min n k.bits))=_;rw[e,mH.1,<-Int.natCast_emod];congr 1;rcases Nat.le_total n k.bits with hn|hn
  ·rw[zaF hn]
  ·rw[Nat.min_eq_right hn,<-mH.2];have:2^n=M*2^(n-k.bits):=by rw[mH.2,<-zat];congr 1;omega
   rw[this,Nat.mul_mod_left,<-zaA,zam m M,zaA,Nat.mul_mod_right]
 ·cases h
def aeT{a b:Int}(h:Lu k a b=some r)(aa:fr.ak x= .int k a)(aJ:fr.ak y= .int k' b):
 ∃v,(∀H ids,den H r ids v)∧∀st,bG call (.bin .shl x y) fr st= .ok v fr st:=by
 unfold Lu at h;cases b with
 |negSucc n=>cases h
 |ofNat n=>
  simp only at h;split at h<;>cases h;rename_i hn;refine⟨_,fun _ _=> ?_,fun st=>aco aa aJ st⟩;rw[zaF (jw hn)];rfl
def aeU{a b:Int}(h:Lt k a b=some r)(aa:fr.ak x= .int k a)(aJ:fr.ak y= .int k' b):
 ∃v,(∀H ids,den H r ids v)∧∀st,bG call (.bin .shl x y) fr st= .ok v fr st:=by
 unfold Lt at h;split at h
 ·exact GS QL h aa aJ
 ·exact GS QI h aa aJ
 ·exact GS QJ h aa aJ
 ·exact GS QK h aa aJ
 ·exact aeT h aa aJ
def RW{a b:Int}(h:Lv k a b=some r)(aa:fr.ak x= .int k a)(aJ:fr.ak y= .int k' b):
 ∃v,(∀H ids,den H r ids v)∧∀st,bG call (.bin .shr x y) fr st= .ok v fr st:=by
 unfold Lv at h;cases b with
 |negSucc n=>cases h
 |ofNat n=>
  simp only at h;split at h<;>try cases h
  rename_i hn;have hn:=jw hn;have e:∀st,bG call (.bin .shr x y) fr st= .ok (.int k (vC k a n)) fr st:=fun st=>by
   rw[Ft,aa,aJ,Mg];show iv (n:Int) (fun n=>iI k (vC k a n) (fun v=>a1.ok v fr st)) a1.no=_;rw[sj,iZ]
  refine⟨_,?_,e⟩;intro H ids;cases a with
  |ofNat m=>
   cases h;show Value.int _ _=Value.int _ _;congr 1;show vC k (m:Int) n=_;unfold vC;rw[sj,zaF hn];rfl
  |negSucc m=>
   cases h;show Value.int _ _=Value.int _ _;congr 1;unfold vC;rw[zaF hn];rfl
def aeg(h:Le op a b=some r)(aa:den H a ids (fr.ak x))(aJ:den H b ids (fr.ak y)):
 ∃v,(∀H ids,den H r ids v)∧∀st,bG call (.bin op x y) fr st= .ok v fr st:=by
 unfold Le at h;split at h
 ·rename_i k m k' n;have aa:fr.ak x= .int k m:=aa;have aJ:fr.ak y= .int k' n:=aJ;unfold Rj at h;split at h
  ·exact aeU h aa aJ
  ·exact RW h aa aJ
  ·rename_i I U;split at h
   ·rename_i ab;cases YC ab;exact aeh h (by simpa using I) (by simpa using U) aa aJ
   ·cases h
 ·rename_i l m;have aa:fr.ak x= .string ⟨⟨l⟩⟩:=aa;have aJ:fr.ak y= .string ⟨⟨m⟩⟩:=aJ;have e:∀st,bG call (.bin op x y) fr st=Dk op ⟨⟨l⟩⟩ ⟨⟨m⟩⟩ (fun v=>.ok v fr st):=fun st=>by rw[Ft,aa,aJ,TB]
  split at h<;>cases h
  ·exact⟨_,fun _ _=>rfl,e⟩
  ·exact⟨_,fun _ _=>rfl,e⟩
 ·cases h
def aeW{op:UnOp}(h:Lw op a=some r)(aa:den H a ids (fr.ak x)):
 ∃v,(∀H ids,den H r ids v)∧∀st,bG call (.un op x) fr st= .ok v fr st:=by
 unfold Lw at h;split at h
 ·rename_i k n;have aa:fr.ak x= .int k n:=aa;have e:∀st,bG call (.un op x) fr st=AX op (.int k n) (fun v=>.ok v fr st):=fun st=>by
   have:bG call (.un op x) fr st=AX op (fr.ak x) (fun v=>.ok v fr st):=rfl;rw[this,aa]
  split at h<;>cases h
  ·refine⟨_,fun _ _=>rfl,fun st=> ?_⟩;rw[e];simp only[AX,pI,iZ,l3,OJ]
  ·refine⟨_,fun _ _=>rfl,fun st=> ?_⟩;rw[e];simp only[AX,pI,iZ]
 ·rename_i t;have aa:fr.ak x= .bool t:=aa;split at h<;>cases h;refine⟨_,fun _ _=>rfl,fun st=> ?_⟩;have:bG call (.un .not x) fr st=AX .not (fr.ak x) (fun v=>.ok v fr st):=rfl;rw[this,aa];rfl
 ·cases h
def ael{neg:Bool}{t:qw}(h:Li neg t a b=some r)(aa:den H a ids (fr.ak x))(aJ:den H b ids (fr.ak y)):
 ∃v,(∀H ids,den H r ids v)∧∀st,bG call (.eqv neg t x y) fr st= .ok v fr st:=by
 have key:∀c,nY 8 t (fr.ak x) (fr.ak y)=some c->r= .b (l8 neg c)->∃v,(∀H ids,den H r ids v)∧∀st,bG call (.eqv neg t x y) fr st= .ok v fr st:=by
  intro c hc aD;subst aD;refine⟨_,fun _ _=>rfl,fun st=> ?_⟩;show bp (nY 8 t (fr.ak x) (fr.ak y)) (fun b=>a1.ok (.bool (cond neg (!b) b)) fr st) .no=_;rw[hc];rfl
 unfold Li at h;split at h
 ·cases h;exact key _ (by rw[show fr.ak x=_ from aa,show fr.ak y=_ from aJ];simp only[nY,AU]) rfl
 ·split at h<;>cases h;rename_i ab;cases YC ab;refine key _ ?_ rfl;rw[show fr.ak x=_ from aa,show fr.ak y=_ from aJ];simp only[nY,AU];simp only[if_true];congr 1
 ·cases h;exact key _ (by rw[show fr.ak x=_ from aa,show fr.ak y=_ from aJ];simp only[nY,AU]) rfl
 ·cases h;exact key true (by rw[show fr.ak x=_ from aa,show fr.ak y=_ from aJ];simp[nY,p0]) rfl
 ·cases h;rcases aa with⟨rfl,aa⟩|⟨hn,b,o,c,vs,el,bk,bc,aa,_⟩
  ·exact key true (by rw[aa,show fr.ak y=_ from aJ];simp[nY,p0]) rfl
  ·exact key false (by rw[aa,show fr.ak y=_ from aJ];simp[nY,p0]) (by rw[zdW.2 hn])
 ·cases h;obtain⟨b,_,aa⟩:=aa;exact key false (by rw[aa,show fr.ak y=_ from aJ];simp[nY,p0]) rfl
 ·cases h;obtain⟨b,_,aJ⟩:=aJ;exact key false (by rw[show fr.ak x=_ from aa,aJ];simp[nY,p0]) rfl
 ·cases h;obtain⟨b,_,aa⟩:=aa;exact key false (by rw[aa,show fr.ak y=_ from aJ];simp[nY,wF]) rfl
 ·cases h;obtain⟨b,_,aa⟩:=aa;exact key false (by rw[aa,show fr.ak y=_ from aJ];simp[nY,wF]) rfl
 ·cases h;obtain⟨b,o,vs,el,bk,bc,aa,_⟩:=aa;exact key false (by rw[aa,show fr.ak y=_ from aJ];simp[nY,wF]) rfl
 ·cases h;obtain⟨b,o,aa,_⟩:=aa;exact key false (by rw[aa,show fr.ak y=_ from aJ];simp[nY,AS]) rfl
 ·cases h
theorem Rw{H:bm}{ids:ac Nat}{e:bQ}(af:cU fr H ids e){k:d8}:∀{xs:ac bv} {m:Int} {r:aj},GK e k xs m=some r->∃n,r= .i k n∧E5 k fr xs m=some n
 |[],m,r,h=>by cases h;exact⟨m,rfl,rfl⟩
 |x::xs,m,r,h=>by
  unfold GK at h;split at h<;>try cases h
  rename_i k' z aa;split at h<;>try cases h
  rename_i ab;obtain⟨n,I,U⟩:=Rw af h;refine⟨n,I,?_⟩;have aE:fr.ak x= .int k' z:=af.ak aa;show g6 (fr.ak x) (fun k' y=>cond (kK k k') (E5 k fr xs (cond (nv y m) m y)) none) none=_;rw[aE,pI,ab,cond_true,<-U];congr 1;rw[tr];by_cases ax:z<=m
  ·rw[zae ax,cond_true];omega
  ·rw[zad ax,cond_false];omega
theorem Rx{H:bm}{ids:ac Nat}{e:bQ}(af:cU fr H ids e){k:d8}:∀{xs:ac bv} {m:Int} {r:aj},GL e k xs m=some r->∃n,r= .i k n∧E6 k fr xs m=some n
 |[],m,r,h=>by cases h;exact⟨m,rfl,rfl⟩
 |x::xs,m,r,h=>by
  unfold GL at h;split at h<;>try cases h
  rename_i k' z aa;split at h<;>try cases h
  rename_i ab;obtain⟨n,I,U⟩:=Rx af h;refine⟨n,I,?_⟩;have aE:fr.ak x= .int k' z:=af.ak aa;show g6 (fr.ak x) (fun k' y=>cond (kK k k') (E6 k fr xs (cond (nv m y) m y)) none) none=_;rw[aE,pI,ab,cond_true,<-U];congr 1;rw[tr];by_cases ax:m<=z
  ·rw[zae ax,cond_true];omega
  ·rw[zad ax,cond_false];omega
theorem Qx{β:Type _}{r:β}:∀{cs:ac aj} {n:Nat} {K:ac aj->am β},KA cs n K=some r->n<=cs.length∧K (cs.take n)=some r
 |cs,0,K,h=>by
  have h:K []=some r:=by cases cs<;>exact h
  exact⟨zaf _,by simpa using h⟩
 |[],n+1,K,h=>by cases h
 |a::as,n+1,K,h=>by
  obtain⟨I,U⟩:=Qx (cs:=as) (n:=n) h;exact⟨by simpa using I,by simpa using U⟩
theorem IT:∀{cs:ac aj} {n:Nat},E1 cs n=true->cs.length=n
 |[],0,_=>rfl
 |[],n+1,h=>by cases h
 |_::_,0,h=>by cases h
 |a::as,n+1,h=>by simp[IT (cs:=as) (n:=n) h]
def DB{β:Type _}{r:β}{K:ac aj->am β}(h:ym cs o n K=some r):n<=(cs.drop o).length∧K ((cs.drop o).take n)=some r:=by
 unfold ym at h;split at h
 ·split at h
  ·rename_i hl;have:=IT hl;refine⟨by simp;omega,?_⟩;rw[zaq,zau (by omega)];exact h
  ·exact Qx h
 ·exact Qx h
def qM{β:Type}(h:n<=(l.drop o).length)(k:ac α->β)(z:β):iB l o n k z=k ((l.drop o).take n):=by
 unfold iB;rw[DJ,Ga,zab h];rfl
def aav{ig:Bool}(h:Jt ig cs=some r):(ig=true∧r= .agg cs)∨(ig=false∧cs=[r]):=by
 unfold Jt at h;split at h<;>split at h<;>cases h
 ·exact .inl ⟨rfl,rfl⟩
 ·exact .inr ⟨rfl,rfl⟩
 ·exact .inl ⟨rfl,rfl⟩
def qz(b o n:Nat):(⟨b,o,none⟩:Addr).add n=⟨b,o+n,none⟩:=by
 unfold Addr.add;split
 ·rename_i h;rw[h];rfl
 ·rfl
def aey{e:bQ}(af:cU fr H ids e){o:da}(h:Lo e o=some r):∃v,den H r ids v∧∀st,bG call o fr st= .ok v fr st:=by
 have up:∀{r:aj} {o:da},(∃v,(∀H ids,den H r ids v)∧∀st,bG call o fr st= .ok v fr st)->∃v,den H r ids v∧∀st,bG call o fr st= .ok v fr st:=fun⟨v,I,U⟩=>⟨v,I _ _,U⟩;cases o<;>simp only[Lo]at h
 case iu x=>exact⟨_,af.ak h,fun st=>rfl⟩
 case kM x=>exact⟨_,af.ak h,fun st=>rfl⟩
 case bin op x y=>
  split at h<;>try cases h
  split at h<;>try cases h
  rename_i aa _ _ aJ;exact up (aeg h (af.ak aa) (af.ak aJ))
 case eqv neg t x y=>
  split at h<;>try cases h
  split at h<;>try cases h
  rename_i aa _ _ aJ;exact up (ael h (af.ak aa) (af.ak aJ))
 case un op x=>
  split at h<;>try cases h
  rename_i aa;exact up (aeW h (af.ak aa))
 case uk k x=>
  split at h<;>try (cases h;done)
  rename_i k' n aa;have aa:fr.ak x= .int k' n:=af.ak aa;exact⟨_,aej h H ids,fun st=>aqC aa⟩
 case yj x=>
  split at h<;>try cases h
  rename_i l aa;have aa:fr.ak x= .string ⟨⟨l⟩⟩:=af.ak aa;refine⟨_,rfl,fun st=> ?_⟩;show jv (fr.ak x) _ _=_;rw[aa];rfl
 case sh f bJ cs=>
  split at h<;>try cases h
  split at h<;>try cases h
  rename_i I _ _ U;exact⟨_,⟨_,_,rfl,af.dG I,af.dG U⟩,fun st=>rfl⟩
 case rT x i=>
  split at h<;>try cases h
  rename_i vs aa;obtain⟨ws,aa,ay⟩:=af.ak aa;obtain⟨v,aE,ay⟩:=wx ay h;refine⟨v,ay,fun st=> ?_⟩;show rD (fr.ak x) (fun vs=>iB vs.toList i 1 (fun l=>one l (fun v=>a1.ok v fr st) .no) .no) .no=_;rw[aa,avF];obtain⟨aT,w5⟩:=zac.1 aE;show iB ws i 1 _ _=_;rw[DC (by omega),hx aT,w5];rfl
 case pw x=>
  split at h<;>try cases h
  ·rename_i aa;have aa:fr.ak x= .slice none 0 0:=af.ak aa;exact⟨_,rfl,fun st=>xm aa⟩
  ·rename_i aa;obtain⟨b,_,aa⟩:=af.ak aa;exact⟨_,rfl,fun st=>xm aa⟩
  ·rename_i aa;rcases af.ak aa with⟨hl,aa⟩|⟨b,o,c,vs,el,bk,bc,aa,_⟩
   ·rw[hl];exact⟨_,rfl,fun st=>xm aa⟩
   ·exact⟨_,rfl,fun st=>xm aa⟩
  ·rename_i aa;rcases af.ak aa with⟨hl,aa⟩|⟨_,b,o,c,vs,el,bk,bc,aa,_⟩
   ·rw[hl];exact⟨_,rfl,fun st=>xm aa⟩
   ·exact⟨_,rfl,fun st=>xm aa⟩
  ·rename_i aa;rcases af.ak aa with⟨hl,aa⟩|⟨hl,aa⟩|⟨b,o,c,vs,el,bk,bc,aa,_⟩
   ·rw[hl];exact⟨_,rfl,fun st=>aqE aa⟩
   ·rw[hl];exact⟨_,rfl,fun st=>xm aa⟩
   ·exact⟨_,rfl,fun st=>xm aa⟩
 case vd x=>
  split at h<;>try cases h
  rename_i l aa;have aa:fr.ak x= .string ⟨⟨l⟩⟩:=af.ak aa;exact⟨_,rfl,fun st=>by rw[aq0,aa,Gh]⟩
 case zh n=>cases h;exact⟨_,rfl,fun st=>rfl⟩
 case qS off x=>
  have e:∀{b o:Nat},fr.ak x= .pointer (some ⟨b,o,none⟩)->∀st,bG call (.qS off x) fr st= .ok (.pointer (some ⟨b,o+off,none⟩)) fr st:=fun aa st=>by
   show iM (fr.ak x) (fun p=>bp p (fun a=>a1.ok (.pointer (some (a.add off))) fr st) .no) .no=_;rw[aa,rC];show a1.ok (.pointer (some (Addr.add _ off))) fr st=_;rw[qz]
  split at h<;>try cases h
  ·rename_i aa;obtain⟨b,hb,aa⟩:=af.ak aa;exact⟨_,⟨b,hb,rfl⟩,e aa⟩
  ·rename_i k z j o aa;obtain⟨b,hb,aa⟩:=af.ak aa;exact⟨_,⟨b,hb,by rw[zbI]⟩,e aa⟩
  ·rename_i cs aa;obtain⟨b,o,vs,el,bk,bc,aa,hb,ay⟩:=af.ak aa;refine⟨_,⟨b,o+off,vs,el,bk,bc,rfl,hb,?_⟩,e aa⟩;have:=pW off ay;rw[zdX,zbu]at this;rw[zaz];exact this
 case p3 off a4 ig x=>
  split at h<;>try cases h
  rename_i cs aa;obtain⟨ws,aa,ay⟩:=af.ak aa;obtain⟨I,U⟩:=DB h;have ay:=wz a4 (pW off ay);have hl:=hP ay;have e:∀st,bG call (.p3 off a4 ig x) fr st=bp (cond ig (some (.agg ⟨(ws.drop off).take a4⟩)) (one ((ws.drop off).take a4) (fun v=>some v) none)) (fun v=>.ok v fr st) .no:=fun st=>by
   show sH (fr.ak x) (fun cs=>bp (vo off a4 ig cs.toList) (fun v=>a1.ok v fr st) .no) .no=_;rw[aa,avE];show bp (vo off a4 ig ws) _ _=_;unfold vo;rw[qM (by rw[zao,zao,zaF I]at hl;omega)]
  rcases aav U with⟨rfl,rfl⟩|⟨rfl,ag⟩
  ·exact⟨_,⟨_,rfl,ay⟩,fun st=>by rw[e];rfl⟩
  ·rw[ag]at ay;obtain⟨v,us,aE,ay,hn⟩:=ay;cases hn;rw[aE]at e;exact⟨v,ay,fun st=>by rw[e];rfl⟩
 case tw x=>
  have e:∀{a:Addr},fr.ak x= .pointer (some a)->∀st,bG call (.tw x) fr st= .ok (.pointer (some a)) fr st:=fun aa st=>by
   show iM (fr.ak x) (fun p=>bp p (fun a=>a1.ok (.pointer (some a)) fr st) .no) _=_;rw[aa];rfl
  split at h<;>try cases h
  ·rename_i aa;obtain⟨b,hb,aa⟩:=af.ak aa;exact⟨_,⟨b,hb,rfl⟩,e aa⟩
  ·rename_i aa;obtain⟨b,hb,aa⟩:=af.ak aa;exact⟨_,⟨b,hb,rfl⟩,e aa⟩
  ·rename_i aa;obtain⟨b,o,vs,el,bk,bc,aa,ay⟩:=af.ak aa;exact⟨_,⟨b,o,vs,el,bk,bc,rfl,ay⟩,e aa⟩
  ·rename_i g a b aa;have aa:fr.ak x= .func (.func g) a b:=af.ak aa;refine⟨_,rfl,fun st=> ?_⟩;have:bG call (.tw x) fr st=iM (fr.ak x) (fun p=>bp p (fun a=>a1.ok (.pointer (some a)) fr st) .no) (CN (fr.ak x) (fun f a b=>match f with|.func g=>.ok (.func (.func g) a b) fr st|_=>.no) .no):=rfl;rw[this,aa];rfl
 case pick c x y=>
  split at h
  ·rename_i hc;exact⟨_,af.ak h,fun st=>aqH (af.ak hc) rfl rfl⟩
  ·rename_i hc;exact⟨_,af.ak h,fun st=>aqG (af.ak hc) rfl rfl⟩
  ·cases h
 case e8 x xs=>
  split at h<;>try cases h
  rename_i k n aa;have aa:fr.ak x= .int k n:=af.ak aa;obtain⟨m,rfl,hm⟩:=Rw af h;refine⟨_,rfl,fun st=> ?_⟩;show g6 (fr.ak x) (fun k n=>bp (E5 k fr xs n) (fun m=>iI k m fun v=>a1.ok v fr st) .no) .no=_;rw[aa,pI,hm,Sym.eB,iZ]
 case zs x xs=>
  split at h<;>try cases h
  rename_i k n aa;have aa:fr.ak x= .int k n:=af.ak aa;obtain⟨m,rfl,hm⟩:=Rx af h;refine⟨_,rfl,fun st=> ?_⟩;show g6 (fr.ak x) (fun k n=>bp (E6 k fr xs n) (fun m=>iI k m fun v=>a1.ok v fr st) .no) .no=_;rw[aa,pI,hm,Sym.eB,iZ]
 all_goals cases h
end
inductive aY:Type 1
 |c (el:TypeId) (cs:List aj)
 |a (el:TypeId) (bc:Bool) (z:Nat) (α:Type) (R:α->List aj) (l:List α)
 |x
def aY.live:aY->Bool
 |.x=>false
 |_=>true
def k4(H:bm)(ids:ac Nat):aY->am bB->Prop
 |.c el cs,eH=>∃vs,eH=some (.cells vs el (0,0) false)∧c4 H cs ids vs
 |.a el bc z _ R l,eH=>∃vs,eH=some (.cells vs el (0,0) bc)∧vs.length=l.length*z∧∀i x,l[i]? =some x->c4 H (R x) ids ((vs.drop (i*z)).take z)
 |.x,_=>True
def rO{H a2:bm}{i j:ac Nat}(h:dm H a2)(ae:c0 i j):∀{o:aY} {eH:am bB},k4 H i o eH->k4 a2 j o eH
 |.c _ _,_,⟨vs,e,d⟩=>⟨vs,e,mC h _ ae d⟩
 |.a _ _ _ _ _ _,_,⟨vs,e,bS,d⟩=>⟨vs,e,bS,fun k x aa=>mC h _ ae (d k x aa)⟩
 |.x,_,_=>trivial
structure cB where
 own:ac aY
 n:Nat
 env:bQ
structure Fit(H:bm)(ids:ac Nat)(st:ar)(own:ac aY)(n:Nat):Prop where
 wf:∀i,st.ai<=i->st.h.get i=none
 le:∀b o,H b=some o->st.h.get b=some o
 cr:own.length=n
 len:ids.length=n
 g9:ids.Nodup
 lt:∀b∈ids,b<st.ai
 own:∀(k:Nat) (o:aY) (b:Nat),own[k]? =some o->ids[k]? =some b->k4 H ids o (st.h.get b)∧(o.live=true->H b=none)
structure cG(bT:bm)(i0:ac Nat)(aN:ar)(H:bm)(ids:ac Nat)(st:ar):Prop where
 hle:dm bT H
 hold:∀b,b<aN.ai->b∉i0->H b=bT b
 gh:∀b,b<aN.ai->b∉i0->st.h.get b=aN.h.get b
 ai:aN.ai<=st.ai
 iY:c0 i0 ids
 new:∀b∈ids,b∈i0∨aN.ai<=b
variable{H:bm}{ids:ac Nat}{st:ar}{n:Nat}{o:aY}{eH:bB}{bT:bm}{i0:ac Nat}{aN:ar}
def Fit.aT{own:ac aY}(h:Fit H ids st own n){b:Nat}{o:bB}(hb:H b=some o):b<st.ai:=by
 rcases zaj b st.ai with aG|aG
 ·exact aG
 ·have:=h.le b o hb;rw[h.wf b aG]at this;cases this
def Fit.tb{own:ac aY}(h:Fit H ids st own n){b:Nat}(hb:st.ai<=b):H b=none:=by
 cases e:H b with
 |none=>rfl
 |some o=>have:=h.aT e;omega
def Fit.add{own:ac aY}(h:Fit H ids st own n)(d:k4 H (ids++[st.ai]) o (some eH)):
 Fit H (ids++[st.ai]) ⟨st.h.set st.ai eH,st.ai+1⟩ (own++[o]) (n+1):=by
 have ta:st.ai∉ids:=fun hm=>by have:=h.lt _ hm;omega
 refine⟨?_,?_,by simp[h.cr],by simp[h.len],?_,?_,?_⟩
 ·intro i ae;show(st.h.set st.ai eH).get i=none;have ae:st.ai+1<=i:=ae;rw[aq.gq _ _ (by omega)];exact h.wf i (by omega)
 ·intro b a8 hb;show(st.h.set st.ai eH).get b=_;have:=h.aT hb;rw[aq.gq _ _ (by omega)];exact h.le b a8 hb
 ·rw[zdY];refine⟨h.g9,by simp,?_⟩;intro a ha b hb;simp at hb;subst hb;exact fun e=>ta (e▸ha)
 ·intro b hb;simp at hb;show b<st.ai+1;rcases hb with hb|hb
  ·have:=h.lt b hb;omega
  ·omega
 ·intro k a8 b ab hb;show k4 _ _ _ ((st.h.set st.ai eH).get b)∧_;by_cases Em:k<own.length
  ·rw[zaD Em]at ab;rw[zaD (by rw[h.len,<-h.cr];exact Em)]at hb;obtain⟨I,U⟩:=h.own k a8 b ab hb;have:b≠st.ai:=fun e=>ta (e▸zal hb);rw[aq.gq _ _ this];exact⟨rO (dm.refl _) (c0.app _ _) I,U⟩
  ·have fF:=(zac.1 ab).1;simp at fF;have Em:k=own.length:=by omega
   subst Em;rw[zav (cf _)]at ab;have hl:own.length=ids.length:=by rw[h.len,h.cr]
   rw[hl,zav (cf _)]at hb;simp at ab hb;subst ab hb;rw[aq.oF];exact⟨d,fun _=>h.tb (cf _)⟩
def cG.add(h:cG bT i0 aN H ids st)(eH:bB):cG bT i0 aN H (ids++[st.ai]) ⟨st.h.set st.ai eH,st.ai+1⟩:=by
 refine⟨h.hle,h.hold,?_,by have:=h.ai;show aN.ai<=st.ai+1;omega,fun k b e=>c0.app _ _ k b (h.iY k b e),?_⟩
 ·intro b hb hn;show(st.h.set st.ai eH).get b=_;have:=h.ai;rw[aq.gq _ _ (by omega)];exact h.gh b hb hn
 ·intro b hb;simp at hb;rcases hb with hb|hb
  ·exact h.new b hb
  ·right;rw[hb];exact h.ai
def Fit.hv{own:ac aY}(h:Fit H ids st own n){k b:Nat}{a8:aY}(ab:own[k]? =some o)(hl:o.live=true)(hb:ids[k]? =some b)(d:k4 H ids a8 (some eH)):
 Fit H ids ⟨st.h.set b eH,st.ai⟩ (own.set k a8) n:=by
 have aT:b<st.ai:=h.lt b (zal hb);have fc:H b=none:=(h.own k o b ab hb).2 hl;refine⟨?_,?_,by simp[h.cr],h.len,h.g9,h.lt,?_⟩
 ·intro i ae;show(st.h.set b eH).get i=none;have ae:st.ai<=i:=ae;rw[aq.gq _ _ (by omega)];exact h.wf i ae
 ·intro c q hc;show(st.h.set b eH).get c=_;rw[aq.gq _ _ (fun e=>by rw[e,fc]at hc;cases hc)];exact h.le c q hc
 ·intro j q c hj hc;show k4 _ _ _ ((st.h.set b eH).get c)∧_;rw[zaG]at hj;by_cases im:k=j
  ·subst im;rw[hb]at hc;cases hc;rw[zab rfl]at hj;split at hj<;>cases hj;rw[aq.oF];exact⟨d,fun _=>fc⟩
  ·rw[zaa im]at hj;have:c≠b:=fun e=>by
    subst e;have I:=(zac.1 hb);have U:=(zac.1 hc);exact im ((zbC (h₀:=I.1) (h₁:=U.1) h.g9).1 (I.2.trans U.2.symm))
   rw[aq.gq _ _ this];exact h.own j q c hj hc
def cG.hv(h:cG bT i0 aN H ids st){b:Nat}(hb:b∈ids)(eH:bB):cG bT i0 aN H ids ⟨st.h.set b eH,st.ai⟩:=by
 refine⟨h.hle,h.hold,?_,h.ai,h.iY,h.new⟩;intro c hc hn;show(st.h.set b eH).get c=_;rw[aq.gq _ _ (fun e=>by
  subst e;rcases h.new _ hb with I|I
  ·exact hn I
  ·omega)]
 exact h.gh c hc hn
section
def v7(own:ac aY)(e:bQ):da->am aj
 |.jr x=>match bM e x with
  |some (.p k o)=>match own[k]? with
   |some (.c _ cs)=>cs[o]?
   |_=>none
  |some (.gk k z j o)=>match own[k]? with
   |some (.c _ cs)=>cs[j*z+o]?
   |_=>none
  |some (.ip cs)=>cs[0]?
  |_=>none
 |.rf n x=>match bM e x with
  |some (.p k o)=>match own[k]? with
   |some (.c _ cs)=>ym cs o n fun l=>some (.agg l)
   |_=>none
  |some (.gk k z j o)=>match own[k]? with
   |some (.c _ cs)=>ym cs (j*z+o) n fun l=>some (.agg l)
   |_=>none
  |some (.ip cs)=>ym cs 0 n fun l=>some (.agg l)
  |_=>none
 |_=>none
def re(e:bQ):da->am Nat
 |.jr x|.rf _ x=>match bM e x with
  |some (.p k _)|some (.gk k _ _ _)=>some k
  |_=>none
 |_=>none
end
section
variable{call:bF}{fr:aO}{x y i:bv}
variable{vs:ac bi}{el:ci}{bk:Nat×Nat}{bc:Bool}{e:bQ}{r:aj}
def BI{b o:Nat}(h:fr.ak x= .pointer (some ⟨b,o,none⟩))(al:st.h.get b=some (.cells vs el bk bc))(aE:vs[o]? =some v):bG call (.jr x) fr st= .ok v fr st:=aqF h rfl al aE
def Ol{b o:Nat}(h:fr.ak x= .pointer (some ⟨b,o,none⟩))(al:st.h.get b=some (.cells vs el bk bc))(hl:n<=(vs.drop o).length):bG call (.rf n x) fr st= .ok (.agg ⟨(vs.drop o).take n⟩) fr st:=by
 rw[aq1,h];show st.load ⟨b,o,none⟩ n _ _=_;unfold ar.load ar.gN;rw[Sym.gI,al,lr,qM hl]
def ava{o:Nat}{v:α}(h:((l.drop o).take n)[0]? =some v):l[o]? =some v:=by
 have:=(zac.1 h).1;rw[zaK]at h;split at h
 ·simpa using h
 ·cases h
def Lk{own:ac aY}(af:cU fr H ids e)(q4:own.length<=ids.length)(ao:∀(k:Nat) (o:aY) (b:Nat),own[k]? =some o->o.live=true->ids[k]? =some b->k4 H ids o (st.h.get b)){o:da}(h:v7 own e o=some r):
 ∃v,den H r ids v∧∀cc:ar,((∀b o,H b=some o->cc.h.get b=some o)∨∃k,re e o=some k)->(∀k b,re e o=some k->ids[k]? =some b->cc.h.get b=st.h.get b)->bG call o fr cc= .ok v fr cc:=by
 have obj:∀{k:Nat} {el:ci} {cs:ac aj},own[k]? =some (.c el cs)->∃b vs,ids[k]? =some b∧st.h.get b=some (.cells vs el (0,0) false)∧c4 H cs ids vs:=fun{k el cs} ab=>by
  have aT:=(zac.1 ab).1;have ae:k<ids.length:=by omega
  obtain⟨vs,I,U⟩:=ao k _ _ ab rfl (bg ae);exact⟨_,vs,bg ae,I,U⟩
 cases o<;>simp only[v7]at h
 case jr x=>
  split at h<;>try cases h
  ·rename_i k o aa;split at h<;>try cases h
   rename_i el cs ab;obtain⟨b,vs,hb,eJ,ay⟩:=obj ab;obtain⟨v,aE,ay⟩:=wx ay h;obtain⟨eR,I,U⟩:=af.ak aa;rw[hb]at I;cases I;exact⟨v,ay,fun cc _ ag=>BI U ((ag k b (by simp[re,aa]) hb).trans eJ) aE⟩
  ·rename_i k z j o aa;split at h<;>try cases h
   rename_i el cs ab;obtain⟨b,vs,hb,eJ,ay⟩:=obj ab;obtain⟨v,aE,ay⟩:=wx ay h;obtain⟨eR,I,U⟩:=af.ak aa;rw[hb]at I;cases I;exact⟨v,ay,fun cc _ ag=>BI U ((ag k b (by simp[re,aa]) hb).trans eJ) aE⟩
  ·rename_i cs aa;obtain⟨b,o,vs,el,bk,bc,I,U,ay⟩:=af.ak aa;obtain⟨v,aE,ay⟩:=wx ay h;refine⟨v,uv (dm.refl _) _ (c0.nil _) ay,fun cc ag _=> ?_⟩;rcases ag with ag|⟨k,ag⟩
   ·exact BI I (ag _ _ U) (ava aE)
   ·simp[re,aa]at ag
 case rf m x=>
  split at h<;>try cases h
  ·rename_i k o aa;split at h<;>try cases h
   rename_i el cs ab;obtain⟨b,vs,hb,eJ,ay⟩:=obj ab;obtain⟨qZ,mc⟩:=DB h;cases mc;obtain⟨eR,I,U⟩:=af.ak aa;rw[hb]at I;cases I;have hl:=hP (pW o ay);exact⟨_,⟨_,rfl,wz m (pW o ay)⟩,fun cc _ ag=>Ol U ((ag k b (by simp[re,aa]) hb).trans eJ) (by omega)⟩
  ·rename_i k z j o aa;split at h<;>try cases h
   rename_i el cs ab;obtain⟨b,vs,hb,eJ,ay⟩:=obj ab;obtain⟨qZ,mc⟩:=DB h;cases mc;obtain⟨eR,I,U⟩:=af.ak aa;rw[hb]at I;cases I;have hl:=hP (pW (j*z+o) ay);exact⟨_,⟨_,rfl,wz m (pW (j*z+o) ay)⟩,fun cc _ ag=>Ol U ((ag k b (by simp[re,aa]) hb).trans eJ) (by omega)⟩
  ·rename_i cs aa;obtain⟨b,o,vs,el,bk,bc,I,U,ay⟩:=af.ak aa;obtain⟨qZ,mc⟩:=DB h;cases mc;have hl:=hP ay;rw[zaq]at qZ;have gF:=wz m ay;rw[zdp,zaF qZ]at gF;refine⟨.agg ⟨(vs.drop o).take m⟩,⟨_,rfl,?_⟩,fun cc ag _=> ?_⟩
   ·rw[zaq];exact mC (dm.refl _) _ (c0.nil _) gF
   rcases ag with ag|⟨k,ag⟩
   ·exact Ol I (ag _ _ U) (by rw[zao]at hl;omega)
   ·simp[re,aa]at ag
 all_goals cases h
def apH{own:ac aY}{o:da}{k:Nat}(h:v7 own e o=some r)(ab:re e o=some k):∃a8,own[k]? =some a8∧a8.live=true:=by
 cases o<;>simp only[re]at ab
 case jr x=>
  simp only[v7]at h;split at ab<;>cases ab
  ·rename_i aa;rw[aa]at h;simp only at h;split at h<;>try cases h
   exact⟨_,by assumption,rfl⟩
  ·rename_i aa;rw[aa]at h;simp only at h;split at h<;>try cases h
   exact⟨_,by assumption,rfl⟩
 case rf n x=>
  simp only[v7]at h;split at ab<;>cases ab
  ·rename_i aa;rw[aa]at h;simp only at h;split at h<;>try cases h
   exact⟨_,by assumption,rfl⟩
  ·rename_i aa;rw[aa]at h;simp only at h;split at h<;>try cases h
   exact⟨_,by assumption,rfl⟩
 all_goals cases ab
end
section
variable{β:Type _}
def OW(v:bi)(K:aj->am β):am β:=
 match v with
 |.int k n=>K (.i k n)
 |.bool t=>K (.b t)
 |.string ⟨⟨l⟩⟩=>K (.s l)
 |.slice none 0 0=>K .nl
 |x=>K (.v x)
def B1:ac bi->(ac aj->am β)->am β
 |[],K=>K []
 |v::vs,K=>OW v fun a=>B1 vs fun r=>K (a::r)
def sR:aj->am (ac aj)
 |.agg cs=>some cs
 |a=>match wi a with
  |true=>some [a]
  |false=>none
def zD:ac aj->Nat->ac aj->(ac aj->am β)->am β
 |cs,0,[],K=>K cs
 |_::cs,0,d::ds,K=>zD cs 0 ds fun r=>K (d::r)
 |c::cs,n+1,ds,K=>zD cs n ds fun r=>K (c::r)
 |[],_,_,_=>none
def AZ(e:bQ):ac (Nat×Nat×bv)->ac aj->(ac aj->am β)->am β
 |[],cs,K=>K cs
 |(o,a4,x)::ps,cs,K=>match bM e x with
  |some a=>match sR a with
   |some ds=>match E1 ds a4 with
    |true=>zD cs o ds fun cs'=>AZ e ps cs' K
    |false=>none
   |none=>none
  |none=>none
def qp:ac aY->aY->(ac aY->am β)->am β
 |[],o,K=>K [o]
 |a::as,o,K=>qp as o fun r=>K (a::r)
def jV:ac aY->Nat->aY->(ac aY->am β)->am β
 |[],_,_,_=>none
 |_::as,0,o,K=>K (o::as)
 |a::as,n+1,o,K=>jV as n o fun r=>K (a::r)
def aqB:ac Nat:=[1,2,3,4,5,6,7,8,9,10,11,12,13,14,15,16,17,18,19,20,21,22,23,24,25,26,27,28,29,30,31,32]
def ZA:ac Nat->Nat->am Nat
 |[],_=>none
 |a::_,0=>some a
 |_::as,n+1=>ZA as n
def og(n:Nat)(K:Nat->am β):am β:=
 match ZA aqB n with
 |some m=>match Nat.beq m (n+1)with
  |true=>K m
  |false=>K (n+1)
 |none=>K (n+1)
def arn:ac (Nat×Nat×bv)->Nat
 |(_,a4,_)::_=>a4
 |[]=>1
def Kt(own:ac aY)(aL:Nat)(e:bQ)(k o n:Nat)(x:bv)(K:aj->ac aY->Nat->am β):am β:=
 match own[k]? with
 |some (.c el cs)=>match bM e x with
  |some a=>match sR a with
   |some ds=>match E1 ds n with
    |true=>match qI ds with
     |true=>zD cs o ds fun cs'=>jV own k (.c el cs') fun aZ=>K (.bn []) aZ aL
     |false=>none
    |false=>none
   |none=>none
  |none=>none
 |_=>none
def GJ(own:ac aY)(aL:Nat)(e:bQ)(K:aj->ac aY->Nat->am β):da->am β
 |.alloc z el=>B1 z fun cs=>qp own (.c el cs) fun aZ=>og aL fun ch=>K (.p aL 0) aZ ch
 |.box el x=>match bM e x with
  |some a=>match sR a with
   |some ds=>qp own (.c el ds) fun aZ=>og aL fun ch=>K (.p aL 0) aZ ch
   |none=>none
  |none=>none
 |.pO el len z ps=>B1 z fun cs=>AZ e ps cs fun cs'=>qp own (.c el cs') fun aZ=>og aL fun ch=>K (.a5 aL (arn ps) 0 len len) aZ ch
 |.build z ps=>B1 z fun cs=>AZ e ps cs fun cs'=>K (.agg cs') own aL
 |.store n a x=>match bM e a with
  |some (.p k o)=>Kt own aL e k o n x K
  |some (.gk k z j o)=>Kt own aL e k (j*z+o) n x K
  |_=>none
 |_=>none
def De(e:bQ):da->am aj
 |.build z ps=>B1 z fun cs=>AZ e ps cs fun cs'=>some (.agg cs')
 |o=>Lo e o
def jb(e:bQ):da->am Nat
 |.store _ a _=>match bM e a with
  |some (.p k _)|some (.gk k _ _ _)=>some k
  |_=>none
 |.app _ _ _ x _|.rN _ x _=>match bM e x with
  |some (.a5 k _ _ _ _)=>some k
  |_=>none
 |.xU _ x _=>match bM e x with
  |some (.p k _)=>some k
  |_=>none
 |_=>none
end
section
variable{β:Type _}{r:β}
variable{ds:ac aj}
def aqL{K:aj->am β}(h:OW v K=some r):K (Fo v)=some r:=by
 unfold OW at h;unfold Fo;split at h<;>first|exact h|(split<;>first|exact h|(exfalso;simp_all))
theorem Fp:∀{vs:ac bi} {K:ac aj->am β},B1 vs K=some r->K (B0 vs)=some r
 |[],_,h=>h
 |_::vs,_,h=>Fp (vs:=vs) (aqL h)
def GX(h:sR a=some ds)(d:den H a ids v):u6 v=false∧c4 H ds ids (ih v):=by
 unfold sR at h;split at h
 ·cases h;obtain⟨vs,rfl,d⟩:=d;exact⟨rfl,d⟩
 ·split at h<;>cases h;rename_i hc;have:=Sx hc d;refine⟨?_,?_⟩
  ·cases v<;>first|rfl|(cases this;done)|(rename_i r;cases r<;>first|rfl|cases this)
  ·rw[afA this];exact⟨v,[],rfl,d,rfl⟩
theorem JC:∀{cs:ac aj} {n:Nat} {ds:ac aj} {K:ac aj->am β},zD cs n ds K=some r->n+ds.length<=cs.length∧K (cs.take n++(ds++cs.drop (n+ds.length)))=some r
 |cs,0,[],K,h=>by
  have h:K cs=some r:=by cases cs<;>exact h
  exact⟨by simp,by simpa using h⟩
 |[],0,d::ds,K,h=>by cases h
 |c::cs,0,d::ds,K,h=>by
  have h:zD cs 0 ds (fun r=>K (d::r))=some r:=h;obtain⟨I,U⟩:=JC h;refine⟨by simp at I ⊢;omega,?_⟩;simp at U;simpa using U
 |[],n+1,ds,K,h=>by cases ds<;>cases h
 |c::cs,n+1,ds,K,h=>by
  have h:zD cs n ds (fun r=>K (c::r))=some r:=by cases ds<;>exact h
  obtain⟨I,U⟩:=JC h;refine⟨by simp;omega,?_⟩;rw[show n+1+ds.length=(n+ds.length)+1 by omega];simpa using U
def L2{cs:ac aj}{vs ws:ac bi}(n:Nat)(d:c4 H cs ids vs)(hO:c4 H ds ids ws):
 c4 H (cs.take n++(ds++cs.drop (n+ds.length))) ids (vs.take n++(ws++vs.drop (n+ws.length))):=by
 rw[hP hO];exact AL (wz n d) (AL hO (pW _ d))
theorem rz:∀{own:ac aY} {o:aY} {K:ac aY->am β},qp own o K=some r->K (own++[o])=some r
 |[],_,_,h=>h
 |_::as,_,_,h=>rz (own:=as) h
theorem kQ:∀{own:ac aY} {k:Nat} {o:aY} {K:ac aY->am β},jV own k o K=some r->K (own.set k o)=some r
 |[],_,_,_,h=>by cases h
 |_::_,0,_,_,h=>h
 |_::as,k+1,_,_,h=>kQ (own:=as) (k:=k) h
def pz{K:Nat->am β}(h:og n K=some r):K (n+1)=some r:=by
 unfold og at h;split at h
 ·split at h
  ·rename_i hb;rw[<-dI hb];exact h
  ·exact h
 ·exact h
def DS(e:bQ):ac (Nat×Nat×bv)->ac aj->am (ac aj)
 |[],cs=>some cs
 |(o,a4,x)::ps,cs=>match bM e x with
  |some a=>match sR a with
   |some ds=>if ds.length=a4∧o+ds.length<=cs.length then DS e ps (cs.take o++(ds++cs.drop (o+ds.length)))else none
   |none=>none
  |none=>none
theorem Hx{e:bQ}:∀{ps:ac (Nat×Nat×bv)} {cs:ac aj} {K:ac aj->am β},AZ e ps cs K=some r->∃cs',DS e ps cs=some cs'∧K cs'=some r
 |[],cs,K,h=>⟨cs,rfl,h⟩
 |(o,a4,x)::ps,cs,K,h=>by
  unfold AZ at h;unfold DS;split at h<;>try cases h
  split at h<;>try cases h
  split at h<;>try cases h
  rename_i hl;obtain⟨I,U⟩:=JC h;rw[zab ⟨IT hl,I⟩];exact Hx U
theorem Hy{fr:aO}{H:bm}{ids:ac Nat}{e:bQ}(af:cU fr H ids e):∀{ps:ac (Nat×Nat×bv)} {cs cs':ac aj} {vs:ac bi},DS e ps cs=some cs'->c4 H cs ids vs->
 ∃gB,c4 H cs' ids gB∧∀c,pe fr ps vs c=c gB
 |[],cs,_,vs,h,d=>by cases h;exact⟨vs,d,fun _=>rfl⟩
 |(o,a4,x)::ps,cs,cs',vs,h,d=>by
  unfold DS at h;split at h<;>try cases h
  rename_i a aa;split at h<;>try cases h
  rename_i ds iT;split at h<;>try cases h
  rename_i hl;obtain⟨hl,I⟩:=hl;obtain⟨hp,d2⟩:=GX iT (af.ak aa);have mQ:=hP d2;have yT:=hP d;obtain⟨gB,aP,bd⟩:=Hy af h (L2 o d d2);refine⟨gB,aP,fun c=> ?_⟩;have hu:pe fr ((o,a4,x)::ps) vs c=cond (u6 (fr.ak x)) .no (dQ (dd (ih (fr.ak x))) a4 (eh (o+a4) (dd vs) (rm vs o (ih (fr.ak x)) (fun cs'=>pe fr ps cs' c) .no) .no) .no):=rfl;rw[hu,hp,cond_false,fe,fe,kC (by omega),gi (by omega),rn,zab (by omega),bd]
end
def Lp{call:bF}{fr:aO}{e:bQ}(af:cU fr H ids e){o:da}{r:aj}(h:De e o=some r):∃v,den H r ids v∧∀st,bG call o fr st= .ok v fr st:=by
 unfold De at h;split at h
 ·rename_i z ps;obtain⟨cs',g1,aP⟩:=Hx (Fp h);cases aP;obtain⟨gB,d,bd⟩:=Hy af g1 (yq H ids z);refine⟨.agg ⟨gB⟩,⟨_,rfl,d⟩,fun st=> ?_⟩;have:bG call (.build z ps) fr st=pe fr ps z fun cs=>.ok (.agg ⟨cs⟩) fr st:=rfl;rw[this,bd]
 ·exact aey af h
def g7(call:bF)(o:da)(s:cB)(a:aj)(aZ:ac aY)(ch:Nat):Prop:=
 ∀(H:bm) (ids:ac Nat) (st:ar) (fr:aO),Fit H ids st s.own s.n->cU fr H ids s.env->
  ∃v st' bX a2,bG call o fr st= .ok v fr st'∧Fit a2 bX st' aZ ch∧den a2 a bX v∧dm H a2∧c0 ids bX∧(∀bT i0 aN,cG bT i0 aN H ids st->cG bT i0 aN a2 bX st')∧
   st.ai<=st'.ai∧∀b,b<st.ai->(∀k,jb s.env o=some k->ids[k]? ≠some b)->st'.h.get b=st.h.get b
def vW(bT:bm)(call:bF)(o:da)(s:cB)(a:aj)(aZ:ac aY)(ch:Nat):Prop:=
 ∀(H:bm) (ids:ac Nat) (st:ar) (fr:aO),dm bT H->Fit H ids st s.own s.n->cU fr H ids s.env->
  ∃v st' bX a2,bG call o fr st= .ok v fr st'∧Fit a2 bX st' aZ ch∧den a2 a bX v∧dm H a2∧c0 ids bX∧(∀bT i0 aN,cG bT i0 aN H ids st->cG bT i0 aN a2 bX st')∧
   st.ai<=st'.ai∧∀b,b<st.ai->(∀k,jb s.env o=some k->ids[k]? ≠some b)->st'.h.get b=st.h.get b
def g7.g{call:bF}{o:da}{s:cB}{aZ:ac aY}{ch:Nat}(h:g7 call o s a aZ ch):vW bT call o s a aZ ch:=fun H ids st fr _ ao af=>h H ids st fr ao af
def CZ(call:bF)(o:da)(s:cB)(a:aj)(aZ:ac aY)(ch:Nat):Prop:=
 ∀(H:bm) (ids:ac Nat) (st:ar) (fr:aO),Fit H ids st s.own s.n->cU fr H ids s.env->
  ∃v st' bX,bG call o fr st= .ok v fr st'∧Fit H bX st' aZ ch∧den H a bX v∧c0 ids bX∧(∀bT i0 aN,cG bT i0 aN H ids st->cG bT i0 aN H bX st')∧
   st.ai<=st'.ai∧∀b,b<st.ai->(∀k,jb s.env o=some k->ids[k]? ≠some b)->st'.h.get b=st.h.get b
def CZ.to{call:bF}{o:da}{s:cB}{aZ:ac aY}{ch:Nat}(h:CZ call o s a aZ ch):g7 call o s a aZ ch:=fun H ids st fr ao af=>
 let⟨v,st',bX,I,U,ag,au,a0,b5,cY⟩:=h H ids st fr ao af
 ⟨v,st',bX,H,I,U,ag,dm.refl _,au,a0,b5,cY⟩
section
variable{call:bF}{β:Type _}{r:β}
variable{s:cB}{K:aj->ac aY->Nat->am β}
def OK{own:ac aY}(ao:Fit H ids st own n){el:ci}{cs:ac aj}{vs:ac bi}(d:c4 H cs ids vs):
 Fit H (ids++[st.ai]) ⟨st.h.set st.ai (.cells vs el (0,0) false),st.ai+1⟩ (own++[.c el cs]) (n+1)∧(ids++[st.ai])[n]? =some st.ai:=by
 refine⟨ao.add ⟨vs,rfl,mC (dm.refl _) _ (c0.app _ _) d⟩,?_⟩;rw[<-ao.len,zav (cf _)];simp
def zx{b:Nat}(hb:b<st.ai):(aq.set st.h st.ai eH).get b=st.h.get b:=aq.gq _ _ (by omega)
def acK{k o m:Nat}{a x:bv}(h:Kt s.own s.n s.env k o m x K=some r)(hm:jb s.env (.store m a x)=some k)
 (ha:∀{H:bm} {ids:ac Nat} {fr:aO},cU fr H ids s.env->∃b,ids[k]? =some b∧fr.ak a= .pointer (some ⟨b,o,none⟩)):∃a' aZ ch,K a' aZ ch=some r∧CZ call (.store m a x) s a' aZ ch:=by
 unfold Kt at h;split at h<;>try cases h
 rename_i el cs ab;split at h<;>try cases h
 rename_i c aa;split at h<;>try cases h
 rename_i ds iT;split at h<;>try cases h
 rename_i hl;split at h<;>try cases h
 rename_i hc;obtain⟨I,U⟩:=JC h;have ag:=kQ U;refine⟨_,_,_,ag,?_⟩;intro H ids st fr ao af;obtain⟨b,hb,aE⟩:=ha af;obtain⟨⟨vs,eJ,d⟩,_⟩:=ao.own k _ b ab hb;obtain⟨hp,d2⟩:=GX iT (af.ak aa);have hl:=IT hl;have mQ:=hP d2;have yT:=hP d;refine⟨undef,_,ids,?_,ao.hv ab rfl hb ⟨_,rfl,L2 o d d2⟩,⟨[],rfl,rfl⟩,c0.refl _,fun _ _ _ B=>B.hv (zal hb) _,cf _,?_⟩
 ·have:bG call (.store m a x) fr st=iM (fr.ak a) (fun p=>bp p (fun a=>dQ (dd (ih (fr.ak x))) m (cond (hD (ih (fr.ak x))) (st.store a (ih (fr.ak x)) (fun st=>a1.ok undef fr st) .no) .no) .no) .no) .no:=rfl;rw[this,aE,rC,Sym.eB,fe,kC (by omega),Dv hc d2,cond_true];unfold ar.store ar.gN;rw[Sym.gI,eJ,lr,gi (cf _),rn,zab (by show o+_<=_;omega),kR]
 ·intro eR _ hne;show(st.h.set b _).get eR=_;exact aq.gq _ _ (fun e=>hne k hm (e▸hb))
def Rr{o:da}(h:GJ s.own s.n s.env K o=some r):∃a aZ ch,K a aZ ch=some r∧CZ call o s a aZ ch:=by
 cases o<;>simp only[GJ]at h
 case alloc z el=>
  refine⟨_,_,_,pz (rz (Fp h)),?_⟩;intro H ids st fr ao af;obtain⟨I,U⟩:=OK ao (el:=el) (yq H ids z);refine⟨_,_,_,?_,I,⟨_,U,rfl⟩,c0.app _ _,fun _ _ _ B=>B.add _,zaZ _,fun b hb _=>zx hb⟩;have:bG call (.alloc z el) fr st=st.jU (.cells z el (0,0) false) fun id st=>.ok (.pointer (some ⟨id,0,none⟩)) fr st:=rfl;rw[this,gR]
 case box el x=>
  split at h<;>try cases h
  rename_i a aa;split at h<;>try cases h
  rename_i ds iT;refine⟨_,_,_,pz (rz h),?_⟩;intro H ids st fr ao af;obtain⟨hp,d⟩:=GX iT (af.ak aa);obtain⟨I,U⟩:=OK ao (el:=el) d;refine⟨_,_,_,?_,I,⟨_,U,rfl⟩,c0.app _ _,fun _ _ _ B=>B.add _,zaZ _,fun b hb _=>zx hb⟩;have:bG call (.box el x) fr st=cond (u6 (fr.ak x)) .no (st.jU (.cells (ih (fr.ak x)) el (0,0) false) fun id st=>.ok (.pointer (some ⟨id,0,none⟩)) fr st):=rfl;rw[this,hp,cond_false,gR]
 case pO el len z ps=>
  obtain⟨cs',g1,aP⟩:=Hx (Fp h);refine⟨_,_,_,pz (rz aP),?_⟩;intro H ids st fr ao af;obtain⟨gB,d,bd⟩:=Hy af g1 (yq H ids z);obtain⟨I,U⟩:=OK ao (el:=el) d;refine⟨_,_,_,?_,I,⟨_,U,rfl⟩,c0.app _ _,fun _ _ _ B=>B.add _,zaZ _,fun b hb _=>zx hb⟩;have:bG call (.pO el len z ps) fr st=pe fr ps z fun cs=>st.jU (.cells cs el (0,0) false) fun id st=>.ok (.slice (some ⟨id,0,none⟩) len len) fr st:=rfl;rw[this,bd,gR,zar]
 case build z ps=>
  obtain⟨cs',g1,aP⟩:=Hx (Fp h);refine⟨_,_,_,aP,?_⟩;intro H ids st fr ao af;obtain⟨gB,d,bd⟩:=Hy af g1 (yq H ids z);refine⟨.agg ⟨gB⟩,st,ids,?_,ao,⟨_,rfl,d⟩,c0.refl _,fun _ _ _ B=>B,cf _,fun b hb _=>rfl⟩;have:bG call (.build z ps) fr st=pe fr ps z fun cs=>.ok (.agg ⟨cs⟩) fr st:=rfl;rw[this,bd]
 case store m a x=>
  split at h<;>try cases h
  ·rename_i k o ha;exact acK h (by simp[jb,ha]) fun af=>by obtain⟨b,I,U⟩:=af.ak ha;exact⟨b,I,U⟩
  ·rename_i k z j o ha;exact acK h (by simp[jb,ha]) fun af=>by obtain⟨b,I,U⟩:=af.ak ha;exact⟨b,I,U⟩
 all_goals cases h
end
structure fp where
 call:bF
 bE:Nat
 fn:co
 bT:bm
 i0:ac Nat
 aN:ar
 Q:dq->cB->Prop
inductive eN where
 |seq (c:du)
 |cK (i:Nat)
 |bW (Q9:cB->Prop)
 |sY (ms:List Nat) (n:Nat)
inductive bf where
 |c (c:du)
 |o (l:List bA)
 |x (e:dq)
 |d (l:List (bA×cD)) (bN:List aY) (a6:bQ) (bj ck:Nat)
variable(aC:fp)
def ub(Q:dq->cB->Prop):dq->aO->ar->Prop:=fun x fr st=>∃H ids s,cG aC.bT aC.i0 aC.aN H ids st∧Fit H ids st s.own s.n∧cU fr H ids s.env∧Q x s
def Rf(Q:dq->cB->Prop)(c:du)(s:cB):Prop:=∀H ids st fr,cG aC.bT aC.i0 aC.aN H ids st->Fit H ids st s.own s.n->cU fr H ids s.env->W (cR aC.call aC.bE aC.fn c fr st) (ub aC Q)
def aeb(Q:dq->cB->Prop)(l:ac bA)(s:cB):Prop:=∀H ids st fr,cG aC.bT aC.i0 aC.aN H ids st->Fit H ids st s.own s.n->cU fr H ids s.env->W (fT aC.call l fr st) (ub aC Q)
structure aec(fj H:bm)(ids:ac Nat)(st:ar)(bN:ac aY)(a6:bQ)(bj ck:Nat)(ah:ac (aq bB))(fr:aO):Prop where
 len:ah.length=bj
 hle:dm fj H
 er:∀j a,ea a6 j=some a->den fj a ids (fr.tmp j)
 qk:bN.length<=ids.length
 xk:ck<=ids.length
 bN:∀(k:Nat) (o:aY) (b:Nat),bN[k]? =some o->o.live=true->ids[k]? =some b->k4 fj ids o (st.h.get b)∧∀h∈ah,h.get b=st.h.get b
 old:∀h∈ah,∀b o,fj b=some o->h.get b=some o
 top:∀h,ah.head?=some h->(∀b o,H b=some o->h.get b=some o)∧∀k b:Nat,k<ck->ids[k]? =some b->h.get b=st.h.get b
def KT(K:ac eN)(cQ:sK):Prop:=
 match K with
 |.sY ms n::_=>cQ=qK aC.call ms n
 |_=>True
def aea(C:sK->Prop)(Q:dq->cB->Prop)(l:ac (bA×cD))(bN:ac aY)(a6:bQ)(bj ck:Nat)(s:cB):Prop:=∀cQ,C cQ->∀H ids st fr fj ah,cG aC.bT aC.i0 aC.aN H ids st->Fit H ids st s.own s.n->cU fr H ids s.env->aec fj H ids st bN a6 bj ck ah fr->W (ga aC.call cQ l ah fr st) (ub aC Q)
def Sem:ac eN->dq->cB->Prop
 |[]=>aC.Q
 |.seq c::K=>fun x s=>match x with
  |.norm=>Rf aC (Sem K) c s
  |x=>Sem K x s
 |.cK i::K=>fun x s=>match x with
  |.exit j=>if j=i then Sem K .norm s else Sem K (.exit j) s
  |x=>Sem K x s
 |.bW Q9::K=>fun x s=>match x with
  |.norm=>Q9 s
  |x=>Sem K x s
 |.sY _ _::K=>Sem K
def hY(K:ac eN)(c:bf)(s:cB):Prop:=
 match c with
 |.c c=>Rf aC (Sem aC K) c s
 |.o l=>aeb aC (Sem aC K) l s
 |.x e=>Sem aC K e s
 |.d l bN a6 bj ck=>aea aC (KT aC K) (Sem aC K) l bN a6 bj ck s
structure aW where
 K:ac eN
 c:bf
 s:cB
def aW.ok(g:aW):Prop:=hY aC g.K g.c g.s
def eL(d:am Tmp)(a:aj)(e:bQ):bQ:=
 match d with
 |none=>e
 |some d=>(d,a)::e
section
def Dg(own:ac aY)(n:Nat)(e:bQ)(o:da)(K:aj->ac aY->Nat->am aW):am aW:=
 match De e o with
 |some a=>K a own n
 |none=>match v7 own e o with
  |some a=>K a own n
  |none=>GJ own n e K o
def uw(d:am Tmp)(e:bQ):bQ:=
 match d with
 |none=>e
 |some d=>mF d e
def L8:ac Nat->bQ->bQ
 |[],e=>e
 |d::ds,e=>L8 ds (mF d e)
def Jr{β:Type _}(bN:ac aY)(m:am Nat)(K:ac aY->am β):am β:=
 match m with
 |none=>K bN
 |some k=>match bN[k]? with
  |some _=>jV bN k .x K
  |none=>K bN
def RR(bN:ac aY)(e:bQ)(o:da):am aj:=
 match De e o with
 |some a=>some a
 |none=>v7 bN e o
def AO{β:Type _}(d:Nat):bQ->(bQ->am β)->am β
 |[],K=>K []
 |p::l,K=>match Nat.beq p.1 d with
  |true=>AO d l K
  |false=>AO d l fun r=>K (p::r)
def qO(K:ac eN)(d:am Tmp)(l:ac (bA×cD))(bN:ac aY)(a6:bQ)(bj ck:Nat)(own:ac aY)(n:Nat)(a:aj)(e:bQ)(qy:am aj):am aW:=
 match d with
 |none=>some ⟨K,.d l bN a6 bj ck,⟨own,n,e⟩⟩
 |some d=>match qy with
  |some qy=>some ⟨K,.d l bN ((d,qy)::a6) bj ck,⟨own,n,(d,a)::e⟩⟩
  |none=>AO d a6 fun ahK=>some ⟨K,.d l bN ahK bj ck,⟨own,n,(d,a)::e⟩⟩
def Ma(K:ac eN)(d:am Tmp)(o:da)(c:cD)(l:ac (bA×cD))(bN:ac aY)(a6:bQ)(bj ck:Nat)(own:ac aY)(n:Nat)(e:bQ):am aW:=
 match c with
 |.dY=>Dg own n e o fun a aZ ch=>Jr bN (jb e o) fun eo=>og bj fun LX=>qO K d l eo a6 LX ch aZ ch a e none
 |.hZ ts=>GJ own n (fJ ts e) (fun a aZ ch=>match jb (fJ ts e) o with
  |none=>qO K d l bN a6 bj ck aZ ch a e none
  |some _=>none) o
 |.read back ts=>match Nat.ble (back+1) bj with
  |true=>match RR bN (fJ ts a6) o with
   |some qy=>qO K d l bN a6 bj ck own n qy e (some qy)
   |none=>match De (fJ ts e) o with
    |some a=>qO K d l bN a6 bj ck own n a e none
    |none=>match back with
     |0=>match v7 own (fJ ts e) o with
      |some a=>match re (fJ ts e) o with
       |none=>qO K d l bN a6 bj ck own n a e none
       |some k=>match Nat.ble (k+1) ck with
        |true=>qO K d l bN a6 bj ck own n a e none
        |false=>none
      |none=>none
     |_=>none
  |false=>none
def G1(c:cD)(e:bQ):bQ:=
 match c with
 |.dY=>e
 |.hZ ts=>fJ ts e
 |.read _ ts=>fJ ts e
def DI(K:ac eN)(d:am Tmp)(c:cD)(l:ac (bA×cD))(bN:ac aY)(a6:bQ)(bj ck:Nat)(own:ac aY)(n:Nat)(e:bQ):am aW:=
 match c with
 |.dY=>og bj fun LX=>qO K d l bN a6 LX n own n (.bn []) e none
 |_=>qO K d l bN a6 bj ck own n (.bn []) e none
def Fm(K:ac eN)(l:ac bA)(d:am Tmp)(own:ac aY)(n:Nat)(e:bQ):am aW:=
 match d with
 |none=>some ⟨K,.o l,⟨own,n,e⟩⟩
 |some d=>some ⟨K,.o l,⟨own,n,(d,.bn [])::e⟩⟩
def Oo{β:Type _}:ac (bA×cD)->Nat->(Nat->am β)->am β
 |[],n,K=>K n
 |_::l,n,K=>og n fun n=>Oo l n K
def L9{β:Type _}:ac Nat->bQ->(bQ->am β)->am β
 |[],e,K=>K e
 |d::ds,e,K=>AO d e fun bS=>L9 ds bS K
def CF:aW->am aW
 |⟨K,.c .skip,s⟩=>some ⟨K,.x .norm,s⟩
 |⟨K,.c (.g3 l),s⟩=>some ⟨K,.o l,s⟩
 |⟨K,.c (.seq a b),s⟩=>some ⟨.seq b::K,.c a,s⟩
 |⟨K,.c (.block i a),s⟩=>some ⟨.cK i::K,.c a,s⟩
 |⟨K,.c (.exit i),s⟩=>some ⟨K,.x (.exit i),s⟩
 |⟨K,.c .ret,s⟩=>some ⟨K,.x .ret,s⟩
 |⟨K,.c (.scope a),s⟩=>some ⟨K,.c a,s⟩
 |⟨K,.c (.cond c a b),s⟩=>match bM s.env c with
  |some (.b true)=>some ⟨K,.c a,s⟩
  |some (.b false)=>some ⟨K,.c b,s⟩
  |_=>none
 |⟨K,.o [],s⟩=>some ⟨K,.x .norm,s⟩
 |⟨K,.o (⟨some d,o,none⟩::l),⟨own,n,e⟩⟩=>Dg own n e o fun a aZ ch=>some ⟨K,.o l,⟨aZ,ch,(d,a)::e⟩⟩
 |⟨K,.o (⟨none,o,none⟩::l),⟨own,n,e⟩⟩=>Dg own n e o fun _ aZ ch=>some ⟨K,.o l,⟨aZ,ch,e⟩⟩
 |⟨K,.o (⟨d,o,some (t,b)⟩::l),⟨own,n,e⟩⟩=>match ea e t with
  |some (.b true)=>match b with
   |true=>some ⟨K,.o (⟨d,o,none⟩::l),⟨own,n,e⟩⟩
   |false=>Fm K l d own n e
  |some (.b false)=>match b with
   |false=>some ⟨K,.o (⟨d,o,none⟩::l),⟨own,n,e⟩⟩
   |true=>Fm K l d own n e
  |some (.bn _)=>Fm K l d own n e
  |_=>none
 |⟨K,.c (.rP l _ eb ms),⟨own,n,e⟩⟩=>L9 eb e fun bS=>Oo l 0 fun m=>some ⟨.sY ms m::K,.d l own bS 1 n,⟨own,n,bS⟩⟩
 |⟨.sY _ _::K,.d [] _ _ _ _,s⟩=>some ⟨K,.x .norm,s⟩
 |⟨K,.d [] _ _ _ _,s⟩=>some ⟨K,.x .norm,s⟩
 |⟨K,.d ((⟨d,o,none⟩,c)::l) bN a6 bj ck,⟨own,n,e⟩⟩=>Ma K d o c l bN a6 bj ck own n e
 |⟨K,.d ((⟨d,o,some (t,b)⟩,c)::l) bN a6 bj ck,⟨own,n,e⟩⟩=>match ea (G1 c e) t with
  |some (.b true)=>match b with
   |true=>some ⟨K,.d ((⟨d,o,none⟩,c)::l) bN a6 bj ck,⟨own,n,e⟩⟩
   |false=>DI K d c l bN a6 bj ck own n e
  |some (.b false)=>match b with
   |false=>some ⟨K,.d ((⟨d,o,none⟩,c)::l) bN a6 bj ck,⟨own,n,e⟩⟩
   |true=>DI K d c l bN a6 bj ck own n e
  |some (.bn _)=>DI K d c l bN a6 bj ck own n e
  |_=>none
 |⟨.seq c::K,.x .norm,s⟩=>some ⟨K,.c c,s⟩
 |⟨.seq _::K,.x (.exit i),s⟩=>some ⟨K,.x (.exit i),s⟩
 |⟨.seq _::K,.x .ret,s⟩=>some ⟨K,.x .ret,s⟩
 |⟨.cK _::K,.x .norm,s⟩=>some ⟨K,.x .norm,s⟩
 |⟨.cK i::K,.x (.exit j),s⟩=>match Nat.beq j i with
  |true=>some ⟨K,.x .norm,s⟩
  |false=>some ⟨K,.x (.exit j),s⟩
 |⟨.cK _::K,.x .ret,s⟩=>some ⟨K,.x .ret,s⟩
 |⟨.bW _::K,.x (.exit i),s⟩=>some ⟨K,.x (.exit i),s⟩
 |⟨.bW _::K,.x .ret,s⟩=>some ⟨K,.x .ret,s⟩
 |⟨.seq _::K,.x (.aQ v),s⟩=>some ⟨K,.x (.aQ v),s⟩
 |⟨.cK _::K,.x (.aQ v),s⟩=>some ⟨K,.x (.aQ v),s⟩
 |⟨.bW _::K,.x (.aQ v),s⟩=>some ⟨K,.x (.aQ v),s⟩
 |⟨.sY _ _::K,.x e,s⟩=>some ⟨K,.x e,s⟩
 |_=>none
end
section
variable{aC:fp}{K:ac eN}{s:cB}
variable{d:am Tmp}{a6:bQ}{bN:ac aY}{ck:Nat}{g:aW}{aZ:ac aY}{ch:Nat}{fr:aO}{e:bQ}{back:Nat}{c:cD}{t:Bool}{fj:bm}{eo:ac aY}
def cU.eL(h:cU fr H ids e)(d:am Tmp)(aE:den H a ids v):cU (fr.put d v) H ids (Go.an.eL d a e):=by
 cases d with
 |none=>exact h
 |some d=>exact h.put d aE
def Lr{call:bF}{o:da}{C:aj->ac aY->Nat->am aW}{r:aW}(h:Dg s.own s.n s.env o C=some r):∃a aZ ch,C a aZ ch=some r∧g7 call o s a aZ ch:=by
 unfold Dg at h;split at h
 ·rename_i a ha;refine⟨a,_,_,h,fun H ids st fr ao af=> ?_⟩;obtain⟨v,ay,he⟩:=Lp (call:=call) af ha;exact⟨v,st,ids,H,he st,ao,ay,dm.refl _,c0.refl _,fun _ _ _ B=>B,cf _,fun _ _ _=>rfl⟩
 ·split at h
  ·rename_i a ha;refine⟨a,_,_,h,fun H ids st fr ao af=> ?_⟩;obtain⟨v,ay,he⟩:=Lk (call:=call) af (by rw[ao.len,ao.cr];exact cf _) (fun k o b ab _ hb=>(ao.own k o b ab hb).1) ha;exact⟨v,st,ids,H,he st (.inl ao.le) (fun _ _ _ _=>rfl),ao,ay,dm.refl _,c0.refl _,fun _ _ _ B=>B,cf _,fun _ _ _=>rfl⟩
  ·obtain⟨a,aZ,ch,I,U⟩:=Rr (call:=call) h;exact⟨a,aZ,ch,I,U.to⟩
def Cp{o:da}{l:ac bA}(h:vW aC.bT aC.call o s a aZ ch)(k:hY aC K (.o l) ⟨aZ,ch,eL d a s.env⟩):hY aC K (.o (⟨d,o,none⟩::l)) s:=by
 intro H ids st fr a3 ao af;obtain⟨v,st',bX,a2,I,U,ag,b5,au,a0,_⟩:=h H ids st fr a3.hle ao af;exact rE I (k a2 bX st' _ (a0 _ _ _ a3) U ((af.mono b5 au).eL d ag))
def Kb{o:da}{l:ac bA}(h:g7 aC.call o s a aZ ch)(k:hY aC K (.o l) ⟨aZ,ch,eL d a s.env⟩):hY aC K (.o (⟨d,o,none⟩::l)) s:=Cp h.g k
def yp(h:∀j a,ea a6 j=some a->den fj a ids (fr.tmp j))(d:am Tmp)(v:bi):∀j a,ea (uw d a6) j=some a->den fj a ids ((fr.put d v).tmp j):=by
 cases d with
 |none=>exact h
 |some d=>
  intro j a hj;obtain⟨I,U⟩:=IW d a6 j a hj;rw[xR,zaa I];exact h j a U
def ahp(h:∀j a,ea a6 j=some a->den fj a ids (fr.tmp j))(d:am Tmp)(aE:den fj b ids v):∀j a,ea (eL d b a6) j=some a->den fj a ids ((fr.put d v).tmp j):=by
 cases d with
 |none=>exact h
 |some d=>
  intro j a hj;have hj:cond (Nat.beq d j) (some b) (ea a6 j)=some a:=hj;rw[xR];cases hb:Nat.beq d j with
  |true=>
   rw[hb]at hj;rw[zab (dI hb).symm];cases hj;exact aE
  |false=>
   rw[hb]at hj;rw[zaa (fun e=>by rw[e,zax]at hb;cases hb)];exact h j a hj
theorem Hn{β:Type _}{r:β}{d:Nat}:∀{e:bQ} {C:bQ->am β},AO d e C=some r->C (mF d e)=some r
 |[],_,h=>h
 |p::l,C,h=>by
  unfold AO at h;unfold mF;cases hb:Nat.beq p.1 d with
  |true=>rw[hb]at h;exact Hn (e:=l) h
  |false=>rw[hb]at h;exact Hn (e:=l) h
theorem YN{β:Type _}{r:β}:∀{l:ac (bA×cD)} {n:Nat} {C:Nat->am β},Oo l n C=some r->C (n+dd l)=some r
 |[],_,_,h=>h
 |x::l,n,C,h=>by
  have h:=YN (l:=l) (pz h);have e:n+dd (x::l)=n+1+dd l:=by
   rw[fe,fe,zay];omega
  rw[e];exact h
theorem Tg{β:Type _}{r:β}:∀{ds:ac Nat} {e:bQ} {C:bQ->am β},L9 ds e C=some r->C (L8 ds e)=some r
 |[],_,_,h=>h
 |_::ds,_,_,h=>Tg (ds:=ds) (Hn h)
def yo{l:ac (bA×cD)}{bj:Nat}{own:ac aY}(h:qO K d l bN a6 bj ck own n a e none=some g)(k:g.ok aC):hY aC K (.d l bN (uw d a6) bj ck) ⟨own,n,eL d a e⟩:=by
 unfold qO at h;split at h
 ·cases h;exact k
 ·have:=Hn h;cases this;exact k
def ahh{l:ac (bA×cD)}{bj:Nat}{own:ac aY}(h:qO K d l bN a6 bj ck own n a e (some a)=some g)(k:g.ok aC):hY aC K (.d l bN (eL d a a6) bj ck) ⟨own,n,eL d a e⟩:=by
 unfold qO at h;split at h
 ·cases h;exact k
 ·cases h;exact k
def OV{l:ac bA}{own:ac aY}(h:Fm K l d own n e=some g)(k:g.ok aC):hY aC K (.o l) ⟨own,n,eL d (.bn []) e⟩:=by
 unfold Fm at h;split at h
 ·cases h;exact k
 ·cases h;exact k
def aaq{β:Type _}{r:β}{m:am Nat}{C:ac aY->am β}(h:Jr bN m C=some r):∃eo,C eo=some r∧eo.length=bN.length∧∀(k:Nat) (o:aY),eo[k]? =some o->o.live=true->bN[k]? =some o∧m≠some k:=by
 unfold Jr at h;split at h
 ·exact⟨_,h,rfl,fun k o ab _=>⟨ab,by simp⟩⟩
 ·rename_i m;split at h
  ·refine⟨_,kQ h,by simp,fun k o ab hl=> ?_⟩;rw[zaG]at ab;by_cases Nk:m=k
   ·rw[zab Nk]at ab;split at ab<;>cases ab;cases hl
   ·rw[zaa Nk]at ab;exact⟨ab,by simpa using Nk⟩
  ·rename_i hn;refine⟨_,h,rfl,fun k o ab hl=>⟨ab,fun e=> ?_⟩⟩;cases e;rw[hn]at ab;cases ab
def LZ{o:da}{l:ac (bA×cD)}{bj:Nat}(h:vW aC.bT aC.call o s a aZ ch)(hl:eo.length=bN.length)(I:∀(k:Nat) (a8:aY),eo[k]? =some a8->a8.live=true->bN[k]? =some a8∧jb s.env o≠some k)
 (k:hY aC K (.d l eo (uw d a6) (bj+1) ch) ⟨aZ,ch,eL d a s.env⟩):hY aC K (.d ((⟨d,o,none⟩,.dY)::l) bN a6 bj ck) s:=by
 intro cQ gu H ids st fr fj ah a3 ao af cv;obtain⟨v,st',bX,a2,g1,aP,bd,cu,dh,ey,gp,n1⟩:=h H ids st fr a3.hle ao af;have Bj:∀(k:Nat) (b:Nat),k<ids.length->bX[k]? =some b->ids[k]? =some b:=fun k b ab hb=>by
  have:=dh k _ (bg ab);rw[hb]at this;rw[bg ab,this]
 have H9:∀(k:Nat) (b:Nat),jb s.env o≠some k->ids[k]? =some b->st'.h.get b=st.h.get b:=fun k b ab hb=>by
  refine n1 b (ao.lt b (zal hb)) fun k' fF cP=> ?_;have az:=zac.1 hb;have e2:=zac.1 cP;have:=(zbC (h₀:=az.1) (h₁:=e2.1) ao.g9).1 (az.2.trans e2.2.symm);exact ab (this▸fF)
 have e7:=k cQ gu a2 bX st' (fr.put d v) fj (st'.h::ah) (ey _ _ _ a3) aP ((af.mono cu dh).eL d bd) ⟨by simp[cv.len],cv.hle.trans cu,yp (fun j a hj=>uv (dm.refl _) _ dh (cv.er j a hj)) d v,?_,by rw[aP.len];exact cf _,?_,?_,?_⟩
 ·refine W.of_eq ?_ e7;show a1.rec (motive:=fun _=>ct) (fun v aF st'=>eh st.ai st'.ai (ga aC.call cQ l (st'.h::ah) (aO.put ⟨fr.t,aF.cL,aF.aQ,aF.cx,aF.bW⟩ d v) st') .no) (fun v st'=>cond o.jh (cond (cQ l (st.h::ah) (fr.put d undef) st) (.out (.aQ v) fr st') .no) .no) .no (bG aC.call o fr st)=_;rw[g1];show eh st.ai st'.ai _ _=_;rw[gi gp]
 ·rw[hl];have:ids.length<=bX.length:=by
   rcases zaj bX.length ids.length with aT|mL
   ·have:=dh bX.length _ (bg aT);simp at this
   ·exact mL
  exact zag cv.qk this
 ·intro k a8 b ab Bl hb;obtain⟨U,ag⟩:=I k a8 ab Bl;have Nj:k<ids.length:=fx (zac.1 U).1 cv.qk;have hb:=Bj k b Nj hb;obtain⟨au,a0⟩:=cv.bN k a8 b U Bl hb;have e:=H9 k b ag hb;rw[e];refine⟨rO (dm.refl _) dh au,fun h hm=> ?_⟩;rcases zah.1 hm with rfl|hm
  ·exact e
  ·exact a0 h hm
 ·intro h hm b a8 hb;rcases zah.1 hm with rfl|hm
  ·exact aP.le _ _ (cu _ _ (cv.hle _ _ hb))
  ·exact cv.old h hm b a8 hb
 ·intro h hm;simp at hm;subst hm;exact⟨aP.le,fun _ _ _ _=>rfl⟩
def yn{o:da}{l:ac (bA×cD)}{bj:Nat}(h:g7 aC.call o s a aZ ch)(hl:eo.length=bN.length)(I:∀(k:Nat) (a8:aY),eo[k]? =some a8->a8.live=true->bN[k]? =some a8∧jb s.env o≠some k)
 (k:hY aC K (.d l eo (uw d a6) (bj+1) ch) ⟨aZ,ch,eL d a s.env⟩):hY aC K (.d ((⟨d,o,none⟩,.dY)::l) bN a6 bj ck) s:=LZ h.g hl I k
def Ym{i j:ac Nat}(h:c0 i j):i.length<=j.length:=by
 rcases zaj j.length i.length with aT|mL
 ·have:=h j.length _ (bg aT);simp at this
 ·exact mL
def ag6{o:da}{ts:ac Tmp}{l:ac (bA×cD)}{bj:Nat}(h:CZ aC.call o ⟨s.own,s.n,fJ ts s.env⟩ a aZ ch)(hm:jb (fJ ts s.env) o=none)
 (k:hY aC K (.d l bN (uw d a6) bj ck) ⟨aZ,ch,eL d a s.env⟩):hY aC K (.d ((⟨d,o,none⟩,.hZ ts)::l) bN a6 bj ck) s:=by
 intro cQ gu H ids st fr fj ah a3 ao af cv;obtain⟨v,st',bX,g1,aP,bd,dh,ey,gp,n1⟩:=h H ids st (fr.only ts) ao (af.only ts);have Bj:∀(k:Nat) (b:Nat),k<ids.length->bX[k]? =some b->ids[k]? =some b:=fun k b ab hb=>by
  have:=dh k _ (bg ab);rw[hb]at this;rw[bg ab,this]
 have H9:∀(k:Nat) (b:Nat),ids[k]? =some b->st'.h.get b=st.h.get b:=fun k b hb=>n1 b (ao.lt b (zal hb)) fun k' fF=>by rw[hm]at fF;cases fF
 have e7:=k cQ gu H bX st' (fr.put d v) fj ah (ey _ _ _ a3) aP ((af.mono (dm.refl _) dh).eL d bd) ⟨cv.len,cv.hle,yp (fun j a hj=>uv (dm.refl _) _ dh (cv.er j a hj)) d v,zag cv.qk (Ym dh),zag cv.xk (Ym dh),?_,cv.old,?_⟩
 ·refine W.of_eq ?_ e7;show kp fr.t ts (fun t=>a1.rec (motive:=fun _=>ct) (fun v _ st'=>ga aC.call cQ l ah (fr.put d v) st') (fun _ _=>.no) .no (bG aC.call o ⟨t,[],none,false,none⟩ st))=_;rw[pC];have e:bG aC.call o ⟨Fs fr.t ts,[],none,false,none⟩ st= .ok v (fr.only ts) st':=g1;rw[e]
 ·intro k a8 b ab Bl hb;have Nj:k<ids.length:=fx (zac.1 ab).1 cv.qk;have hb:=Bj k b Nj hb;obtain⟨au,a0⟩:=cv.bN k a8 b ab Bl hb;rw[H9 k b hb];exact⟨rO (dm.refl _) dh au,a0⟩
 ·intro h kG;obtain⟨I,U⟩:=cv.top h kG;refine⟨I,fun k b ab hb=> ?_⟩;have hb:=Bj k b (fx ab cv.xk) hb;rw[H9 k b hb];exact U k b ab hb
def P7{cQ:sK}{o:da}{ts:ac Tmp}{l:ac (bA×cD)}{ah:ac (aq bB)}{Q:dq->aO->ar->Prop}(I:bG aC.call o (fr.only ts) st= .ok v (fr.only ts) st)(U:∀h∈ah.take (back+1),bG aC.call o (fr.only ts) ⟨h,st.ai⟩= .ok v (fr.only ts) ⟨h,st.ai⟩)(hl:back<ah.length)
 (k:W (ga aC.call cQ l ah (fr.put d v) st) Q):W (ga aC.call cQ ((⟨d,o,none⟩,.read back ts)::l) ah fr st) Q:=by
 refine avL (fun h hm=> ?_) hl k;rcases zah.1 hm with rfl|hm
 ·exact I
 ·exact U h hm
def sV{o:da}{ts:ac Tmp}{l:ac (bA×cD)}{bj:Nat}(hb:back<bj)
 (h:∀(H:bm) (ids:ac Nat) (st:ar) (fr:aO),cU fr H ids (fJ ts a6)->bN.length<=ids.length->(∀(k:Nat) (o:aY) (b:Nat),bN[k]? =some o->o.live=true->ids[k]? =some b->k4 H ids o (st.h.get b))->
  ∃v,den H a ids v∧∀cc:ar,(∀b o,H b=some o->cc.h.get b=some o)->(∀(k:Nat) (o:aY) (b:Nat),bN[k]? =some o->o.live=true->ids[k]? =some b->cc.h.get b=st.h.get b)->bG aC.call o fr cc= .ok v fr cc)
 (k:hY aC K (.d l bN (eL d a a6) bj ck) ⟨s.own,s.n,eL d a s.env⟩):hY aC K (.d ((⟨d,o,none⟩,.read back ts)::l) bN a6 bj ck) s:=by
 intro cQ gu H ids st fr fj ah a3 ao af cv;have q0:cU fr fj ids a6:=⟨af.pl,cv.er⟩;obtain⟨v,I,U⟩:=h fj ids st (fr.only ts) (q0.only ts) cv.qk (fun k o b ab hl hb=>(cv.bN k o b ab hl hb).1);have e7:=k cQ gu H ids st (fr.put d v) fj ah a3 ao (af.eL d (uv cv.hle _ (c0.refl _) I)) ⟨cv.len,cv.hle,ahp cv.er d I,cv.qk,cv.xk,cv.bN,cv.old,cv.top⟩;refine P7 (U st (fun b o amL=>ao.le _ _ (cv.hle _ _ amL)) (fun _ _ _ _ _ _=>rfl)) (fun h hm=> ?_) (by rw[cv.len];exact hb) e7;have hm:=zbM hm;exact U ⟨h,st.ai⟩ (cv.old h hm) (fun k o b ab hl hb=>(cv.bN k o b ab hl hb).2 h hm)
def ahd{o:da}{ts:ac Tmp}{l:ac (bA×cD)}{bj:Nat}(hb:back<bj)
 (h:∀(H:bm) (ids:ac Nat) (fr:aO),cU fr H ids (fJ ts s.env)->∃v,den H a ids v∧∀st,bG aC.call o fr st= .ok v fr st)
 (k:hY aC K (.d l bN (uw d a6) bj ck) ⟨s.own,s.n,eL d a s.env⟩):hY aC K (.d ((⟨d,o,none⟩,.read back ts)::l) bN a6 bj ck) s:=by
 intro cQ gu H ids st fr fj ah a3 ao af cv;obtain⟨v,I,U⟩:=h H ids (fr.only ts) (af.only ts);have e7:=k cQ gu H ids st (fr.put d v) fj ah a3 ao (af.eL d I) ⟨cv.len,cv.hle,yp cv.er d v,cv.qk,cv.xk,cv.bN,cv.old,cv.top⟩;exact P7 (U st) (fun h hm=>U _) (by rw[cv.len];exact hb) e7
def ahc{o:da}{ts:ac Tmp}{l:ac (bA×cD)}{bj:Nat}(hb:0<bj)
 (h:∀(H:bm) (ids:ac Nat) (st:ar) (fr:aO),Fit H ids st s.own s.n->cU fr H ids (fJ ts s.env)->∃v,den H a ids v∧∀cc:ar,(∀b o,H b=some o->cc.h.get b=some o)->(∀k b:Nat,k<ck->ids[k]? =some b->cc.h.get b=st.h.get b)->bG aC.call o fr cc= .ok v fr cc)
 (k:hY aC K (.d l bN (uw d a6) bj ck) ⟨s.own,s.n,eL d a s.env⟩):hY aC K (.d ((⟨d,o,none⟩,.read 0 ts)::l) bN a6 bj ck) s:=by
 intro cQ gu H ids st fr fj ah a3 ao af cv;obtain⟨v,I,U⟩:=h H ids st (fr.only ts) ao (af.only ts);have e7:=k cQ gu H ids st (fr.put d v) fj ah a3 ao (af.eL d I) ⟨cv.len,cv.hle,yp cv.er d v,cv.qk,cv.xk,cv.bN,cv.old,cv.top⟩;refine P7 (U st ao.le (fun _ _ _ _=>rfl)) (fun h hm=> ?_) (by rw[cv.len];exact hb) e7;have hl:=cv.len
 match ah,hl,hm with
 |[],hl,_=>simp at hl;omega
 |h0::ah,_,hm=>
  simp at hm;subst hm;obtain⟨g1,aP⟩:=cv.top h rfl;exact U ⟨h,st.ai⟩ g1 aP
def ahH{o:da}{l:ac (bA×cD)}{bj:Nat}(h:Ma K d o c l bN a6 bj ck s.own s.n s.env=some g)(k:g.ok aC):hY aC K (.d ((⟨d,o,none⟩,c)::l) bN a6 bj ck) s:=by
 unfold Ma at h;split at h
 ·obtain⟨a,aZ,ch,I,U⟩:=Lr (call:=aC.call) h;obtain⟨eo,ag,au,a0⟩:=aaq I;exact yn U au a0 (yo (pz ag) k)
 ·rename_i ts;obtain⟨a,aZ,ch,I,U⟩:=Rr (call:=aC.call) (s:=⟨s.own,s.n,fJ ts s.env⟩) h;split at I
  ·rename_i hm;exact ag6 U hm (yo I k)
  ·cases I
 ·rename_i back ts;split at h<;>try cases h
  rename_i hb;have hb:back<bj:=jw hb;split at h
  ·rename_i qy ha;refine sV hb (fun H ids st fr af hl al=> ?_) (ahh h k);unfold RR at ha;split at ha
   ·rename_i aa;cases ha;obtain⟨v,I,U⟩:=Lp (call:=aC.call) af aa;exact⟨v,I,fun cc _ _=>U cc⟩
   ·obtain⟨v,I,U⟩:=Lk (call:=aC.call) af hl al ha;refine⟨v,I,fun cc g1 aP=>U cc (.inl g1) fun k b ab hb=> ?_⟩;obtain⟨a8,fF,cC⟩:=apH ha ab;exact aP k a8 b fF cC hb
  ·split at h
   ·rename_i a ha;exact ahd hb (fun H ids fr af=>Lp af ha) (yo h k)
   ·split at h<;>try cases h
    split at h<;>try cases h
    rename_i a ha;have key:(∀k,re (fJ ts s.env) o=some k->k<ck)->aW.ok aC ⟨K,.d l bN (uw d a6) bj ck,⟨s.own,s.n,eL d a s.env⟩⟩->hY aC K (.d ((⟨d,o,none⟩,.read 0 ts)::l) bN a6 bj ck) s:=fun ab k=>by
     refine ahc hb (fun H ids st fr ao af=> ?_) k;obtain⟨v,I,U⟩:=Lk (call:=aC.call) af (by rw[ao.len,ao.cr];exact cf _) (fun k o b ab _ hb=>(ao.own k o b ab hb).1) ha;exact⟨v,I,fun cc g1 aP=>U cc (.inl g1) fun k b fF cP=>aP k b (ab k fF) cP⟩
    split at h
    ·rename_i hn;exact key (fun k ab=>by rw[hn]at ab;cases ab) (yo h k)
    ·rename_i bV hn;split at h
     ·rename_i aT;exact key (fun k ab=>by rw[hn]at ab;cases ab;exact jw aT) (yo h k)
     ·cases h
def L7{o:da}{t:Tmp}{b:Bool}{l:ac (bA×cD)}{bj:Nat}(aM:ea (G1 c s.env) t=some (.b (!b))∨∃vs,ea (G1 c s.env) t=some (.bn vs))(h:DI K d c l bN a6 bj ck s.own s.n s.env=some g)(k:g.ok aC):hY aC K (.d ((⟨d,o,some (t,b)⟩,c)::l) bN a6 bj ck) s:=by
 have want:∀{fr:aO} {H:bm} {ids:ac Nat} {e:bQ} {y n z:ct},cU fr H ids e->(ea e t=some (.b (!b))∨∃vs,ea e t=some (.bn vs))->gC fr (some (t,b)) y n z=n:=fun{fr H ids e y n z} af aM=>by
  rcases aM with aM|⟨vs,aM⟩
  ·exact av5 (af.get _ _ aM)
  ·obtain⟨ws,aE,_⟩:=af.get _ _ aM;show mu (fr.tmp t) (fun c=>cond c (cond b y n) (cond b n y)) (rD (fr.tmp t) (fun _=>n) z)=_;rw[aE];rfl
 unfold DI at h;intro cQ gu H ids st fr fj ah a3 ao af cv;split at h
 ·have k:=yo (pz h) k;have e7:=k cQ gu H ids st (fr.put d undef) fj (st.h::ah) a3 ao (af.eL d ⟨[],rfl,rfl⟩) ⟨by simp[cv.len],cv.hle,yp cv.er d _,cv.qk,by rw[ao.len];exact cf _,fun k o b ab hl hb=> ?_,fun h hm=> ?_,fun h hm=> ?_⟩
  ·refine W.of_eq ?_ e7;show gC fr (some (t,b)) _ (ga aC.call cQ l (st.h::ah) (fr.put d undef) st) _=_;exact want af aM
  ·obtain⟨I,U⟩:=cv.bN k o b ab hl hb;refine⟨I,fun h hm=> ?_⟩;rcases zah.1 hm with rfl|hm
   ·rfl
   ·exact U h hm
  ·rcases zah.1 hm with rfl|hm
   ·exact fun b o hb=>ao.le _ _ (cv.hle _ _ hb)
   ·exact cv.old h hm
  ·simp at hm;subst hm;exact⟨ao.le,fun _ _ _ _=>rfl⟩
 ·rename_i hne;have k:=yo h k;have e7:=k cQ gu H ids st (fr.put d undef) fj ah a3 ao (af.eL d ⟨[],rfl,rfl⟩) ⟨cv.len,cv.hle,yp cv.er d _,cv.qk,cv.xk,cv.bN,cv.old,cv.top⟩;refine W.of_eq ?_ e7;cases c with
  |dY=>exact absurd rfl hne
  |hZ ts=>
   show kp fr.t ts (fun hM=>gC ⟨hM,[],none,false,none⟩ (some (t,b)) _ _ _)=_;rw[pC];exact want (af.only ts) aM
  |read back ts=>
   show kp fr.t ts (fun hM=>gC ⟨hM,[],none,false,none⟩ (some (t,b)) _ _ _)=_;rw[pC];exact want (af.only ts) aM
def Tf{o:da}{t:Tmp}{b:Bool}{l:ac (bA×cD)}{bj:Nat}(aM:ea (G1 c s.env) t=some (.b b))(k:hY aC K (.d ((⟨d,o,none⟩,c)::l) bN a6 bj ck) s):hY aC K (.d ((⟨d,o,some (t,b)⟩,c)::l) bN a6 bj ck) s:=by
 intro cQ gu H ids st fr fj ah a3 ao af cv;refine W.of_eq ?_ (k cQ gu H ids st fr fj ah a3 ao af cv);cases c with
 |dY=>
  show gC fr (some (t,b)) _ _ _=gC fr none _ _ _;exact QU (af.get _ _ aM)
 |hZ ts=>
  show kp fr.t ts (fun hM=>gC ⟨hM,[],none,false,none⟩ (some (t,b)) _ _ _)=kp fr.t ts (fun hM=>gC ⟨hM,[],none,false,none⟩ none _ _ _);rw[pC,pC];exact QU ((af.only ts).get _ _ aM)
 |read back ts=>
  show kp fr.t ts (fun hM=>gC ⟨hM,[],none,false,none⟩ (some (t,b)) _ _ _)=kp fr.t ts (fun hM=>gC ⟨hM,[],none,false,none⟩ none _ _ _);rw[pC,pC];exact QU ((af.only ts).get _ _ aM)
def cU.aaC:∀(eb:ac Tmp) {fr:aO} {e:bQ},cU fr H ids e->cU (ql fr eb) H ids (L8 eb e)
 |[],_,_,h=>h
 |d::eb,_,_,h=>cU.aaC eb (h.ahG d js)
def F7{gD:aW}(h:CF g=some gD)(k:gD.ok aC):g.ok aC:=by
 unfold CF at h;split at h
 ·cases h;exact fun H ids st fr a3 ao af=>av0 ⟨H,ids,_,a3,ao,af,k⟩
 ·cases h;exact fun H ids st fr a3 ao af=>avW (k H ids st fr a3 ao af)
 ·cases h;intro H ids st fr a3 ao af;refine avZ ((k H ids st fr a3 ao af).mono ?_);rintro x aF st' ⟨a2,bX,bo,cg,cl,dN,hq⟩;cases x with
  |norm=>exact hq a2 bX st' aF cg cl dN
  |exit i=>exact⟨a2,bX,bo,cg,cl,dN,hq⟩
  |ret=>exact⟨a2,bX,bo,cg,cl,dN,hq⟩
  |aQ v=>exact⟨a2,bX,bo,cg,cl,dN,hq⟩
 ·cases h;rename_i i a s;intro H ids st fr a3 ao af;refine avK ((k H ids st fr a3 ao af).mono ?_);rintro x aF st' ⟨a2,bX,bo,cg,cl,dN,hq⟩;cases x with
  |norm=>exact⟨a2,bX,bo,cg,cl,dN,hq⟩
  |exit j=>
   show(if j=i then _ else _);have hq:(if j=i then _ else _):=hq;split at hq
   ·rw[zab (by assumption)];exact⟨a2,bX,bo,cg,cl,dN,hq⟩
   ·rw[zaa (by assumption)];exact⟨a2,bX,bo,cg,cl,dN,hq⟩
  |ret=>exact⟨a2,bX,bo,cg,cl,dN,hq⟩
  |aQ v=>exact⟨a2,bX,bo,cg,cl,dN,hq⟩
 ·cases h;exact fun H ids st fr a3 ao af=>avO ⟨H,ids,_,a3,ao,af,k⟩
 ·cases h;exact fun H ids st fr a3 ao af=>avX ⟨H,ids,_,a3,ao,af,k⟩
 ·cases h;exact fun H ids st fr a3 ao af=>avY (k H ids st fr a3 ao af)
 ·split at h<;>cases h
  ·rename_i hc;exact fun H ids st fr a3 ao af=>av1 (af.ak hc) rfl (k H ids st fr a3 ao af)
  ·rename_i hc;exact fun H ids st fr a3 ao af=>avN (af.ak hc) rfl (k H ids st fr a3 ao af)
 ·cases h;exact fun H ids st fr a3 ao af=>avR ⟨H,ids,_,a3,ao,af,k⟩
 ·rename_i K d o l own n e;obtain⟨a,aZ,ch,I,U⟩:=Lr (call:=aC.call) (s:=⟨own,n,e⟩) h;cases I;exact Kb (s:=⟨own,n,e⟩) (d:=some d) U k
 ·rename_i K o l own n e;obtain⟨a,aZ,ch,I,U⟩:=Lr (call:=aC.call) (s:=⟨own,n,e⟩) h;cases I;exact Kb (s:=⟨own,n,e⟩) (d:=none) U k
 ·rename_i K d o t b l own n e;have on:∀{b:Bool},ea e t=some (.b b)->hY aC K (.o (⟨d,o,none⟩::l)) ⟨own,n,e⟩->hY aC K (.o (⟨d,o,some (t,b)⟩::l)) ⟨own,n,e⟩:=fun aM k H ids st fr a3 ao af=>avU (af.get _ _ aM) rfl (k H ids st fr a3 ao af);have off:∀{b:Bool},ea e t=some (.b (!b))->hY aC K (.o l) ⟨own,n,eL d (.bn []) e⟩->hY aC K (.o (⟨d,o,some (t,b)⟩::l)) ⟨own,n,e⟩:=fun aM k H ids st fr a3 ao af=>avS (af.get _ _ aM) rfl (k H ids st _ a3 ao (af.eL d ⟨[],rfl,rfl⟩));split at h
  ·rename_i aM;cases b
   ·exact off aM (OV h k)
   ·cases h;exact on aM k
  ·rename_i aM;cases b
   ·cases h;exact on aM k
   ·exact off aM (OV h k)
  ·rename_i aM;have k:=OV h k;intro H ids st fr a3 ao af;obtain⟨vs,aE,_⟩:=af.get _ _ aM;exact avT aE (k H ids st _ a3 ao (af.eL d ⟨[],rfl,rfl⟩))
  ·cases h
 ·rename_i K l cm eb ms own n e;have h:=YN (Tg h);cases h;intro H ids st fr a3 ao af;have af:=af.aaC eb;exact avM (k _ (show qK aC.call ms (dd l)=qK aC.call ms (0+dd l) by rw[zas]) H ids st _ H [st.h] a3 ao af ⟨rfl,dm.refl _,af.get,by rw[ao.len,<-ao.cr];exact cf _,by rw[ao.len];exact cf _,fun k o b ab hl hb=>⟨(ao.own k o b ab hb).1,fun h hm=>by simp at hm;rw[hm]⟩,fun h hm=>by simp at hm;subst hm;exact ao.le,fun h hm=>by simp at hm;subst hm;exact⟨ao.le,fun _ _ _ _=>rfl⟩⟩)
 ·cases h;exact fun cQ gu H ids st fr fj ah a3 ao af cv=>adP ⟨H,ids,_,a3,ao,af,k⟩
 ·cases h;exact fun cQ gu H ids st fr fj ah a3 ao af cv=>adP ⟨H,ids,_,a3,ao,af,k⟩
 ·exact ahH (s:=⟨_,_,_⟩) h k
 ·split at h
  ·rename_i aM;split at h
   ·cases h;exact Tf (s:=⟨_,_,_⟩) aM k
   ·exact L7 (s:=⟨_,_,_⟩) (.inl aM) h k
  ·rename_i aM;split at h
   ·cases h;exact Tf (s:=⟨_,_,_⟩) aM k
   ·exact L7 (s:=⟨_,_,_⟩) (.inl aM) h k
  ·rename_i aM;exact L7 (s:=⟨_,_,_⟩) (.inr ⟨_,aM⟩) h k
  ·cases h
 ·cases h;exact k
 ·cases h;exact k
 ·cases h;exact k
 ·cases h;exact k
 ·split at h<;>cases h
  ·rename_i hb;show(if _ then _ else _);rw[zab (dI hb)];exact k
  ·rename_i hb;show(if _ then _ else _);rw[zaa (fun e=>by rw[e,zax]at hb;cases hb)];exact k
 ·cases h;exact k
 ·cases h;exact k
 ·cases h;exact k
 ·cases h;exact k
 ·cases h;exact k
 ·cases h;exact k
 ·cases h;exact k
 ·cases h
def zL{c:bv}{a b:du}(hc:bM s.env c=some (.b t))(ha:t=true->aW.ok aC ⟨K,.c a,s⟩)(hb:t=false->aW.ok aC ⟨K,.c b,s⟩):aW.ok aC ⟨K,.c (.cond c a b),s⟩:=fun H ids st fr a3 ao af=>
 avP (af.ak hc) (fun h=>ha h H ids st fr a3 ao af) (fun h=>hb h H ids st fr a3 ao af)
def asz{c:bv}{a b:du}(hc:bM s.env c=some (.b t))(aV:t=true)(ha:aW.ok aC ⟨K,.c a,s⟩):aW.ok aC ⟨K,.c (.cond c a b),s⟩:=zL hc (fun _=>ha) (fun h=>by rw[aV]at h;cases h)
def asl{c:bv}{a b:du}(hc:bM s.env c=some (.b t))(aV:t=false)(hb:aW.ok aC ⟨K,.c b,s⟩):aW.ok aC ⟨K,.c (.cond c a b),s⟩:=zL hc (fun h=>by rw[aV]at h;cases h) (fun _=>hb)
def asp{L:Type _}{b:du}(jy:L->cB->Prop)(dF:L->Nat)(lb:L)(h0:jy lb s)(hm:dF lb<aC.bE)(h:∀l bo,jy l bo->aW.ok aC ⟨.bW (fun t=>∃l',dF l'<dF l∧jy l' t)::K,.c b,bo⟩):aW.ok aC ⟨K,.c (.loop b),s⟩:=by
 intro H ids st fr a3 ao af;refine avQ (fun m fr st=>∃l H ids s,dF l=m∧jy l s∧cG aC.bT aC.i0 aC.aN H ids st∧Fit H ids st s.own s.n∧cU fr H ids s.env) (dF lb) hm ⟨lb,H,ids,s,rfl,h0,a3,ao,af⟩ ?_;rintro m fr st ⟨l,H,ids,bo,rfl,ae,a3,ao,af⟩;refine(h l bo ae H ids st fr a3 ao af).mono ?_;rintro x aF st' ⟨a2,bX,bo,cg,cl,dN,hq⟩;cases x with
 |norm=>obtain⟨l',I,U⟩:=hq;exact⟨_,I,l',a2,bX,bo,rfl,U,cg,cl,dN⟩
 |exit i=>exact⟨a2,bX,bo,cg,cl,dN,hq⟩
 |ret=>exact⟨a2,bX,bo,cg,cl,dN,hq⟩
 |aQ v=>exact⟨a2,bX,bo,cg,cl,dN,hq⟩
end
def iL{aC:fp}{g gD:aW}(k:gD.ok aC)(h:CF g=some gD:=by rfl):g.ok aC:=F7 h k
inductive Ai:aW->aW->Prop
 |o {g:aW}:Ai g g
 |i {g g1 aP:aW} (h:CF g=some g1) (t:Ai g1 aP):Ai g aP
variable{g gD:aW}
def au3{aC:fp}(h:Ai g gD)(k:gD.ok aC):g.ok aC:=by
 induction h with
 |o=>exact k
 |i h _ ba=>exact F7 h (ba k)
def J{aC:fp}(k:gD.ok aC)(h:Ai g gD:=by(repeat(apply Ai.i;exact rfl));exact .o):g.ok aC:=au3 h k
end Go.an
namespace Go.an
open Sym
variable{f:ac Nat}
def kZ(f:ac Nat):bQ->bQ->Prop
 |[],_=>True
 |p::l,e=>ea e p.1=some (lZ f p.2)∧kZ f l e
def kZ.get:∀{l e:bQ},kZ f l e->∀{j:Nat} {a:aj},ea l j=some a->ea e j=some (lZ f a)
 |[],_,_,_,_,h=>by cases h
 |p::l,e,ah,j,v,h=>by
  rw[sf]at h;cases hb:Nat.beq p.1 j with
  |true=>rw[hb]at h;cases h;rw[<-dI hb];exact ah.1
  |false=>rw[hb]at h;exact kZ.get ah.2 h
def gm(f:ac Nat):aY->aY->Prop
 |.c el cs,o=>o= .c el (o5 f cs)
 |.a el bc z α R l,o=>o= .a el bc z α R l∧∀x,ht (R x)=true
 |.x,_=>True
def uf(f:ac Nat)(own:ac aY):ac Nat->ac aY->Prop
 |[],[]=>True
 |m::ms,o::os=>(∃a8,own[m]? =some a8∧gm f o a8)∧uf f own ms os
 |_,_=>False
def uf.len{own:ac aY}:∀{ms:ac Nat} {os:ac aY},uf f own ms os->os.length=ms.length
 |[],[],_=>rfl
 |[],_::_,h=>h.elim
 |_::_,[],h=>h.elim
 |_::ms,_::os,h=>by simp[uf.len h.2]
def uf.get{own:ac aY}:∀{ms:ac Nat} {os:ac aY},uf f own ms os->∀{k:Nat} {o:aY},os[k]? =some o->∃m a8,ms[k]? =some m∧own[m]? =some a8∧gm f o a8
 |[],[],_,_,_,h=>by simp at h
 |[],_::_,h,_,_,_=>h.elim
 |_::_,[],h,_,_,_=>h.elim
 |m::ms,o::os,⟨⟨a8,I,U⟩,ag⟩,0,q,h=>by simp at h;subst h;exact⟨m,a8,rfl,I,U⟩
 |m::ms,o::os,⟨_,ag⟩,k+1,q,h=>uf.get ag (by simpa using h)
def pinned:Nat->ac Nat->Nat->Bool
 |0,_,_=>true
 |n+1,m::f,k=>Nat.beq m k&&pinned n f (k+1)
 |_+1,[],_=>false
theorem Po:∀{n:Nat} {f:ac Nat} {k:Nat},pinned n f k=true->∀i,i<n->f[i]? =some (k+i)
 |0,_,_,_,i,h=>by omega
 |n+1,[],k,h,_,_=>by cases h
 |n+1,m::f,k,h,i,ae=>by
  have h:(Nat.beq m k&&pinned n f (k+1))=true:=h;rw[b1]at h;cases i with
  |zero=>simp[dI h.1]
  |succ i=>rw[show k+(i+1)=(k+1)+i by omega];simpa using Po h.2 i (by omega)
structure Sub(p:Nat)(f:ac Nat)(s t:cB):Prop where
 g9:f.Nodup
 n:t.n=f.length
 own:uf f s.own f t.own
 env:kZ f t.env s.env
 aaz:pinned p f 0=true
section
variable{H:bm}{ids:ac Nat}{st:ar}{fr:aO}{s t:cB}{f:ac Nat}
variable{o a8:aY}{p:Nat}
def ahl{eH:am bB}(h:gm f o a8)(d:k4 H ids a8 eH):k4 H (pick f ids) o eH:=by
 cases o with
 |c el cs=>cases h;obtain⟨vs,e,d⟩:=d;exact⟨vs,e,wy f cs d⟩
 |a el bc z α R l=>
  obtain⟨h,hp⟩:=h;cases h;obtain⟨vs,az,e2,d⟩:=d;exact⟨vs,az,e2,fun i x aa=>oB _ (hp x) (d i x aa) _⟩
 |x=>trivial
def gm.live(h:gm f o a8)(hl:o.live=true):a8.live=true:=by
 cases o with
 |c el cs=>cases h;rfl
 |a el bc z α R l=>cases h.1;rfl
 |x=>cases hl
def Sub.fit(h:Sub p f s t)(ao:Fit H ids st s.own s.n):Fit H (pick f ids) st t.own t.n:=by
 have aM:∀{k m:Nat},f[k]? =some m->(∃o,s.own[m]? =some o)->∃b,ids[m]? =some b∧(pick f ids)[k]? =some b:=fun{k m} ab ⟨o,al⟩=>by
  have aT:=(zac.1 al).1;have ae:m<ids.length:=by rw[ao.len,<-ao.cr];exact aT
  exact⟨_,bg ae,rl ab (bg ae)⟩
 have dZ:∀k m:Nat,f[k]? =some m->∃o,s.own[m]? =some o:=fun k m ab=>by
  have hl:=h.own.len;have aT:=(zac.1 ab).1;obtain⟨eG,a8,I,U,_⟩:=h.own.get (bg (show k<t.own.length by omega));rw[ab]at I;cases I;exact⟨a8,U⟩
 have iX:(pick f ids).length=f.length:=by simp[pick]
 refine⟨ao.wf,ao.le,by rw[h.n,h.own.len],by rw[h.n,iX],?_,?_,?_⟩
 ·rw[List.Nodup,zbk];intro i j ae hj mM;rw[iX]at ae hj;obtain⟨b,I,U⟩:=aM (bg ae) (dZ _ _ (bg ae));obtain⟨c,ag,au⟩:=aM (bg hj) (dZ _ _ (bg hj));have az:=(zac.1 U).2;have e2:=(zac.1 au).2;rw[az,e2];intro e;subst e;have g1:=zac.1 I;have aP:=zac.1 ag;have:=(zbC (h₀:=g1.1) (h₁:=aP.1) ao.g9).1 (g1.2.trans aP.2.symm);have:=(zbC (h₀:=ae) (h₁:=hj) h.g9).1 this;omega
 ·intro b hb;obtain⟨k,ab⟩:=zaS.1 hb;have aT:=(zac.1 ab).1;rw[iX]at aT;obtain⟨c,I,U⟩:=aM (bg aT) (dZ _ _ (bg aT));rw[ab]at U;cases U;exact ao.lt _ (zal I)
 ·intro k o b ab hb;obtain⟨m,a8,I,U,ag⟩:=h.own.get ab;obtain⟨c,au,a0⟩:=aM I ⟨a8,U⟩;rw[hb]at a0;cases a0;obtain⟨g1,aP⟩:=ao.own m a8 b U au;exact⟨ahl ag g1,fun hl=>aP (ag.live hl)⟩
def Sub.Mz(h:Sub p f s t)(af:cU fr H ids s.env):cU fr H (pick f ids) t.env:=⟨af.pl,fun j a hj=>Hh f a (af.get j _ (h.env.get hj))⟩
def Sub.bh{bT:bm}{i0:ac Nat}{aN:ar}(h:Sub i0.length f s t)(ao:Fit H ids st s.own s.n)(a3:cG bT i0 aN H ids st):cG bT i0 aN H (pick f ids) st:=by
 refine⟨a3.hle,a3.hold,a3.gh,a3.ai,?_,?_⟩
 ·intro k b ab;have aT:=(zac.1 ab).1;have:=Po h.aaz k aT;rw[zas]at this;exact rl this (a3.iY k b ab)
 ·intro b hb;obtain⟨k,ab⟩:=zaS.1 hb;unfold pick at ab;rw[zcR]at ab;cases H3:f[k]? with
  |none=>rw[H3]at ab;cases ab
  |some m=>
   rw[H3]at ab;have ab:some ((ids[m]?).getD 0)=some b:=ab;have hl:=h.own.len;have aT:=(zac.1 H3).1;obtain⟨eG,a8,I,U,_⟩:=h.own.get (bg (show k<t.own.length by omega));rw[H3]at I;cases I;have ae:m<ids.length:=by rw[ao.len,<-ao.cr];exact(zac.1 U).1
   rw[bg ae]at ab;cases ab;exact a3.new _ (dp ae)
end
section
variable{aC:fp}{K:ac eN}{s t:cB}{f:ac Nat}
def ub.sub{Q C3:dq->cB->Prop}{x:dq}{fr:aO}{st:ar}(hq:∀s,Q x s->∃f t,Sub aC.i0.length f s t∧C3 x t)(h:ub aC Q x fr st):ub aC C3 x fr st:=by
 obtain⟨H,ids,s,a3,ao,af,h⟩:=h;obtain⟨f,t,ah,aG⟩:=hq s h;exact⟨H,_,t,ah.bh ao a3,ah.fit ao,ah.Mz af,aG⟩
def P4{c:du}(f:ac Nat)(t:cB)(h:Sub aC.i0.length f s t)(k:aW.ok aC ⟨K,.c c,t⟩):aW.ok aC ⟨K,.c c,s⟩:=fun H ids st fr a3 ao af=>k H _ st fr (h.bh ao a3) (h.fit ao) (h.Mz af)
def asy{l:ac bA}(f:ac Nat)(t:cB)(h:Sub aC.i0.length f s t)(k:aW.ok aC ⟨K,.o l,t⟩):aW.ok aC ⟨K,.o l,s⟩:=fun H ids st fr a3 ao af=>k H _ st fr (h.bh ao a3) (h.fit ao) (h.Mz af)
def x2(p:Nat){L:Type _}(P:L->Prop)(T:L->cB)(s:cB):Prop:=∃f l,P l∧Sub p f s (T l)
variable{e:bQ}{a:aj}{aL:Nat}{L:Type _}{p:Nat}{c:bf}
def df{b:du}(P:L->Prop)(T:L->cB)(dF:L->Nat)(f0:ac Nat)(lb:L)(hi:P lb)(hm:dF lb<aC.bE)(h0:Sub aC.i0.length f0 s (T lb))
 (h:∀l,P l->aW.ok aC ⟨.bW (x2 aC.i0.length (fun l'=>dF l'<dF l∧P l') T)::K,.c b,T l⟩):aW.ok aC ⟨K,.c (.loop b),s⟩:=
 asp (fun l s=>P l∧∃f,Sub aC.i0.length f s (T l)) dF lb ⟨hi,f0,h0⟩ hm fun l bo ⟨hp,f,ah⟩=>P4 f _ ah (by
  refine fun H ids st fr a3 ao af=>(h l hp H ids st fr a3 ao af).mono ?_;rintro x aF st' ⟨a2,bX,bo,cg,cl,dN,hq⟩;refine⟨a2,bX,bo,cg,cl,dN,?_⟩;cases x with
  |norm=>obtain⟨nk,l',⟨I,U⟩,ag⟩:=hq;exact⟨l',I,U,nk,ag⟩
  |exit i=>exact hq
  |ret=>exact hq
  |aQ v=>exact hq)
def br{P:L->Prop}{T:L->cB}(f:ac Nat)(l:L)(hi:P l)(h:Sub p f s (T l)):aW.ok aC ⟨.bW (x2 p P T)::K,.x .norm,s⟩:=⟨f,l,hi,h⟩
def c8{e:dq}(h:aC.Q e s):aW.ok aC ⟨[],.x e,s⟩:=h
def oT{fr:aO}{H:bm}{ids:ac Nat}{t:Nat}{b:aj}(h:ea e t=some a)(hn:∀H ids v,den H a ids v->den H b ids v)(af:cU fr H ids e):cU fr H ids ((t,b)::e):=⟨af.pl,fun j c hj=>by
 rw[sf]at hj;cases hb:Nat.beq t j with
 |true=>rw[hb]at hj;cases hj;rw[<-dI hb];exact hn _ _ _ (af.get t _ h)
 |false=>rw[hb]at hj;exact af.get j c hj⟩
def bf.w9:bf->Bool
 |.x _=>true
 |_=>false
def aB(t:Nat)(b:aj){own:ac aY}(h:ea e t=some a)(fM:a=b)(cn:aW.ok aC ⟨K,c,⟨own,aL,(t,b)::e⟩⟩)(hc:c.w9=false:=by rfl):aW.ok aC ⟨K,c,⟨own,aL,e⟩⟩:=by
 subst fM;cases c with
 |c c=>exact fun H ids st fr a3 ao aG=>cn H ids st fr a3 ao (oT h (fun _ _ _ d=>d) aG)
 |o l=>exact fun H ids st fr a3 ao aG=>cn H ids st fr a3 ao (oT h (fun _ _ _ d=>d) aG)
 |x e=>cases hc
 |d l bN a6 bj ck=>exact fun cQ gu H ids st fr fj ah a3 ao aG cv=>cn cQ gu H ids st fr fj ah a3 ao (oT h (fun _ _ _ d=>d) aG) cv
def pF(t:Nat)(b:aj){own:ac aY}(h:ea e t=some a)(fM:b7 a b)(cn:aW.ok aC ⟨K,c,⟨own,aL,(t,b)::e⟩⟩)(hc:c.w9=false:=by rfl):aW.ok aC ⟨K,c,⟨own,aL,e⟩⟩:=by
 cases c with
 |c c=>exact fun H ids st fr a3 ao aG=>cn H ids st fr a3 ao (oT h fM aG)
 |o l=>exact fun H ids st fr a3 ao aG=>cn H ids st fr a3 ao (oT h fM aG)
 |x e=>cases hc
 |d l bN a6 bj ck=>exact fun cQ gu H ids st fr fj ah a3 ao aG cv=>cn cQ gu H ids st fr fj ah a3 ao (oT h fM aG) cv
def eU(t:Nat)(b:aj){own bN:ac aY}{bj ck:Nat}{a6:bQ}{l:ac (bA×cD)}(h:ea e t=some a)(h0:ea a6 t=some a)(fM:a=b)(cn:aW.ok aC ⟨K,.d l bN ((t,b)::a6) bj ck,⟨own,aL,(t,b)::e⟩⟩):aW.ok aC ⟨K,.d l bN a6 bj ck,⟨own,aL,e⟩⟩:=by
 subst fM;exact fun cQ gu H ids st fr fj ah a3 ao aG cv=>cn cQ gu H ids st fr fj ah a3 ao (oT h (fun _ _ _ d=>d) aG) ⟨cv.len,cv.hle,(oT (fr:=fr) h0 (fun _ _ _ d=>d) ⟨aG.pl,cv.er⟩).get,cv.qk,cv.xk,cv.bN,cv.old,cv.top⟩
def kx{own:ac aY}{n:Nat}{bS:bQ}(h:kZ [] bS e)(hp:pinned p [] 0=true:=by rfl):Sub p [] ⟨own,n,e⟩ ⟨[],0,bS⟩:=⟨zdq,rfl,trivial,h,hp⟩
end
section
variable{aC:fp}{K:ac eN}{own aZ:ac aY}{aL ch:Nat}{e:bQ}
variable{o:da}{l:ac bA}{a:aj}
def hd{d:Tmp}(h:g7 aC.call o ⟨own,aL,e⟩ a aZ ch)(k:aW.ok aC ⟨K,.o l,⟨aZ,ch,(d,a)::e⟩⟩):aW.ok aC ⟨K,.o (⟨some d,o,none⟩::l),⟨own,aL,e⟩⟩:=Kb (d:=some d) h k
def abH(h:g7 aC.call o ⟨own,aL,e⟩ a aZ ch)(k:aW.ok aC ⟨K,.o l,⟨aZ,ch,e⟩⟩):aW.ok aC ⟨K,.o (⟨none,o,none⟩::l),⟨own,aL,e⟩⟩:=Kb (d:=none) h k
end
section
variable{call:bF}{s:cB}{x y i:bv}{a b:aj}
variable{z j k:Nat}{α:Type}{el:ci}{bc:Bool}{q:Nat}{H:bm}{ids:ac Nat}{ds:ac aj}{R:α->ac aj}{l:ac α}{w:α}
def ny{o:da}(h:∀H ids st fr,Fit H ids st s.own s.n->cU fr H ids s.env->∃v,den H a ids v∧bG call o fr st= .ok v fr st):g7 call o s a s.own s.n:=fun H ids st fr ao af=>
 let⟨v,I,U⟩:=h H ids st fr ao af
 ⟨v,st,ids,H,U,ao,I,dm.refl _,c0.refl _,fun _ _ _ B=>B,cf _,fun _ _ _=>rfl⟩
def Ye{o n c:Nat}{cn:d8}(aa:bM s.env x=some (.a5 k z o n c))(ae:bM s.env i=some (.i cn (j:Int)))(hj:j<n):g7 call (.mY z x i) s (.gk k z (o+j) 0) s.own s.n:=ny fun H ids st fr ao af=>by
 obtain⟨b,I,U⟩:=af.ak aa;have ag:fr.ak i= .int cn (j:Int):=af.ak ae;exact⟨_,⟨b,I,by rw[zak,zba]⟩,Jf U ag hj⟩
def N0{q:α}{cn:d8}(aa:bM s.env x=some (.bq z α R l))(ae:bM s.env i=some (.i cn (j:Int)))(hj:l[j]? =some q):g7 call (.mY z x i) s (.ip (R q)) s.own s.n:=ny fun H ids st fr ao af=>by
 have ag:fr.ak i= .int cn (j:Int):=af.ak ae;have aT:=(zac.1 hj).1;rcases af.ak aa with⟨hl,_⟩|⟨b,o,c,vs,el,bk,bc,I,U,au,a0⟩
 ·subst hl;simp at aT
 ·refine⟨_,⟨b,o+j*z,vs,el,bk,bc,rfl,au,?_⟩,Jf I ag aT⟩;have ay:=a0 j q hj;have hl:=hP ay;rw[<-hl];rw[show(vs.drop (o+j*z)).take ((vs.drop (o+j*z)).take z).length=(vs.drop (o+j*z)).take z by rw[zao,<-List.take_eq_take_min]];exact ay
def qC{st:ar}(ao:Fit H ids st s.own s.n)(ab:s.own[k]? =some (.a el bc z α R l)){b:Nat}(hb:ids[k]? =some b):∃vs,st.h.get b=some (.cells vs el (0,0) bc)∧vs.length=l.length*z∧∀i x,l[i]? =some x->c4 H (R x) ids ((vs.drop (i*z)).take z):=(ao.own k _ b ab hb).1
def apG(aa:bM s.env x=some (.gk k z j q))(ab:s.own[k]? =some (.a el bc z α R l))(hj:l[j]? =some w)(hq:(R w)[q]? =some a):g7 call (.jr x) s a s.own s.n:=ny fun H ids st fr ao af=>by
 obtain⟨b,I,U⟩:=af.ak aa;obtain⟨vs,ag,au,a0⟩:=qC ao ab I;obtain⟨v,aE,ay⟩:=wx (a0 j w hj) hq;refine⟨v,ay,BI U ag ?_⟩;rw[zaK]at aE;split at aE
 ·rw[zaw]at aE;exact aE
 ·cases aE
def afE{v:bi}(h:sR a=some ds)(hc:qI ds=true)(d:den H a ids v):c4 H ds ids (ih v)∧hD (ih v)=true:=by
 obtain⟨_,d2⟩:=GX h d;exact⟨d2,Dv hc d2⟩
def afI{vs ws:ac bi}(i:Nat)(aE:(j+1)*z<=vs.length)(hq:q+ws.length<=z):
 ((vs.take (j*z+q)++(ws++vs.drop (j*z+q+ws.length))).drop (i*z)).take z=if i=j then((vs.drop (j*z)).take z).take q++(ws++((vs.drop (j*z)).take z).drop (q+ws.length))else(vs.drop (i*z)).take z:=by
 rw[zak,zbm]at aE;apply zbA;intro p;rw[zaK,zaw];by_cases hp:p<z
 ·rw[zab hp];have get:∀m,(vs.take (j*z+q)++(ws++vs.drop (j*z+q+ws.length)))[m]? =if m<j*z+q then vs[m]? else if m<j*z+q+ws.length then ws[m-(j*z+q)]? else vs[m]? :=by
   intro m;by_cases I:m<j*z+q
   ·rw[zab I,zaD (by simp;omega),zaK,zab I]
   ·rw[zaa I,zav (by simp;omega),zao,zaF (by omega)];by_cases U:m<j*z+q+ws.length
    ·rw[zab U,zaD (by omega)]
    ·rw[zaa U,zav (by omega),zaw];congr 1;omega
  rw[get];by_cases mM:i=j
  ·subst mM;rw[zab rfl];by_cases I:p<q
   ·rw[zab (by omega),zaD (by simp;omega),zaK,zab I,zaK,zab hp,zaw]
   ·rw[zaa (by omega),zav (by simp;omega)];have e:(((vs.drop (i*z)).take z).take q).length=q:=by simp;omega
    rw[e];by_cases U:p<q+ws.length
    ·rw[zab (by omega),zaD (by omega)];congr 1;omega
    ·rw[zaa (by omega),zav (by omega),zaw,zaK,zab (by omega),zaw];congr 1;omega
  ·rw[zaa mM,zaK,zab hp,zaw];have:i*z+p<j*z∨j*z+z<=i*z+p:=by
    rcases Nat.lt_or_gt_of_ne mM with h|h
    ·left;have:(i+1)*z<=j*z:=ix z h;rw[zak,zbm]at this;omega
    ·right;have:(j+1)*z<=i*z:=ix z h;rw[zak,zbm]at this;omega
   rcases this with h|h
   ·rw[zab (by omega)]
   ·rw[zaa (by omega),zaa (by omega)]
 ·rw[zaa hp]
  symm
  rw[List.getElem?_eq_none_iff];split
  ·simp;omega
  ·simp;omega
def Qv{m:Nat}(w':α)(aa:bM s.env x=some (.gk k z j q))(aJ:bM s.env y=some a)(hc:sR a=some ds)(hl:ds.length=m)(dJ:qI ds=true)
 (ab:s.own[k]? =some (.a el bc z α R l)) (hj:l[j]? =some w) (cZ:R w'=(R w).take q++(ds++(R w).drop (q+ds.length))) (ax:q+m<=z):
 g7 call (.store m x y) s (.bn []) (s.own.set k (.a el bc z α R (l.set j w'))) s.n:=fun H ids st fr ao af=>by
 obtain⟨b,I,U⟩:=af.ak aa;obtain⟨vs,ag,au,a0⟩:=qC ao ab I;obtain⟨d2,bR⟩:=afE hc dJ (af.ak aJ);have mQ:=hP d2;have aT:=(zac.1 hj).1;have X7:(j+1)*z<=vs.length:=by rw[au];exact ix z aT
 have aon:=X7;rw[zak,zbm]at aon;refine⟨undef,⟨st.h.set b (.cells (vs.take (j*z+q)++(ih (fr.ak y)++vs.drop (j*z+q+(ih (fr.ak y)).length))) el (0,0) bc),st.ai⟩,ids,H,?_,ao.hv ab rfl I ⟨_,rfl,?_,?_⟩,⟨[],rfl,rfl⟩,dm.refl _,c0.refl _,fun _ _ _ B=>B.hv (zal I) _,cf _,?_⟩
 ·have:bG call (.store m x y) fr st=iM (fr.ak x) (fun p=>bp p (fun a=>dQ (dd (ih (fr.ak y))) m (cond (hD (ih (fr.ak y))) (st.store a (ih (fr.ak y)) (fun st=>a1.ok undef fr st) .no) .no) .no) .no) .no:=rfl;rw[this,U,rC,Sym.eB,fe,kC (by omega),bR,cond_true];unfold ar.store ar.gN;rw[Sym.gI,ag,lr,gi (cf _),rn,zab (by show j*z+q+_<=_;omega),kR]
 ·simp only[zap,zao,zaz,zbv];rw[<-au];omega
 ·intro i p hp;rw[afI i X7 (by omega)];rw[zaG]at hp;by_cases mM:j=i
  ·subst mM;rw[zab rfl,zab aT]at hp;cases hp;rw[zab rfl,cZ];exact L2 q (a0 j w hj) d2
  ·rw[zaa mM]at hp;rw[zaa (Ne.symm mM)];exact a0 i p hp
 ·intro eR _ hne;exact aq.gq _ _ (fun e=>hne k (by simp[jb,aa]) (e▸I))
def auV(w':α)(aa:bM s.env x=some (.gk k 1 j 0))(aJ:bM s.env y=some a)(ab:s.own[k]? =some (.a el bc 1 α R l))(cZ:R w'=[a])(hj:j<l.length)(hc:wi a=true)(I:∀w,(R w).length=1):
 g7 call (.store 1 x y) s (.bn []) (s.own.set k (.a el bc 1 α R (l.set j w'))) s.n:=by
 refine Qv (w:=l[j]) w' aa aJ (ds:=[a]) ?_ rfl ?_ ab (bg hj) ?_ (by decide)
 ·cases a<;>first|rfl|cases hc|(show(match wi _ with|true=>_|false=>_)=_;rw[hc])
 ·show(wi a&&true)=true;rw[hc];rfl
 ·rw[cZ];have:=I l[j];rw[show(R l[j]).drop (0+[a].length)=[] by apply zbS;simp;omega];rfl
end
set_option maxRecDepth 10000
section
variable{call:bF}{s:cB}{x y i:bv}{a b:aj}
def kW(H:bm)(ids:ac Nat){α:Type}(R:α->ac aj)(z:Nat)(l:ac α)(vs:ac bi):Prop:=vs.length=l.length*z∧∀i x,l[i]? =some x->c4 H (R x) ids ((vs.drop (i*z)).take z)
variable{α:Type}{z:Nat}{H:bm}{ids:ac Nat}{vs:ac bi}{R:α->ac aj}{l:ac α}
def Dy(H:bm)(ids:ac Nat)(R:α->ac aj)(z:Nat):kW H ids R z [] []:=⟨by simp,fun i x h=>by simp at h⟩
def wm{m:ac α}{ws:ac bi}(h:kW H ids R z l vs)(aG:kW H ids R z m ws):kW H ids R z (l++m) (vs++ws):=by
 refine⟨by rw[zap,zap,h.1,aG.1,zak],fun i x aa=> ?_⟩;by_cases ae:i<l.length
 ·rw[zaD ae]at aa;have I:=h.2 i x aa;have hle:(i+1)*z<=vs.length:=by rw[h.1];exact ix z ae
  rw[zak,zbm]at hle;rw[zdZ (by omega),zcu (by simp;omega)];exact I
 ·rw[zav (by omega)]at aa;have I:=aG.2 _ x aa;have e:i*z=vs.length+(i-l.length)*z:=by rw[h.1,<-zak];congr 1;omega
  rw[e,<-zbu,List.drop_left];exact I
def GZ(h:kW H ids R z l vs)(n:Nat)(hn:n<=l.length):kW H ids R z (l.take n) (vs.take (n*z)):=by
 have Ez:n*z<=l.length*z:=ix z hn;refine⟨by rw[zao,zao,h.1,zaF Ez,zaF hn],fun i x aa=> ?_⟩;rw[zaK]at aa;split at aa
 ·rename_i ae;have hle:(i+1)*z<=n*z:=ix z ae;rw[zak,zbm]at hle;rw[zdX,zdp,zaF (by omega)];exact h.2 i x aa
 ·cases aa
def Ay(h:kW H ids R z l vs)(n:Nat):kW H ids R z (l.drop n) (vs.drop (n*z)):=by
 refine⟨by rw[zaz,zaz,h.1,Nat.sub_mul],fun i x aa=> ?_⟩;rw[zaw]at aa;rw[zbu,<-zak];exact h.2 _ x aa
def LR{w:α}(h:c4 H (R w) ids vs)(ax:(R w).length=z):kW H ids R z [w] vs:=by
 have hl:=hP h;refine⟨by simp;omega,fun i x aa=> ?_⟩;cases i with
 |zero=>simp at aa;subst aa;rw[zar,zaq,zau (by omega)];exact h
 |succ i=>simp at aa
theorem SC{H:bm}{ids:ac Nat}{α:Type}{R:α->ac aj}{w:α}{jx:ac bi}(h:c4 H (R w) ids jx):∀n,kW H ids R jx.length (List.replicate n w) (oA jx n)
 |0=>Dy _ _ _ _
 |n+1=>by
  have e:oA jx (n+1)=jx++oA jx n:=by show fk jx (oA jx n)=_;rw[qB]
  rw[e,zea,<-List.singleton_append];exact wm (LR h (by rw[hP h])) (SC h n)
theorem LQ{H:bm}{ids:ac Nat}{α:Type}{R:α->ac aj}{z:Nat}(ax:∀w,(R w).length=z):∀{l:ac α} {vs:ac bi},c4 H (l.flatMap R) ids vs->kW H ids R z l vs
 |[],vs,d=>by cases d;exact Dy _ _ _ _
 |w::l,vs,d=>by
  rw[zcQ]at d;have I:=wz z d;have U:=pW z d;rw[zeb (ax w)]at I;rw[zdr (ax w)]at U;rw[<-zbp z vs];exact wm (l:=[w]) (LR I (ax w)) (LQ ax U)
def mk{el:ci}{cH n c:Nat}{jx:ac bi}{k k':d8}(R:α->ac aj)(w:α)(aa:bM s.env x=some (.i k (n:Int)))(aJ:bM s.env y=some (.i k' (c:Int)))(ax:jx.length=z)(cZ:B0 jx=R w)(hn:n<=c)(hc:c*(cH+1)<=1099511627776):
 g7 call (.si el cH jx x y) s (.a5 s.n z 0 n c) (s.own++[.a el false z α R (List.replicate c w)]) (s.n+1):=fun H ids st fr ao af=>by
 have I:fr.ak x= .int k (n:Int):=af.ak aa;have U:fr.ak y= .int k' (c:Int):=af.ak aJ;subst ax;have ay:=yq H (ids++[st.ai]) jx;rw[cZ]at ay;have j5:=SC ay c;refine⟨_,_,_,H,?_,ao.add (eH:=.cells (oA jx c) el (0,0) false) ⟨_,rfl,j5.1,j5.2⟩,⟨st.ai,by rw[<-ao.len,zav (cf _)];simp,rfl⟩,dm.refl _,c0.app _ _,fun _ _ _ B=>B.add _,zaZ _,fun b hb _=>zx hb⟩;show xt el cH jx x y call fr st=_;unfold xt;rw[I,U,pI,pI,sj,sj,gi hn,gi (show Nat.mul c (Nat.succ cH)<=2^40 from hc),gR,zar]
def nS(s:cB)(x:bv){α:Type}(R:α->ac aj)(z:Nat)(l:ac α):Prop:=∀(H:bm) (ids:ac Nat) (st:ar) (fr:aO),Fit H ids st s.own s.n->cU fr H ids s.env->
 (l=[]∧∃c,fr.ak x= .slice none 0 c)∨∃b o c vs el bk bc,fr.ak x= .slice (some ⟨b,o,none⟩) l.length c∧st.h.get b=some (.cells vs el bk bc)∧l.length*z<=(vs.drop o).length∧kW H ids R z l ((vs.drop o).take (l.length*z))∧hD ((vs.drop o).take (l.length*z))=true
variable{o:Nat}
theorem Rv:∀(vs:ac bi) (n:Nat),hD vs=true->hD (vs.take n)=true
 |[],n,_=>by simp[hD]
 |v::vs,0,_=>rfl
 |v::vs,n+1,h=>by
  have h:cond (nU v) (hD vs) false=true:=h;show cond (nU v) (hD (vs.take n)) false=true;cases aE:nU v with
  |false=>rw[aE]at h;cases h
  |true=>rw[aE]at h;exact Rv vs n h
theorem Ru:∀(vs ws:ac bi),hD vs=true->hD ws=true->hD (vs++ws)=true
 |[],ws,_,h=>h
 |v::vs,ws,h,aG=>by
  have h:cond (nU v) (hD vs) false=true:=h;show cond (nU v) (hD (vs++ws)) false=true;cases aE:nU v with
  |false=>rw[aE]at h;cases h
  |true=>rw[aE]at h;exact Ru vs ws h aG
def auC{k n c:Nat}{el:ci}{cs:ac aj}(l:ac α)(aa:bM s.env x=some (.a5 k z o l.length c))(al:o=0)(ab:s.own[k]? =some (.c el cs))(dJ:cs=l.flatMap R)(ax:∀w,(R w).length=z)(hc:qI cs=true)(hn:l.length=n):nS s x R z l:=by
 intro H ids st fr ao af;subst al;obtain⟨b,I,U⟩:=af.ak aa;obtain⟨⟨vs,ag,d⟩,_⟩:=ao.own k _ b ab I;rw[dJ]at d;have j5:=LQ ax d;have bR:=Dv (dJ▸hc) d;rw[zar]at U;refine .inr ⟨b,0,c,vs,el,_,_,U,ag,by simp[j5.1],?_,Rv _ _ (by simpa using bR)⟩;rw[zaq,zau (by rw[j5.1];exact cf _)];exact j5
def aoM(ax:∀w,(R w).length=z):∀{l:ac α},(∀i x,l[i]? =some x->c4 H (R x) [] ((vs.drop (o+i*z)).take z))->∀n,n<=l.length->n*z<=(vs.drop o).length∧kW H [] R z (l.take n) ((vs.drop o).take (n*z)):=by
 intro l h n
 induction n with
 |zero=>intro _;exact⟨by simp,by simpa using Dy _ _ _ _⟩
 |succ n ba=>
  intro hn;obtain⟨I,U⟩:=ba (by omega);have aM:l[n]? =some l[n]:=bg (by omega);have ag:=h n _ aM;have hl:=hP ag;rw[ax,zao]at hl;rw[<-zbu,zaz]at hl;have hle:(n+1)*z<=(vs.drop o).length:=by
   rw[zak,zbm];rcases zcS z with h0|h0
   ·subst h0;simp
   ·omega
  refine⟨hle,?_⟩;rw[zaP (by omega)];have e:(vs.drop o).take ((n+1)*z)=(vs.drop o).take (n*z)++(vs.drop (o+n*z)).take z:=by
   rw[zak,zbm,List.take_add,zbu]
  rw[e];exact wm U (LR ag (ax _))
def Dx{a2:bm}{i j:ac Nat}(hh:dm H a2)(ae:c0 i j)(h:kW H i R z l vs):kW a2 j R z l vs:=⟨h.1,fun k x aa=>mC hh _ ae (h.2 k x aa)⟩
theorem SE{H:bm}{ids:ac Nat}{α:Type}{R:α->ac aj}{z:Nat}(ax:∀w,(R w).length=z)(hc:∀w,qI (R w)=true):∀{l:ac α} {vs:ac bi},kW H ids R z l vs->hD vs=true
 |[],vs,h=>by
  have:vs=[]:=zaX (by rw[h.1];simp);subst this;rfl
 |w::l,vs,h=>by
  rw[<-zbp z vs];have I:=h.2 0 w (by simp);rw[zar,zaq]at I;have U:=Ay h 1;rw[zbm]at U;exact Ru _ _ (Dv (hc w) I) (SE ax hc (l:=l) U)
def tS(aa:bM s.env x=some (.bq z α R l))(ax:∀w,(R w).length=z)(hc:∀w,qI (R w)=true):nS s x R z l:=by
 intro H ids st fr ao af;rcases af.ak aa with⟨hl,I⟩|⟨b,o,c,vs,el,bk,bc,I,U,au,a0⟩
 ·exact .inl ⟨hl,0,I⟩
 ·obtain⟨g1,aP⟩:=aoM ax a0 l.length (cf _);rw[zbR]at aP;exact .inr ⟨b,o,c,vs,el,bk,bc,I,ao.le _ _ au,g1,Dx (dm.refl _) (c0.nil _) aP,SE ax hc aP⟩
def vY(call:bF)(el:ci)(cH:Nat)(s:cB)(y:bv){α:Type}(R:α->ac aj)(z:Nat)(l:ac α):Prop:=∀(H:bm) (ids:ac Nat) (st:ar) (fr:aO),Fit H ids st s.own s.n->cU fr H ids s.env->∀(x:bv) (p:am Addr) (n c:Nat),fr.ak x= .slice p n c->
 ∃new,kW H ids R z l new∧hD new=true∧bG call (.app el z cH x y) fr st=k5 fr st el z cH p n c l.length new
variable{a4 cH:Nat}{el:ci}{k n c:Nat}{m:ac α}
def sP(ah:nS s y R a4 l):vY call el cH s y R a4 l:=fun H ids st fr ao af x p n c aa=>by
 have e:bG call (.app el a4 cH x y) fr st=ju (fr.ak x) (fun base len cap=>ju (fr.ak y) (fun b n _=>bp b (fun b=>st.load b (Nat.mul n a4) (fun new=>cond (hD new) (k5 fr st el a4 cH base len cap n new) .no) .no) (dQ n 0 (k5 fr st el a4 cH base len cap 0 []) .no)) (vI (fr.ak y) (k5 fr st el a4 cH base len cap 0 []) (jv (fr.ak y) (fun s=>dQ a4 1 (k5 fr st el a4 cH base len cap (dd s.data.toList) (o8 s.data.toList)) .no) .no))) .no:=rfl;rw[e,aa,qt];rcases ah H ids st fr ao af with⟨rfl,bL,I⟩|⟨b,o,bL,vs,AQ,bk,bc,I,U,ag,au,a0⟩
 ·refine⟨[],Dy _ _ _ _,rfl,?_⟩;rw[I,qt,Sym.gI,kC rfl];rfl
 ·refine⟨_,au,a0,?_⟩;rw[I,qt,Sym.eB];show st.load ⟨b,o,none⟩ (l.length*a4) _ _=_;unfold ar.load ar.gN;rw[Sym.gI,U,lr,qM ag,a0];rfl
def Rz(aa:bM s.env x=some .nl)(ah:vY call el cH s y R a4 l)(h0:l≠[])(hb:(5*l.length+1792)*(cH+1)<=1125899906842624):
 g7 call (.app el a4 cH x y) s (.a5 s.n a4 0 l.length l.length) (s.own++[.a el true a4 α R l]) (s.n+1):=fun H ids st fr ao af=>by
 obtain⟨new,I,U,ag⟩:=ah H ids st fr ao af x _ _ _ (show fr.ak x= .slice none 0 0 from af.ak aa);have lO:=Dx (dm.refl H) (c0.app ids [st.ai]) I;have hl:0<l.length:=zbi.2 h0;refine⟨_,_,_,H,?_,ao.add (eH:=.cells new el (0,0) true) ⟨_,rfl,lO.1,lO.2⟩,⟨st.ai,by rw[<-ao.len,zav (cf _)];simp,rfl⟩,dm.refl _,c0.app _ _,fun _ _ _ B=>B.add _,zaZ _,fun b hb _=>zx hb⟩;rw[ag];unfold k5;simp only[zcv,zcw,zas];rw[gi (show(5*l.length+1792)*Nat.succ cH<=2^50 from hb),Sym.gI,kC rfl,kC rfl,uy (by omega),gR,zar]
def Ry(aa:bM s.env x=some (.a5 k a4 0 n c))(ab:s.own[k]? =some (.a el true a4 α R l))(ah:vY call el cH s y R a4 m)(h0:m≠[])(hn:n<=l.length)(j7:n<=c)(hc:c<=l.length)(hb:(5*(n+m.length)+1792)*(cH+1)<=1125899906842624):
 g7 call (.app el a4 cH x y) s (.a5 s.n a4 0 (n+m.length) (n+m.length)) (s.own.set k .x++[.a el true a4 α R (l.take n++m)]) (s.n+1):=fun H ids st fr ao af=>by
 obtain⟨b,g1,aP⟩:=af.ak aa;obtain⟨vs,bd,cu,dh⟩:=qC ao ab g1;obtain⟨new,I,U,ag⟩:=ah H ids st fr ao af x _ _ _ aP;have hl:0<m.length:=zbi.2 h0;have lP:Fit H ids ⟨st.h.set b .dead,st.ai⟩ (s.own.set k .x) s.n:=ao.hv ab rfl g1 trivial;have j5:=wm (GZ ⟨cu,dh⟩ n hn) I;have lO:=Dx (dm.refl H) (c0.app ids [st.ai]) j5;have H0:c*a4<=l.length*a4:=ix a4 hc;have Ez:n*a4<=l.length*a4:=ix a4 hn;have awM:b<st.ai:=ao.lt b (zal g1);refine⟨.slice (some ⟨st.ai,0,none⟩) (n+m.length) (n+m.length),_,_,H,?_,lP.add (eH:=.cells (vs.take (n*a4)++new) el (0,0) true) ⟨_,rfl,lO.1,lO.2⟩,⟨st.ai,by rw[<-ao.len,zav (cf _)];simp,by rw[zar]⟩,dm.refl _,c0.app _ _,fun _ _ _ B=>(B.hv (zal g1) .dead).add _,zaZ _,?_⟩
 ·rw[ag];unfold k5 ar.gN;simp only[zcv,zcw,Sym.eB,Sym.gI,bd,lr,zar];rw[gi (show(5*(n+m.length)+1792)*Nat.succ cH<=2^50 from hb),gi (cf _),gi j7,gi (by rw[fe,cu];show 0+c*a4<=_;omega),kC rfl,uy (by omega),cond_true,qM (by simp;omega),kR,gR,qB,zaq]
 ·intro eR cP hne;show((st.h.set b .dead).set st.ai _).get eR=_;rw[aq.gq _ _ (by omega)];exact aq.gq _ _ (fun e=>hne k (by simp[jb,aa]) (e▸g1))
def aet(aa:bM s.env x=some (.a5 k a4 0 n c))(ab:s.own[k]? =some (.a el false a4 α R l))(ah:vY call el cH s y R a4 m)(h0:m≠[])(hn:n+m.length<=c)(hc:c<=l.length)(hb:(5*(n+m.length)+1792)*(cH+1)<=1125899906842624):
 g7 call (.app el a4 cH x y) s (.a5 k a4 0 (n+m.length) c) (s.own.set k (.a el false a4 α R (l.take n++(m++l.drop (n+m.length))))) s.n:=fun H ids st fr ao af=>by
 obtain⟨b,g1,aP⟩:=af.ak aa;obtain⟨vs,bd,cu,dh⟩:=qC ao ab g1;obtain⟨new,I,U,ag⟩:=ah H ids st fr ao af x _ _ _ aP;have hl:0<m.length:=zbi.2 h0;have j5:=wm (GZ ⟨cu,dh⟩ n (by omega)) (wm I (Ay ⟨cu,dh⟩ (n+m.length)));have H0:c*a4<=l.length*a4:=ix a4 hc;have Ez:(n+m.length)*a4<=l.length*a4:=ix a4 (by omega);have e:n*a4+new.length=(n+m.length)*a4:=by rw[I.1,zak]
 refine⟨.slice (some ⟨b,0,none⟩) (n+m.length) c,_,ids,H,?_,ao.hv ab rfl g1 (eH:=.cells (vs.take (n*a4)++(new++vs.drop (n*a4+new.length))) el (0,0) false) ⟨_,rfl,by rw[e];exact j5.1,by rw[e];exact j5.2⟩,⟨b,g1,by rw[zar]⟩,dm.refl _,c0.refl _,fun _ _ _ B=>B.hv (zal g1) _,cf _,?_⟩
 ·rw[ag];unfold k5 ar.gN;simp only[zcv,zcw,Sym.eB,Sym.gI,bd,lr,zar,zas];rw[gi (show(5*(n+m.length)+1792)*Nat.succ cH<=2^50 from hb),gi (cf _),gi (by omega),gi (by rw[fe,cu];exact H0),kC rfl,uy (by omega),cond_false,gi hn,rn,zab (by rw[e,cu];exact Ez),kR]
 ·intro eR _ hne;exact aq.gq _ _ (fun e=>hne k (by simp[jb,aa]) (e▸g1))
end
section
variable{call:bF}{s:cB}{x y i:bv}{a b:aj}
def fo(s:cB)(x:am bv)(dflt n:Nat):Prop:=
 match x with
 |none=>n=dflt
 |some x=>∃cn,bM s.env x=some (.i cn (n:Int))
variable{p q:Nat}{aK ae:am bv}{n z:Nat}{α:Type}{k:d8}{H:bm}{ids:ac Nat}{fr:aO}{m:Int}{R:α->ac aj}{l:ac α}
def fo.ak{x:am bv}{dflt y:Nat}(h:fo s x dflt n)(af:cU fr H ids s.env)(aJ:n<=y)(k:Nat->a1):fl fr x dflt y k=k n:=by
 cases x with
 |none=>cases h;rfl
 |some x=>
  obtain⟨cn,h⟩:=h;have h:fr.ak x= .int cn (n:Int):=af.ak h;show g6 (fr.ak x) (fun _ n=>iv n (fun n=>eh n y (k n) .no) .no) .no=_;rw[h,pI,sj,gi aJ]
def Dr(fr:aO)(d y:Nat)(k:Nat->a1):fl fr none d y k=k d:=rfl
def acz(aa:bM s.env x=some (.bq z α R l))(gx:fo s aK 0 p)(g0:fo s ae l.length q)(hp:p<=q)(hq:q<=l.length)(af:cU fr H ids s.env):
 ∃v,den H (.bq z α R ((l.drop p).take (q-p))) ids v∧∀st:ar,(∀b o,H b=some o->st.h.get b=some o)->bG call (.oj z x aK ae none) fr st= .ok v fr st:=by
 have hl:((l.drop p).take (q-p)).length=q-p:=by simp;omega
 have e:∀st:ar,bG call (.oj z x aK ae none) fr st=ju (fr.ak x) (fun b len cap=>bp b (fun a=>st.gN a (fun _ _ _ bc=>cond bc (eh len cap (fl fr ae len len fun h=>fl fr aK 0 h fun l=>.ok (.slice (some (a.add (l*z))) (h-l) (cap-l)) fr st) .no) (fl fr none cap cap fun m=>fl fr ae len m fun h=>fl fr aK 0 h fun l=>.ok (.slice (some (dQ m l a (a.add (l*z)))) (h-l) (m-l)) fr st)) .no) (fl fr none cap cap fun m=>fl fr ae len m fun h=>fl fr aK 0 h fun l=>.ok (.slice none (h-l) (m-l)) fr st)) .no:=fun st=>rfl;rcases af.ak aa with⟨hn,I⟩|⟨b,o,c,vs,el,bk,bc,I,U,au,a0⟩
 ·subst hn;simp at hq;subst hq;have:p=0:=by omega
  subst this;refine⟨.slice none 0 0,.inl ⟨by simp,rfl⟩,fun st _=> ?_⟩;rw[e,I,qt,Sym.gI];rw[Dr,fo.ak (dflt:=0) g0 af (cf _),fo.ak gx af (cf _)]
 ·have e2:∀st:ar,(∀b o,H b=some o->st.h.get b=some o)->bG call (.oj z x aK ae none) fr st=cond bc (eh l.length c (fl fr ae l.length l.length fun h=>fl fr aK 0 h fun l=>.ok (.slice (some ((⟨b,o,none⟩:Addr).add (l*z))) (h-l) (c-l)) fr st) .no) (fl fr none c c fun m=>fl fr ae l.length m fun h=>fl fr aK 0 h fun l=>.ok (.slice (some (dQ m l ⟨b,o,none⟩ ((⟨b,o,none⟩:Addr).add (l*z)))) (h-l) (m-l)) fr st):=fun st hle=>by
   rw[e,I,qt,Sym.eB];unfold ar.gN;rw[Sym.gI,hle _ _ au,lr]
  have chunk:∀i x,((l.drop p).take (q-p))[i]? =some x->c4 H (R x) [] ((vs.drop (o+p*z+i*z)).take z):=fun i x aa=>by
   rw[zaK]at aa;split at aa
   ·rw[zaw]at aa;have:=a0 _ x aa;rw[zak]at this;rw[zbI];exact this
   ·cases aa
  cases bc with
  |true=>
   exact⟨_,.inr ⟨b,o+p*z,c-p,vs,el,bk,true,by rw[hl],by rw[hl];omega,au,chunk⟩,fun st hle=>by rw[e2 st hle,cond_true,gi U,fo.ak g0 af hq,fo.ak gx af hp,qz]⟩
  |false=>
   have b8:∀st:ar,(∀b o,H b=some o->st.h.get b=some o)->bG call (.oj z x aK ae none) fr st= .ok (.slice (some (dQ c p ⟨b,o,none⟩ ((⟨b,o,none⟩:Addr).add (p*z)))) (q-p) (c-p)) fr st:=fun st hle=>by
    rw[e2 st hle,cond_false,Dr,fo.ak g0 af (by omega),fo.ak gx af hp]
   by_cases hc:c=p
   ·have NJ:q=p:=by omega
    refine⟨_,.inr ⟨b,o,c-p,vs,el,bk,false,by rw[hl],by rw[hl];omega,au,fun i x aa=> ?_⟩,fun st hle=>by rw[b8 st hle,kC hc]⟩;rw[NJ]at aa;simp at aa
   ·exact⟨_,.inr ⟨b,o+p*z,c-p,vs,el,bk,false,by rw[hl],by rw[hl];omega,au,chunk⟩,fun st hle=>by rw[b8 st hle,uy hc,qz]⟩
def Qt(aa:bM s.env x=some (.bq z α R l))(gx:fo s aK 0 p)(g0:fo s ae l.length q)(hp:p<=q)(hq:q<=l.length):
 g7 call (.oj z x aK ae none) s (.bq z α R ((l.drop p).take (q-p))) s.own s.n:=ny fun H ids st fr ao af=>
 let⟨v,I,U⟩:=acz aa gx g0 hp hq af
 ⟨v,I,U st ao.le⟩
def auw{k o c:Nat}{el:ci}{bc:Bool}(aa:bM s.env x=some (.a5 k z o n c))(ab:s.own[k]? =some (.a el bc z α R l))(gx:fo s aK 0 p)(g0:fo s ae n q)(hp:p<=q)(hq:q<=n)(hn:n<=c)(hc:p<c∨p=0):
 g7 call (.oj z x aK ae none) s (.a5 k z (o+p) (q-p) (c-p)) s.own s.n:=ny fun H ids st fr ao af=>by
 have e:bG call (.oj z x aK ae none) fr st=ju (fr.ak x) (fun b len cap=>bp b (fun a=>st.gN a (fun _ _ _ bc=>cond bc (eh len cap (fl fr ae len len fun h=>fl fr aK 0 h fun l=>.ok (.slice (some (a.add (l*z))) (h-l) (cap-l)) fr st) .no) (fl fr none cap cap fun m=>fl fr ae len m fun h=>fl fr aK 0 h fun l=>.ok (.slice (some (dQ m l a (a.add (l*z)))) (h-l) (m-l)) fr st)) .no) (fl fr none cap cap fun m=>fl fr ae len m fun h=>fl fr aK 0 h fun l=>.ok (.slice none (h-l) (m-l)) fr st)) .no:=rfl;obtain⟨b,g1,aP⟩:=af.ak aa;obtain⟨vs,bd,cu,dh⟩:=qC ao ab g1;refine⟨_,⟨b,g1,rfl⟩,?_⟩;rw[e,aP,qt,Sym.eB];unfold ar.gN;rw[Sym.gI,bd,lr];cases bc with
 |true=>rw[cond_true,gi hn,fo.ak g0 af hq,fo.ak gx af hp,qz,zak]
 |false=>
  rw[cond_false];rw[Dr,fo.ak g0 af (by omega),fo.ak gx af hp];by_cases gE:c=p
  ·rw[kC gE];have:p=0:=by omega
   subst this;rw[zba]
  ·rw[uy gE,qz,zak]
def apa{l:ac ce}{j:Nat}{cn:d8}{qJ:ce}(aa:bM s.env x=some (.s l))(ae:bM s.env i=some (.i cn (j:Int)))(hj:l[j]? =some qJ):g7 call (.xa x i) s (.i .u8 (qJ.toNat:Int)) s.own s.n:=ny fun H ids st fr ao af=>by
 have I:fr.ak x= .string ⟨⟨l⟩⟩:=af.ak aa;have U:fr.ak i= .int cn (j:Int):=af.ak ae;refine⟨_,rfl,?_⟩;have e:bG call (.xa x i) fr st=jv (fr.ak x) (fun s=>g6 (fr.ak i) (fun _ j=>iv j (fun j=>iB s.data.toList j 1 (fun bh=>one bh (fun b=>.ok (.int .u8 (.ofNat b.toNat)) fr st) .no) .no) .no) .no) .no:=rfl;obtain⟨aT,aE⟩:=zac.1 hj;rw[e,I,Gh,U,pI,sj];show iB l j 1 _ _=_;rw[DC (by omega),hx aT,aE];rfl
def auz{l:ac ce}(aa:bM s.env x=some (.s l))(gx:fo s aK 0 p)(g0:fo s ae l.length q)(hp:p<=q)(hq:q<=l.length):g7 call (.tR x aK ae) s (.s ((l.drop p).take (q-p))) s.own s.n:=ny fun H ids st fr ao af=>by
 have I:fr.ak x= .string ⟨⟨l⟩⟩:=af.ak aa;refine⟨_,rfl,?_⟩;have e:bG call (.tR x aK ae) fr st=jv (fr.ak x) (fun s=>fl fr ae (dd s.data.toList) (dd s.data.toList) fun h=>fl fr aK 0 h fun l=>iB s.data.toList l (h-l) (fun bh=>.ok (.string ⟨⟨bh⟩⟩) fr st) .no) .no:=rfl;rw[e,I,Gh];show fl fr ae (dd l) (dd l) _=_;rw[fe,fo.ak g0 af hq,fo.ak gx af hp,DC (by show p+(q-p)<=l.length;omega)]
def afx{l m:ac ce}(aa:bM s.env x=some (.s l))(aJ:bM s.env y=some (.s m))(hl:l.length+m.length<=1099511627776):g7 call (.bin .add x y) s (.s (l++m)) s.own s.n:=ny fun H ids st fr ao af=>by
 have I:fr.ak x= .string ⟨⟨l⟩⟩:=af.ak aa;have U:fr.ak y= .string ⟨⟨m⟩⟩:=af.ak aJ;refine⟨_,rfl,?_⟩;rw[Ft,I,U,TB];show eh (dd l+dd m) (2^40) _ _=_;rw[fe,fe,gi (show _<=2^40 from hl),qB]
def asb{n:Int}(aa:bM s.env x=some (.i k m))(aJ:bM s.env y=some (.i k n))(hn:n≠0):g7 call (.bin .quo x y) s (.i k (k.wrap (m.tdiv n))) s.own s.n:=ny fun H ids st fr ao af=>
 ⟨_,rfl,BZ (by decide) (by decide) (af.ak aa) (af.ak aJ) (by show(if n=0 then none else _)=_;rw[zaa hn])⟩
def asN{n:Int}(aa:bM s.env x=some (.i k m))(aJ:bM s.env y=some (.i k n))(hn:n≠0):g7 call (.bin .rem x y) s (.i k (m.tmod n)) s.own s.n:=ny fun H ids st fr ao af=>
 ⟨_,rfl,BZ (by decide) (by decide) (af.ak aa) (af.ak aJ) (by show(if n=0 then none else _)=_;rw[zaa hn])⟩
def atz{k':d8}{m:Nat}(aa:bM s.env x=some (.i k (m:Int)))(aJ:bM s.env y=some (.i k' (n:Int)))(hn:n<=k.bits):g7 call (.bin .shr x y) s (.i k ((m/2^n:Nat):Int)) s.own s.n:=ny fun H ids st fr ao af=>by
 obtain⟨v,I,U⟩:=RW (call:=call) (k:=k) (a:=(m:Int)) (b:=(n:Int)) (r:=.i k ((m/2^n:Nat):Int)) (by show(match Nat.ble n k.bits with|true=>_|false=>_)=_;rw[zdd hn]) (af.ak aa) (af.ak aJ);exact⟨v,I _ _,U st⟩
end
def j3(H:bm)(st:ar)(b:Nat):bm:=fun c=>open Classical in if c=b then st.h.get b else H c
section
variable{H:bm}{ids:ac Nat}{st:ar}{own:ac aY}{n:Nat}
variable{k b:Nat}{o:aY}
def A3(ao:Fit H ids st own n)(ab:own[k]? =some o)(hl:o.live=true)(hb:ids[k]? =some b):dm H (j3 H st b):=fun c q hc=>by
 unfold j3;rw[zaa]
 ·exact hc
 ·intro e;rw[e,(ao.own k o b ab hb).2 hl]at hc;cases hc
def Fit.j3(ao:Fit H ids st own n)(ab:own[k]? =some o)(hl:o.live=true)(hb:ids[k]? =some b):Fit (Go.an.j3 H st b) ids st (own.set k .x) n:=by
 refine⟨ao.wf,?_,by simp[ao.cr],ao.len,ao.g9,ao.lt,?_⟩
 ·intro c q hc;unfold Go.an.j3 at hc;split at hc
  ·rename_i e;rw[e];exact hc
  ·exact ao.le c q hc
 ·intro j q c hj hc;rw[zaG]at hj;by_cases im:k=j
  ·rw[zab im]at hj;split at hj<;>cases hj;exact⟨trivial,fun h=>by cases h⟩
  ·rw[zaa im]at hj;obtain⟨I,U⟩:=ao.own j q c hj hc;refine⟨rO (A3 ao ab hl hb) (c0.refl _) I,fun hq=> ?_⟩;unfold Go.an.j3;rw[zaa]
   ·exact U hq
   ·intro e;subst e;have g1:=zac.1 hb;have aP:=zac.1 hc;exact im ((zbC (h₀:=g1.1) (h₁:=aP.1) ao.g9).1 (g1.2.trans aP.2.symm))
def cG.j3{bT:bm}{i0:ac Nat}{aN:ar}(a3:cG bT i0 aN H ids st)(ao:Fit H ids st own n)(ab:own[k]? =some o)(hl:o.live=true)(hb:ids[k]? =some b):cG bT i0 aN (Go.an.j3 H st b) ids st:=by
 refine⟨a3.hle.trans (A3 ao ab hl hb),?_,a3.gh,a3.ai,a3.iY,a3.new⟩;intro c hc hn;unfold Go.an.j3;rw[zaa]
 ·exact a3.hold c hc hn
 ·intro e;subst e;rcases a3.new _ (zal hb)with h|h
  ·exact hn h
  ·omega
end
section
variable{aC:fp}{K:ac eN}{own:ac aY}{aL:Nat}{e:bQ}
variable{z:Nat}{el:ci}{α:Type}{k o n c:Nat}{bc:Bool}{p:ac bA}{cs:ac aj}{R:α->ac aj}{l:ac α}
def T2{t:Nat}(l':ac α)(aV:ea e t=some (.a5 k z o n c))(ab:own[k]? =some (.a el bc z α R l))(hl:(l.drop o).take n=l')(hn:l'.length=n)(hc:n<=c)(hp:∀x,ht (R x)=true)
 {H:bm} {ids:ac Nat} {st:ar} {fr:aO} (a3:cG aC.bT aC.i0 aC.aN H ids st) (ao:Fit H ids st own aL) (af:cU fr H ids e):
 ∃a2,cG aC.bT aC.i0 aC.aN a2 ids st∧Fit a2 ids st (own.set k .x) aL∧cU fr a2 ids ((t,.bq z α R l')::e):=by
 obtain⟨b,g1,aP⟩:=af.get t _ aV;obtain⟨⟨vs,bd,cu,dh⟩,_⟩:=ao.own k _ b ab g1;have hle:=A3 ao ab rfl g1;refine⟨j3 H st b,a3.j3 ao ab rfl g1,ao.j3 ab rfl g1,(af.mono hle (c0.refl _)).pl,fun j q hj=> ?_⟩;rw[sf]at hj;cases hb:Nat.beq t j with
 |false=>rw[hb]at hj;exact(af.mono hle (c0.refl _)).get j q hj
 |true=>
  rw[hb]at hj;cases hj;rw[<-dI hb];refine .inr ⟨b,o*z,c,vs,el,(0,0),bc,by rw[hn];exact aP,by rw[hn];exact hc,by unfold j3;rw[zab rfl];exact bd,fun i x aa=> ?_⟩;rw[<-hl,zaK]at aa;split at aa
  ·rw[zaw]at aa;rw[<-zak];exact mC hle _ (c0.refl _) (oB _ (hp x) (dh _ x aa) [])
  ·cases aa
def asm(t:Nat)(l':ac α){p:du}(aV:ea e t=some (.a5 k z o n c))(ab:own[k]? =some (.a el bc z α R l))(hl:(l.drop o).take n=l')(hn:l'.length=n)(hc:n<=c)(hp:∀x,ht (R x)=true)
 (cn:aW.ok aC ⟨K,.c p,⟨own.set k .x,aL,(t,.bq z α R l')::e⟩⟩):aW.ok aC ⟨K,.c p,⟨own,aL,e⟩⟩:=fun H ids st fr a3 ao af=>by
 obtain⟨a2,I,U,ag⟩:=T2 l' aV ab hl hn hc hp a3 ao af;exact cn a2 ids st fr I U ag
def abC(t:Nat)(l':ac α)(aV:ea e t=some (.a5 k z o n c))(ab:own[k]? =some (.a el bc z α R l))(hl:(l.drop o).take n=l')(hn:l'.length=n)(hc:n<=c)(hp:∀x,ht (R x)=true)
 (cn:aW.ok aC ⟨K,.o p,⟨own.set k .x,aL,(t,.bq z α R l')::e⟩⟩):aW.ok aC ⟨K,.o p,⟨own,aL,e⟩⟩:=fun H ids st fr a3 ao af=>by
 obtain⟨a2,I,U,ag⟩:=T2 l' aV ab hl hn hc hp a3 ao af;exact cn a2 ids st fr I U ag
def Lq(l:ac α)(ab:own[k]? =some (.c el cs))(dJ:cs=l.flatMap R)(ax:∀w,(R w).length=z){H:bm}{ids:ac Nat}{st:ar}(ao:Fit H ids st own aL):Fit H ids st (own.set k (.a el false z α R l)) aL:=by
 refine⟨ao.wf,ao.le,by simp[ao.cr],ao.len,ao.g9,ao.lt,?_⟩;intro j q c hj hc;rw[zaG]at hj;by_cases im:k=j
 ·subst im;rw[zab rfl]at hj;split at hj<;>cases hj;obtain⟨⟨vs,ag,d⟩,au⟩:=ao.own k _ c ab hc;rw[dJ]at d;have:=LQ ax d;exact⟨⟨vs,ag,this.1,this.2⟩,fun _=>au rfl⟩
 ·rw[zaa im]at hj;exact ao.own j q c hj hc
def abz(k:Nat)(l:ac α)(ab:own[k]? =some (.c el cs))(dJ:cs=l.flatMap R)(ax:∀w,(R w).length=z)(cn:aW.ok aC ⟨K,.o p,⟨own.set k (.a el false z α R l),aL,e⟩⟩):aW.ok aC ⟨K,.o p,⟨own,aL,e⟩⟩:=fun H ids st fr a3 ao af=>
 cn H ids st fr a3 (Lq l ab dJ ax ao) af
end
structure bU where
 L:Type
 args:L->ac aj
 pre:L->Prop
 res:L->aj
 hp:bm->Prop:=fun _=>True
 hm:∀{H a2:bm},dm H a2->hp H->hp a2:=by exact fun _ _=>trivial
def bU.spec(S:bU):Spec where
 L:=S.L×bm
 pre:=fun l vs st=>S.pre l.1∧S.hp l.2∧Fit l.2 [] st [] 0∧c4 l.2 (S.args l.1) [] vs
 post:=fun l vs st v st'=>∃a2,Fit a2 [] st' [] 0∧cG l.2 [] st a2 [] st'∧den a2 (S.res l.1) [] v
def Fin(S:bU)(l:S.L)(res:ac hB)(x:dq)(s:cB):Prop:=(x= .norm∨x= .ret)∧∃r,ry s res=some r∧oY r=true∧b7 r (S.res l)
where
 Qf (s:cB):hB->am aj
  |.tmp t=>ea s.env t
  |.cell a ig n=>match ea s.env a with
   |some (.p k o)=>match s.own[k]? with
    |some (.c _ cs)=>ym cs o n (Jt ig)
    |_=>none
   |_=>none
 Kh (s:cB):ac hB->am (ac aj)
  |[]=>some []
  |r::rs=>match Qf s r with
   |some a=>match Kh s rs with
    |some as=>some (a::as)
    |none=>none
   |none=>none
 ry (s:cB) (l:ac hB):am aj:=match Kh s l with
  |some [a]=>some a
  |some as=>some (.bn as)
  |none=>none
variable{H:bm}{ids:ac Nat}{st:ar}{s:cB}{fr:aO}
def Fit.less{own:ac aY}{n:Nat}(h:Fit H ids st own n):Fit H [] st [] 0:=⟨h.wf,h.le,rfl,rfl,zdq,fun b hb=>by simp at hb,fun k o b ab=>by simp at ab⟩
def cG.refl(H:bm)(i:ac Nat)(st:ar):cG H i st H i st:=⟨dm.refl _,fun _ _ _=>rfl,fun _ _ _=>rfl,cf _,c0.refl _,fun b hb=>.inl hb⟩
def cG.less{bT:bm}{aN:ar}(h:cG bT [] aN H ids st):cG bT [] aN H [] st:=⟨h.hle,h.hold,h.gh,h.ai,c0.refl _,fun b hb=>.inl hb⟩
def as3(ao:Fit H ids st s.own s.n)(af:cU fr H ids s.env){r:hB}{a:aj}(h:Fin.Qf s r=some a):
 ∃v,den H a ids v∧∀vs:ac bi,(hB.rec (motive:=fun _=>am (ac bi)) (fun t=>some (fr.tmp t::vs)) (fun a agg n=>iM (fr.tmp a) (fun p=>bp p (fun ad=>st.load ad n (fun cs=>cond agg (some (.agg ⟨cs⟩::vs)) (one cs (fun v=>some (v::vs)) none)) none) none) none) r:am (ac bi))=some (v::vs):=by
 cases r with
 |tmp t=>exact⟨_,af.get t a h,fun vs=>rfl⟩
 |cell t ig n=>
  simp only[Fin.Qf]at h;split at h<;>try cases h
  rename_i k o aV;split at h<;>try cases h
  rename_i el cs ab;obtain⟨b,g1,aP⟩:=af.get t _ aV;obtain⟨⟨ws,bd,d⟩,_⟩:=ao.own k _ b ab g1;obtain⟨I,U⟩:=DB h;have ay:=wz n (pW o d);have hl:=hP (pW o d);have e:∀vs:ac bi,iM (fr.tmp t) (fun p=>bp p (fun ad=>st.load ad n (fun cs=>cond ig (some (.agg ⟨cs⟩::vs)) (one cs (fun v=>some (v::vs)) none)) none) none) none=cond ig (some (.agg ⟨(ws.drop o).take n⟩::vs)) (one ((ws.drop o).take n) (fun v=>some (v::vs)) none):=fun vs=>by
   rw[aP,rC,Sym.eB];unfold ar.load ar.gN;rw[Sym.gI,bd,lr,qM (by show n<=(ws.drop o).length;omega)]
  rcases aav U with⟨rfl,rfl⟩|⟨rfl,ag⟩
  ·exact⟨_,⟨_,rfl,ay⟩,fun vs=>e vs⟩
  ·rw[ag]at ay;obtain⟨v,us,aE,ay,hn⟩:=ay;cases hn;refine⟨v,ay,fun vs=>(e vs).trans ?_⟩;rw[aE];rfl
theorem Qg{s:cB}{H:bm}{ids:ac Nat}{st:ar}{fr:aO}(ao:Fit H ids st s.own s.n)(af:cU fr H ids s.env):∀{rs:ac hB} {as:ac aj},Fin.Kh s rs=some as->∃vs,c4 H as ids vs∧pd fr st rs=some vs
 |[],as,h=>by cases h;exact⟨[],rfl,rfl⟩
 |r::rs,as,h=>by
  unfold Fin.Kh at h;split at h<;>try cases h
  rename_i a I;split at h<;>try cases h
  rename_i as' U;obtain⟨v,g1,aP⟩:=as3 ao af I;obtain⟨vs,bd,cu⟩:=Qg ao af U;refine⟨v::vs,⟨v,vs,rfl,g1,bd⟩,?_⟩;show bp (pd fr st rs) _ none=_;rw[cu];exact aP vs
def zP{call:bF}(ao:Fit H ids st s.own s.n)(af:cU fr H ids s.env){rs:ac hB}{r:aj}(h:Fin.ry s rs=some r):∃v,den H r ids v∧ff call rs none fr st= .ret v st false:=by
 have e:∀vs,pd fr st rs=some vs->ff call rs none fr st=one vs (fun v=>.ret v st false) (.ret (.tuple ⟨vs⟩) st false):=fun vs aE=>by
  unfold ff;rw[af.pl.cL,af.pl.cx];simp only[jf];show bp (pd fr st rs) _ _=_;rw[aE];rfl
 unfold Fin.ry at h;split at h
 ·rename_i a ha;cases h;obtain⟨vs,⟨v,ws,rfl,I,U⟩,ag⟩:=Qg ao af ha;cases U;exact⟨v,I,(e _ ag).trans rfl⟩
 ·rename_i as hn ha;cases h;obtain⟨vs,I,ag⟩:=Qg ao af ha;refine⟨_,⟨vs,rfl,I⟩,(e _ ag).trans ?_⟩;have hl:=hP I
  match vs,as,hl with
  |[],_,_=>rfl
  |[v],[a],_=>exact absurd ha (by intro _;exact hn a rfl)
  |_::_::_,_,_=>rfl
 ·cases h
def jB:Nat->ac aj->bQ
 |_,[]=>[]
 |i,a::as=>(i,a)::jB (i+1) as
theorem Tv:∀(as:ac aj) (i j:Nat) (a:aj),ea (jB i as) j=some a->i<=j∧as[j-i]? =some a
 |[],_,_,_,h=>by cases h
 |w::as,i,j,a,h=>by
  rw[jB,sf]at h;cases hb:Nat.beq i j with
  |true=>
   rw[hb]at h;have:=dI hb;subst this;cases h;exact⟨cf _,by simp⟩
  |false=>
   rw[hb]at h;obtain⟨I,U⟩:=Tv as (i+1) j a h;refine⟨by omega,?_⟩;have:j-i=(j-(i+1))+1:=by omega
   rw[this];simpa using U
def cU.zero{as:ac aj}{vs:ac bi}(d:c4 H as ids vs):cU (er vs) H ids (jB 0 as):=by
 refine⟨vX.zero _,fun j a h=> ?_⟩;obtain⟨_,U⟩:=Tv as 0 j a h;obtain⟨v,ag,au⟩:=wx d U;have hj:=(zac.1 ag).1;have:(er vs).tmp j=v:=by
  show Option.rec (motive:=fun _=>bi) _ _ ((l7 vs 0 .nil).get j)=v;rw[RS,zab (by omega),ag]
 rw[this];exact au
variable{X:Ctx}
variable{S:bU}{xf:cJ}
def Ha{aS:aq cJ}(db:Good X)(gf:lK X aS)(bC:co->eE){f:co}(aa:aS.get f=some xf)(hl:∀l,(S.args l).length<=xf.aI)
 (h:∀l,S.pre l->∀H aN,S.hp H->aW.ok ⟨bH aS (bO X bC) (b0+1),b0+1,f,H,[],aN,Fin S l xf.res⟩ ⟨[],.c xf.body,⟨[],0,jB 0 (S.args l)⟩⟩):bD X f S.spec:=by
 refine LY db gf bC aa (fun l vs st ⟨_,_,_,d⟩=>by rw[hP d];exact hl l.1) ?_;rintro⟨l,H⟩ vs st ⟨hp,hh,ao,d⟩;refine(h l hp H st hh H [] st (er vs) (cG.refl _ _ _) ao (cU.zero d)).mono ?_;rintro x fr st' ⟨a2,ids,s,a3,cl,af,aa,r,I,U,hle⟩;obtain⟨v,ag,au⟩:=zP (call:=bH aS (bO X bC) (b0+1)) cl af I;exact⟨aa,v,au,a2,cl.less,a3.less,hle _ _ _ (AK _ U ag _)⟩
def agZ{aS:aq cJ}(db:Good X)(gf:lK X aS)(bC:co->eE){f:co}(aa:aS.get f=some xf)(hl:∀l,(S.args l).length<=xf.aI)
 (h:∀l,S.pre l->∀H aN,aW.ok ⟨bH aS (bO X bC) (b0+1),b0+1,f,H,[],aN,Fin S l xf.res⟩ ⟨[],.c xf.body,⟨[],0,jB 0 (S.args l)⟩⟩):bD X f S.spec:=Ha db gf bC aa hl fun l hp H aN _=>h l hp H aN
def Ss{aS:aq cJ}{bC:co->eE}{g:co}(hc:bD X g S.spec)(c6:bC g=S.spec.K){b9:ac bv}{as:ac aj}{n:Nat}(l:S.L)(ha:jq s.env b9=some as)(jD:ht as=true)(he:hA as (S.args l))(hp:S.pre l){bT:bm}(hh:S.hp bT):
 vW bT (bH aS (bO X bC) (n+1)) (.call (.func g) b9) s (S.res l) s.own s.n:=fun H ids st fr fc ao af=>by
 have ay:=he.den (oB _ jD (af.dG ha) []);obtain⟨v,st',I,U⟩:=hc _ st ⟨(l,H),hp,S.hm fc hh,ao.less,ay⟩;obtain⟨v1,cp,g1,aP⟩:=Fv (X:=X) (K:=bC) (f:=g) ⟨v,st',by rw[c6];exact I,U⟩;rw[c6]at aP;obtain⟨a2,cl,cg,gF⟩:=aP (l,H) ⟨hp,S.hm fc hh,ao.less,ay⟩;have bd:bH aS (bO X bC) (n+1) (.func (.func g) #[] #[]) (dG fr b9) none st= .ret v1 cp false:=by
  rw[pP];have e:fk (#[]:be bi).toList (fk (dG fr b9) (#[]:be bi).toList)=dG fr b9:=by simp
  rw[e,g1];rfl
 have hle:dm H a2:=cg.hle;refine⟨v1,cp,ids,a2,?_,?_,uv (dm.refl _) _ (c0.nil _) gF,hle,c0.refl _,?_,cg.ai,fun b hb _=>cg.gh b hb (by simp)⟩
 ·rw[rk];show ma (bH aS (bO X bC) (n+1) (.func (.func g) #[] #[]) (dG fr b9) none st) _ _=_;rw[bd];rfl
 ·refine⟨cl.wf,cl.le,ao.cr,ao.len,ao.g9,fun b hb=>fx (ao.lt b hb) cg.ai,fun k o b ab hb=> ?_⟩;obtain⟨ag,au⟩:=ao.own k o b ab hb;have aT:=ao.lt b (zal hb);rw[cg.gh b aT (by simp)];exact⟨rO hle (c0.refl _) ag,fun hl=>by rw[cg.hold b aT (by simp)];exact au hl⟩
 ·intro bT i0 aN B;refine⟨B.hle.trans hle,fun b hb hn=> ?_,fun b hb hn=> ?_,zag B.ai cg.ai,B.iY,B.new⟩
  ·rw[cg.hold b (fx hb B.ai) (by simp)];exact B.hold b hb hn
  ·rw[cg.gh b (fx hb B.ai) (by simp)];exact B.gh b hb hn
section
variable{aS:aq cJ}{bC:co->eE}{bE n:Nat}{fn:co}{bT:bm}{i0:ac Nat}{aN:ar}{Q:dq->cB->Prop}{K:ac eN}{own:ac aY}{aL:Nat}{e:bQ}
variable{g:co}{b9:ac bv}{as:ac aj}{d:Tmp}
def a9(hc:bD X g S.spec){xs:ac bA}(l:S.L)(hp:S.pre l)(k:aW.ok ⟨bH aS (bO X bC) (n+1),bE,fn,bT,i0,aN,Q⟩ ⟨K,.o xs,⟨own,aL,(d,S.res l)::e⟩⟩)
 (ha:jq e b9=some as:=by rfl) (he:hA as (S.args l):=by exact hA.refl _) (jD:ht as=true:=by rfl) (c6:bC g=S.spec.K:=by rfl) (hh:S.hp bT:=by exact trivial):
 aW.ok ⟨bH aS (bO X bC) (n+1),bE,fn,bT,i0,aN,Q⟩ ⟨K,.o (⟨some d,.call (.func g) b9,none⟩::xs),⟨own,aL,e⟩⟩:=Cp (d:=some d) (s:=⟨own,aL,e⟩) (Ss hc c6 l ha jD he hp hh) k
def cq(hc:bD X g S.spec){xs:ac (bA×cD)}{bN:ac aY}{a6:bQ}{bj ck:Nat}(l:S.L)(hp:S.pre l)(k:aW.ok ⟨bH aS (bO X bC) (n+1),bE,fn,bT,i0,aN,Q⟩ ⟨K,.d xs bN (mF d a6) (bj+1) aL,⟨own,aL,(d,S.res l)::e⟩⟩)
 (ha:jq e b9=some as:=by rfl) (he:hA as (S.args l):=by exact hA.refl _) (jD:ht as=true:=by rfl) (c6:bC g=S.spec.K:=by rfl) (hh:S.hp bT:=by exact trivial):
 aW.ok ⟨bH aS (bO X bC) (n+1),bE,fn,bT,i0,aN,Q⟩ ⟨K,.d ((⟨some d,.call (.func g) b9,none⟩,.dY)::xs) bN a6 bj ck,⟨own,aL,e⟩⟩:=
 LZ (d:=some d) (s:=⟨own,aL,e⟩) (Ss hc c6 l ha jD he hp hh) rfl (fun _ _ ab _=>⟨ab,by simp[jb]⟩) k
end
variable{l:S.L}{r:aj}{e:dq}
def cn:ac (Nat×eE)->co->eE
 |[],_=>eE.no
 |p::l,g=>cond (Nat.beq p.1 g) p.2 (cn l g)
def aiH{res:ac hB}(I:Fin.ry s res=some r)(U:oY r=true)(ag:b7 r (S.res l))(he:e= .ret∨e= .norm:=by first|exact .inl rfl|exact .inr rfl):Fin S l res e s:=⟨he.symm,r,I,U,ag⟩
def aA{call:bF}{bE:Nat}{fn:co}{bT:bm}{i0:ac Nat}{aN:ar}{res:ac hB}(I:Fin.ry s res=some r)(ag:b7 r (S.res l))(U:oY r=true:=by rfl)(he:e= .ret∨e= .norm:=by first|exact .inl rfl|exact .inr rfl):aW.ok ⟨call,bE,fn,bT,i0,aN,Fin S l res⟩ ⟨[],.x e,s⟩:=c8 (aiH I U ag he)
end Go.an
namespace Go.an
open Sym
section
variable{aC:fp}{K:ac eN}{own aZ:ac aY}{aL ch:Nat}{e:bQ}{d:Tmp}{xs:ac bA}{x y i:bv}
variable{α:Type}{z:Nat}{el:ci}{n c j:Nat}{bc:Bool}{q cH p:Nat}{aK ae:am bv}{o a4:Nat}{a:aj}{cs:ac aj}{R:α->ac aj}{l:ac α}
def dv(q:α){cn:d8}(hj:l[j]? =some q)(k:aW.ok aC ⟨K,.o xs,⟨own,aL,(d,.ip (R q))::e⟩⟩)(aa:bM e x=some (.bq z α R l):=by rfl)(ae:bM e i=some (.i cn (j:Int)):=by rfl):aW.ok aC ⟨K,.o (⟨some d,.mY z x i,none⟩::xs),⟨own,aL,e⟩⟩:=
 hd (N0 aa ae hj) k
def vw{bV:Nat}{cn:d8}(k:aW.ok aC ⟨K,.o xs,⟨own,aL,(d,.gk bV z (o+j) 0)::e⟩⟩)(aa:bM e x=some (.a5 bV z o n c):=by rfl)(ae:bM e i=some (.i cn (j:Int)):=by rfl)(hj:j<n:=by omega):aW.ok aC ⟨K,.o (⟨some d,.mY z x i,none⟩::xs),⟨own,aL,e⟩⟩:=
 hd (Ye aa ae hj) k
def kt{bV:Nat}{cn:d8}(k:aW.ok aC ⟨K,.o xs,⟨own,aL,(d,.gk bV z j 0)::e⟩⟩)(aa:bM e x=some (.a5 bV z 0 n c):=by rfl)(ae:bM e i=some (.i cn (j:Int)):=by rfl)(hj:j<n:=by omega):aW.ok aC ⟨K,.o (⟨some d,.mY z x i,none⟩::xs),⟨own,aL,e⟩⟩:=
 hd (Ye aa ae hj) (by rw[zas];exact k)
def tO{bV:Nat}(w:α)(hj:l[j]? =some w)(k:aW.ok aC ⟨K,.o xs,⟨own,aL,(d,a)::e⟩⟩)(aa:bM e x=some (.gk bV z j q):=by rfl)(ab:own[bV]? =some (.a el bc z α R l):=by rfl)(hq:(R w)[q]? =some a:=by rfl):aW.ok aC ⟨K,.o (⟨some d,.jr x,none⟩::xs),⟨own,aL,e⟩⟩:=
 hd (apG aa ab hj hq) k
def mq{bV:Nat}(w':α)(k:aW.ok aC ⟨K,.o xs,⟨aZ,aL,e⟩⟩)(aa:bM e x=some (.gk bV 1 j 0):=by rfl)(aJ:bM e y=some a:=by rfl)(ab:own[bV]? =some (.a el bc 1 α R l):=by rfl)(cZ:R w'=[a]:=by rfl)(hc:wi a=true:=by rfl)(I:∀w,(R w).length=1:=by exact fun _=>rfl)
 (al:jV own bV (.a el bc 1 α R (l.set j w')) some=some aZ:=by rfl) (hj:j<l.length:=by first|omega|(simp;done)|(simp;omega)):aW.ok aC ⟨K,.o (⟨none,.store 1 x y,none⟩::xs),⟨own,aL,e⟩⟩:=by
 have:=kQ al;cases this;exact abH (auV (s:=⟨own,aL,e⟩) w' aa aJ ab cZ hj hc I) k
def Oq:ac bi->am Nat
 |[]=>some 0
 |[_]=>some 1
 |[_,_]=>some 2
 |[_,_,_]=>some 3
 |[_,_,_,_]=>some 4
 |[_,_,_,_,_]=>some 5
 |[_,_,_,_,_,_]=>some 6
 |[_,_,_,_,_,_,_]=>some 7
 |l=>some l.length
def apP{l:ac bi}(h:Oq l=some n):l.length=n:=by
 unfold Oq at h;split at h<;>cases h<;>rfl
def qn{jx:ac bi}{bV k':d8}(R:α->ac aj)(w:α)(k:aW.ok aC ⟨K,.o xs,⟨aZ,ch,(d,.a5 aL z 0 n c)::e⟩⟩)(aa:bM e x=some (.i bV (n:Int)):=by rfl)(aJ:bM e y=some (.i k' (c:Int)):=by rfl)(ax:Oq jx=some z:=by rfl)(cZ:B0 jx=R w:=by rfl)
 (al:qp own (.a el false z α R (List.replicate c w)) some=some aZ:=by rfl) (lB:og aL some=some ch:=by rfl) (hn:n<=c:=by omega) (hc:c*(cH+1)<=1099511627776:=by omega):aW.ok aC ⟨K,.o (⟨some d,.si el cH jx x y,none⟩::xs),⟨own,aL,e⟩⟩:=by
 have I:=rz al;have U:=pz lB;cases I;cases U;exact hd (mk (s:=⟨own,aL,e⟩) R w aa aJ (apP ax) cZ hn hc) k
def J9{bV:Nat}(t:Nat)(l':ac α)(k:aW.ok aC ⟨K,.o xs,⟨aZ,aL,(t,.bq z α R l')::e⟩⟩)(aV:ea e t=some (.a5 bV z o n c):=by rfl)(ab:own[bV]? =some (.a el bc z α R l):=by rfl)(hp:∀x,ht (R x)=true:=by exact fun _=>rfl)
 (al:jV own bV .x some=some aZ:=by rfl) (hl:(l.drop o).take n=l':=by first|rfl|simp) (hn:l'.length=n:=by first|omega|(simp;done)|(simp;omega)) (hc:n<=c:=by omega):aW.ok aC ⟨K,.o xs,⟨own,aL,e⟩⟩:=by
 have I:=kQ al;cases I;exact abC t l' aV ab hl hn hc hp k
def iw{bV:Nat}(t:Nat)(k:aW.ok aC ⟨K,.o xs,⟨aZ,aL,(t,.bq z α R l)::e⟩⟩)(aV:ea e t=some (.a5 bV z 0 n c):=by rfl)(ab:own[bV]? =some (.a el bc z α R l):=by rfl)(hp:∀x,ht (R x)=true:=by exact fun _=>rfl)
 (al:jV own bV .x some=some aZ:=by rfl) (hn:l.length=n:=by first|omega|(simp;done)|(simp;omega)) (hc:n<=c:=by omega):aW.ok aC ⟨K,.o xs,⟨own,aL,e⟩⟩:=
 J9 t (l:=l) l k aV ab hp al (by rw[zaq,zau (by omega)]) hn hc
def oi(bV:Nat)(R:α->ac aj)(l:ac α)(k:aW.ok aC ⟨K,.o xs,⟨aZ,aL,e⟩⟩)(ab:own[bV]? =some (.c el cs):=by rfl)(ax:∀w,(R w).length=z:=by exact fun _=>rfl)
 (al:jV own bV (.a el false z α R l) some=some aZ:=by rfl) (dJ:cs=l.flatMap R:=by rfl):aW.ok aC ⟨K,.o xs,⟨own,aL,e⟩⟩:=by
 have I:=kQ al;cases I;exact abz bV l ab dJ ax k
def abJ(l':ac α)(k:aW.ok aC ⟨K,.o xs,⟨own,aL,(d,.bq z α R l')::e⟩⟩)(aa:bM e x=some (.bq z α R l):=by rfl)(gx:fo ⟨own,aL,e⟩ aK 0 p:=by first|exact rfl|exact⟨_,rfl⟩)(g0:fo ⟨own,aL,e⟩ ae l.length q:=by first|exact rfl|exact⟨_,rfl⟩)(hl:(l.drop p).take (q-p)=l':=by first|rfl|simp)(hp:p<=q:=by omega)(hq:q<=l.length:=by first|omega|(simp;done)|(simp;omega)):aW.ok aC ⟨K,.o (⟨some d,.oj z x aK ae none,none⟩::xs),⟨own,aL,e⟩⟩:=by
 subst hl;exact hd (Qt aa gx g0 hp hq) k
def asw{bV:Nat}(k:aW.ok aC ⟨K,.o xs,⟨own,aL,(d,.a5 bV z (o+p) (q-p) (c-p))::e⟩⟩)(aa:bM e x=some (.a5 bV z o n c):=by rfl)(ab:own[bV]? =some (.a el bc z α R l):=by rfl)(gx:fo ⟨own,aL,e⟩ aK 0 p:=by first|exact rfl|exact⟨_,rfl⟩)(g0:fo ⟨own,aL,e⟩ ae n q:=by first|exact rfl|exact⟨_,rfl⟩)(hp:p<=q:=by omega)(hq:q<=n:=by omega)(hn:n<=c:=by omega)(hc:p<c∨p=0:=by omega):aW.ok aC ⟨K,.o (⟨some d,.oj z x aK ae none,none⟩::xs),⟨own,aL,e⟩⟩:=
 hd (auw aa ab gx g0 hp hq hn hc) k
def abK{bV:Nat}(k:aW.ok aC ⟨K,.o xs,⟨own,aL,(d,.a5 bV z p (q-p) (c-p))::e⟩⟩)(aa:bM e x=some (.a5 bV z 0 n c):=by rfl)(ab:own[bV]? =some (.a el bc z α R l):=by rfl)(gx:fo ⟨own,aL,e⟩ aK 0 p:=by first|exact rfl|exact⟨_,rfl⟩)(g0:fo ⟨own,aL,e⟩ ae n q:=by first|exact rfl|exact⟨_,rfl⟩)(hp:p<=q:=by omega)(hq:q<=n:=by omega)(hn:n<=c:=by omega)(hc:p<c∨p=0:=by omega):aW.ok aC ⟨K,.o (⟨some d,.oj z x aK ae none,none⟩::xs),⟨own,aL,e⟩⟩:=
 asw (by rw[zas];exact k) aa ab gx g0 hp hq hn hc
def FL(R:α->ac aj)(l:ac α)(ah:nS ⟨own,aL,e⟩ y R a4 l)(k:aW.ok aC ⟨K,.o xs,⟨aZ,ch,(d,.a5 aL a4 0 l.length l.length)::e⟩⟩)(aa:bM e x=some .nl:=by rfl)
 (al:qp own (.a el true a4 α R l) some=some aZ:=by rfl) (lB:og aL some=some ch:=by rfl) (h0:l≠[]:=by first|rfl|simp) (hb:(5*l.length+1792)*(cH+1)<=1125899906842624:=by first|omega|(simp;done)|(simp;omega)):aW.ok aC ⟨K,.o (⟨some d,.app el a4 cH x y,none⟩::xs),⟨own,aL,e⟩⟩:=by
 have I:=rz al;have U:=pz lB;cases I;cases U;exact hd (Rz (s:=⟨own,aL,e⟩) aa (sP ah) h0 hb) k
def FK{bV:Nat}{eo:ac aY}(m:ac α)(ah:nS ⟨own,aL,e⟩ y R a4 m)(k:aW.ok aC ⟨K,.o xs,⟨aZ,ch,(d,.a5 aL a4 0 (n+m.length) (n+m.length))::e⟩⟩)(aa:bM e x=some (.a5 bV a4 0 n c):=by rfl)(ab:own[bV]? =some (.a el true a4 α R l):=by rfl)
 (mf:jV own bV .x some=some eo:=by rfl) (al:qp eo (.a el true a4 α R (l++m)) some=some aZ:=by rfl) (lB:og aL some=some ch:=by rfl) (h0:m≠[]:=by first|rfl|simp) (hn:n=l.length:=by first|omega|(simp;done)|(simp;omega)) (j7:n=c:=by omega) (hb:(5*(n+m.length)+1792)*(cH+1)<=1125899906842624:=by first|omega|(simp;done)|(simp;omega)):aW.ok aC ⟨K,.o (⟨some d,.app el a4 cH x y,none⟩::xs),⟨own,aL,e⟩⟩:=by
 have k6:=kQ mf;cases k6;have I:=rz al;have U:=pz lB;cases I;cases U;have:=Ry (call:=aC.call) (s:=⟨own,aL,e⟩) (cH:=cH) aa ab (sP ah) h0 (by omega) (by omega) (by omega) hb;rw[hn,zbR]at this;rw[hn]at k;exact hd this k
def aby{bV:Nat}(m:ac α)(ah:nS ⟨own,aL,e⟩ y R a4 m)(l':ac α)(k:aW.ok aC ⟨K,.o xs,⟨aZ,aL,(d,.a5 bV a4 0 (n+m.length) c)::e⟩⟩)(aa:bM e x=some (.a5 bV a4 0 n c):=by rfl)(ab:own[bV]? =some (.a el false a4 α R l):=by rfl)
 (al:jV own bV (.a el false a4 α R l') some=some aZ:=by rfl) (h0:m≠[]:=by first|rfl|simp) (hn:n+m.length<=c:=by first|omega|(simp;done)|(simp;omega)) (hc:c<=l.length:=by first|omega|(simp;done)|(simp;omega)) (hb:(5*(n+m.length)+1792)*(cH+1)<=1125899906842624:=by first|omega|(simp;done)|(simp;omega)) (hl:l.take n++(m++l.drop (n+m.length))=l':=by first|rfl|simp):aW.ok aC ⟨K,.o (⟨some d,.app el a4 cH x y,none⟩::xs),⟨own,aL,e⟩⟩:=by
 subst hl;have I:=kQ al;cases I;exact hd (aet (s:=⟨own,aL,e⟩) aa ab (sP ah) h0 hn hc hb) k
def h9{bV:Nat}(l:ac α)(dJ:cs=l.flatMap R)(aa:bM e x=some (.a5 bV z 0 l.length c):=by rfl)(ab:own[bV]? =some (.c el cs):=by rfl)(ax:∀w,(R w).length=z:=by exact fun _=>rfl)(hc:qI cs=true:=by rfl):nS ⟨own,aL,e⟩ x R z l:=auC l aa rfl ab dJ ax hc rfl
def o4{l:ac ce}{cn:d8}(qJ:ce)(hj:l[j]? =some qJ)(k:aW.ok aC ⟨K,.o xs,⟨own,aL,(d,.i .u8 (qJ.toNat:Int))::e⟩⟩)(aa:bM e x=some (.s l):=by rfl)(ae:bM e i=some (.i cn (j:Int)):=by rfl):aW.ok aC ⟨K,.o (⟨some d,.xa x i,none⟩::xs),⟨own,aL,e⟩⟩:=hd (apa aa ae hj) k
def zM{l:ac ce}(l':ac ce)(k:aW.ok aC ⟨K,.o xs,⟨own,aL,(d,.s l')::e⟩⟩)(aa:bM e x=some (.s l):=by rfl)(gx:fo ⟨own,aL,e⟩ aK 0 p:=by first|exact rfl|exact⟨_,rfl⟩)(g0:fo ⟨own,aL,e⟩ ae l.length q:=by first|exact rfl|exact⟨_,rfl⟩)(hl:(l.drop p).take (q-p)=l':=by first|rfl|simp)(hp:p<=q:=by omega)(hq:q<=l.length:=by first|omega|(simp;done)|(simp;omega)):aW.ok aC ⟨K,.o (⟨some d,.tR x aK ae,none⟩::xs),⟨own,aL,e⟩⟩:=by
 subst hl;exact hd (auz aa gx g0 hp hq) k
def FM{l m:ac ce}(k:aW.ok aC ⟨K,.o xs,⟨own,aL,(d,.s (l++m))::e⟩⟩)(aa:bM e x=some (.s l):=by rfl)(aJ:bM e y=some (.s m):=by rfl)(hl:l.length+m.length<=1099511627776:=by first|omega|(simp;done)|(simp;omega)):aW.ok aC ⟨K,.o (⟨some d,.bin .add x y,none⟩::xs),⟨own,aL,e⟩⟩:=hd (afx aa aJ hl) k
end
section
variable{aC:fp}{K:ac eN}{own:ac aY}{aL:Nat}{e:bQ}{d:Tmp}{xs:ac bA}{x y:bv}
variable{m n:Nat}
def asu(k:aW.ok aC ⟨K,.o xs,⟨own,aL,(d,.i .u64 ((m/n:Nat):Int))::e⟩⟩)(aa:bM e x=some (.i .u64 (m:Int)):=by rfl)(aJ:bM e y=some (.i .u64 (n:Int)):=by rfl)(hn:n≠0:=by omega)(hm:m<18446744073709551616:=by omega):aW.ok aC ⟨K,.o (⟨some d,.bin .quo x y,none⟩::xs),⟨own,aL,e⟩⟩:=by
 have h:=asb (call:=aC.call) (s:=⟨own,aL,e⟩) aa aJ (by omega);have az:IntKind.u64.wrap ((m:Int).tdiv n)=((m/n:Nat):Int):=by
  show IntKind.u64.wrap ((m/n:Nat):Int)=_;have:=zbg m n;generalize m/n=q at *;exact adG (by omega) (by omega)
 rw[az]at h;exact hd h k
def asv{bV:d8}(k:aW.ok aC ⟨K,.o xs,⟨own,aL,(d,.i bV ((m%n:Nat):Int))::e⟩⟩)(aa:bM e x=some (.i bV (m:Int)):=by rfl)(aJ:bM e y=some (.i bV (n:Int)):=by rfl)(hn:n≠0:=by omega):aW.ok aC ⟨K,.o (⟨some d,.bin .rem x y,none⟩::xs),⟨own,aL,e⟩⟩:=
 hd (asN (s:=⟨own,aL,e⟩) aa aJ (by omega)) k
def asx{bV bl:d8}(k:aW.ok aC ⟨K,.o xs,⟨own,aL,(d,.i bV ((m/2^n:Nat):Int))::e⟩⟩)(aa:bM e x=some (.i bV (m:Int)):=by rfl)(aJ:bM e y=some (.i bl (n:Int)):=by rfl)(hn:n<=bV.bits:=by first|decide|(show _<=64;omega)):aW.ok aC ⟨K,.o (⟨some d,.bin .shr x y,none⟩::xs),⟨own,aL,e⟩⟩:=
 hd (atz (s:=⟨own,aL,e⟩) aa aJ hn) k
end
variable{aC:fp}{K:ac eN}{s:cB}{n m:Int}{b:du}{g gD:aW}{c:bf}{a:du}{P:Prop}{k:d8}{p:Nat}{e bS:bQ}{o:aY}
def Ky(d:Nat):aW->am aW
 |⟨K,c,⟨own,n,(t,a)::e⟩⟩=>match Nat.beq t d with
  |true=>none
  |false=>CF ⟨K,c,⟨own,n,(t,a)::e⟩⟩
 |g=>CF g
def ac0(d:Nat)(h:Ky d g=some gD)(k:gD.ok aC):g.ok aC:=by
 unfold Ky at h;split at h
 ·split at h
  ·cases h
  ·exact F7 h k
 ·exact F7 h k
def R.mono{vT:ac eN}(h:∀x s,Sem aC K x s->Sem aC vT x s)(k:hY aC K c s)(c6:∀cQ,KT aC vT cQ->KT aC K cQ:=by exact fun _ h=>h):hY aC vT c s:=by
 have up:∀x fr st,ub aC (Sem aC K) x fr st->ub aC (Sem aC vT) x fr st:=fun x fr st ⟨H,ids,s,I,U,ag,au⟩=>⟨H,ids,s,I,U,ag,h x s au⟩;cases c with
 |c c=>exact fun H ids st fr a3 ao af=>(k H ids st fr a3 ao af).mono up
 |o l=>exact fun H ids st fr a3 ao af=>(k H ids st fr a3 ao af).mono up
 |x e=>exact h e s k
 |d l bN a6 bj ck=>exact fun cQ gu H ids st fr fj ah a3 ao af cv=>(k cQ (c6 cQ gu) H ids st fr fj ah a3 ao af cv).mono up
def cV{c:bv}[ay:Decidable P](ha:P->aW.ok aC ⟨K,.c a,s⟩)(hb:¬P->aW.ok aC ⟨K,.c b,s⟩)(hc:bM s.env c=some (.b (decide P)):=by rfl):aW.ok aC ⟨K,.c (.cond c a b),s⟩:=zL hc (fun h=>ha (zbd h)) (fun h=>hb (of_decide_eq_false h))
def Co{c:bv}[ay:Decidable P](ha:¬P->aW.ok aC ⟨K,.c a,s⟩)(hb:P->aW.ok aC ⟨K,.c b,s⟩)(hc:bM s.env c=some (.b (!decide P)):=by rfl):aW.ok aC ⟨K,.c (.cond c a b),s⟩:=zL hc (fun h=>ha (by simpa using h)) (fun h=>hb (by simpa using h))
def ks{L:Type _}(P:L->Prop)(T:L->cB)(I:aW.ok aC ⟨.bW (x2 aC.i0.length P T)::K,c,s⟩)(U:∀l,P l->aW.ok aC ⟨K,.c b,T l⟩):aW.ok aC ⟨.seq b::K,c,s⟩:=by
 refine R.mono (fun x s aa=> ?_) I;cases x with
 |norm=>obtain⟨f,l,hp,ah⟩:=aa;exact P4 f _ ah (U l hp)
 |exit i=>exact aa
 |ret=>exact aa
 |aQ v=>exact aa
def fI(h:n=m:=by omega)(I: -9223372036854775808<=n:=by omega)(U:n<9223372036854775808:=by omega):some (aj.i .i64 (IntKind.i64.wrap n))=some (aj.i .i64 m):=by rw[hK I U,h]
def cX(h:n=m:=by omega)(I: -9223372036854775808<=n:=by omega)(U:n<9223372036854775808:=by omega):aj.i .i64 (IntKind.i64.wrap n)=aj.i .i64 m:=by rw[hK I U,h]
def mZ(h:n=m:=by omega):some (aj.i k n)=some (aj.i k m):=by rw[h]
def gg(h:n=m:=by omega):aj.i k n=aj.i k m:=by rw[h]
def fh{own:ac aY}{n:Nat}(h:kZ [0] bS e)(al:∃a8,own[0]? =some a8∧gm [0] o a8)(hp:pinned p [0] 0=true:=by rfl):Sub p [0] ⟨own,n,e⟩ ⟨[o],1,bS⟩:=⟨by simp,rfl,⟨al,trivial⟩,h,hp⟩
def sE{own:ac aY}{n:Nat}{q:aY}(h:kZ [0,1] bS e)(al:∃a8,own[0]? =some a8∧gm [0,1] o a8)(hq:∃a8,own[1]? =some a8∧gm [0,1] q a8)(hp:pinned p [0,1] 0=true:=by rfl):Sub p [0,1] ⟨own,n,e⟩ ⟨[o,q],2,bS⟩:=⟨by simp,rfl,⟨al,hq,trivial⟩,h,hp⟩
def axw(d:Nat)(k:gD.ok aC)(h:Ky d g=some gD:=by rfl):g.ok aC:=ac0 d h k
inductive Aj(d:Nat):aW->aW->Prop
 |o {g:aW}:Aj d g g
 |i {g g1 aP:aW} (h:Ky d g=some g1) (t:Aj d g1 aP):Aj d g aP
variable{q:aY}{aL:Nat}{ay:Decidable P}{j:Nat}{r:aY}
def au2{d:Nat}(h:Aj d g gD)(k:gD.ok aC):g.ok aC:=by
 induction h with
 |o=>exact k
 |i h _ ba=>exact ac0 d h (ba k)
def av(d:Nat)(k:gD.ok aC)(h:Aj d g gD:=by(repeat(apply Aj.i;exact rfl));exact .o):g.ok aC:=au2 h k
def jk{n:Nat}(h:n<4611686018427387905:=by first|(show _-0<_;omega)|(show 0<_;omega)|omega):n<b0+1:=h
def dS{own:ac aY}(t:Nat)(h:P)(k:aW.ok aC ⟨K,c,⟨own,aL,(t,.b true)::e⟩⟩)(hl:ea e t=some (.b (decide P)):=by rfl)(hc:c.w9=false:=by rfl):aW.ok aC ⟨K,c,⟨own,aL,e⟩⟩:=aB t (.b true) hl (by rw[zae h]) k hc
def ep{own:ac aY}(t:Nat)(h:¬P)(k:aW.ok aC ⟨K,c,⟨own,aL,(t,.b false)::e⟩⟩)(hl:ea e t=some (.b (decide P)):=by rfl)(hc:c.w9=false:=by rfl):aW.ok aC ⟨K,c,⟨own,aL,e⟩⟩:=aB t (.b false) hl (by rw[zad h]) k hc
def dW{own:ac aY}{n:Nat}(h:kZ [] bS e:=by repeat first|exact trivial|refine⟨rfl,?_⟩)(hp:pinned p [] 0=true:=by rfl):Sub p [] ⟨own,n,e⟩ ⟨[],0,bS⟩:=kx h hp
def dX{own:ac aY}{n k:Nat}(h:kZ [k] bS e:=by repeat first|exact trivial|refine⟨rfl,?_⟩)(al:∃a8,own[k]? =some a8∧gm [k] o a8:=by first|exact⟨_,rfl,rfl,fun _=>rfl⟩|exact⟨_,rfl,rfl⟩)(hp:pinned p [k] 0=true:=by rfl):Sub p [k] ⟨own,n,e⟩ ⟨[o],1,bS⟩:=⟨by simp,rfl,⟨al,trivial⟩,h,hp⟩
def lj{own:ac aY}{n k m:Nat}(h:kZ [k,m] bS e:=by repeat first|exact trivial|refine⟨rfl,?_⟩)(al:∃a8,own[k]? =some a8∧gm [k,m] o a8:=by first|exact⟨_,rfl,rfl,fun _=>rfl⟩|exact⟨_,rfl,rfl⟩)(hq:∃a8,own[m]? =some a8∧gm [k,m] q a8:=by first|exact⟨_,rfl,rfl,fun _=>rfl⟩|exact⟨_,rfl,rfl⟩)(ab:k≠m:=by decide)(hp:pinned p [k,m] 0=true:=by rfl):Sub p [k,m] ⟨own,n,e⟩ ⟨[o,q],2,bS⟩:=⟨by simpa using ab,rfl,⟨al,hq,trivial⟩,h,hp⟩
def sB{own:ac aY}{n k m:Nat}(h:kZ [k,m,j] bS e:=by repeat first|exact trivial|refine⟨rfl,?_⟩)(al:∃a8,own[k]? =some a8∧gm [k,m,j] o a8:=by first|exact⟨_,rfl,rfl,fun _=>rfl⟩|exact⟨_,rfl,rfl⟩)(hq:∃a8,own[m]? =some a8∧gm [k,m,j] q a8:=by first|exact⟨_,rfl,rfl,fun _=>rfl⟩|exact⟨_,rfl,rfl⟩)(aD:∃a8,own[j]? =some a8∧gm [k,m,j] r a8:=by first|exact⟨_,rfl,rfl,fun _=>rfl⟩|exact⟨_,rfl,rfl⟩)(ab:[k,m,j].Nodup:=by decide)(hp:pinned p [k,m,j] 0=true:=by rfl):Sub p [k,m,j] ⟨own,n,e⟩ ⟨[o,q,r],3,bS⟩:=⟨ab,rfl,⟨al,hq,aD,trivial⟩,h,hp⟩
def sC{own:ac aY}{n k m i:Nat}{t:aY}(h:kZ [k,m,j,i] bS e:=by repeat first|exact trivial|refine⟨rfl,?_⟩)(al:∃a8,own[k]? =some a8∧gm [k,m,j,i] o a8:=by first|exact⟨_,rfl,rfl,fun _=>rfl⟩|exact⟨_,rfl,rfl⟩)(hq:∃a8,own[m]? =some a8∧gm [k,m,j,i] q a8:=by first|exact⟨_,rfl,rfl,fun _=>rfl⟩|exact⟨_,rfl,rfl⟩)(aD:∃a8,own[j]? =some a8∧gm [k,m,j,i] r a8:=by first|exact⟨_,rfl,rfl,fun _=>rfl⟩|exact⟨_,rfl,rfl⟩)(aV:∃a8,own[i]? =some a8∧gm [k,m,j,i] t a8:=by first|exact⟨_,rfl,rfl,fun _=>rfl⟩|exact⟨_,rfl,rfl⟩)(ab:[k,m,j,i].Nodup:=by decide)(hp:pinned p [k,m,j,i] 0=true:=by rfl):Sub p [k,m,j,i] ⟨own,n,e⟩ ⟨[o,q,r,t],4,bS⟩:=⟨ab,rfl,⟨al,hq,aD,aV,trivial⟩,h,hp⟩
section
variable{call:bF}{fr:aO}{H:bm}{ids:ac Nat}{e:bQ}{x y i:bv}
variable{z:Nat}
def aoG{α:Type}{R:α->ac aj}{l:ac α}{q:α}{cn:d8}(af:cU fr H ids e)(aa:bM e x=some (.bq z α R l))(ae:bM e i=some (.i cn (j:Int)))(hj:l[j]? =some q):∃v,den H (.ip (R q)) ids v∧∀st,bG call (.mY z x i) fr st= .ok v fr st:=by
 have ag:fr.ak i= .int cn (j:Int):=af.ak ae;have aT:=(zac.1 hj).1;rcases af.ak aa with⟨hl,_⟩|⟨b,o,c,vs,el,bk,bc,I,U,au,a0⟩
 ·subst hl;simp at aT
 ·refine⟨_,⟨b,o+j*z,vs,el,bk,bc,rfl,au,?_⟩,fun st=>Jf I ag aT⟩;have ay:=a0 j q hj;have hl:=hP ay;rw[<-hl];rw[show(vs.drop (o+j*z)).take ((vs.drop (o+j*z)).take z).length=(vs.drop (o+j*z)).take z by rw[zao,<-List.take_eq_take_min]];exact ay
def aoH{k o n c:Nat}{cn:d8}(af:cU fr H ids e)(aa:bM e x=some (.a5 k z o n c))(ae:bM e i=some (.i cn (j:Int)))(hj:j<n):∃v,den H (.gk k z (o+j) 0) ids v∧∀st,bG call (.mY z x i) fr st= .ok v fr st:=by
 obtain⟨b,I,U⟩:=af.ak aa;have ag:fr.ak i= .int cn (j:Int):=af.ak ae;exact⟨_,⟨b,I,by rw[zak,zba]⟩,fun st=>Jf U ag hj⟩
end
section
variable{aC:fp}{K:ac eN}{own bN:ac aY}{aL bj ck back:Nat}{e a6:bQ}{d:Tmp}{ts:ac Tmp}{xs:ac (bA×cD)}{x y i:bv}
variable{z:Nat}{α:Type}{R:α->ac aj}{l:ac α}
def e3(q:α){cn:d8}(hj:l[j]? =some q)(k:aW.ok aC ⟨K,.d xs bN ((d,.ip (R q))::a6) bj ck,⟨own,aL,(d,.ip (R q))::e⟩⟩)(aa:bM (fJ ts a6) x=some (.bq z α R l):=by rfl)(ae:bM (fJ ts a6) i=some (.i cn (j:Int)):=by rfl)(hb:back<bj:=by decide):aW.ok aC ⟨K,.d ((⟨some d,.mY z x i,none⟩,.read back ts)::xs) bN a6 bj ck,⟨own,aL,e⟩⟩:=
 sV (d:=some d) hb (fun H ids st fr af _ _=>let⟨v,I,U⟩:=aoG af aa ae hj;⟨v,I,fun cc _ _=>U cc⟩) k
def ag9{bV o n c:Nat}{cn:d8}(k:aW.ok aC ⟨K,.d xs bN ((d,.gk bV z (o+j) 0)::a6) bj ck,⟨own,aL,(d,.gk bV z (o+j) 0)::e⟩⟩)(aa:bM (fJ ts a6) x=some (.a5 bV z o n c):=by rfl)(ae:bM (fJ ts a6) i=some (.i cn (j:Int)):=by rfl)(hj:j<n:=by omega)(hb:back<bj:=by decide):aW.ok aC ⟨K,.d ((⟨some d,.mY z x i,none⟩,.read back ts)::xs) bN a6 bj ck,⟨own,aL,e⟩⟩:=
 sV (d:=some d) hb (fun H ids st fr af _ _=>let⟨v,I,U⟩:=aoH af aa ae hj;⟨v,I,fun cc _ _=>U cc⟩) k
def AJ{bV n c:Nat}{cn:d8}(k:aW.ok aC ⟨K,.d xs bN ((d,.gk bV z j 0)::a6) bj ck,⟨own,aL,(d,.gk bV z j 0)::e⟩⟩)(aa:bM (fJ ts a6) x=some (.a5 bV z 0 n c):=by rfl)(ae:bM (fJ ts a6) i=some (.i cn (j:Int)):=by rfl)(hj:j<n:=by omega)(hb:back<bj:=by decide):aW.ok aC ⟨K,.d ((⟨some d,.mY z x i,none⟩,.read back ts)::xs) bN a6 bj ck,⟨own,aL,e⟩⟩:=
 ag9 (by rw[zas];exact k) aa ae hj hb
def He{bV q:Nat}{el:ci}{bc:Bool}(w:α){a:aj}(hj:l[j]? =some w)(k:aW.ok aC ⟨K,.d xs bN ((d,a)::a6) bj ck,⟨own,aL,(d,a)::e⟩⟩)(aa:bM (fJ ts a6) x=some (.gk bV z j q):=by rfl)(ab:bN[bV]? =some (.a el bc z α R l):=by rfl)(hq:(R w)[q]? =some a:=by rfl)(hb:back<bj:=by decide):aW.ok aC ⟨K,.d ((⟨some d,.jr x,none⟩,.read back ts)::xs) bN a6 bj ck,⟨own,aL,e⟩⟩:=
 sV (d:=some d) hb (fun H ids st fr af hl al=>by
  obtain⟨b,I,U⟩:=af.ak aa;obtain⟨vs,ag,au,a0⟩:=al bV _ b ab rfl I;obtain⟨v,aE,ay⟩:=wx (a0 j w hj) hq;refine⟨v,ay,fun cc _ ah=>BI U ((ah bV _ b ab rfl I).trans ag) ?_⟩;rw[zaK]at aE;split at aE
  ·rw[zaw]at aE;exact aE
  ·cases aE) k
end
structure kA where
 L:Type
 own:L->ac aY
 args:L->ac aj
 pre:L->Prop
 aZ:L->ac aY
 res:L->aj
 hp:bm->Prop:=fun _=>True
 hm:∀{H a2:bm},dm H a2->hp H->hp a2:=by exact fun _ _=>trivial
def kA.spec(S:kA):Spec where
 L:=S.L×bm×ac Nat
 pre:=fun l vs st=>S.pre l.1∧S.hp l.2.1∧Fit l.2.1 l.2.2 st (S.own l.1) (S.own l.1).length∧c4 l.2.1 (S.args l.1) l.2.2 vs
 post:=fun l vs st v st'=>∃a2,Fit a2 l.2.2 st' (S.aZ l.1) (S.own l.1).length∧cG l.2.1 l.2.2 st a2 l.2.2 st'∧den a2 (S.res l.1) l.2.2 v
def KY(S:kA)(l:S.L)(res:ac hB)(x:dq)(s:cB):Prop:=(x= .norm∨x= .ret)∧(∃r,Fin.ry s res=some r∧oY r=true∧b7 r (S.res l))∧∃f,f.length=(S.own l).length∧Sub (S.own l).length f s ⟨S.aZ l,(S.own l).length,[]⟩
def are{f ids i0:ac Nat}(af:f.length=i0.length)(hp:pinned i0.length f 0=true)(ae:c0 i0 ids):pick f ids=i0:=by
 apply zbA;intro k;by_cases ab:k<i0.length
 ·have I:=Po hp k ab;rw[zas]at I;have U:=ae k _ (bg ab);rw[rl I U,bg ab]
 ·rw[zbq (by simp[pick];omega),zbq (by omega)]
variable{X:Ctx}
variable{f:co}{xf:cJ}{S:kA}
def agV{aS:aq cJ}(db:Good X)(gf:lK X aS)(bC:co->eE)(aa:aS.get f=some xf)(hl:∀l,(S.args l).length<=xf.aI)
 (h:∀l,S.pre l->∀H i0 aN,S.hp H->i0.length=(S.own l).length->aW.ok ⟨bH aS (bO X bC) (b0+1),b0+1,f,H,i0,aN,KY S l xf.res⟩ ⟨[],.c xf.body,⟨S.own l,(S.own l).length,jB 0 (S.args l)⟩⟩):bD X f S.spec:=by
 refine LY db gf bC aa (fun l vs st ⟨_,_,_,d⟩=>by rw[hP d];exact hl l.1) ?_;rintro⟨l,H,i0⟩ vs st ⟨hp,hh,ao,d⟩;simp only at hp hh ao d;refine(h l hp H i0 st hh ao.len H i0 st (er vs) (cG.refl _ _ _) ao (cU.zero d)).mono ?_;rintro x fr st' ⟨a2,ids,s,a3,cl,af,aa,⟨r,I,U,hle⟩,g,aM,ah⟩;obtain⟨v,ag,au⟩:=zP (call:=bH aS (bO X bC) (b0+1)) cl af I;have Ic:i0.length=(S.own l).length:=ao.len;have dP:Sub i0.length g s ⟨S.aZ l,(S.own l).length,[]⟩:=by rw[Ic];exact ah
 have NI:=are (by omega) dP.aaz a3.iY;have yE:=dP.fit cl;have s3:=dP.bh cl a3;rw[NI]at yE s3;exact⟨aa,v,au,a2,yE,s3,hle _ _ _ (AK _ U ag _)⟩
def agW{aS:aq cJ}(db:Good X)(gf:lK X aS)(bC:co->eE)(aa:aS.get f=some xf)(hl:∀l,(S.args l).length<=xf.aI)
 (h:∀l,S.pre l->∀H i0 aN,i0.length=(S.own l).length->aW.ok ⟨bH aS (bO X bC) (b0+1),b0+1,f,H,i0,aN,KY S l xf.res⟩ ⟨[],.c xf.body,⟨S.own l,(S.own l).length,jB 0 (S.args l)⟩⟩):bD X f S.spec:=agV db gf bC aa hl fun l hp H i0 aN _ hl=>h l hp H i0 aN hl
mutual
theorem L0{H:bm}{f ids:ac Nat}(af:∀k m:Nat,f[k]? =some m->m<ids.length):∀(a:aj) {v:bi},den H a (pick f ids) v->den H (lZ f a) ids v
 |.i _ _,_,d=>d
 |.b _,_,d=>d
 |.s _,_,d=>d
 |.nl,_,d=>d
 |.v _,_,d=>d
 |.p k o,v,⟨b,e,d⟩=>by
  obtain⟨m,I,U⟩:=tE af e;unfold lZ;rw[I];exact⟨b,U,d⟩
 |.gk k z j o,v,⟨b,e,d⟩=>by
  obtain⟨m,I,U⟩:=tE af e;unfold lZ;rw[I];exact⟨b,U,d⟩
 |.a5 k z o n c,v,⟨b,e,d⟩=>by
  obtain⟨m,I,U⟩:=tE af e;unfold lZ;rw[I];exact⟨b,U,d⟩
 |.bq _ _ _ _,_,d=>d
 |.jT _ _ _ _,_,d=>d
 |.cw _ _ _ _,_,d=>d
 |.ip _,_,d=>d
 |.fn _ bJ cs,_,⟨vs,ws,e,d1,d2⟩=>⟨vs,ws,e,AM af bJ d1,AM af cs d2⟩
 |.agg cs,_,⟨vs,e,d⟩=>⟨vs,e,AM af cs d⟩
 |.bn cs,_,⟨vs,e,d⟩=>⟨vs,e,AM af cs d⟩
 |.bad,_,d=>d.elim
theorem AM{H:bm}{f ids:ac Nat}(af:∀k m:Nat,f[k]? =some m->m<ids.length):∀(a:ac aj) {v:ac bi},c4 H a (pick f ids) v->c4 H (o5 f a) ids v
 |[],_,d=>d
 |a::as,_,⟨v,ws,e,d1,d2⟩=>⟨v,ws,e,L0 af a d1,AM af as d2⟩
theorem tE{f ids:ac Nat}(af:∀k m:Nat,f[k]? =some m->m<ids.length){k b:Nat}(h:(pick f ids)[k]? =some b):∃m,f[k]? =some m∧ids[m]? =some b:=by
 unfold pick at h;rw[zcR]at h;cases ab:f[k]? with
 |none=>rw[ab]at h;cases h
 |some m=>
  rw[ab]at h;have hm:=af k m ab;have h:some ((ids[m]?).getD 0)=some b:=h;rw[bg hm]at h;exact⟨m,rfl,by rw[bg hm];exact h⟩
end
def qx(f:ac Nat):aY->aY->Prop
 |.c el cs,o=>o= .c el (o5 f cs)
 |.a el bc z α R l,o=>o= .a el bc z α R l∧∀x,ht (R x)=true
 |.x,o=>o= .x
def qx.den{H:bm}{f ids:ac Nat}(af:∀k m:Nat,f[k]? =some m->m<ids.length){a8:aY}{eH:am bB}(h:qx f o a8)(d:k4 H (pick f ids) o eH):k4 H ids a8 eH∧a8.live=o.live:=by
 cases o with
 |c el cs=>cases h;obtain⟨vs,e,d⟩:=d;exact⟨⟨vs,e,AM af cs d⟩,rfl⟩
 |a el bc z α R l=>
  obtain⟨h,hp⟩:=h;cases h;obtain⟨vs,az,e2,d⟩:=d;exact⟨⟨vs,az,e2,fun i x aa=>oB _ (hp x) (d i x aa) _⟩,rfl⟩
 |x=>cases h;exact⟨trivial,rfl⟩
def KS(f:ac Nat)(own aZ:ac aY)(os:ac aY):Prop:=aZ.length=own.length∧(∀j:Nat,j∉f->aZ[j]? =own[j]?)∧∀(i k:Nat) (a8:aY),f[i]? =some k->aZ[k]? =some a8->∃o,os[i]? =some o∧qx f o a8
variable{aZ:ac aY}{bC:co->eE}{bT:bm}{i0:ac Nat}{aN:ar}{b9:ac bv}{as:ac aj}{a8:aY}{bE:Nat}{Q:dq->cB->Prop}{d:am Tmp}{xs:ac bA}
def aeZ{k:Nat}{own:ac aY}(h:jV own k a8 some=some aZ)(hb:qx [k] o a8):KS [k] own aZ [o]:=by
 have:=kQ h;cases this;refine⟨by simp,fun j hj=>zbn (by simpa using fun e=>hj (by simp[e])),fun i k' q ab hq=> ?_⟩;cases i with
 |zero=>
  simp at ab;subst ab;rw[zaG]at hq;rw[zab rfl]at hq;split at hq<;>cases hq;exact⟨o,rfl,hb⟩
 |succ i=>simp at ab
def aft{aS:aq cJ}{n:Nat}{own:ac aY}{g:co}(hc:bD X g S.spec)(f:ac Nat)(l:S.L)(hp:S.pre l)(hh:S.hp bT)
 (ah:Sub 0 f ⟨own,aL,e⟩ ⟨S.own l,(S.own l).length,[]⟩) (hb:KS f own aZ (S.aZ l))
 (ha:jq e b9=some as) (he:as=o5 f (S.args l)) (c6:bC g=S.spec.K) {H:bm} {ids:ac Nat} {st:ar} {fr:aO} (a3:cG bT i0 aN H ids st) (ao:Fit H ids st own aL) (af:cU fr H ids e):
 ∃v st' bX a2,bG (bH aS (bO X bC) (n+1)) (.call (.func g) b9) fr st= .ok v fr st'∧Fit a2 bX st' aZ aL∧den a2 (lZ f (S.res l)) bX v∧dm H a2∧c0 ids bX∧cG bT i0 aN a2 bX st'∧st.ai<=st'.ai:=by
 subst he;have lP:=ah.fit ao;have ay:=wy f _ (af.dG ha);obtain⟨v,st',I,U⟩:=hc _ st ⟨(l,H,pick f ids),hp,S.hm a3.hle hh,lP,ay⟩;obtain⟨v1,cp,g1,aP⟩:=Fv (X:=X) (K:=bC) (f:=g) ⟨v,st',by rw[c6];exact I,U⟩;rw[c6]at aP;obtain⟨a2,cl,cg,gF⟩:=aP (l,H,pick f ids) ⟨hp,S.hm a3.hle hh,lP,ay⟩;simp only at cl cg gF;have aT:∀k m:Nat,f[k]? =some m->m<ids.length:=fun k m ab=>by
  have hl:(S.own l).length=f.length:=ah.own.len;have I:=(zac.1 ab).1;obtain⟨eG,a8,U,ag,_⟩:=ah.own.get (bg (show k<(S.own l).length by omega));rw[ab]at U;cases U;rw[ao.len,<-ao.cr];exact(zac.1 ag).1
 have Ey:∀(j b:Nat),j∉f->ids[j]? =some b->b∉pick f ids:=fun j b hj hb hm=>by
  obtain⟨k,ab⟩:=zaS.1 hm;obtain⟨m,ag,au⟩:=tE aT ab;have az:=zac.1 hb;have e2:=zac.1 au;have:=(zbC (h₀:=az.1) (h₁:=e2.1) ao.g9).1 (az.2.trans e2.2.symm);exact hj (this▸zal ag)
 have bd:bH aS (bO X bC) (n+1) (.func (.func g) #[] #[]) (dG fr b9) none st= .ret v1 cp false:=by
  rw[pP];have e:fk (#[]:be bi).toList (fk (dG fr b9) (#[]:be bi).toList)=dG fr b9:=by simp
  rw[e,g1];rfl
 have hle:dm H a2:=cg.hle;refine⟨v1,cp,ids,a2,?_,?_,L0 aT _ gF,hle,c0.refl _,?_,cg.ai⟩
 ·rw[rk];show ma (bH aS (bO X bC) (n+1) (.func (.func g) #[] #[]) (dG fr b9) none st) _ _=_;rw[bd];rfl
 ·obtain⟨jn,oH,HX⟩:=hb;refine⟨cl.wf,cl.le,by rw[jn];exact ao.cr,ao.len,ao.g9,fun b hb=>fx (ao.lt b hb) cg.ai,fun j o b hj mI=> ?_⟩;by_cases Ei:j∈f
  ·obtain⟨i,ae⟩:=zaS.1 Ei;obtain⟨gS,Nx,qa⟩:=HX i j o ae hj;have NH:=rl ae mI;obtain⟨ag,au⟩:=cl.own i gS b Nx NH;obtain⟨a0,b5⟩:=qa.den aT ag;exact⟨a0,fun hl=>au (by rw[<-b5];exact hl)⟩
  ·have hj:aZ[j]? =some o:=hj;rw[oH j Ei]at hj;obtain⟨ag,au⟩:=ao.own j o b hj mI;have Es:=ao.lt b (zal mI);have Ij:=Ey j b Ei mI;rw[cg.gh b Es Ij];exact⟨rO hle (c0.refl _) ag,fun hl=>by rw[cg.hold b Es Ij];exact au hl⟩
 ·have Bj:∀b,b∈pick f ids->b∈ids:=fun b hb=>by
   obtain⟨k,ab⟩:=zaS.1 hb;obtain⟨m,_,au⟩:=tE aT ab;exact zal au
  have mS:∀b,b<aN.ai->b∉i0->b∉pick f ids:=fun b hb hn hm=>by
   rcases a3.new b (Bj b hm)with h|h
   ·exact hn h
   ·have h:aN.ai<=b:=h;omega
  refine⟨a3.hle.trans hle,fun b hb hn=> ?_,fun b hb hn=> ?_,zag a3.ai cg.ai,a3.iY,a3.new⟩
  ·rw[cg.hold b (fx hb a3.ai) (mS b hb hn)];exact a3.hold b hb hn
  ·rw[cg.gh b (fx hb a3.ai) (mS b hb hn)];exact a3.gh b hb hn
def afs{aS:aq cJ}{n:Nat}{fn:co}{own:ac aY}{g:co}(hc:bD X g S.spec)(f:ac Nat)(l:S.L)(hp:S.pre l)
 (ah:Sub 0 f ⟨own,aL,e⟩ ⟨S.own l,(S.own l).length,[]⟩) (hb:KS f own aZ (S.aZ l)) (k:aW.ok ⟨bH aS (bO X bC) (n+1),bE,fn,bT,i0,aN,Q⟩ ⟨K,.o xs,⟨aZ,aL,eL d (lZ f (S.res l)) e⟩⟩)
 (ha:jq e b9=some as) (he:as=o5 f (S.args l)) (c6:bC g=S.spec.K) (hh:S.hp bT):
 aW.ok ⟨bH aS (bO X bC) (n+1),bE,fn,bT,i0,aN,Q⟩ ⟨K,.o (⟨d,.call (.func g) b9,none⟩::xs),⟨own,aL,e⟩⟩:=fun H ids st fr a3 ao af=>by
 obtain⟨v,st',bX,a2,cO,cS,et,kr,Pv,arx,_⟩:=aft (n:=n) hc f l hp hh ah hb ha he c6 a3 ao af;exact rE cO (k a2 bX st' _ arx cS ((af.mono kr Pv).eL d et))
def abA{aS:aq cJ}{n:Nat}{fn:co}{own:ac aY}{g:co}(hc:bD X g S.spec)(bV:Nat)(l:S.L)(hp:S.pre l)
 (k:aW.ok ⟨bH aS (bO X bC) (n+1),bE,fn,bT,i0,aN,Q⟩ ⟨K,.o xs,⟨aZ,aL,eL d (lZ [bV] (S.res l)) e⟩⟩) (al:S.own l=[o]:=by rfl) (hk:S.aZ l=[a8]:=by rfl)
 (ab:∃ml,own[bV]? =some ml∧gm [bV] o ml:=by exact⟨_,rfl,rfl,fun _=>rfl⟩) (ah:jV own bV a8 some=some aZ:=by rfl) (hb:qx [bV] a8 a8:=by exact⟨rfl,fun _=>rfl⟩)
 (ha:jq e b9=some as:=by rfl) (he:as=o5 [bV] (S.args l):=by rfl) (c6:bC g=S.spec.K:=by rfl) (hh:S.hp bT:=by first|exact trivial|assumption):
 aW.ok ⟨bH aS (bO X bC) (n+1),bE,fn,bT,i0,aN,Q⟩ ⟨K,.o (⟨d,.call (.func g) b9,none⟩::xs),⟨own,aL,e⟩⟩:=
 afs hc [bV] l hp ⟨by simp,by rw[al];rfl,by rw[al];exact⟨ab,trivial⟩,trivial,rfl⟩ (by rw[hk];exact aeZ ah hb) k ha he c6 hh
end Go.an
namespace Go.an
open Sym
set_option maxRecDepth 10000
section
variable{aC:fp}{K:ac eN}{own aZ:ac aY}{aL:Nat}{e:bQ}
def abD{bV z n c:Nat}(t:Nat){el:ci}{bc:Bool}{α:Type}{R:α->ac aj}{l:ac α}{p:du}(k:aW.ok aC ⟨K,.c p,⟨aZ,aL,(t,.bq z α R l)::e⟩⟩)(aV:ea e t=some (.a5 bV z 0 n c):=by rfl)(ab:own[bV]? =some (.a el bc z α R l):=by rfl)(hp:∀x,ht (R x)=true:=by exact fun _=>rfl)
 (al:jV own bV .x some=some aZ:=by rfl) (hn:l.length=n:=by first|omega|(simp;done)|(simp;omega)) (hc:n<=c:=by omega):aW.ok aC ⟨K,.c p,⟨own,aL,e⟩⟩:=by
 have I:=kQ al;cases I;exact asm t l aV ab (by rw[zaq,zau (by omega)]) hn hc hp k
end
section
variable{call:bF}{s:cB}{x y:bv}
def af0{k z n c:Nat}{el:ci}{bc:Bool}{α:Type}{R:α->ac aj}{l m:ac α}(aa:bM s.env x=some (.a5 k z 0 n c))(ab:s.own[k]? =some (.a el bc z α R l))(ah:nS s y R z m)(I:m.length<=n)(U:n<=l.length)(ax:0<z):
 g7 call (.rN z x y) s (.i .i64 (m.length:Nat)) (s.own.set k (.a el bc z α R (m++l.drop m.length))) s.n:=fun H ids st fr ao af=>by
 obtain⟨b,g1,aP⟩:=af.ak aa;obtain⟨vs,bd,cu,dh⟩:=qC ao ab g1;have e:bG call (.rN z x y) fr st=ju (fr.ak x) (fun a dl _=>ju (fr.ak y) (fun b a5 _=>bp a (fun a=>bp b (fun b=>st.load b (Nat.mul (eh a5 dl a5 dl) z) (fun vs=>cond (hD vs) (st.store a vs (fun st=>.ok (.int .i64 (.ofNat (eh a5 dl a5 dl))) fr st) .no) .no) .no) (dQ a5 0 (.ok (.int .i64 0) fr st) .no)) (dQ dl 0 (.ok (.int .i64 0) fr st) .no)) .no) .no:=rfl;rw[e,aP,qt,zar];rcases ah H ids st fr ao af with⟨rfl,bL,cO⟩|⟨eR,o,bL,ws,AQ,bk,uB,cO,cS,et,kr,Pv⟩
 ·refine⟨.int .i64 0,st,ids,H,by rw[cO,qt,Sym.eB,Sym.gI,kC rfl],?_,rfl,dm.refl _,c0.refl _,fun _ _ _ B=>B,cf _,fun _ _ _=>rfl⟩;rw[show([]++l.drop ([]:ac α).length)=l by simp,show s.own.set k (.a el bc z α R l)=s.own from ?_]
  ·exact ao
  ·apply zbA;intro i;rw[zaG];split
   ·rename_i h;subst h;rw[ab];simp[(zac.1 ab).1]
   ·rfl
 ·have Ih:((ws.drop o).take (m.length*z)).length=m.length*z:=by simp at et ⊢;omega
  have aw1:m.length*z<=l.length*z:=ix z (by omega);have j5:=wm kr (Ay (n:=m.length) ⟨cu,dh⟩);have ay:vs.take 0++((ws.drop o).take (m.length*z)++vs.drop (0+((ws.drop o).take (m.length*z)).length))=(ws.drop o).take (m.length*z)++vs.drop (m.length*z):=by rw[Ih];simp
  refine⟨_,_,ids,H,?_,ao.hv ab rfl g1 (eH:=.cells ((ws.drop o).take (m.length*z)++vs.drop (m.length*z)) el (0,0) bc) ⟨_,rfl,j5.1,j5.2⟩,rfl,dm.refl _,c0.refl _,fun _ _ _ B=>B.hv (zal g1) _,cf _,fun aws _ hne=>aq.gq _ _ (fun e=>hne k (by simp[jb,aa]) (e▸g1))⟩;rw[cO,qt,Sym.eB,Sym.eB,gi I];show ar.load st ⟨eR,o,none⟩ (m.length*z) _ _=_;unfold ar.load ar.gN;rw[Sym.gI,cS,lr,qM et,Pv,cond_true];unfold ar.store ar.gN;rw[Sym.gI,bd,lr,gi (cf _),rn,zab (by show 0+_<=_;rw[Ih,cu];omega),kR,ay];rfl
end
section
variable{aC:fp}{K:ac eN}{own aZ:ac aY}{aL:Nat}{e:bQ}{d:Tmp}{xs:ac bA}{x y:bv}
def asj{bV z n c:Nat}{el:ci}{bc:Bool}{α:Type}{R:α->ac aj}{l:ac α}(m:ac α)(ah:nS ⟨own,aL,e⟩ y R z m)(k:aW.ok aC ⟨K,.o xs,⟨aZ,aL,(d,.i .i64 (m.length:Nat))::e⟩⟩)(aa:bM e x=some (.a5 bV z 0 n c):=by rfl)(ab:own[bV]? =some (.a el bc z α R l):=by rfl)
 (al:jV own bV (.a el bc z α R (m++l.drop m.length)) some=some aZ:=by rfl) (I:m.length<=n:=by omega) (U:n<=l.length:=by first|omega|(simp;done)|(simp;omega)) (ax:0<z:=by decide):aW.ok aC ⟨K,.o (⟨some d,.rN z x y,none⟩::xs),⟨own,aL,e⟩⟩:=by
 have h:=kQ al;cases h;exact hd (af0 (s:=⟨own,aL,e⟩) aa ab ah I U ax) k
end
section
variable{aC:fp}{K:ac eN}{own bN:ac aY}{aL bj ck back:Nat}{e a6:bQ}{d:Tmp}{ts:ac Tmp}{xs:ac (bA×cD)}{x y i:bv}
variable{m n:Nat}
def ahb(k:aW.ok aC ⟨K,.d xs bN ((d,.i .u64 ((m/n:Nat):Int))::a6) bj ck,⟨own,aL,(d,.i .u64 ((m/n:Nat):Int))::e⟩⟩)(aa:bM (fJ ts a6) x=some (.i .u64 (m:Int)):=by rfl)(aJ:bM (fJ ts a6) y=some (.i .u64 (n:Int)):=by rfl)(hb:back<bj:=by decide)(hn:n≠0:=by omega)(hm:m<18446744073709551616:=by omega):aW.ok aC ⟨K,.d ((⟨some d,.bin .quo x y,none⟩,.read back ts)::xs) bN a6 bj ck,⟨own,aL,e⟩⟩:=
 sV (d:=some d) (a:=.i .u64 ((m/n:Nat):Int)) hb (fun H ids st fr af _ _=>⟨.int .u64 ((m/n:Nat):Int),rfl,fun cc _ _=>by
  rw[ZN (af.ak aa) (af.ak aJ) hn];have:=zbg m n;generalize m/n=q at *;rw[adG (by omega) (by omega)]⟩) k
def ahe{bV:d8}(k:aW.ok aC ⟨K,.d xs bN ((d,.i bV ((m%n:Nat):Int))::a6) bj ck,⟨own,aL,(d,.i bV ((m%n:Nat):Int))::e⟩⟩)(aa:bM (fJ ts a6) x=some (.i bV (m:Int)):=by rfl)(aJ:bM (fJ ts a6) y=some (.i bV (n:Int)):=by rfl)(hb:back<bj:=by decide)(hn:n≠0:=by omega):aW.ok aC ⟨K,.d ((⟨some d,.bin .rem x y,none⟩,.read back ts)::xs) bN a6 bj ck,⟨own,aL,e⟩⟩:=
 sV (d:=some d) (a:=.i bV ((m%n:Nat):Int)) hb (fun H ids st fr af _ _=>⟨.int bV ((m%n:Nat):Int),rfl,fun cc _ _=>aqI (af.ak aa) (af.ak aJ) hn⟩) k
def ahf{z p q:Nat}{α:Type}{R:α->ac aj}{l:ac α}{aK ae:am bv}(l':ac α)(k:aW.ok aC ⟨K,.d xs bN ((d,.bq z α R l')::a6) bj ck,⟨own,aL,(d,.bq z α R l')::e⟩⟩)(aa:bM (fJ ts a6) x=some (.bq z α R l):=by rfl)(gx:fo ⟨[],0,fJ ts a6⟩ aK 0 p:=by first|exact rfl|exact⟨_,rfl⟩)(g0:fo ⟨[],0,fJ ts a6⟩ ae l.length q:=by first|exact rfl|exact⟨_,rfl⟩)(hb:back<bj:=by decide)(hl:(l.drop p).take (q-p)=l':=by first|rfl|simp)(hp:p<=q:=by omega)(hq:q<=l.length:=by first|omega|(simp;done)|(simp;omega)):aW.ok aC ⟨K,.d ((⟨some d,.oj z x aK ae none,none⟩,.read back ts)::xs) bN a6 bj ck,⟨own,aL,e⟩⟩:=by
 subst hl;refine sV (d:=some d) hb (fun H ids st fr af _ _=> ?_) k;obtain⟨v,I,U⟩:=acz (call:=aC.call) (s:=⟨[],0,fJ ts a6⟩) aa gx g0 hp hq af;exact⟨v,I,fun cc hle _=>U cc hle⟩
end
section
variable{call:bF}{s:cB}{x y:bv}
variable{a4 cH k n c:Nat}{el:ci}{α:Type}{R:α->ac aj}{l:ac α}
def Ln{bc:Bool}(aa:bM s.env x=some (.a5 k a4 0 n c))(ab:s.own[k]? =some (.a el bc a4 α R l))(ah:vY call el cH s y R a4 [])(j7:n<=c)(hc:c<=l.length)(hb:(5*n+1792)*(cH+1)<=1125899906842624):
 g7 call (.app el a4 cH x y) s (.a5 k a4 0 n c) s.own s.n:=fun H ids st fr ao af=>by
 obtain⟨b,g1,aP⟩:=af.ak aa;obtain⟨vs,bd,cu,dh⟩:=qC ao ab g1;obtain⟨new,I,U,ag⟩:=ah H ids st fr ao af x _ _ _ aP;have H0:c*a4<=l.length*a4:=ix a4 hc;refine⟨_,st,ids,H,?_,ao,⟨b,g1,rfl⟩,dm.refl _,c0.refl _,fun _ _ _ B=>B,cf _,fun _ _ _=>rfl⟩;rw[ag];unfold k5 ar.gN;simp only[zcv,zcw,Sym.eB,Sym.gI,bd,lr,zar,List.length_nil,zba];rw[gi (show(5*n+1792)*Nat.succ cH<=2^50 from hb),gi (cf _),gi j7,gi (by rw[fe,cu];show 0+c*a4<=_;omega),kC rfl,kC rfl]
def RC{m:ac α}(aa:bM s.env x=some (.a5 k a4 0 n c))(ab:s.own[k]? =some (.a el false a4 α R l))(ah:vY call el cH s y R a4 m)(h0:m≠[])(j7:n<=c)(Bo:c<n+m.length)(hc:c<=l.length)(hb:(5*(n+m.length)+1792)*(cH+1)<=1125899906842624):
 g7 call (.app el a4 cH x y) s (.a5 s.n a4 0 (n+m.length) (n+m.length)) (s.own++[.a el true a4 α R (l.take n++m)]) (s.n+1):=fun H ids st fr ao af=>by
 obtain⟨b,g1,aP⟩:=af.ak aa;obtain⟨vs,bd,cu,dh⟩:=qC ao ab g1;obtain⟨new,I,U,ag⟩:=ah H ids st fr ao af x _ _ _ aP;have hl:0<m.length:=zbi.2 h0;have j5:=wm (GZ ⟨cu,dh⟩ n (by omega)) I;have lO:=Dx (dm.refl H) (c0.app ids [st.ai]) j5;have H0:c*a4<=l.length*a4:=ix a4 hc;have Ez:n*a4<=l.length*a4:=ix a4 (by omega);refine⟨.slice (some ⟨st.ai,0,none⟩) (n+m.length) (n+m.length),_,_,H,?_,ao.add (eH:=.cells (vs.take (n*a4)++new) el (0,0) true) ⟨_,rfl,lO.1,lO.2⟩,⟨st.ai,by rw[<-ao.len,zav (cf _)];simp,by rw[zar]⟩,dm.refl _,c0.app _ _,fun _ _ _ B=>B.add _,zaZ _,fun b hb _=>zx hb⟩;rw[ag];unfold k5 ar.gN;simp only[zcv,zcw,Sym.eB,Sym.gI,bd,lr,zar];rw[gi (show(5*(n+m.length)+1792)*Nat.succ cH<=2^50 from hb),gi (cf _),gi j7,gi (by rw[fe,cu];show 0+c*a4<=_;omega),kC rfl,uy (by omega),cond_false,YL (by omega),qM (by simp;omega),gR,qB,zaq]
end
section
variable{aC:fp}{K:ac eN}{own aZ:ac aY}{aL ch:Nat}{e:bQ}{d:Tmp}{xs:ac bA}{x y:bv}
variable{a4 cH n c:Nat}{el:ci}{α:Type}{R:α->ac aj}{l:ac α}
def ase{bV:Nat}{bc:Bool}(ah:nS ⟨own,aL,e⟩ y R a4 ([]:ac α))(k:aW.ok aC ⟨K,.o xs,⟨own,aL,(d,.a5 bV a4 0 n c)::e⟩⟩)(aa:bM e x=some (.a5 bV a4 0 n c):=by rfl)(ab:own[bV]? =some (.a el bc a4 α R l):=by rfl)
 (j7:n<=c:=by omega) (hc:c<=l.length:=by first|omega|(simp;done)|(simp;omega)) (hb:(5*n+1792)*(cH+1)<=1125899906842624:=by omega):aW.ok aC ⟨K,.o (⟨some d,.app el a4 cH x y,none⟩::xs),⟨own,aL,e⟩⟩:=hd (Ln (s:=⟨own,aL,e⟩) aa ab (sP ah) j7 hc hb) k
def J8{bV:Nat}(m:ac α)(ah:nS ⟨own,aL,e⟩ y R a4 m)(l':ac α)(k:aW.ok aC ⟨K,.o xs,⟨aZ,ch,(d,.a5 aL a4 0 (n+m.length) (n+m.length))::e⟩⟩)(aa:bM e x=some (.a5 bV a4 0 n c):=by rfl)(ab:own[bV]? =some (.a el false a4 α R l):=by rfl)
 (al:qp own (.a el true a4 α R l') some=some aZ:=by rfl) (lB:og aL some=some ch:=by rfl) (h0:m≠[]:=by first|rfl|simp) (j7:n<=c:=by omega) (Bo:c<n+m.length:=by first|omega|(simp;done)|(simp;omega)) (hc:c<=l.length:=by first|omega|(simp;done)|(simp;omega))
 (hb:(5*(n+m.length)+1792)*(cH+1)<=1125899906842624:=by first|omega|(simp;done)|(simp;omega)) (hl:l.take n++m=l':=by first|rfl|simp):aW.ok aC ⟨K,.o (⟨some d,.app el a4 cH x y,none⟩::xs),⟨own,aL,e⟩⟩:=by
 subst hl;have I:=rz al;have U:=pz lB;cases I;cases U;exact hd (RC (s:=⟨own,aL,e⟩) aa ab (sP ah) h0 j7 Bo hc hb) k
end
section
variable{aC:fp}{K:ac eN}{own bN:ac aY}{aL bj ck back:Nat}{e a6:bQ}{d:Tmp}{ts:ac Tmp}{xs:ac (bA×cD)}{x y:bv}
def S7{m n:Nat}(k:aW.ok aC ⟨K,.d xs bN ((d,.i .i64 ((m/n:Nat):Int))::a6) bj ck,⟨own,aL,(d,.i .i64 ((m/n:Nat):Int))::e⟩⟩)(aa:bM (fJ ts a6) x=some (.i .i64 (m:Int)):=by rfl)(aJ:bM (fJ ts a6) y=some (.i .i64 (n:Int)):=by rfl)(hb:back<bj:=by decide)(hn:n≠0:=by omega)(hm:m<9223372036854775808:=by omega):aW.ok aC ⟨K,.d ((⟨some d,.bin .quo x y,none⟩,.read back ts)::xs) bN a6 bj ck,⟨own,aL,e⟩⟩:=
 sV (d:=some d) (a:=.i .i64 ((m/n:Nat):Int)) hb (fun H ids st fr af _ _=>⟨.int .i64 ((m/n:Nat):Int),rfl,fun cc _ _=>by
  rw[ZN (af.ak aa) (af.ak aJ) hn];have:=zbg m n;generalize m/n=q at *;rw[hK (by omega) (by omega)]⟩) k
end
def nH{aC:fp}{K:ac eN}{i:Nat}{c:bf}{s:cB}{b:du}{L:Type _}(P:L->Prop)(T:L->cB)(I:aW.ok aC ⟨.cK i:: .bW (x2 aC.i0.length P T)::K,c,s⟩)(U:∀l,P l->aW.ok aC ⟨K,.c b,T l⟩):aW.ok aC ⟨.cK i:: .seq b::K,c,s⟩:=by
 have up:∀s,x2 aC.i0.length P T s->Sem aC (.seq b::K) .norm s:=fun s aa=>by
  obtain⟨f,l,hp,ah⟩:=aa;exact P4 f _ ah (U l hp)
 refine R.mono (fun x s aa=> ?_) I;cases x with
 |norm=>exact up s aa
 |exit j=>
  show if j=i then Sem aC (.seq b::K) .norm s else Sem aC (.seq b::K) (.exit j) s;have aa:if j=i then Sem aC (.bW (x2 aC.i0.length P T)::K) .norm s else Sem aC (.bW (x2 aC.i0.length P T)::K) (.exit j) s:=aa;split
  ·rename_i h;rw[zab h]at aa;exact up s aa
  ·rename_i h;rw[zaa h]at aa;exact aa
 |ret=>exact aa
 |aQ v=>exact aa
def axx{own:ac aY}{n p:Nat}{e bS:bQ}{o q r:aY}(h:kZ [0,1,2] bS e)(al:∃a8,own[0]? =some a8∧gm [0,1,2] o a8)(hq:∃a8,own[1]? =some a8∧gm [0,1,2] q a8)(aD:∃a8,own[2]? =some a8∧gm [0,1,2] r a8)(hp:pinned p [0,1,2] 0=true:=by rfl):Sub p [0,1,2] ⟨own,n,e⟩ ⟨[o,q,r],3,bS⟩:=⟨by simp,rfl,⟨al,hq,aD,trivial⟩,h,hp⟩
def Ag(c:ce):ac aj:=[.i .u8 (c.toNat:Int)]
theorem SB{H:bm}{ids:ac Nat}:∀{l:ac ce} {vs:ac bi},kW H ids Ag 1 l vs->bytesOf vs=some l
 |[],vs,h=>by
  have:vs=[]:=zaX (by rw[h.1];simp);subst this;rfl
 |c::l,vs,h=>by
  have I:=h.2 0 c (by simp);rw[zar,zaq]at I;have U:=Ay h 1;obtain⟨v,ws,az,e2,b8⟩:=I;have e2:v= .int .u8 (c.toNat:Int):=e2;have b8:ws=[]:=b8;subst e2 b8;have aE:vs= .int .u8 (c.toNat:Int)::vs.drop 1:=by
   conv=>lhs;rw[<-zbp 1 vs,az]
   rfl
  have ba:=SB (l:=l) (vs:=vs.drop 1) (by simpa using U);rw[aE];show bp (bytesOf (vs.drop 1)) (fun bh=>some (UInt8.ofNat ((c.toNat:Int)).toNat::bh)) none=_;rw[ba];show some (UInt8.ofNat ((c.toNat:Int)).toNat::l)=_;rw[zbb,UInt8.ofNat_toNat]
section
variable{call:bF}{s:cB}{x y:bv}
def afy{k o n c:Nat}{el:ci}{bc:Bool}{l:ac ce}(aa:bM s.env x=some (.a5 k 1 o n c))(ab:s.own[k]? =some (.a el bc 1 ce Ag l))(hn:o+n<=l.length):g7 call (.Aw x) s (.s ((l.drop o).take n)) s.own s.n:=ny fun H ids st fr ao af=>by
 obtain⟨b,g1,aP⟩:=af.ak aa;obtain⟨vs,bd,cu,dh⟩:=qC ao ab g1;have j5:kW H ids Ag 1 ((l.drop o).take n) ((vs.drop o).take n):=by
  have:=GZ (Ay (⟨cu,dh⟩:kW H ids Ag 1 l vs) o) n (by simp;omega)
  rwa [zbj,zbj]at this
 refine⟨_,rfl,?_⟩;show Jj x call fr st=_;unfold Jj;rw[aP,qt,zbj,Sym.eB];unfold ar.load ar.gN;rw[Sym.gI,bd,lr,qM (by show n<=(vs.drop o).length;rw[zaz,cu];omega)];show bp (bytesOf ((vs.drop o).take n)) _ _=_;rw[SB j5];rfl
end
section
variable{aC:fp}{K:ac eN}{own:ac aY}{aL:Nat}{e:bQ}{d:Tmp}{xs:ac bA}{x y:bv}
def ash{bV n c:Nat}{el:ci}{bc:Bool}{l:ac ce}(l':ac ce)(k:aW.ok aC ⟨K,.o xs,⟨own,aL,(d,.s l')::e⟩⟩)(aa:bM e x=some (.a5 bV 1 0 n c):=by rfl)(ab:own[bV]? =some (.a el bc 1 ce Ag l):=by rfl)(hn:n<=l.length:=by first|omega|(simp;done)|(simp;omega))(hl:l.take n=l':=by first|rfl|simp):aW.ok aC ⟨K,.o (⟨some d,.Aw x,none⟩::xs),⟨own,aL,e⟩⟩:=by
 have:=afy (call:=aC.call) (s:=⟨own,aL,e⟩) aa ab (by omega);rw[zaq,hl]at this;exact hd this k
end
section
variable{aC:fp}{K:ac eN}{own bN:ac aY}{aL bj ck back:Nat}{e a6:bQ}{d:Tmp}{ts:ac Tmp}{xs:ac (bA×cD)}{x y:bv}
variable{l:ac ce}{p q:Nat}{aK ae:am bv}
def auy{call:bF}{s:cB}{H:bm}{ids:ac Nat}{fr:aO}{st:ar}(af:cU fr H ids s.env)(aa:bM s.env x=some (.s l))(gx:fo s aK 0 p)(g0:fo s ae l.length q)(hp:p<=q)(hq:q<=l.length):bG call (.tR x aK ae) fr st= .ok (.string ⟨⟨(l.drop p).take (q-p)⟩⟩) fr st:=by
 have I:fr.ak x= .string ⟨⟨l⟩⟩:=af.ak aa;have e:bG call (.tR x aK ae) fr st=jv (fr.ak x) (fun s=>fl fr ae (dd s.data.toList) (dd s.data.toList) fun h=>fl fr aK 0 h fun l=>iB s.data.toList l (h-l) (fun bh=>.ok (.string ⟨⟨bh⟩⟩) fr st) .no) .no:=rfl;rw[e,I,Gh];show fl fr ae (dd l) (dd l) _=_;rw[fe,fo.ak g0 af hq,fo.ak gx af hp,DC (by show p+(q-p)<=l.length;omega)]
def Hf(l':ac ce)(k:aW.ok aC ⟨K,.d xs bN ((d,.s l')::a6) bj ck,⟨own,aL,(d,.s l')::e⟩⟩)(aa:bM (fJ ts a6) x=some (.s l):=by rfl)(gx:fo ⟨[],0,fJ ts a6⟩ aK 0 p:=by first|exact rfl|exact⟨_,rfl⟩)(g0:fo ⟨[],0,fJ ts a6⟩ ae l.length q:=by first|exact rfl|exact⟨_,rfl⟩)(hb:back<bj:=by decide)(hl:(l.drop p).take (q-p)=l':=by first|rfl|simp)(hp:p<=q:=by omega)(hq:q<=l.length:=by first|omega|(simp;done)|(simp;omega)):aW.ok aC ⟨K,.d ((⟨some d,.tR x aK ae,none⟩,.read back ts)::xs) bN a6 bj ck,⟨own,aL,e⟩⟩:=by
 subst hl;exact sV (d:=some d) (a:=.s ((l.drop p).take (q-p))) hb (fun H ids st fr af _ _=>⟨_,rfl,fun cc _ _=>auy (s:=⟨[],0,fJ ts a6⟩) af aa gx g0 hp hq⟩) k
end
