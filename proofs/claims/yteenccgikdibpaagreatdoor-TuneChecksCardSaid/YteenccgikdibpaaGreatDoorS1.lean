/- Rules for what a function computes on abstract states (part 1); no condition. -/
import Derived.Test.YteenccgikdibpaaGreatDoorM1
import Derived.Test.YteenccgikdibpaaGreatDoorM3
noncomputable section
set_option linter.all false
namespace Go.an
namespace Sym
section
variable{α β:Type}
def Ai(r:aZ)(k:Value->aT->au->cY)(p:Value->au->cY):cY:=aZ.rec (motive:=fun _=>cY) k p .no r
theorem MO(v:Value)(fr:aT)(st:au)(k:Value->aT->au->cY)(p:Value->au->cY):Ai (.ok v fr st) k p=k v fr st:=rfl
theorem aor(v:Value)(st:au)(k:Value->aT->au->cY)(p:Value->au->cY):Ai (.bk v st) k p=p v st:=rfl
theorem aoq(k:Value->aT->au->cY)(p:Value->au->cY):Ai .no k p= .no:=rfl
def sM(r:dJ)(k:Value->au->aZ)(p:Value->au->aZ):aZ:=dJ.rec (motive:=fun _=>aZ) (fun v st _=>k v st) (fun v st _=>p v st) .no r
theorem agE(v:Value)(st:au)(t:Bool)(k p:Value->au->aZ):sM (.ret v st t) k p=k v st:=rfl
theorem agD(v:Value)(st:au)(t:Bool)(k p:Value->au->aZ):sM (.bk v st t) k p=p v st:=rfl
theorem Z0(fr:aT)(st:au)(k:aT->au->cY):oY (.out .norm fr st) k=k fr st:=rfl
theorem acE(id i:Nat)(fr:aT)(st:au):EZ id (.out (.exit i) fr st)=if i=id then .out .norm fr st else .out (.exit i) fr st:=by
 show et i id _ _=_;rw[oA]
theorem mU(a:IntKind)(n:Int)(k:IntKind->Int->β)(z:β):gB (.int a n) k z=k a n:=rfl
theorem Et(s:ByteArray)(k:ByteArray->β)(z:β):jB (.string s) k z=k s:=rfl
theorem tN(a:Option Addr)(k:Option Addr->β)(z:β):iD (.pointer a) k z=k a:=rfl
theorem sj(a:Option Addr)(n c:Nat)(k:Option Addr->Nat->Nat->β)(z:β):ku (.slice a n c) k z=k a n c:=rfl
theorem as8(x:Array Value)(k:Array Value->β)(z:β):q2 (.agg x) k z=k x:=rfl
theorem as9(x:Array Value)(k:Array Value->β)(z:β):qb (.tuple x) k z=k x:=rfl
@[congr] theorem auW {o bd:Option α} (h:o=bd) (k:α->β) (z:β):bl o k z=bl bd k z:=by rw[h]
theorem eY(a:α)(k:α->β)(z:β):bl (some a) k z=k a:=rfl
theorem ia(k:α->β)(z:β):bl (none:Option α) k z=z:=rfl
@[congr] theorem auT {a a' b er:Nat} (h:a=a') (aB:b=er) (x y:β):eo a b x y=eo a' er x y:=by rw[h,aB]
theorem eX{a b:Nat}(h:a<=b)(x y:β):eo a b x y=x:=by rw[pR,if_pos h]
theorem L8{a b:Nat}(h:¬a<=b)(x y:β):eo a b x y=y:=by rw[pR,if_neg h]
theorem jI{a b:Nat}(h:a=b)(x y:β):et a b x y=x:=by rw[oA,if_pos h]
theorem rr{a b:Nat}(h:¬a=b)(x y:β):et a b x y=y:=by rw[oA,if_neg h]
theorem oQ(n:Nat)(k:Nat->β)(z:β):hA (n:Int) k z=k n:=rfl
theorem anJ{n:Int}(h:0<=n)(k:Nat->β)(z:β):hA n k z=k n.toNat:=by
 obtain⟨m,rfl⟩:=Int.eq_ofNat_of_zero_le h;rfl
@[congr] theorem atY {l l':List α} {o bd n b8:Nat} (h:l=l') (aB:o=bd) (na:n=b8) (k:List α->β) (z:β):il l o n k z=il l' bd b8 k z:=by rw[h,aB,na]
theorem BN{l:List α}{o n:Nat}(h:o+n<=l.length)(k:List α->β)(z:β):il l o n k z=k ((l.drop o).take n):=by
 unfold il;rw[BX,Ek,if_pos (by simp;omega)];rfl
end
theorem FC(fr:aT)(t:Tmp):fr.aj (.tmp t)=fr.tmp t:=rfl
theorem AV(fr:aT)(d:Tmp)(v:Value)(j:Nat):(fr.put (some d) v).tmp j=if j=d then v else fr.tmp j:=by
 rw[sd];by_cases h:j=d
 ·subst h;simp
 ·rw[if_neg h,if_neg (by simpa using fun e=>h e.symm)]
section
variable(call:bQ)(cd:Nat)(fn:FuncId)(fr:aT)(st:au)
theorem FB(d:Option Tmp)(o:dd)(xs:List bL):iJ call (⟨d,o,none⟩::xs) fr st=
 Ai (b2 call o fr st) (fun v fr st=>iJ call xs (fr.put d v) st) (fun v st=>cond o.m0 (.out (.bk v) fr st) .no):=rfl
def uN{β:Type}(v:Value)(b:Bool)(yes hs z:β):β:=mT v (fun c=>cond c (cond b yes hs) (cond b hs yes)) (qb v (fun _=>hs) z)
theorem ajP{β:Type}(x y z:β):uN (.bool true) true x y z=x:=rfl
theorem ajO{β:Type}(x y z:β):uN (.bool true) false x y z=y:=rfl
theorem ajN{β:Type}(x y z:β):uN (.bool false) true x y z=y:=rfl
theorem ajM{β:Type}(x y z:β):uN (.bool false) false x y z=x:=rfl
theorem ajQ{β:Type}(b:Bool)(x y z:β)(a:Array Value):uN (.tuple a) b x y z=y:=rfl
theorem KI(d:Option Tmp)(o:dd)(t:Tmp)(b:Bool)(xs:List bL):iJ call (⟨d,o,some (t,b)⟩::xs) fr st=
 uN (fr.tmp t) b (Ai (b2 call o fr st) (fun v fr st=>iJ call xs (fr.put d v) st) (fun v st=>cond o.m0 (.out (.bk v) fr st) .no)) (iJ call xs (fr.put d undef) st) .no:=rfl
theorem KG(a b:dy):dA call cd fn (.seq a b) fr st=oY (dA call cd fn a fr st) (dA call cd fn b):=rfl
theorem KF(c:Operand)(a b:dy):dA call cd fn (.cond c a b) fr st=Qw (fr.aj c) (dA call cd fn a fr st) (dA call cd fn b fr st):=rfl
theorem Q7(i:Nat)(a:dy):dA call cd fn (.block i a) fr st=EZ i (dA call cd fn a fr st):=rfl
def KH(b:dy)(n:Nat)(fr:aT)(st:au):cY:=
 Nat.rec (motive:=fun _=>aT->au->cY) (fun _ _=>.no) (fun _ a0 fr st=>oY (dA call cd fn b fr st) a0) n fr st
theorem agb(b:dy)(n:Nat):KH call cd fn b (n+1) fr st=oY (dA call cd fn b fr st) (KH call cd fn b n):=rfl
end
section
variable(call:bQ)(fr:aT)(st:au)
theorem Xi(c a b:Operand):b2 call (.pick c a b) fr st=mT (fr.aj c) (fun t=>.ok (cond t (fr.aj a) (fr.aj b)) fr st) .no:=rfl
theorem aoC(x:Operand):b2 call (.oN x) fr st=ku (fr.aj x) (fun _ n _=>.ok (.int .i64 (n:Int)) fr st) .no:=rfl
theorem aoD(x:Operand):b2 call (.te x) fr st=jB (fr.aj x) (fun s=>.ok (.int .i64 (s.data.toList.length:Int)) fr st) .no:=by
 show jB (fr.aj x) (fun s=>ga (ec s.data.toList) fun n=>aZ.ok (.int .i64 (.ofNat n)) fr st) aZ.no=_;simp only[zh,fU];rfl
theorem vp(f:Operand)(args:List Operand):b2 call (.call f args) fr st=sM (call (fr.aj f) (dT fr args) none st) (fun v st=>.ok v fr st) (fun v st=>.bk v st):=rfl
theorem aoz(a4:Nat)(x i:Operand):b2 call (.lD a4 x i) fr st=
 ku (fr.aj x) (fun b len _=>bl b (fun a=>gB (fr.aj i) (fun _ j=>hA j (fun j=>eo (j+1) len (.ok (.pointer (some (a.add (j*a4)))) fr st) .no) .no) .no) .no) .no:=rfl
theorem aoE(x:Operand):b2 call (.lE x) fr st=iD (fr.aj x) (fun p=>bl p (fun a=>st.load a 1 (fun vs=>one vs (fun v=>.ok v fr st) .no) .no) .no) .no:=rfl
theorem aoF(n:Nat)(x:Operand):b2 call (.pT n x) fr st=iD (fr.aj x) (fun p=>bl p (fun a=>st.load a n (fun vs=>.ok (.agg ⟨vs⟩) fr st) .no) .no) .no:=rfl
theorem aov(k:IntKind)(x:Operand):b2 call (.sB k x) fr st=gB (fr.aj x) (fun _ n=>.ok (.int k (k.wrap n)) fr st) .no:=by
 show gB (fr.aj x) (fun _ n=>hM k (nJ k n) fun v=>aZ.ok v fr st) aZ.no=_;simp only[hV,kO]
theorem DC(op:BinOp)(x y:Operand):b2 call (.bin op x y) fr st=B5 op (fr.aj x) (fr.aj y) (fun v=>.ok v fr st):=rfl
theorem KE(op:BinOp)(k vU:IntKind)(a b:Int)(c:Value->aZ):B5 op (.int k a) (.int vU b) c=zb op k a vU b c:=rfl
theorem Q6(op:BinOp)(a b:ByteArray)(c:Value->aZ):B5 op (.string a) (.string b) c=By op a b c:=rfl
theorem amU(k:IntKind):jM k k=true:=by cases k<;>rfl
end
end Sym
end Go.an
namespace Go.an
open Sym
def W(r:cY)(Q:dF->aT->au->Prop):Prop:=∃e fr st,r= .out e fr st∧Q e fr st
theorem W.mk{e:dF}{fr:aT}{st:au}{Q:dF->aT->au->Prop}(h:Q e fr st):W (.out e fr st) Q:=⟨e,fr,st,rfl,h⟩
theorem W.of_eq{r dH:cY}{Q:dF->aT->au->Prop}(e:r=dH)(h:W dH Q):W r Q:=by rw[e];exact h
theorem W.mono{r:cY}{Q A8:dF->aT->au->Prop}(h:W r Q)(hq:∀e fr st,Q e fr st->A8 e fr st):W r A8:=
 let⟨e,fr,st,h1,h2⟩:=h;⟨e,fr,st,h1,hq _ _ _ h2⟩
def abE(call:bQ)(cd:Nat)(fn:FuncId)(b:dy)(Q:dF->aT->au->Prop):dF->aT->au->Prop
 |.norm,fr,st=>W (dA call cd fn b fr st) Q
 |e,fr,st=>Q e fr st
def abn(id:Nat)(Q:dF->aT->au->Prop):dF->aT->au->Prop
 |.exit i,fr,st=>if i=id then Q .norm fr st else Q (.exit i) fr st
 |e,fr,st=>Q e fr st
def Round(lN:Nat->aT->au->Prop)(m:Nat)(Q:dF->aT->au->Prop):dF->aT->au->Prop
 |.norm,fr,st=>∃fq,fq<m∧lN fq fr st
 |e,fr,st=>Q e fr st
section
variable{call:bQ}{cd:Nat}{fn:FuncId}{fr:aT}{st:au}{Q:dF->aT->au->Prop}
theorem att{a b:dy}(h:W (dA call cd fn a fr st) (abE call cd fn b Q)):W (dA call cd fn (.seq a b) fr st) Q:=by
 obtain⟨e,aI,st',h1,h2⟩:=h;rw[KG,h1];cases e with
 |norm=>exact h2
 |exit i=>exact .mk h2
 |ret=>exact .mk h2
 |bk v=>exact .mk h2
theorem atu(h:Q .norm fr st):W (dA call cd fn .skip fr st) Q:=.mk h
theorem ati{i:Nat}(h:Q (.exit i) fr st):W (dA call cd fn (.exit i) fr st) Q:=.mk h
theorem atq(h:Q .ret fr st):W (dA call cd fn .ret fr st) Q:=.mk h
theorem ats{a:dy}(h:W (dA call cd fn a fr st) Q):W (dA call cd fn (.scope a) fr st) Q:=h
theorem atd{i:Nat}{a:dy}(h:W (dA call cd fn a fr st) (abn i Q)):W (dA call cd fn (.block i a) fr st) Q:=by
 obtain⟨e,aI,st',h1,h2⟩:=h;rw[Q7,h1];cases e with
 |norm=>exact .mk h2
 |exit j=>
  rw[acE];have h3:(if j=i then Q .norm aI st' else Q (.exit j) aI st'):=h2;split at h3
  ·rw[if_pos (by assumption)];exact .mk h3
  ·rw[if_neg (by assumption)];exact .mk h3
 |ret=>exact .mk h2
 |bk v=>exact .mk h2
theorem atp{ops:List bL}(h:W (iJ call ops fr st) Q):W (dA call cd fn (.yb ops) fr st) Q:=h
theorem atl(h:Q .norm fr st):W (iJ call [] fr st) Q:=.mk h
theorem atj{c:Operand}{a b:dy}{t:Bool}(hc:fr.aj c= .bool t)(ha:t=true->W (dA call cd fn a fr st) Q)(aa:t=false->W (dA call cd fn b fr st) Q):W (dA call cd fn (.cond c a b) fr st) Q:=by
 rw[KF,hc];cases t
 ·exact aa rfl
 ·exact ha rfl
theorem atv{c:Operand}{a b:dy}{t:Bool}(hc:fr.aj c= .bool t)(aN:t=true)(ha:W (dA call cd fn a fr st) Q):W (dA call cd fn (.cond c a b) fr st) Q:=by
 rw[KF,hc,aN];exact ha
theorem ath{c:Operand}{a b:dy}{t:Bool}(hc:fr.aj c= .bool t)(aN:t=false)(aa:W (dA call cd fn b fr st) Q):W (dA call cd fn (.cond c a b) fr st) Q:=by
 rw[KF,hc,aN];exact aa
theorem abe{b:dy}(lN:Nat->aT->au->Prop)
 (b6:∀m fr st,lN m fr st->W (dA call cd fn b fr st) (Round lN m Q)):∀(n m:Nat) (fr:aT) (st:au),m<n->lN m fr st->W (KH call cd fn b n fr st) Q
 |0,m,_,_,h,_=>by omega
 |n+1,m,fr,st,h,ae=>by
  obtain⟨e,aI,st',h1,h2⟩:=b6 m fr st ae;rw[agb,h1];cases e with
  |norm=>
   obtain⟨fq,hm,h3⟩:=h2;exact abe lN b6 n fq aI st' (by omega) h3
  |exit i=>exact .mk h2
  |ret=>exact .mk h2
  |bk v=>exact .mk h2
theorem atk{b:dy}(lN:Nat->aT->au->Prop)(m:Nat)(hm:m<cd)(h0:lN m fr st)
 (b6:∀m fr st,lN m fr st->W (dA call cd fn b fr st) (Round lN m Q)):W (dA call cd fn (.loop b) fr st) Q:=
 abe lN b6 cd m fr st hm h0
theorem E{d:Tmp}{v:Value}:(fr.put (some d) v).aj (.tmp d)=v:=by rw[FC,AV,if_pos rfl]
theorem N{d j:Tmp}{v x:Value}(h:fr.aj (.tmp j)=x)(hne:Nat.beq j d=false:=by rfl):(fr.put (some d) v).aj (.tmp j)=x:=by
 rw[FC,AV,if_neg];exact h;intro e;subst e;simp at hne
theorem C{v:Value}:fr.aj (.const v)=v:=rfl
section
variable{xs:List bL}{d:Option Tmp}{o:dd}{x y i:Operand}
theorem vQ{v:Value}{st':au}(h:b2 call o fr st= .ok v fr st')(k:W (iJ call xs (fr.put d v) st') Q):W (iJ call (⟨d,o,none⟩::xs) fr st) Q:=by
 rw[FB,h,MO];exact k
theorem ato{t:Tmp}{b c:Bool}(aO:fr.aj (.tmp t)= .bool c)(hc:c=b)(k:W (iJ call (⟨d,o,none⟩::xs) fr st) Q):W (iJ call (⟨d,o,some (t,b)⟩::xs) fr st) Q:=by
 subst hc;rw[KI,show fr.tmp t= .bool c from aO];rw[FB]at k;cases c
 ·rw[ajM];exact k
 ·rw[ajP];exact k
theorem atm{t:Tmp}{b c:Bool}(aO:fr.aj (.tmp t)= .bool c)(hc:c= !b)(k:W (iJ call xs (fr.put d undef) st) Q):W (iJ call (⟨d,o,some (t,b)⟩::xs) fr st) Q:=by
 subst hc;rw[KI,show fr.tmp t= .bool (!b)from aO];cases b
 ·rw[show uN (.bool (!false)) false _ _ cY.no=_ from ajO _ _ _];exact k
 ·rw[show uN (.bool (!true)) true _ _ cY.no=_ from ajN _ _ _];exact k
theorem atn{t:Tmp}{b:Bool}{a:Array Value}(aO:fr.aj (.tmp t)= .tuple a)(k:W (iJ call xs (fr.put d undef) st) Q):W (iJ call (⟨d,o,some (t,b)⟩::xs) fr st) Q:=by
 rw[KI,show fr.tmp t= .tuple a from aO,ajQ];exact k
end
section
variable{x y i c a b:Operand}
theorem Ac{p:Option Addr}{n m:Nat}(h:fr.aj x= .slice p n m):b2 call (.oN x) fr st= .ok (.int .i64 (n:Int)) fr st:=by rw[aoC,h];rfl
theorem aog{k k':IntKind}{n:Int}(h:fr.aj x= .int k' n):b2 call (.sB k x) fr st= .ok (.int k (k.wrap n)) fr st:=by rw[aov,h];rfl
theorem aoh{a4:Nat}{p:Addr}{n m:Nat}{k:IntKind}{j:Int}(h:fr.aj x= .slice (some p) n m)(aB:fr.aj i= .int k j)(h0:0<=j)(h1:j<n):
 b2 call (.lD a4 x i) fr st= .ok (.pointer (some (p.add (j.toNat*a4)))) fr st:=by
 rw[aoz,h,aB];show hA j (fun j=>eo (j+1) n _ _) _=_;rw[anJ h0,eX (by omega)]
theorem aoi{p:Addr}{cs:List Value}{el:TypeId}{bn:Nat×Nat}{a8:Bool}{v:Value}(h:fr.aj x= .pointer (some p))(hp:p.spot=none)(ak:st.h.get p.block=some (.cells cs el bn a8))(aH:cs[p.off]? =some v):
 b2 call (.lE x) fr st= .ok v fr st:=by
 rw[aoE,h];show st.load p 1 _ _=_;unfold au.load au.gL;rw[hp,ak];show il cs p.off 1 _ _=_;have aP:p.off<cs.length:=by
  rcases Nat.lt_or_ge p.off cs.length with h|h
  ·exact h
  ·rw[List.getElem?_eq_none h]at aH;cases aH
 rw[BN (by omega)];have:(cs.drop p.off).take 1=[v]:=by
  rw[a9 aP]at aH;cases aH;rw[hf aP];rfl
 rw[this];rfl
end
end
end Go.an
namespace Go.an
open Sym
variable{X:Ctx}
def c0(X:Ctx)(K:FuncId->List Value->au->Value->au->Prop):nL:=fun f as st=>
 open Classical in if h:∃p:Value×au,K f as st p.1 p.2∧cx X f ⟨as,st,p.1,p.2⟩then some (.ret (Classical.choose h).1 (Classical.choose h).2 false)else none
theorem aoL(K:FuncId->List Value->au->Value->au->Prop):ua X (c0 X K):=by
 intro f as st r aQ ι as' w ha hw _;unfold c0 at aQ;split at aQ
 ·rename_i h;cases aQ;exact(Classical.choose_spec h).2 ι as' w ha hw
 ·cases aQ
theorem DD{K:FuncId->List Value->au->Value->au->Prop}{f:FuncId}{as:List Value}{st:au}(h:∃v st',K f as st v st'∧cx X f ⟨as,st,v,st'⟩):
 ∃v st',c0 X K f as st=some (.ret v st' false)∧K f as st v st':=by
 obtain⟨v,st',h1,h2⟩:=h;have hp:∃p:Value×au,K f as st p.1 p.2∧cx X f ⟨as,st,p.1,p.2⟩:=⟨(v,st'),h1,h2⟩;refine⟨(Classical.choose hp).1,(Classical.choose hp).2,?_,(Classical.choose_spec hp).1⟩;unfold c0;rw[dif_pos hp]
structure Spec where
 L:Type
 pre:L->List Value->au->Prop
 post:L->List Value->au->Value->au->Prop
def Spec.K(S:Spec)(as:List Value)(st:au)(v:Value)(st':au):Prop:=∀l,S.pre l as st->S.post l as st v st'
def bg(X:Ctx)(f:FuncId)(S:Spec):Prop:=∀as st,(∃l,S.pre l as st)->∃v st',S.K as st v st'∧cx X f ⟨as,st,v,st'⟩
def ba:Nat:=4611686018427387904
theorem Y3{aW:ao df}(dv:Good X)(h8:mY X aW){K:FuncId->List Value->au->Value->au->Prop}{f:FuncId}{xf:df}(J:aW.get f=some xf){n:Nat}{as:List Value}{st:au}{v:Value}{st':au}
 (h:pc (cC aW (c0 X K) n) n f xf as none st= .ret v st' false):cx X f ⟨as,st,v,st'⟩:=by
 obtain⟨Fn,c,ok⟩:=h8 f xf J;obtain⟨lX,mK⟩:=Kc dv h8 (aoL (X:=X) K) n;intro ι as' w ha hw;refine⟨ok.enters,fun A5 bz aQ=> ?_⟩;have:=P7 dv mK lX (fun b aS bz _=>NH mK b aS bz) ok n (K:=A5) (bz:=bz) ha hw aQ;rw[h]at this;exact this
structure v7(fr:aT):Prop where
 c4:fr.c4=[]
 bk:fr.bk=none
 cF:fr.cF=false
theorem v7.put{fr:aT}(h:v7 fr)(d:Option Tmp)(v:Value):v7 (fr.put d v):=by
 obtain⟨h1,h2,h3,ay⟩:=vv fr d v;exact⟨h1.trans h.c4,h2.trans h.bk,h3.trans h.cF⟩
def fH(as:List Value):aT:=⟨nO as 0 .nil,[],none,false,none⟩
theorem v7.zero(as:List Value):v7 (fH as):=⟨rfl,rfl,rfl⟩
theorem E0{call:bQ}{n:Nat}{f:FuncId}{xf:df}{as:List Value}{st:au}{Post:Value->au->Prop}(hl:as.length<=xf.aS)
 (h:W (dA call n f xf.body (fH as) st) (fun e fr st'=>(e= .norm∨e= .ret)∧∃v,nQ call xf.res none fr st'= .ret v st' false∧Post v st')):
 ∃v st',pc call n f xf as none st= .ret v st' false∧Post v st':=by
 obtain⟨e,fr,st',h1,he,v,h2,h3⟩:=h;refine⟨v,st',?_,h3⟩;unfold pc;rw[pR,if_pos (by rw[fU];exact hl)];show cY.rec (motive:=fun _=>dJ) _ _ (dA call n f xf.body (fH as) st)=_;rw[h1];rcases he with rfl|rfl
 ·exact h2
 ·exact h2
theorem Ff{aW:ao df}(dv:Good X)(h8:mY X aW)(K:FuncId->List Value->au->Value->au->Prop){f:FuncId}{xf:df}(J:aW.get f=some xf){S:Spec}(hl:∀l as st,S.pre l as st->as.length<=xf.aS)
 (h:∀l as st,S.pre l as st->W (dA (cC aW (c0 X K) (ba+1)) (ba+1) f xf.body (fH as) st)
  (fun e fr st'=>(e= .norm∨e= .ret)∧∃v,nQ (cC aW (c0 X K) (ba+1)) xf.res none fr st'= .ret v st' false∧S.post l as st v st')):bg X f S:=by
 intro as st ⟨l,hp⟩;obtain⟨v,st',h1,h2⟩:=E0 (Post:=S.post l as st) (hl l as st hp) (h l as st hp);refine⟨v,st',fun l' k5=> ?_,Y3 dv h8 J h1⟩;obtain⟨v2,ek,aL,aR⟩:=E0 (Post:=S.post l' as st) (hl l' as st k5) (h l' as st k5);rw[h1]at aL;cases aL;exact aR
section
variable{call:bQ}{fr:aT}{st:au}{x y i:Operand}
theorem kU{β:Type}(cs:List Value)(e:TypeId)(bn:Nat×Nat)(a8:Bool)(k:List Value->TypeId->Nat×Nat->Bool->β)(z:β):BD (some (.cells cs e bn a8)) k z=k cs e bn a8:=rfl
end
def eM:List Nat->List Nat
 |[]=>[]
 |d::ds=>match eM ds with
  |[]=>if d=0 then[]else[d]
  |r=>d::r
end Go.an
namespace Go.an
open Sym
section
variable{call:bQ}{fr:aT}{st:au}{Q:dF->aT->au->Prop}{cd:Nat}{fn:FuncId}
theorem O{ts:List Tmp}{j:Tmp}{x:Value}(h:fr.aj (.tmp j)=x)(hj:ts.contains j=true:=by rfl):(fr.only ts).aj (.tmp j)=x:=by
 rw[FC,WV,if_pos (by simpa using hj)];exact h
theorem atg{ops:List (bL×cL)}{cb dZ ms:List Nat}(h:W (hR call ops [st.h] (oT fr dZ) st) Q):W (dA call cd fn (.sI ops cb dZ ms) fr st) Q:=h
theorem ate{ah:List (ao bw)}(h:Q .norm fr st):W (hR call [] ah fr st) Q:=.mk h
theorem Za{o:dd}{f:aT}{v:Value}{ai:Nat}:∀(n:Nat) (ah:List (ao bw)),n<=ah.length->(∀h∈ah.take n,∃m5 br,b2 call o f ⟨h,ai⟩= .ok v m5 br)->sameAt call o f v ai n ah=true
 |0,_,_,_=>rfl
 |n+1,[],h,_=>by simp at h
 |n+1,h::ah,hl,hh=>by
  obtain⟨m5,br,e⟩:=hh h (by simp);show aZ.rec (motive:=fun _=>Bool) (fun v' _ _=>cond (dD v v') (sameAt call o f v ai n ah) false) (fun _ _=>false) false (b2 call o f ⟨h,ai⟩)=true;rw[e];show cond (dD v v) (sameAt call o f v ai n ah) false=true;rw[AZ];exact Za n ah (by simpa using hl) fun aB hm=>hh aB (by simp[hm])
theorem atf{o:dd}{d:Option Tmp}{ts:List Tmp}{back:Nat}{ops:List (bL×cL)}{ah:List (ao bw)}{v:Value}(cN:∀h∈st.h::ah.take (back+1),b2 call o (fr.only ts) ⟨h,st.ai⟩= .ok v (fr.only ts) ⟨h,st.ai⟩)(hl:back<ah.length)
 (k:W (hR call ops ah (fr.put d v) st) Q):W (hR call ((⟨d,o,none⟩,.read back ts)::ops) ah fr st) Q:=by
 refine W.of_eq ?_ k;show n0 fr.t ts (fun t=>hY ⟨t,[],none,false,none⟩ none
  (aZ.rec (motive:=fun _=>cY) (fun v _ _=>cond (sameAt call o ⟨t,[],none,false,none⟩ v st.ai (Nat.succ back) ah) (hR call ops ah (fr.put d v) st) .no) (fun _ _=>.no) .no (b2 call o ⟨t,[],none,false,none⟩ st))
  (hR call ops ah (fr.put d undef) st) .no)=_
 rw[r2];have e:=cN st.h (by simp);have e:b2 call o ⟨DB fr.t ts,[],none,false,none⟩ st= .ok v (fr.only ts) st:=e;show aZ.rec (motive:=fun _=>cY) _ _ _ (b2 call o ⟨DB fr.t ts,[],none,false,none⟩ st)=_;rw[e];show cond (sameAt call o (fr.only ts) v st.ai (Nat.succ back) ah) _ _=_;rw[Za _ _ (by omega) fun h hm=>⟨_,_,cN h (by simp[hm])⟩];rfl
theorem aok{c a b:Operand}{t:Bool}{u:Value}(hc:fr.aj c= .bool t)(aN:t=true)(ha:fr.aj a=u):b2 call (.pick c a b) fr st= .ok u fr st:=by
 rw[Xi,hc,ha,aN];rfl
theorem aoj{c a b:Operand}{t:Bool}{u:Value}(hc:fr.aj c= .bool t)(aN:t=false)(aa:fr.aj b=u):b2 call (.pick c a b) fr st= .ok u fr st:=by
 rw[Xi,hc,aa,aN];rfl
theorem Hq{x i:Operand}{a4 id off n m j:Nat}{k:IntKind}(h:fr.aj x= .slice (some ⟨id,off,none⟩) n m)(aB:fr.aj i= .int k (j:Int))(hj:j<n):
 b2 call (.lD a4 x i) fr st= .ok (.pointer (some ⟨id,off+j*a4,none⟩)) fr st:=by
 rw[aoh h aB (by omega) (by omega)];rw[Int.toNat_natCast];congr 3;unfold Addr.add;split
 ·rename_i h0;rw[h0];rfl
 ·rfl
theorem g0{n:Int}(h: -9223372036854775808<=n)(aB:n<9223372036854775808):IntKind.i64.wrap n=n:=by
 rw[<-kO];show yr 18446744073709551616 9223372036854775808 n=n;rw[ys _ _ _ (by decide)];split<;>omega
theorem aa7{n:Int}(h:0<=n)(aB:n<18446744073709551616):IntKind.u64.wrap n=n:=by
 rw[<-kO];show A3 18446744073709551616 n=n;rw[sl _ _ (by decide)];omega
end
abbrev Env:=List (Nat×Value)
def gz(L:List Nat)(e:Env):Env:=e.filter fun p=>L.any (Nat.beq p.1)
abbrev aby:=dF->Env->au->Prop
end Go.an
namespace Go.an
open Sym
variable{X:Ctx}
theorem PD:∀(vs:List Value) (i:Nat) (t:ao Value) (j:Nat),(nO vs i t).get j=if i<=j∧j<i+vs.length then vs[j-i]? else t.get j
 |[],i,t,j=>by rw[if_neg (by simp)];rfl
 |v::vs,i,t,j=>by
  have e:nO (v::vs) i t=nO vs (i+1) (t.set i v):=by
   show ao.e9 (Nat.succ i) t i v (fun t=>nO vs (Nat.succ i) t)=_;rw[ao.yf]
  rw[e,PD vs (i+1) _ j,ao.ey];by_cases U:j=i
  ·subst U;rw[if_neg (by omega),if_pos rfl,if_pos (by simp)];simp
  ·rw[if_neg U];by_cases h1:i+1<=j∧j<i+1+vs.length
   ·rw[if_pos h1,if_pos (by simp;omega)];have:j-i=(j-(i+1))+1:=by omega
    rw[this];simp
   ·rw[if_neg h1,if_neg (by simp;omega)]
end Go.an
namespace Go.an
open Sym
section
variable{call:bQ}{fr:aT}{st:au}{x y i:Operand}
theorem Ab{op:BinOp}{k:IntKind}{m n:Int}{v:Value}(h1:op≠.shl)(h2:op≠.shr)(h:fr.aj x= .int k m)(aB:fr.aj y= .int k n)(aH:qJ op k m n=some v):b2 call (.bin op x y) fr st= .ok v fr st:=by
 rw[DC,h,aB,KE];have:zb op k m k n (fun v=>aZ.ok v fr st)=cond (jM k k) (yO op k m n (fun v=>aZ.ok v fr st)) .no:=by
  cases op<;>first|rfl|(exact absurd rfl h1)|(exact absurd rfl h2)
 rw[this,amU,J0,aH];rfl
theorem WT{k:IntKind}{m n:Nat}(h:fr.aj x= .int k (m:Int))(aB:fr.aj y= .int k (n:Int))(hn:n≠0):b2 call (.bin .quo x y) fr st= .ok (.int k (k.wrap ((m/n:Nat):Int))) fr st:=
 Ab (by decide) (by decide) h aB (by
  show(if(n:Int)=0 then none else _)=_;rw[if_neg (by omega)];rfl)
theorem aol{k:IntKind}{m n:Nat}(h:fr.aj x= .int k (m:Int))(aB:fr.aj y= .int k (n:Int))(hn:n≠0):b2 call (.bin .rem x y) fr st= .ok (.int k ((m%n:Nat):Int)) fr st:=
 Ab (by decide) (by decide) h aB (by
  show(if(n:Int)=0 then none else _)=_;rw[if_neg (by omega)];rfl)
end
section
variable{call:bQ}{cd:Nat}{fn:FuncId}{e:Env}{st:au}{Q:aby}
theorem Ot{fr:aT}{t:Tmp}{b:Bool}{yes hs z:cY}(h:fr.tmp t= .bool b):hY fr (some (t,b)) yes hs z=yes:=by
 show mT (fr.tmp t) (fun c=>cond c (cond b yes hs) (cond b hs yes)) _=_;rw[h];cases b<;>rfl
theorem atx{fr:aT}{t:Tmp}{b:Bool}{yes hs z:cY}(h:fr.tmp t= .bool (!b)):hY fr (some (t,b)) yes hs z=hs:=by
 show mT (fr.tmp t) (fun c=>cond c (cond b yes hs) (cond b hs yes)) _=_;rw[h];cases b<;>rfl
end
end Go.an
namespace Go.an
inductive af:Type 1
 |i (k:IntKind) (n:Int)
 |b (t:Bool)
 |s (l:List UInt8)
 |nl
 |v (x:Value)
 |p (k o:Nat)
 |fz (k z j o:Nat)
 |a6 (k z o n c:Nat)
 |bS (z:Nat) (α:Type) (R:α->List af) (l:List α)
 |iP (z:Nat) (α:Type) (R:α->List af) (l:List α)
 |ip (cs:List af)
 |fn (f:Fn) (fs cs:List af)
 |agg (cs:List af)
 |bB (cs:List af)
 |bad
abbrev bF:=Nat->Option bw
mutual
def den(H:bF):af->List Nat->Value->Prop
 |.i k n,_,v=>v= .int k n
 |.b t,_,v=>v= .bool t
 |.s l,_,v=>v= .string ⟨⟨l⟩⟩
 |.nl,_,v=>v= .slice none 0 0
 |.v x,_,v=>v=x
 |.p k o,ids,v=>∃b,ids[k]? =some b∧v= .pointer (some ⟨b,o,none⟩)
 |.fz k z j o,ids,v=>∃b,ids[k]? =some b∧v= .pointer (some ⟨b,j*z+o,none⟩)
 |.a6 k z o n c,ids,v=>∃b,ids[k]? =some b∧v= .slice (some ⟨b,o*z,none⟩) n c
 |.bS z _ R l,_,v=>(l=[]∧v= .slice none 0 0)∨∃b o c vs el bn a8,v= .slice (some ⟨b,o,none⟩) l.length c∧l.length<=c∧H b=some (.cells vs el bn a8)∧∀i x,l[i]? =some x->di H (R x) [] ((vs.drop (o+i*z)).take z)
 |.iP z _ R l,_,v=>(l=[]∧v= .slice none 0 0)∨(l≠[]∧∃b o c vs el bn a8,v= .slice (some ⟨b,o,none⟩) l.length c∧l.length<=c∧H b=some (.cells vs el bn a8)∧∀i x,l[i]? =some x->di H (R x) [] ((vs.drop (o+i*z)).take z))
 |.ip cs,_,v=>∃b o vs el bn a8,v= .pointer (some ⟨b,o,none⟩)∧H b=some (.cells vs el bn a8)∧di H cs [] ((vs.drop o).take cs.length)
 |.fn f fs cs,ids,v=>∃vs ws,v= .func f ⟨vs⟩ ⟨ws⟩∧di H fs ids vs∧di H cs ids ws
 |.agg cs,ids,v=>∃vs,v= .agg ⟨vs⟩∧di H cs ids vs
 |.bB cs,ids,v=>∃vs,v= .tuple ⟨vs⟩∧di H cs ids vs
 |.bad,_,_=>False
def di(H:bF):List af->List Nat->List Value->Prop
 |[],_,vs=>vs=[]
 |c::cs,ids,vs=>∃v ws,vs=v::ws∧den H c ids v∧di H cs ids ws
end
def dt(H bs:bF):Prop:=∀b o,H b=some o->bs b=some o
theorem dt.refl(H:bF):dt H H:=fun _ _ h=>h
theorem dt.trans{H bs OL:bF}(h:dt H bs)(aB:dt bs OL):dt H OL:=fun b o e=>aB b o (h b o e)
def cM(i j:List Nat):Prop:=∀k b:Nat,i[k]? =some b->j[k]? =some b
theorem cM.refl(i:List Nat):cM i i:=fun _ _ h=>h
theorem cM.nil(i:List Nat):cM [] i:=fun k b h=>by simp at h
theorem cM.app(i j:List Nat):cM i (i++j):=fun k b h=>by
 rw[List.getElem?_append_left (List.getElem?_eq_some_iff.1 h).1];exact h
mutual
theorem sH{H bs:bF}(h:dt H bs):∀(a:af) {i j:List Nat} {v:Value},cM i j->den H a i v->den bs a j v
 |.i _ _,_,_,_,_,d=>d
 |.b _,_,_,_,_,d=>d
 |.s _,_,_,_,_,d=>d
 |.nl,_,_,_,_,d=>d
 |.v _,_,_,_,_,d=>d
 |.p _ _,_,_,_,ae,⟨b,e,d⟩=>⟨b,ae _ _ e,d⟩
 |.fz _ _ _ _,_,_,_,ae,⟨b,e,d⟩=>⟨b,ae _ _ e,d⟩
 |.a6 _ _ _ _ _,_,_,_,ae,⟨b,e,d⟩=>⟨b,ae _ _ e,d⟩
 |.bS _ _ _ _,_,_,_,_,.inl d=>.inl d
 |.bS _ _ R _,_,_,_,_,.inr ⟨b,o,c,vs,el,bn,a8,aA,e2,b0,eS⟩=>.inr ⟨b,o,c,vs,el,bn,a8,aA,e2,h _ _ b0,fun i x J=>kX h (R x) (cM.refl _) (eS i x J)⟩
 |.iP _ _ _ _,_,_,_,_,.inl d=>.inl d
 |.iP _ _ R _,_,_,_,_,.inr ⟨hn,b,o,c,vs,el,bn,a8,aA,e2,b0,eS⟩=>.inr ⟨hn,b,o,c,vs,el,bn,a8,aA,e2,h _ _ b0,fun i x J=>kX h (R x) (cM.refl _) (eS i x J)⟩
 |.ip cs,_,_,_,_,⟨b,o,vs,el,bn,a8,aA,e2,b0⟩=>⟨b,o,vs,el,bn,a8,aA,h _ _ e2,kX h cs (cM.refl _) b0⟩
 |.fn _ fs cs,_,_,_,ae,⟨vs,ws,e,d1,d2⟩=>⟨vs,ws,e,kX h fs ae d1,kX h cs ae d2⟩
 |.agg cs,_,_,_,ae,⟨vs,e,d⟩=>⟨vs,e,kX h cs ae d⟩
 |.bB cs,_,_,_,ae,⟨vs,e,d⟩=>⟨vs,e,kX h cs ae d⟩
 |.bad,_,_,_,_,d=>d.elim
theorem kX{H bs:bF}(h:dt H bs):∀(a:List af) {i j:List Nat} {v:List Value},cM i j->di H a i v->di bs a j v
 |[],_,_,_,_,d=>d
 |a::as,_,_,_,ae,⟨v,ws,e,d1,d2⟩=>⟨v,ws,e,sH h a ae d1,kX h as ae d2⟩
end
mutual
def jx(f:List Nat):af->af
 |.p k o=>match f[k]? with|some j=>.p j o|none=>.bad
 |.fz k z j o=>match f[k]? with|some m=>.fz m z j o|none=>.bad
 |.a6 k z o n c=>match f[k]? with|some m=>.a6 m z o n c|none=>.bad
 |.fn g fs cs=>.fn g (nB f fs) (nB f cs)
 |.agg cs=>.agg (nB f cs)
 |.bB cs=>.bB (nB f cs)
 |.i k n=>.i k n
 |.b t=>.b t
 |.s l=>.s l
 |.nl=>.nl
 |.v x=>.v x
 |.bS z α R l=>.bS z α R l
 |.iP z α R l=>.iP z α R l
 |.ip cs=>.ip cs
 |.bad=>.bad
def nB(f:List Nat):List af->List af
 |[]=>[]
 |a::as=>jx f a::nB f as
end
def pick(f ids:List Nat):List Nat:=f.map (fun k=>(ids[k]?).getD 0)
theorem tu{f ids:List Nat}{k m b:Nat}(ab:f[k]? =some m)(aa:ids[m]? =some b):(pick f ids)[k]? =some b:=by
 unfold pick;rw[List.getElem?_map,ab];simp[aa]
mutual
theorem Kq{H:bF}(f:List Nat){ids:List Nat}:∀(a:af) {v:Value},den H (jx f a) ids v->den H a (pick f ids) v
 |.i _ _,_,d=>d
 |.b _,_,d=>d
 |.s _,_,d=>d
 |.nl,_,d=>d
 |.v _,_,d=>d
 |.p k o,v,d=>by
  unfold jx at d;cases h:f[k]? with
  |none=>rw[h]at d;exact d.elim
  |some j=>rw[h]at d;obtain⟨b,e,d⟩:=d;exact⟨b,tu h e,d⟩
 |.fz k z j o,v,d=>by
  unfold jx at d;cases h:f[k]? with
  |none=>rw[h]at d;exact d.elim
  |some j=>rw[h]at d;obtain⟨b,e,d⟩:=d;exact⟨b,tu h e,d⟩
 |.a6 k z o n c,v,d=>by
  unfold jx at d;cases h:f[k]? with
  |none=>rw[h]at d;exact d.elim
  |some j=>rw[h]at d;obtain⟨b,e,d⟩:=d;exact⟨b,tu h e,d⟩
 |.bS _ _ _ _,_,d=>d
 |.iP _ _ _ _,_,d=>d
 |.ip _,_,d=>d
 |.fn _ fs cs,_,⟨vs,ws,e,d1,d2⟩=>⟨vs,ws,e,uA f fs d1,uA f cs d2⟩
 |.agg cs,_,⟨vs,e,d⟩=>⟨vs,e,uA f cs d⟩
 |.bB cs,_,⟨vs,e,d⟩=>⟨vs,e,uA f cs d⟩
 |.bad,_,d=>d.elim
theorem uA{H:bF}(f:List Nat){ids:List Nat}:∀(a:List af) {v:List Value},di H (nB f a) ids v->di H a (pick f ids) v
 |[],_,d=>d
 |a::as,_,⟨v,ws,e,d1,d2⟩=>⟨v,ws,e,Kq f a d1,uA f as d2⟩
end
mutual
def pZ:af->Bool
 |.p _ _|.fz _ _ _ _|.a6 _ _ _ _ _=>false
 |.fn _ fs cs=>ht fs&&ht cs
 |.agg cs=>ht cs
 |.bB cs=>ht cs
 |_=>true
def ht:List af->Bool
 |[]=>true
 |a::as=>pZ a&&ht as
end
mutual
theorem BR{H:bF}{ids:List Nat}:∀(a:af) {v:Value},pZ a=true->den H a ids v->∀j,den H a j v
 |.i _ _,_,_,d,_=>d
 |.b _,_,_,d,_=>d
 |.s _,_,_,d,_=>d
 |.nl,_,_,d,_=>d
 |.v _,_,_,d,_=>d
 |.p _ _,_,h,_,_=>by cases h
 |.fz _ _ _ _,_,h,_,_=>by cases h
 |.a6 _ _ _ _ _,_,h,_,_=>by cases h
 |.bS _ _ _ _,_,_,d,_=>d
 |.iP _ _ _ _,_,_,d,_=>d
 |.ip _,_,_,d,_=>d
 |.fn _ fs cs,_,h,⟨vs,ws,e,d1,d2⟩,j=>by
  have h:(ht fs&&ht cs)=true:=h;rw[bZ]at h;exact⟨vs,ws,e,mA fs h.1 d1 j,mA cs h.2 d2 j⟩
 |.agg cs,_,h,⟨vs,e,d⟩,j=>⟨vs,e,mA cs h d j⟩
 |.bB cs,_,h,⟨vs,e,d⟩,j=>⟨vs,e,mA cs h d j⟩
 |.bad,_,_,d,_=>d.elim
theorem mA{H:bF}{ids:List Nat}:∀(a:List af) {v:List Value},ht a=true->di H a ids v->∀j,di H a j v
 |[],_,_,d,_=>d
 |a::as,_,h,⟨v,ws,e,d1,d2⟩,j=>by
  have h:(pZ a&&ht as)=true:=h;rw[bZ]at h;exact⟨v,ws,e,BR a h.1 d1 j,mA as h.2 d2 j⟩
end
def sz:af->Bool
 |.v x=>mx x
 |.agg _|.bB _|.bad=>false
 |_=>true
def pd:List af->Bool
 |[]=>true
 |a::as=>sz a&&pd as
theorem Qf{H:bF}{ids:List Nat}{a:af}{v:Value}(h:sz a=true)(d:den H a ids v):mx v=true:=by
 cases a<;>first
  |(cases h;done)
  |(obtain⟨b,_,rfl⟩:=d;rfl;done)
  |(rcases d with⟨_,rfl⟩|⟨b,o,c,_,_,_,_,rfl,_⟩<;>rfl;done)
  |(rcases d with⟨_,rfl⟩|⟨_,b,o,c,_,_,_,_,rfl,_⟩<;>rfl;done)
  |(obtain⟨b,o,c,_,_,_,rfl,_⟩:=d;rfl;done)
  |(obtain⟨b,_,rfl,_⟩:=d;rfl;done)
  |(have h5:=d;unfold den at h5;subst h5;first|rfl|exact h)
theorem acO{v:Value}(h:mx v=true):ik v=[v]:=by
 cases v<;>first|rfl|cases h
theorem BE{H:bF}{ids:List Nat}:∀{as:List af} {vs:List Value},pd as=true->di H as ids vs->hH vs=true
 |[],_,_,d=>by cases d;rfl
 |a::as,_,h,⟨v,ws,e,d1,d2⟩=>by
  subst e;have h:(sz a&&pd as)=true:=h;rw[bZ]at h;show cond (mx v) (hH ws) false=true;rw[Qf h.1 d1,BE h.2 d2];rfl
theorem hI{H:bF}{ids:List Nat}:∀{as:List af} {vs:List Value},di H as ids vs->vs.length=as.length
 |[],_,d=>by cases d;rfl
 |a::as,_,⟨v,ws,e,d1,d2⟩=>by subst e;simp[hI d2]
theorem uy{H:bF}{ids:List Nat}:∀{as:List af} {vs:List Value} {k:Nat} {a:af},di H as ids vs->as[k]? =some a->∃v,vs[k]? =some v∧den H a ids v
 |[],_,_,_,_,h=>by simp at h
 |a::as,_,0,_,⟨v,ws,e,d1,d2⟩,h=>by subst e;simp at h;subst h;exact⟨v,rfl,d1⟩
 |a::as,_,k+1,c,⟨v,ws,e,d1,d2⟩,h=>by
  subst e;obtain⟨u,h1,h2⟩:=uy (k:=k) (a:=c) d2 (by simpa using h);exact⟨u,by simpa using h1,h2⟩
theorem y3{H:bF}{ids:List Nat}:∀{as bW:List af} {vs ws:List Value},di H as ids vs->di H bW ids ws->di H (as++bW) ids (vs++ws)
 |[],_,_,_,d,h5=>by cases d;exact h5
 |a::as,_,_,_,⟨v,ws,e,d1,d2⟩,h5=>by subst e;exact⟨v,_,rfl,d1,y3 d2 h5⟩
theorem ox{H:bF}{ids:List Nat}:∀{as:List af} {vs:List Value} (n:Nat),di H as ids vs->di H (as.drop n) ids (vs.drop n)
 |_,_,0,d=>d
 |[],_,n+1,d=>by cases d;exact rfl
 |a::as,_,n+1,⟨v,ws,e,d1,d2⟩=>by subst e;exact ox n d2
theorem uB{H:bF}{ids:List Nat}:∀{as:List af} {vs:List Value} (n:Nat),di H as ids vs->di H (as.take n) ids (vs.take n)
 |_,_,0,d=>rfl
 |[],_,n+1,d=>by cases d;exact rfl
 |a::as,_,n+1,⟨v,ws,e,d1,d2⟩=>by subst e;exact⟨v,_,rfl,d1,uB n d2⟩
def b3(a b:af):Prop:=∀(H:bF) (i:List Nat) (v:Value),den H a i v->den H b i v
def jE:List af->List af->Prop
 |[],[]=>True
 |a::as,b::bW=>b3 a b∧jE as bW
 |_,_=>False
theorem b3.refl(a:af):b3 a a:=fun _ _ _ d=>d
theorem b3.of{a b:af}(h:a=b):b3 a b:=h▸b3.refl a
theorem jE.refl:∀l:List af,jE l l
 |[]=>trivial
 |a::as=>⟨b3.refl a,jE.refl as⟩
theorem jE.den{H:bF}{i:List Nat}:∀{as bW:List af} {vs:List Value},jE as bW->di H as i vs->di H bW i vs
 |[],[],_,_,d=>d
 |[],_::_,_,h,_=>h.elim
 |_::_,[],_,h,_=>h.elim
 |_::_,_::_,_,⟨h1,h2⟩,⟨v,ws,e,d1,d2⟩=>⟨v,ws,e,h1 _ _ _ d1,jE.den h2 d2⟩
theorem b3.agg{as bW:List af}(h:jE as bW):b3 (.agg as) (.agg bW):=fun _ _ _ ⟨vs,e,d⟩=>⟨vs,e,h.den d⟩
theorem b3.bB{as bW:List af}(h:jE as bW):b3 (.bB as) (.bB bW):=fun _ _ _ ⟨vs,e,d⟩=>⟨vs,e,h.den d⟩
theorem b3.nl{z:Nat}{α:Type}{R:α->List af}:b3 .nl (.bS z α R []):=fun _ _ _ d=>.inl ⟨rfl,d⟩
theorem b3.WN{z:Nat}{α:Type}{R:α->List af}:b3 .nl (.iP z α R []):=fun _ _ _ d=>.inl ⟨rfl,d⟩
theorem b3.atT{z:Nat}{α:Type}{R:α->List af}{l:List α}:b3 (.iP z α R l) (.bS z α R l):=fun _ _ _ d=>d.elim .inl (fun d=>.inr d.2)
theorem b3.iP{z:Nat}{α:Type}{R:α->List af}{l:List α}(h:l≠[]):b3 (.bS z α R l) (.iP z α R l):=fun _ _ _ d=>d.elim .inl (fun d=>.inr ⟨h,d⟩)
theorem b3.trans{a b c:af}(h:b3 a b)(aB:b3 b c):b3 a c:=fun H i v d=>aB H i v (h H i v d)
open Sym
section
abbrev bT:=List (Nat×af)
def dO:bT->Nat->Option af
 |[],_=>none
 |(i,a)::l,j=>cond (Nat.beq i j) (some a) (dO l j)
theorem pS(p:Nat×af)(l:bT)(j:Nat):dO (p::l) j=cond (Nat.beq p.1 j) (some p.2) (dO l j):=rfl
def Dy:Value->af
 |.int k n=>.i k n
 |.bool t=>.b t
 |.string ⟨⟨l⟩⟩=>.s l
 |.slice none 0 0=>.nl
 |x=>.v x
def vl:List Value->List af
 |[]=>[]
 |v::vs=>Dy v::vl vs
theorem aff(H:bF)(ids:List Nat)(v:Value):den H (Dy v) ids v:=by
 unfold Dy;split<;>rfl
theorem uz(H:bF)(ids:List Nat):∀vs:List Value,di H (vl vs) ids vs
 |[]=>rfl
 |v::vs=>⟨v,vs,rfl,aff H ids v,uz H ids vs⟩
def MJ:Value->Option af
 |.agg ⟨l⟩=>some (.agg (vl l))
 |.int k n=>some (.i k n)
 |.bool t=>some (.b t)
 |.string ⟨⟨l⟩⟩=>some (.s l)
 |.slice none 0 0=>some .nl
 |x=>some (.v x)
theorem aoo{v:Value}{a:af}(h:MJ v=some a)(H:bF)(ids:List Nat):den H a ids v:=by
 unfold MJ at h;split at h<;>cases h
 ·exact⟨_,rfl,uz H ids _⟩
 all_goals rfl
def bI(e:bT):Operand->Option af
 |.tmp j=>dO e j
 |.const v=>MJ v
 |.global g=>some (.v (.pointer (some ⟨g,0,none⟩)))
 |.func f=>some (.v (.func (.func f) #[] #[]))
def kc(e:bT):List Operand->Option (List af)
 |[]=>some []
 |x::xs=>match bI e x with
  |some a=>match kc e xs with
   |some as=>some (a::as)
   |none=>none
  |none=>none
structure c3(fr:aT)(H:bF)(ids:List Nat)(e:bT):Prop where
 pl:v7 fr
 get:∀j a,dO e j=some a->den H a ids (fr.tmp j)
theorem c3.aj{fr:aT}{H:bF}{ids:List Nat}{e:bT}(h:c3 fr H ids e){x:Operand}{a:af}(J:bI e x=some a):den H a ids (fr.aj x):=by
 cases x with
 |tmp j=>exact h.get j a J
 |const w=>exact aoo J H ids
 |global g=>cases J;rfl
 |func f=>cases J;rfl
theorem c3.dT{fr:aT}{H:bF}{ids:List Nat}{e:bT}(h:c3 fr H ids e):∀{xs:List Operand} {as:List af},kc e xs=some as->di H as ids (dT fr xs)
 |[],_,J=>by cases J;rfl
 |x::xs,_,J=>by
  unfold kc at J;cases h1:bI e x with
  |none=>rw[h1]at J;cases J
  |some a=>
   cases h2:kc e xs with
   |none=>rw[h1,h2]at J;cases J
   |some as=>
    rw[h1,h2]at J;cases J;exact⟨_,_,rfl,h.aj h1,h.dT h2⟩
theorem c3.put{fr:aT}{H:bF}{ids:List Nat}{e:bT}(h:c3 fr H ids e)(d:Tmp){v:Value}{a:af}(aH:den H a ids v):c3 (fr.put (some d) v) H ids ((d,a)::e):=by
 refine⟨h.pl.put _ _,fun j w hj=> ?_⟩;rw[pS]at hj;rw[AV];cases aa:Nat.beq d j with
 |true=>
  rw[aa]at hj;rw[if_pos (ep aa).symm];cases hj;exact aH
 |false=>
  rw[aa]at hj;rw[if_neg (fun e=>by rw[e,Nat.beq_refl]at aa;cases aa)];exact h.get j w hj
def mC(d:Nat):bT->bT
 |[]=>[]
 |p::l=>cond (Nat.beq p.1 d) (mC d l) (p::mC d l)
theorem G3(d:Nat):∀(e:bT) (j:Nat) (a:af),dO (mC d e) j=some a->j≠d∧dO e j=some a
 |[],_,_,h=>by cases h
 |p::e,j,a,h=>by
  unfold mC at h;cases aa:Nat.beq p.1 d with
  |true=>
   rw[aa]at h;obtain⟨h1,h2⟩:=G3 d e j a h;refine⟨h1,?_⟩;rw[pS];have:Nat.beq p.1 j=false:=by
    cases hc:Nat.beq p.1 j with
    |false=>rfl
    |true=>exact absurd ((ep hc).symm.trans (ep aa)) h1
   rw[this];exact h2
  |false=>
   rw[aa]at h;have h:cond (Nat.beq p.1 j) (some p.2) (dO (mC d e) j)=some a:=h;rw[pS];cases hc:Nat.beq p.1 j with
   |true=>
    rw[hc]at h;refine⟨fun e=> ?_,h⟩;rw[<-e,hc]at aa;cases aa
   |false=>rw[hc]at h;exact G3 d e j a h
theorem c3.afw{fr:aT}{H:bF}{ids:List Nat}{e:bT}(h:c3 fr H ids e)(d:Tmp)(v:Value):c3 (fr.put (some d) v) H ids (mC d e):=by
 refine⟨h.pl.put _ _,fun j w hj=> ?_⟩;obtain⟨h1,h2⟩:=G3 d e j w hj;rw[AV,if_neg h1];exact h.get j w h2
theorem c3.mono{fr:aT}{H bs:bF}{ids cU:List Nat}{e:bT}(h:c3 fr H ids e)(hh:dt H bs)(ae:cM ids cU):c3 fr bs cU e:=⟨h.pl,fun j a hj=>sH hh a ae (h.get j a hj)⟩
def e7(L:List Nat):bT->bT
 |[]=>[]
 |p::l=>cond (L.any (Nat.beq p.1)) (p::e7 L l) (e7 L l)
theorem Mb(L:List Nat):∀(e:bT) (j:Nat) (a:af),dO (e7 L e) j=some a->L.contains j=true∧dO e j=some a
 |[],_,_,h=>by cases h
 |p::e,j,a,h=>by
  unfold e7 at h;cases aa:L.any (Nat.beq p.1)with
  |true=>
   rw[aa]at h;have h:cond (Nat.beq p.1 j) (some p.2) (dO (e7 L e) j)=some a:=h;rw[pS];cases hc:Nat.beq p.1 j with
   |true=>
    rw[hc]at h;refine⟨?_,h⟩;obtain⟨x,J,bV⟩:=List.any_eq_true.1 aa;rw[<-ep hc,ep bV];simpa using J
   |false=>rw[hc]at h;exact Mb L e j a h
  |false=>
   rw[aa]at h;obtain⟨h1,h2⟩:=Mb L e j a h;refine⟨h1,?_⟩;rw[pS];have:Nat.beq p.1 j=false:=by
    cases hc:Nat.beq p.1 j with
    |false=>rfl
    |true=>
     rw[ep hc]at aa;rw[List.any_eq_false]at aa;exact absurd (Nat.beq_refl j) (aa j (by simpa using h1))
   rw[this];exact h2
theorem c3.only{fr:aT}{H:bF}{ids:List Nat}{e:bT}(h:c3 fr H ids e)(ts:List Tmp):c3 (fr.only ts) H ids (e7 ts e):=
 ⟨⟨rfl,rfl,rfl⟩,fun j a hj=>by
   obtain⟨h1,h2⟩:=Mb ts e j a hj;have:=O (ts:=ts) (fr:=fr) (j:=j) (x:=fr.tmp j) rfl h1;rw[FC]at this;rw[this];exact h.get j a h2⟩
def qh(op:BinOp)(k:IntKind)(a b:Int):Option af:=
 match op with
 |.add=>some (.i k (k.wrap (a+b)))
 |.sub=>some (.i k (k.wrap (a-b)))
 |.mul=>some (.i k (k.wrap (a*b)))
 |.quo=>if b=0 then none else some (.i k (k.wrap (a.tdiv b)))
 |.rem=>if b=0 then none else some (.i k (a.tmod b))
 |.and=>some (.i k (k.wrap (BitVec.ofInt k.bits a&&&BitVec.ofInt k.bits b).toNat))
 |.or=>some (.i k (k.wrap (BitVec.ofInt k.bits a|||BitVec.ofInt k.bits b).toNat))
 |.xor=>some (.i k (k.wrap (BitVec.ofInt k.bits a^^^BitVec.ofInt k.bits b).toNat))
 |.andNot=>some (.i k (k.wrap (BitVec.ofInt k.bits a&&& ~~~(BitVec.ofInt k.bits b)).toNat))
 |.eql=>some (.b (decide (a=b)))
 |.neq=>some (.b (decide (a≠b)))
 |.lss=>some (.b (decide (a<b)))
 |.leq=>some (.b (decide (a<=b)))
 |.gtr=>some (.b (decide (b<a)))
 |.geq=>some (.b (decide (b<=a)))
 |_=>none
def yE(op:BinOp)(k:IntKind)(M:Nat)(a b:Int):Option af:=
 match op with
 |.add=>match a,b with
  |.ofNat m,.ofNat n=>some (.i k (((m+n)%M:Nat):Int))
  |a,b=>qh .add k a b
 |.sub=>match a,b with
  |.ofNat m,.ofNat n=>some (.i k (((m+(M*n-n))%M:Nat):Int))
  |a,b=>qh .sub k a b
 |.mul=>match a,b with
  |.ofNat m,.ofNat n=>some (.i k ((m*n%M:Nat):Int))
  |a,b=>qh .mul k a b
 |.quo=>match a,b with
  |.ofNat m,.ofNat n=>if n=0 then none else some (.i k ((m/n%M:Nat):Int))
  |a,b=>qh .quo k a b
 |.rem=>match a,b with
  |.ofNat m,.ofNat n=>if n=0 then none else some (.i k ((m%n:Nat):Int))
  |a,b=>qh .rem k a b
 |.and=>match a,b with
  |.ofNat m,.ofNat n=>some (.i k (((m%M)&&&(n%M):Nat):Int))
  |a,b=>qh .and k a b
 |.or=>match a,b with
  |.ofNat m,.ofNat n=>some (.i k (((m%M)|||(n%M):Nat):Int))
  |a,b=>qh .or k a b
 |op=>qh op k a b
def Ju(op:BinOp)(k:IntKind)(a b:Int):Option af:=
 match k with
 |.u8=>yE op .u8 256 a b
 |.u16=>yE op .u16 65536 a b
 |.u32=>yE op .u32 4294967296 a b
 |.u64=>yE op .u64 18446744073709551616 a b
 |k=>qh op k a b
def yF(k:IntKind)(M:Nat)(n:Int):Option af:=
 match n with
 |.ofNat m=>some (.i k ((m%M:Nat):Int))
 |n=>some (.i k (k.wrap n))
def Jw(k:IntKind)(n:Int):Option af:=
 match k with
 |.u8=>yF .u8 256 n
 |.u16=>yF .u16 65536 n
 |.u32=>yF .u32 4294967296 n
 |.u64=>yF .u64 18446744073709551616 n
 |k=>some (.i k (k.wrap n))
def yL(k:IntKind)(M:Nat)(a b:Int):Option af:=
 match a,b with
 |.ofNat m,.ofNat n=>some (.i k ((m*2^n%M:Nat):Int))
 |_,_=>none
def JW(k:IntKind)(a b:Int):Option af:=
 match b with
 |.ofNat n=>match Nat.ble n k.bits with
  |true=>some (.i k (k.wrap (a*2^n)))
  |false=>none
 |_=>none
def JV(k:IntKind)(a b:Int):Option af:=
 match k with
 |.u8=>yL .u8 256 a b
 |.u16=>yL .u16 65536 a b
 |.u32=>yL .u32 4294967296 a b
 |.u64=>yL .u64 18446744073709551616 a b
 |k=>JW k a b
def JX(k:IntKind)(a b:Int):Option af:=
 match b with
 |.ofNat n=>match Nat.ble n k.bits with
  |true=>match a with
   |.ofNat m=>some (.i k ((m/2^n:Nat):Int))
   |a=>some (.i k (a.fdiv (2^n)))
  |false=>none
 |_=>none
def OQ(op:BinOp)(k k':IntKind)(a b:Int):Option af:=
 match op with
 |.shl=>JV k a b
 |.shr=>JX k a b
 |op=>match jM k k' with
  |true=>Ju op k a b
  |false=>none
def Jv(op:BinOp):af->af->Option af
 |.i k a,.i k' b=>OQ op k k' a b
 |.s x,.s y=>match op with
  |.eql=>some (.b (x==y))
  |.neq=>some (.b (!(x==y)))
  |_=>none
 |_,_=>none
def JY(op:UnOp):af->Option af
 |.i k n=>match op with
  |.neg=>some (.i k (k.wrap (-n)))
  |.xor=>some (.i k (k.wrap (BitVec.ofInt k.bits (if k.signed then -1 else k.max)^^^BitVec.ofInt k.bits n).toNat))
  |_=>none
 |.b t=>match op with
  |.not=>some (.b (!t))
  |_=>none
 |_=>none
def kW(neg:Bool)(b:Bool):Bool:=cond neg (!b) b
def Jz(neg:Bool):o1->af->af->Option af
 |.r4,.b x,.b y=>some (.b (kW neg (x==y)))
 |.r4,.i k x,.i k' y=>match jM k k' with
  |true=>some (.b (kW neg (decide (x=y))))
  |false=>none
 |.r4,.s x,.s y=>some (.b (kW neg (x==y)))
 |.mP,.nl,.nl=>some (.b (kW neg true))
 |.mP,.iP _ _ _ l,.nl=>some (.b (kW neg l.isEmpty))
 |.mP,.a6 _ _ _ _ _,.nl=>some (.b (kW neg false))
 |.mP,.nl,.a6 _ _ _ _ _=>some (.b (kW neg false))
 |.ptr,.p _ _,.v (.pointer none)=>some (.b (kW neg false))
 |.ptr,.fz _ _ _ _,.v (.pointer none)=>some (.b (kW neg false))
 |.ptr,.ip _,.v (.pointer none)=>some (.b (kW neg false))
 |.vi,.fn _ _ _,.v .nilFunc=>some (.b (kW neg false))
 |_,_,_=>none
def EJ(e:bT)(k:IntKind):List Operand->Int->Option af
 |[],m=>some (.i k m)
 |x::xs,m=>match bI e x with
  |some (.i k' y)=>match jM k k' with
   |true=>EJ e k xs (max m y)
   |false=>none
  |_=>none
def EK(e:bT)(k:IntKind):List Operand->Int->Option af
 |[],m=>some (.i k m)
 |x::xs,m=>match bI e x with
  |some (.i k' y)=>match jM k k' with
   |true=>EK e k xs (min m y)
   |false=>none
  |_=>none
def I3{β:Type _}:List af->Nat->(List af->Option β)->Option β
 |_,0,K=>K []
 |[],_+1,_=>none
 |a::as,n+1,K=>I3 as n fun r=>K (a::r)
def Df:List af->Nat->Bool
 |[],0=>true
 |_::as,n+1=>Df as n
 |_,_=>false
def wo{β:Type _}(cs:List af)(o n:Nat)(K:List af->Option β):Option β:=
 match o with
 |0=>match Df cs n with
  |true=>K cs
  |false=>I3 cs n K
 |o=>I3 (cs.drop o) n K
def Hz(hx:Bool):List af->Option af
 |[a]=>match hx with
  |true=>some (.agg [a])
  |false=>some a
 |cs=>match hx with
  |true=>some (.agg cs)
  |false=>none
def JE(e:bT):dd->Option af
 |.l4 x=>bI e x
 |.jP x=>bI e x
 |.bin op x y=>match bI e x with
  |some a=>match bI e y with
   |some b=>Jv op a b
   |none=>none
  |none=>none
 |.eqv neg t x y=>match bI e x with
  |some a=>match bI e y with
   |some b=>Jz neg t a b
   |none=>none
  |none=>none
 |.un op x=>match bI e x with
  |some a=>JY op a
  |none=>none
 |.sB k x=>match bI e x with
  |some (.i _ n)=>Jw k n
  |_=>none
 |.wj x=>match bI e x with
  |some (.s l)=>some (.s l)
  |_=>none
 |.ti f fs cs=>match kc e fs with
  |some as=>match kc e cs with
   |some bW=>some (.fn f as bW)
   |none=>none
  |none=>none
 |.wC x i=>match bI e x with
  |some (.bB vs)=>vs[i]?
  |_=>none
 |.oN x=>match bI e x with
  |some .nl=>some (.i .i64 0)
  |some (.a6 _ _ _ n _)=>some (.i .i64 (n:Int))
  |some (.bS _ _ _ l)=>some (.i .i64 (l.length:Int))
  |some (.iP _ _ _ l)=>some (.i .i64 (l.length:Int))
  |_=>none
 |.te x=>match bI e x with
  |some (.s l)=>some (.i .i64 (l.length:Int))
  |_=>none
 |.xv n=>some (.i .i64 (n:Int))
 |.wD off x=>match bI e x with
  |some (.p k o)=>some (.p k (o+off))
  |some (.fz k z j o)=>some (.fz k z j (o+off))
  |some (.ip cs)=>some (.ip (cs.drop off))
  |_=>none
 |.oB off a4 hx x=>match bI e x with
  |some (.agg cs)=>wo cs off a4 (Hz hx)
  |_=>none
 |.rV x=>match bI e x with
  |some (.p k o)=>some (.p k o)
  |some (.fz k z j o)=>some (.fz k z j o)
  |some (.ip cs)=>some (.ip cs)
  |some (.v (.func (.func g) a b))=>some (.v (.func (.func g) a b))
  |_=>none
 |.pick c x y=>match bI e c with
  |some (.b true)=>bI e x
  |some (.b false)=>bI e y
  |_=>none
 |.eU x xs=>match bI e x with
  |some (.i k n)=>EJ e k xs n
  |_=>none
 |.xE x xs=>match bI e x with
  |some (.i k n)=>EK e k xs n
  |_=>none
 |_=>none
end
section
variable{call:bQ}{fr:aT}{x y i:Operand}
theorem VG{k k':IntKind}(h:jM k k'=true):k=k':=by cases k<;>cases k'<;>first|rfl|cases h
theorem sw{op:BinOp}{k:IntKind}{a b:Int}{r:af}(h:qh op k a b=some r)(h1:op≠.shl)(h2:op≠.shr)(J:fr.aj x= .int k a)(aG:fr.aj y= .int k b):
 ∃v,(∀H ids,den H r ids v)∧∀st,b2 call (.bin op x y) fr st= .ok v fr st:=by
 have key:∀v,qJ op k a b=some v->(∀H ids,den H r ids v)->∃v,(∀H ids,den H r ids v)∧∀st,b2 call (.bin op x y) fr st= .ok v fr st:=
  fun v e d=>⟨v,d,fun st=>Ab h1 h2 J aG e⟩
 cases op<;>simp only[qh]at h
 case quo=>split at h<;>cases h;rename_i aa;exact key _ (by simp only[qJ,if_neg aa]) fun _ _=>rfl
 case rem=>split at h<;>cases h;rename_i aa;exact key _ (by simp only[qJ,if_neg aa]) fun _ _=>rfl
 all_goals first
  |(cases h;done)
  |(cases h;exact key _ rfl fun _ _=>rfl)
  |(cases h;exact key _ rfl fun _ _=>by show Value.bool _=Value.bool _;congr 1;rw[Bool.eq_iff_iff];simp)
def wa(k:IntKind)(M:Nat):Prop:=(∀n:Int,k.wrap n=n%(M:Int))∧M=2^k.bits
theorem Og:wa .u8 256:=⟨fun n=>by rw[<-kO];exact sl _ _ (by decide),rfl⟩
theorem Od:wa .u16 65536:=⟨fun n=>by rw[<-kO];exact sl _ _ (by decide),rfl⟩
theorem Oe:wa .u32 4294967296:=⟨fun n=>by rw[<-kO];exact sl _ _ (by decide),rfl⟩
theorem Of:wa .u64 18446744073709551616:=⟨fun n=>by rw[<-kO];exact sl _ _ (by decide),rfl⟩
theorem EG{op:BinOp}{k:IntKind}{M:Nat}(gp:wa k M){a b:Int}{r:af}(h:yE op k M a b=some r)(h1:op≠.shl)(h2:op≠.shr)(J:fr.aj x= .int k a)(aG:fr.aj y= .int k b):
 ∃v,(∀H ids,den H r ids v)∧∀st,b2 call (.bin op x y) fr st= .ok v fr st:=by
 have hp:0<M:=by rw[gp.2];exact Nat.two_pow_pos _
 have key:∀v,qJ op k a b=some v->(∀H ids,den H r ids v)->∃v,(∀H ids,den H r ids v)∧∀st,b2 call (.bin op x y) fr st= .ok v fr st:=
  fun v e d=>⟨v,d,fun st=>Ab h1 h2 J aG e⟩
 have wA:∀{m n:Int},m=n->∀(H:bF) (ids:List Nat),den H (.i k n) ids (.int k m):=fun e _ _=>by rw[e];rfl
 have wn:∀n:Nat,k.wrap (n:Int)=((n%M:Nat):Int):=fun n=>by rw[gp.1];rfl
 have auV:∀n:Nat,n%M<2^k.bits:=fun n=>by rw[<-gp.2];exact Nat.mod_lt _ hp
 unfold yE at h;split at h
 ·split at h
  ·rename_i m n;cases h;exact key _ rfl (wA (wn (m+n)))
  ·exact sw h h1 h2 J aG
 ·split at h
  ·rename_i m n;cases h;refine key _ rfl (wA ?_);rw[gp.1];have e:((m+(M*n-n):Nat):Int)=((m:Int)-n)+M*n:=by
    have:n<=M*n:=Nat.le_mul_of_pos_left n hp;rw[Int.natCast_add,Int.ofNat_sub this,Int.natCast_mul];omega
   rw[Int.natCast_emod,e,Int.add_mul_emod_self_left];rfl
  ·exact sw h h1 h2 J aG
 ·split at h
  ·rename_i m n;cases h;exact key _ rfl (wA (wn (m*n)))
  ·exact sw h h1 h2 J aG
 ·split at h
  ·rename_i m n;split at h<;>cases h;rename_i hn;refine key (.int k (k.wrap ((m:Int).tdiv n))) (by show(if(n:Int)=0 then none else _)=_;rw[if_neg (by omega)];rfl) (wA ?_);exact wn (m/n)
  ·exact sw h h1 h2 J aG
 ·split at h
  ·rename_i m n;split at h<;>cases h;rename_i hn;exact key (.int k ((m:Int).tmod n)) (by show(if(n:Int)=0 then none else _)=_;rw[if_neg (by omega)];rfl) (wA rfl)
  ·exact sw h h1 h2 J aG
 ·split at h
  ·rename_i m n;cases h;refine key _ rfl (wA ?_);show k.wrap ((BitVec.ofInt k.bits (m:Int)&&&BitVec.ofInt k.bits (n:Int)).toNat:Nat)=_;rw[BitVec.toNat_and,BitVec.ofInt_natCast,BitVec.ofInt_natCast,BitVec.toNat_ofNat,BitVec.toNat_ofNat,<-gp.2,wn,gW];rw[gp.2];exact Nat.and_lt_two_pow _ (by rw[<-gp.2];exact Nat.mod_lt _ hp)
  ·exact sw h h1 h2 J aG
 ·split at h
  ·rename_i m n;cases h;refine key _ rfl (wA ?_);show k.wrap ((BitVec.ofInt k.bits (m:Int)|||BitVec.ofInt k.bits (n:Int)).toNat:Nat)=_;rw[BitVec.toNat_or,BitVec.ofInt_natCast,BitVec.ofInt_natCast,BitVec.toNat_ofNat,BitVec.toNat_ofNat,<-gp.2,wn,gW];rw[gp.2];exact Nat.or_lt_two_pow (by rw[<-gp.2];exact Nat.mod_lt _ hp) (by rw[<-gp.2];exact Nat.mod_lt _ hp)
  ·exact sw h h1 h2 J aG
 ·exact sw h h1 h2 J aG
theorem abH{op:BinOp}{k:IntKind}{a b:Int}{r:af}(h:Ju op k a b=some r)(h1:op≠.shl)(h2:op≠.shr)(J:fr.aj x= .int k a)(aG:fr.aj y= .int k b):
 ∃v,(∀H ids,den H r ids v)∧∀st,b2 call (.bin op x y) fr st= .ok v fr st:=by
 unfold Ju at h;split at h
 ·exact EG Og h h1 h2 J aG
 ·exact EG Od h h1 h2 J aG
 ·exact EG Oe h h1 h2 J aG
 ·exact EG Of h h1 h2 J aG
 ·exact sw h h1 h2 J aG
theorem abJ{k:IntKind}{n:Int}{r:af}(h:Jw k n=some r)(H:bF)(ids:List Nat):den H r ids (.int k (k.wrap n)):=by
 have u:∀{k:IntKind} {M:Nat},wa k M->yF k M n=some r->den H r ids (.int k (k.wrap n)):=fun gp h=>by
  unfold yF at h;split at h<;>cases h
  ·show Value.int _ _=Value.int _ _;rw[gp.1];rfl
  ·rfl
 unfold Jw at h;split at h
 ·exact u Og h
 ·exact u Od h
 ·exact u Oe h
 ·exact u Of h
 ·cases h;rfl
theorem Zo{k k':IntKind}{a:Int}{n:Nat}(J:fr.aj x= .int k a)(aG:fr.aj y= .int k' (n:Int))(st:au):b2 call (.bin .shl x y) fr st= .ok (.int k (k.wrap (a*2^(min n k.bits)))) fr st:=by
 rw[DC,J,aG,KE];show hA (n:Int) (fun n=>hM k (yh k a n) (fun v=>aZ.ok v fr st)) aZ.no=_;rw[oQ,hV];have:yh k a n=k.wrap (a*2^(min n k.bits)):=by
  unfold yh;rw[kO,Mo];simp
 rw[this]
theorem EX{k k':IntKind}{M:Nat}(gp:wa k M){a b:Int}{r:af}(h:yL k M a b=some r)(J:fr.aj x= .int k a)(aG:fr.aj y= .int k' b):
 ∃v,(∀H ids,den H r ids v)∧∀st,b2 call (.bin .shl x y) fr st= .ok v fr st:=by
 unfold yL at h;split at h
 ·rename_i m n;cases h;refine⟨_,fun H ids=> ?_,fun st=>Zo J aG st⟩;show Value.int _ _=Value.int _ _;congr 1;have e:((m:Int)*2^(min n k.bits))=((m*2^(min n k.bits):Nat):Int):=by simp
  show k.wrap ((m:Int)*2^(min n k.bits))=_;rw[e,gp.1,<-Int.natCast_emod];congr 1;rcases Nat.le_total n k.bits with hn|hn
  ·rw[Nat.min_eq_left hn]
  ·rw[Nat.min_eq_right hn,<-gp.2];have:2^n=M*2^(n-k.bits):=by rw[gp.2,<-Nat.pow_add];congr 1;omega
   rw[this,Nat.mul_mod_left,<-Nat.mul_assoc,Nat.mul_comm m M,Nat.mul_assoc,Nat.mul_mod_right]
 ·cases h
theorem acg{k k':IntKind}{a b:Int}{r:af}(h:JW k a b=some r)(J:fr.aj x= .int k a)(aG:fr.aj y= .int k' b):
 ∃v,(∀H ids,den H r ids v)∧∀st,b2 call (.bin .shl x y) fr st= .ok v fr st:=by
 unfold JW at h;cases b with
 |negSucc n=>cases h
 |ofNat n=>
  simp only at h;split at h<;>cases h;rename_i hn;refine⟨_,fun _ _=> ?_,fun st=>Zo J aG st⟩;rw[Nat.min_eq_left (kx hn)];rfl
theorem ach{k k':IntKind}{a b:Int}{r:af}(h:JV k a b=some r)(J:fr.aj x= .int k a)(aG:fr.aj y= .int k' b):
 ∃v,(∀H ids,den H r ids v)∧∀st,b2 call (.bin .shl x y) fr st= .ok v fr st:=by
 unfold JV at h;split at h
 ·exact EX Og h J aG
 ·exact EX Od h J aG
 ·exact EX Oe h J aG
 ·exact EX Of h J aG
 ·exact acg h J aG
theorem PH{k k':IntKind}{a b:Int}{r:af}(h:JX k a b=some r)(J:fr.aj x= .int k a)(aG:fr.aj y= .int k' b):
 ∃v,(∀H ids,den H r ids v)∧∀st,b2 call (.bin .shr x y) fr st= .ok v fr st:=by
 unfold JX at h;cases b with
 |negSucc n=>cases h
 |ofNat n=>
  simp only at h;split at h<;>try cases h
  rename_i hn;have hn:=kx hn;have e:∀st,b2 call (.bin .shr x y) fr st= .ok (.int k (tJ k a n)) fr st:=fun st=>by
   rw[DC,J,aG,KE];show hA (n:Int) (fun n=>hM k (tJ k a n) (fun v=>aZ.ok v fr st)) aZ.no=_;rw[oQ,hV]
  refine⟨_,?_,e⟩;intro H ids;cases a with
  |ofNat m=>
   cases h;show Value.int _ _=Value.int _ _;congr 1;show tJ k (m:Int) n=_;unfold tJ;rw[oQ,Nat.min_eq_left hn];rfl
  |negSucc m=>
   cases h;show Value.int _ _=Value.int _ _;congr 1;unfold tJ;rw[Nat.min_eq_left hn];rfl
theorem abG{op:BinOp}{a b r:af}(h:Jv op a b=some r){H:bF}{ids:List Nat}(J:den H a ids (fr.aj x))(aG:den H b ids (fr.aj y)):
 ∃v,(∀H ids,den H r ids v)∧∀st,b2 call (.bin op x y) fr st= .ok v fr st:=by
 unfold Jv at h;split at h
 ·rename_i k m k' n;have J:fr.aj x= .int k m:=J;have aG:fr.aj y= .int k' n:=aG;unfold OQ at h;split at h
  ·exact ach h J aG
  ·exact PH h J aG
  ·rename_i h1 h2;split at h
   ·rename_i U;cases VG U;exact abH h (by simpa using h1) (by simpa using h2) J aG
   ·cases h
 ·rename_i l m;have J:fr.aj x= .string ⟨⟨l⟩⟩:=J;have aG:fr.aj y= .string ⟨⟨m⟩⟩:=aG;have e:∀st,b2 call (.bin op x y) fr st=By op ⟨⟨l⟩⟩ ⟨⟨m⟩⟩ (fun v=>.ok v fr st):=fun st=>by rw[DC,J,aG,Q6]
  split at h<;>cases h
  ·exact⟨_,fun _ _=>rfl,e⟩
  ·exact⟨_,fun _ _=>rfl,e⟩
 ·cases h
theorem acj{op:UnOp}{a r:af}(h:JY op a=some r){H:bF}{ids:List Nat}(J:den H a ids (fr.aj x)):
 ∃v,(∀H ids,den H r ids v)∧∀st,b2 call (.un op x) fr st= .ok v fr st:=by
 unfold JY at h;split at h
 ·rename_i k n;have J:fr.aj x= .int k n:=J;have e:∀st,b2 call (.un op x) fr st=zc op (.int k n) (fun v=>.ok v fr st):=fun st=>by
   have:b2 call (.un op x) fr st=zc op (fr.aj x) (fun v=>.ok v fr st):=rfl;rw[this,J]
  split at h<;>cases h
  ·refine⟨_,fun _ _=>rfl,fun st=> ?_⟩;rw[e];simp only[zc,mU,hV,kO,Mr]
  ·refine⟨_,fun _ _=>rfl,fun st=> ?_⟩;rw[e];simp only[zc,mU,hV]
 ·rename_i t;have J:fr.aj x= .bool t:=J;split at h<;>cases h;refine⟨_,fun _ _=>rfl,fun st=> ?_⟩;have:b2 call (.un .not x) fr st=zc .not (fr.aj x) (fun v=>.ok v fr st):=rfl;rw[this,J];rfl
 ·cases h
theorem abL{neg:Bool}{t:o1}{a b r:af}(h:Jz neg t a b=some r){H:bF}{ids:List Nat}(J:den H a ids (fr.aj x))(aG:den H b ids (fr.aj y)):
 ∃v,(∀H ids,den H r ids v)∧∀st,b2 call (.eqv neg t x y) fr st= .ok v fr st:=by
 have key:∀c,mD 8 t (fr.aj x) (fr.aj y)=some c->r= .b (kW neg c)->∃v,(∀H ids,den H r ids v)∧∀st,b2 call (.eqv neg t x y) fr st= .ok v fr st:=by
  intro c hc aQ;subst aQ;refine⟨_,fun _ _=>rfl,fun st=> ?_⟩;show bl (mD 8 t (fr.aj x) (fr.aj y)) (fun b=>aZ.ok (.bool (cond neg (!b) b)) fr st) .no=_;rw[hc];rfl
 unfold Jz at h;split at h
 ·cases h;exact key _ (by rw[show fr.aj x=_ from J,show fr.aj y=_ from aG];simp only[mD,za]) rfl
 ·split at h<;>cases h;rename_i U;cases VG U;refine key _ ?_ rfl;rw[show fr.aj x=_ from J,show fr.aj y=_ from aG];simp only[mD,za];simp only[if_true];congr 1
 ·cases h;exact key _ (by rw[show fr.aj x=_ from J,show fr.aj y=_ from aG];simp only[mD,za]) rfl
 ·cases h;exact key true (by rw[show fr.aj x=_ from J,show fr.aj y=_ from aG];simp[mD,pn]) rfl
 ·cases h;rcases J with⟨rfl,J⟩|⟨hn,b,o,c,vs,el,bn,a8,J,_⟩
  ·exact key true (by rw[J,show fr.aj y=_ from aG];simp[mD,pn]) rfl
  ·exact key false (by rw[J,show fr.aj y=_ from aG];simp[mD,pn]) (by rw[List.isEmpty_eq_false_iff.2 hn])
 ·cases h;obtain⟨b,_,J⟩:=J;exact key false (by rw[J,show fr.aj y=_ from aG];simp[mD,pn]) rfl
 ·cases h;obtain⟨b,_,aG⟩:=aG;exact key false (by rw[show fr.aj x=_ from J,aG];simp[mD,pn]) rfl
 ·cases h;obtain⟨b,_,J⟩:=J;exact key false (by rw[J,show fr.aj y=_ from aG];simp[mD,uD]) rfl
 ·cases h;obtain⟨b,_,J⟩:=J;exact key false (by rw[J,show fr.aj y=_ from aG];simp[mD,uD]) rfl
 ·cases h;obtain⟨b,o,vs,el,bn,a8,J,_⟩:=J;exact key false (by rw[J,show fr.aj y=_ from aG];simp[mD,uD]) rfl
 ·cases h;obtain⟨b,o,J,_⟩:=J;exact key false (by rw[J,show fr.aj y=_ from aG];simp[mD,y8]) rfl
 ·cases h
theorem O5{H:bF}{ids:List Nat}{e:bT}(ab:c3 fr H ids e){k:IntKind}:∀{xs:List Operand} {m:Int} {r:af},EJ e k xs m=some r->∃n,r= .i k n∧Dj k fr xs m=some n
 |[],m,r,h=>by cases h;exact⟨m,rfl,rfl⟩
 |x::xs,m,r,h=>by
  unfold EJ at h;split at h<;>try cases h
  rename_i k' z J;split at h<;>try cases h
  rename_i U;obtain⟨n,h1,h2⟩:=O5 ab h;refine⟨n,h1,?_⟩;have aH:fr.aj x= .int k' z:=ab.aj J;show gB (fr.aj x) (fun k' y=>cond (jM k k') (Dj k fr xs (cond (l2 y m) m y)) none) none=_;rw[aH,mU,U,cond_true,<-h2];congr 1;rw[rS];by_cases ax:z<=m
  ·rw[decide_eq_true ax,cond_true];omega
  ·rw[decide_eq_false ax,cond_false];omega
theorem O6{H:bF}{ids:List Nat}{e:bT}(ab:c3 fr H ids e){k:IntKind}:∀{xs:List Operand} {m:Int} {r:af},EK e k xs m=some r->∃n,r= .i k n∧Dk k fr xs m=some n
 |[],m,r,h=>by cases h;exact⟨m,rfl,rfl⟩
 |x::xs,m,r,h=>by
  unfold EK at h;split at h<;>try cases h
  rename_i k' z J;split at h<;>try cases h
  rename_i U;obtain⟨n,h1,h2⟩:=O6 ab h;refine⟨n,h1,?_⟩;have aH:fr.aj x= .int k' z:=ab.aj J;show gB (fr.aj x) (fun k' y=>cond (jM k k') (Dk k fr xs (cond (l2 m y) m y)) none) none=_;rw[aH,mU,U,cond_true,<-h2];congr 1;rw[rS];by_cases ax:m<=z
  ·rw[decide_eq_true ax,cond_true];omega
  ·rw[decide_eq_false ax,cond_false];omega
theorem N5{β:Type _}{r:β}:∀{cs:List af} {n:Nat} {K:List af->Option β},I3 cs n K=some r->n<=cs.length∧K (cs.take n)=some r
 |cs,0,K,h=>by
  have h:K []=some r:=by cases cs<;>exact h
  exact⟨Nat.zero_le _,by simpa using h⟩
 |[],n+1,K,h=>by cases h
 |a::as,n+1,K,h=>by
  obtain⟨h1,h2⟩:=N5 (cs:=as) (n:=n) h;exact⟨by simpa using h1,by simpa using h2⟩
theorem GZ:∀{cs:List af} {n:Nat},Df cs n=true->cs.length=n
 |[],0,_=>rfl
 |[],n+1,h=>by cases h
 |_::_,0,h=>by cases h
 |a::as,n+1,h=>by simp[GZ (cs:=as) (n:=n) h]
theorem BM{β:Type _}{r:β}{cs:List af}{o n:Nat}{K:List af->Option β}(h:wo cs o n K=some r):n<=(cs.drop o).length∧K ((cs.drop o).take n)=some r:=by
 unfold wo at h;split at h
 ·split at h
  ·rename_i hl;have:=GZ hl;refine⟨by simp;omega,?_⟩;rw[List.drop_zero,List.take_of_length_le (by omega)];exact h
  ·exact N5 h
 ·exact N5 h
theorem rl{α β:Type}{l:List α}{o n:Nat}(h:n<=(l.drop o).length)(k:List α->β)(z:β):il l o n k z=k ((l.drop o).take n):=by
 unfold il;rw[BX,Ek,if_pos h];rfl
theorem Xw{hx:Bool}{cs:List af}{r:af}(h:Hz hx cs=some r):(hx=true∧r= .agg cs)∨(hx=false∧cs=[r]):=by
 unfold Hz at h;split at h<;>split at h<;>cases h
 ·exact .inl ⟨rfl,rfl⟩
 ·exact .inr ⟨rfl,rfl⟩
 ·exact .inl ⟨rfl,rfl⟩
theorem o3(b o n:Nat):(⟨b,o,none⟩:Addr).add n=⟨b,o+n,none⟩:=by
 unfold Addr.add;split
 ·rename_i h;rw[h];rfl
 ·rfl
theorem ab4{H:bF}{ids:List Nat}{e:bT}(ab:c3 fr H ids e){o:dd}{r:af}(h:JE e o=some r):∃v,den H r ids v∧∀st,b2 call o fr st= .ok v fr st:=by
 have up:∀{r:af} {o:dd},(∃v,(∀H ids,den H r ids v)∧∀st,b2 call o fr st= .ok v fr st)->∃v,den H r ids v∧∀st,b2 call o fr st= .ok v fr st:=fun⟨v,h1,h2⟩=>⟨v,h1 _ _,h2⟩;cases o<;>simp only[JE]at h
 case l4 x=>exact⟨_,ab.aj h,fun st=>rfl⟩
 case jP x=>exact⟨_,ab.aj h,fun st=>rfl⟩
 case bin op x y=>
  split at h<;>try cases h
  split at h<;>try cases h
  rename_i J _ _ aG;exact up (abG h (ab.aj J) (ab.aj aG))
 case eqv neg t x y=>
  split at h<;>try cases h
  split at h<;>try cases h
  rename_i J _ _ aG;exact up (abL h (ab.aj J) (ab.aj aG))
 case un op x=>
  split at h<;>try cases h
  rename_i J;exact up (acj h (ab.aj J))
 case sB k x=>
  split at h<;>try (cases h;done)
  rename_i k' n J;have J:fr.aj x= .int k' n:=ab.aj J;exact⟨_,abJ h H ids,fun st=>aog J⟩
 case wj x=>
  split at h<;>try cases h
  rename_i l J;have J:fr.aj x= .string ⟨⟨l⟩⟩:=ab.aj J;refine⟨_,rfl,fun st=> ?_⟩;show jB (fr.aj x) _ _=_;rw[J];rfl
 case ti f fs cs=>
  split at h<;>try cases h
  split at h<;>try cases h
  rename_i h1 _ _ h2;exact⟨_,⟨_,_,rfl,ab.dT h1,ab.dT h2⟩,fun st=>rfl⟩
 case wC x i=>
  split at h<;>try cases h
  rename_i vs J;obtain⟨ws,J,av⟩:=ab.aj J;obtain⟨v,aH,av⟩:=uy av h;refine⟨v,av,fun st=> ?_⟩;show qb (fr.aj x) (fun vs=>il vs.toList i 1 (fun l=>one l (fun v=>aZ.ok v fr st) .no) .no) .no=_;rw[J,as9];obtain⟨aP,Gz⟩:=List.getElem?_eq_some_iff.1 aH;show il ws i 1 _ _=_;rw[BN (by omega),hf aP,Gz];rfl
 case oN x=>
  split at h<;>try cases h
  ·rename_i J;have J:fr.aj x= .slice none 0 0:=ab.aj J;exact⟨_,rfl,fun st=>Ac J⟩
  ·rename_i J;obtain⟨b,_,J⟩:=ab.aj J;exact⟨_,rfl,fun st=>Ac J⟩
  ·rename_i J;rcases ab.aj J with⟨hl,J⟩|⟨b,o,c,vs,el,bn,a8,J,_⟩
   ·rw[hl];exact⟨_,rfl,fun st=>Ac J⟩
   ·exact⟨_,rfl,fun st=>Ac J⟩
  ·rename_i J;rcases ab.aj J with⟨hl,J⟩|⟨_,b,o,c,vs,el,bn,a8,J,_⟩
   ·rw[hl];exact⟨_,rfl,fun st=>Ac J⟩
   ·exact⟨_,rfl,fun st=>Ac J⟩
 case te x=>
  split at h<;>try cases h
  rename_i l J;have J:fr.aj x= .string ⟨⟨l⟩⟩:=ab.aj J;exact⟨_,rfl,fun st=>by rw[aoD,J,Et]⟩
 case xv n=>cases h;exact⟨_,rfl,fun st=>rfl⟩
 case wD off x=>
  have e:∀{b o:Nat},fr.aj x= .pointer (some ⟨b,o,none⟩)->∀st,b2 call (.wD off x) fr st= .ok (.pointer (some ⟨b,o+off,none⟩)) fr st:=fun J st=>by
   show iD (fr.aj x) (fun p=>bl p (fun a=>aZ.ok (.pointer (some (a.add off))) fr st) .no) .no=_;rw[J,tN];show aZ.ok (.pointer (some (Addr.add _ off))) fr st=_;rw[o3]
  split at h<;>try cases h
  ·rename_i J;obtain⟨b,aa,J⟩:=ab.aj J;exact⟨_,⟨b,aa,rfl⟩,e J⟩
  ·rename_i k z j o J;obtain⟨b,aa,J⟩:=ab.aj J;exact⟨_,⟨b,aa,by rw[Nat.add_assoc]⟩,e J⟩
  ·rename_i cs J;obtain⟨b,o,vs,el,bn,a8,J,aa,av⟩:=ab.aj J;refine⟨_,⟨b,o+off,vs,el,bn,a8,rfl,aa,?_⟩,e J⟩;have:=ox off av;rw[List.drop_take,List.drop_drop]at this;rw[List.length_drop];exact this
 case oB off a4 hx x=>
  split at h<;>try cases h
  rename_i cs J;obtain⟨ws,J,av⟩:=ab.aj J;obtain⟨h1,h2⟩:=BM h;have av:=uB a4 (ox off av);have hl:=hI av;have e:∀st,b2 call (.oB off a4 hx x) fr st=bl (cond hx (some (.agg ⟨(ws.drop off).take a4⟩)) (one ((ws.drop off).take a4) (fun v=>some v) none)) (fun v=>.ok v fr st) .no:=fun st=>by
   show q2 (fr.aj x) (fun cs=>bl (tr off a4 hx cs.toList) (fun v=>aZ.ok v fr st) .no) .no=_;rw[J,as8];show bl (tr off a4 hx ws) _ _=_;unfold tr;rw[rl (by rw[List.length_take,List.length_take,Nat.min_eq_left h1]at hl;omega)]
  rcases Xw h2 with⟨rfl,rfl⟩|⟨rfl,h3⟩
  ·exact⟨_,⟨_,rfl,av⟩,fun st=>by rw[e];rfl⟩
  ·rw[h3]at av;obtain⟨v,us,aH,av,hn⟩:=av;cases hn;rw[aH]at e;exact⟨v,av,fun st=>by rw[e];rfl⟩
 case rV x=>
  have e:∀{a:Addr},fr.aj x= .pointer (some a)->∀st,b2 call (.rV x) fr st= .ok (.pointer (some a)) fr st:=fun J st=>by
   show iD (fr.aj x) (fun p=>bl p (fun a=>aZ.ok (.pointer (some a)) fr st) .no) _=_;rw[J];rfl
  split at h<;>try cases h
  ·rename_i J;obtain⟨b,aa,J⟩:=ab.aj J;exact⟨_,⟨b,aa,rfl⟩,e J⟩
  ·rename_i J;obtain⟨b,aa,J⟩:=ab.aj J;exact⟨_,⟨b,aa,rfl⟩,e J⟩
  ·rename_i J;obtain⟨b,o,vs,el,bn,a8,J,av⟩:=ab.aj J;exact⟨_,⟨b,o,vs,el,bn,a8,rfl,av⟩,e J⟩
  ·rename_i g a b J;have J:fr.aj x= .func (.func g) a b:=ab.aj J;refine⟨_,rfl,fun st=> ?_⟩;have:b2 call (.rV x) fr st=iD (fr.aj x) (fun p=>bl p (fun a=>aZ.ok (.pointer (some a)) fr st) .no) (yn (fr.aj x) (fun f a b=>match f with|.func g=>.ok (.func (.func g) a b) fr st|_=>.no) .no):=rfl;rw[this,J];rfl
 case pick c x y=>
  split at h
  ·rename_i hc;exact⟨_,ab.aj h,fun st=>aok (ab.aj hc) rfl rfl⟩
  ·rename_i hc;exact⟨_,ab.aj h,fun st=>aoj (ab.aj hc) rfl rfl⟩
  ·cases h
 case eU x xs=>
  split at h<;>try cases h
  rename_i k n J;have J:fr.aj x= .int k n:=ab.aj J;obtain⟨m,rfl,hm⟩:=O5 ab h;refine⟨_,rfl,fun st=> ?_⟩;show gB (fr.aj x) (fun k n=>bl (Dj k fr xs n) (fun m=>hM k m fun v=>aZ.ok v fr st) .no) .no=_;rw[J,mU,hm,Sym.eY,hV]
 case xE x xs=>
  split at h<;>try cases h
  rename_i k n J;have J:fr.aj x= .int k n:=ab.aj J;obtain⟨m,rfl,hm⟩:=O6 ab h;refine⟨_,rfl,fun st=> ?_⟩;show gB (fr.aj x) (fun k n=>bl (Dk k fr xs n) (fun m=>hM k m fun v=>aZ.ok v fr st) .no) .no=_;rw[J,mU,hm,Sym.eY,hV]
 all_goals cases h
end
inductive a3:Type 1
 |c (el:TypeId) (cs:List af)
 |a (el:TypeId) (a8:Bool) (z:Nat) (α:Type) (R:α->List af) (l:List α)
 |x
def a3.live:a3->Bool
 |.x=>false
 |_=>true
def mz(H:bF)(ids:List Nat):a3->Option bw->Prop
 |.c el cs,eg=>∃vs,eg=some (.cells vs el (0,0) false)∧di H cs ids vs
 |.a el a8 z _ R l,eg=>∃vs,eg=some (.cells vs el (0,0) a8)∧vs.length=l.length*z∧∀i x,l[i]? =some x->di H (R x) ids ((vs.drop (i*z)).take z)
 |.x,_=>True
theorem rn{H bs:bF}{i j:List Nat}(h:dt H bs)(ae:cM i j):∀{o:a3} {eg:Option bw},mz H i o eg->mz bs j o eg
 |.c _ _,_,⟨vs,e,d⟩=>⟨vs,e,kX h _ ae d⟩
 |.a _ _ _ _ _ _,_,⟨vs,e,cK,d⟩=>⟨vs,e,cK,fun k x J=>kX h _ ae (d k x J)⟩
 |.x,_,_=>trivial
structure cS where
 own:List a3
 n:Nat
 env:bT
structure Fit(H:bF)(ids:List Nat)(st:au)(own:List a3)(n:Nat):Prop where
 wf:∀i,st.ai<=i->st.h.get i=none
 le:∀b o,H b=some o->st.h.get b=some o
 cq:own.length=n
 len:ids.length=n
 iz:ids.Nodup
 lt:∀b∈ids,b<st.ai
 own:∀(k:Nat) (o:a3) (b:Nat),own[k]? =some o->ids[k]? =some b->mz H ids o (st.h.get b)∧(o.live=true->H b=none)
structure dM(b9:bF)(i0:List Nat)(aJ:au)(H:bF)(ids:List Nat)(st:au):Prop where
 hle:dt b9 H
 hold:∀b,b<aJ.ai->b∉i0->H b=b9 b
 gz:∀b,b<aJ.ai->b∉i0->st.h.get b=aJ.h.get b
 ai:aJ.ai<=st.ai
 kq:cM i0 ids
 new:∀b∈ids,b∈i0∨aJ.ai<=b
theorem Fit.aP{H:bF}{ids:List Nat}{st:au}{own:List a3}{n:Nat}(h:Fit H ids st own n){b:Nat}{o:bw}(aa:H b=some o):b<st.ai:=by
 rcases Nat.lt_or_ge b st.ai with aB|aB
 ·exact aB
 ·have:=h.le b o aa;rw[h.wf b aB]at this;cases this
theorem Fit.sY{H:bF}{ids:List Nat}{st:au}{own:List a3}{n:Nat}(h:Fit H ids st own n){b:Nat}(aa:st.ai<=b):H b=none:=by
 cases e:H b with
 |none=>rfl
 |some o=>have:=h.aP e;omega
theorem Fit.add{H:bF}{ids:List Nat}{st:au}{own:List a3}{n:Nat}(h:Fit H ids st own n){o:a3}{eg:bw}(d:mz H (ids++[st.ai]) o (some eg)):
 Fit H (ids++[st.ai]) ⟨st.h.set st.ai eg,st.ai+1⟩ (own++[o]) (n+1):=by
 have uZ:st.ai∉ids:=fun hm=>by have:=h.lt _ hm;omega
 refine⟨?_,?_,by simp[h.cq],by simp[h.len],?_,?_,?_⟩
 ·intro i ae;show(st.h.set st.ai eg).get i=none;have ae:st.ai+1<=i:=ae;rw[ao.h6 _ _ (by omega)];exact h.wf i (by omega)
 ·intro b bd aa;show(st.h.set st.ai eg).get b=_;have:=h.aP aa;rw[ao.h6 _ _ (by omega)];exact h.le b bd aa
 ·rw[List.nodup_append];refine⟨h.iz,by simp,?_⟩;intro a ha b aa;simp at aa;subst aa;exact fun e=>uZ (e▸ha)
 ·intro b aa;simp at aa;show b<st.ai+1;rcases aa with aa|aa
  ·have:=h.lt b aa;omega
  ·omega
 ·intro k bd b U aa;show mz _ _ _ ((st.h.set st.ai eg).get b)∧_;by_cases pD:k<own.length
  ·rw[List.getElem?_append_left pD]at U;rw[List.getElem?_append_left (by rw[h.len,<-h.cq];exact pD)]at aa;obtain⟨h1,h2⟩:=h.own k bd b U aa;have:b≠st.ai:=fun e=>uZ (e▸List.mem_of_getElem? aa);rw[ao.h6 _ _ this];exact⟨rn (dt.refl _) (cM.app _ _) h1,h2⟩
  ·have fu:=(List.getElem?_eq_some_iff.1 U).1;simp at fu;have pD:k=own.length:=by omega
   subst pD;rw[List.getElem?_append_right (b5 _)]at U;have hl:own.length=ids.length:=by rw[h.len,h.cq]
   rw[hl,List.getElem?_append_right (b5 _)]at aa;simp at U aa;subst U aa;rw[ao.pw];exact⟨d,fun _=>h.sY (b5 _)⟩
theorem dM.add{b9:bF}{i0:List Nat}{aJ:au}{H:bF}{ids:List Nat}{st:au}(h:dM b9 i0 aJ H ids st)(eg:bw):dM b9 i0 aJ H (ids++[st.ai]) ⟨st.h.set st.ai eg,st.ai+1⟩:=by
 refine⟨h.hle,h.hold,?_,by have:=h.ai;show aJ.ai<=st.ai+1;omega,fun k b e=>cM.app _ _ k b (h.kq k b e),?_⟩
 ·intro b aa hn;show(st.h.set st.ai eg).get b=_;have:=h.ai;rw[ao.h6 _ _ (by omega)];exact h.gz b aa hn
 ·intro b aa;simp at aa;rcases aa with aa|aa
  ·exact h.new b aa
  ·right;rw[aa];exact h.ai
theorem Fit.g3{H:bF}{ids:List Nat}{st:au}{own:List a3}{n:Nat}(h:Fit H ids st own n){k b:Nat}{o bd:a3}{eg:bw}(U:own[k]? =some o)(hl:o.live=true)(aa:ids[k]? =some b)(d:mz H ids bd (some eg)):
 Fit H ids ⟨st.h.set b eg,st.ai⟩ (own.set k bd) n:=by
 have aP:b<st.ai:=h.lt b (List.mem_of_getElem? aa);have dX:H b=none:=(h.own k o b U aa).2 hl;refine⟨?_,?_,by simp[h.cq],h.len,h.iz,h.lt,?_⟩
 ·intro i ae;show(st.h.set b eg).get i=none;have ae:st.ai<=i:=ae;rw[ao.h6 _ _ (by omega)];exact h.wf i ae
 ·intro c q hc;show(st.h.set b eg).get c=_;rw[ao.h6 _ _ (fun e=>by rw[e,dX]at hc;cases hc)];exact h.le c q hc
 ·intro j q c hj hc;show mz _ _ _ ((st.h.set b eg).get c)∧_;rw[List.getElem?_set]at hj;by_cases je:k=j
  ·subst je;rw[aa]at hc;cases hc;rw[if_pos rfl]at hj;split at hj<;>cases hj;rw[ao.pw];exact⟨d,fun _=>dX⟩
  ·rw[if_neg je]at hj;have:c≠b:=fun e=>by
    subst e;have h1:=(List.getElem?_eq_some_iff.1 aa);have h2:=(List.getElem?_eq_some_iff.1 hc);exact je ((List.getElem_inj (h₀:=h1.1) (h₁:=h2.1) h.iz).1 (h1.2.trans h2.2.symm))
   rw[ao.h6 _ _ this];exact h.own j q c hj hc
theorem dM.g3{b9:bF}{i0:List Nat}{aJ:au}{H:bF}{ids:List Nat}{st:au}(h:dM b9 i0 aJ H ids st){b:Nat}(aa:b∈ids)(eg:bw):dM b9 i0 aJ H ids ⟨st.h.set b eg,st.ai⟩:=by
 refine⟨h.hle,h.hold,?_,h.ai,h.kq,h.new⟩;intro c hc hn;show(st.h.set b eg).get c=_;rw[ao.h6 _ _ (fun e=>by
  subst e;rcases h.new _ aa with h1|h1
  ·exact hn h1
  ·omega)]
 exact h.gz c hc hn
section
def uf(own:List a3)(e:bT):dd->Option af
 |.lE x=>match bI e x with
  |some (.p k o)=>match own[k]? with
   |some (.c _ cs)=>cs[o]?
   |_=>none
  |some (.fz k z j o)=>match own[k]? with
   |some (.c _ cs)=>cs[j*z+o]?
   |_=>none
  |some (.ip cs)=>cs[0]?
  |_=>none
 |.pT n x=>match bI e x with
  |some (.p k o)=>match own[k]? with
   |some (.c _ cs)=>wo cs o n fun l=>some (.agg l)
   |_=>none
  |some (.fz k z j o)=>match own[k]? with
   |some (.c _ cs)=>wo cs (j*z+o) n fun l=>some (.agg l)
   |_=>none
  |some (.ip cs)=>wo cs 0 n fun l=>some (.agg l)
  |_=>none
 |_=>none
def pQ(e:bT):dd->Option Nat
 |.lE x|.pT _ x=>match bI e x with
  |some (.p k _)|some (.fz k _ _ _)=>some k
  |_=>none
 |_=>none
end
section
variable{call:bQ}{fr:aT}{x y i:Operand}
theorem zU{b o:Nat}{vs:List Value}{el:TypeId}{bn:Nat×Nat}{a8:Bool}{v:Value}{st:au}(h:fr.aj x= .pointer (some ⟨b,o,none⟩))(ak:st.h.get b=some (.cells vs el bn a8))(aH:vs[o]? =some v):b2 call (.lE x) fr st= .ok v fr st:=aoi h rfl ak aH
theorem L7{b o n:Nat}{vs:List Value}{el:TypeId}{bn:Nat×Nat}{a8:Bool}{st:au}(h:fr.aj x= .pointer (some ⟨b,o,none⟩))(ak:st.h.get b=some (.cells vs el bn a8))(hl:n<=(vs.drop o).length):b2 call (.pT n x) fr st= .ok (.agg ⟨(vs.drop o).take n⟩) fr st:=by
 rw[aoF,h];show st.load ⟨b,o,none⟩ n _ _=_;unfold au.load au.gL;rw[Sym.ia,ak,kU,rl hl]
theorem asD{α:Type}{l:List α}{o n:Nat}{v:α}(h:((l.drop o).take n)[0]? =some v):l[o]? =some v:=by
 have:=(List.getElem?_eq_some_iff.1 h).1;rw[List.getElem?_take]at h;split at h
 ·simpa using h
 ·cases h
theorem JA{H:bF}{ids:List Nat}{e:bT}{own:List a3}{st:au}(ab:c3 fr H ids e)(qA:own.length<=ids.length)(ar:∀(k:Nat) (o:a3) (b:Nat),own[k]? =some o->o.live=true->ids[k]? =some b->mz H ids o (st.h.get b)){o:dd}{r:af}(h:uf own e o=some r):
 ∃v,den H r ids v∧∀ek:au,((∀b o,H b=some o->ek.h.get b=some o)∨∃k,pQ e o=some k)->(∀k b,pQ e o=some k->ids[k]? =some b->ek.h.get b=st.h.get b)->b2 call o fr ek= .ok v fr ek:=by
 have obj:∀{k:Nat} {el:TypeId} {cs:List af},own[k]? =some (.c el cs)->∃b vs,ids[k]? =some b∧st.h.get b=some (.cells vs el (0,0) false)∧di H cs ids vs:=fun{k el cs} U=>by
  have aP:=(List.getElem?_eq_some_iff.1 U).1;have ae:k<ids.length:=by omega
  obtain⟨vs,h1,h2⟩:=ar k _ _ U rfl (a9 ae);exact⟨_,vs,a9 ae,h1,h2⟩
 cases o<;>simp only[uf]at h
 case lE x=>
  split at h<;>try cases h
  ·rename_i k o J;split at h<;>try cases h
   rename_i el cs U;obtain⟨b,vs,aa,dN,av⟩:=obj U;obtain⟨v,aH,av⟩:=uy av h;obtain⟨er,h1,h2⟩:=ab.aj J;rw[aa]at h1;cases h1;exact⟨v,av,fun ek _ h3=>zU h2 ((h3 k b (by simp[pQ,J]) aa).trans dN) aH⟩
  ·rename_i k z j o J;split at h<;>try cases h
   rename_i el cs U;obtain⟨b,vs,aa,dN,av⟩:=obj U;obtain⟨v,aH,av⟩:=uy av h;obtain⟨er,h1,h2⟩:=ab.aj J;rw[aa]at h1;cases h1;exact⟨v,av,fun ek _ h3=>zU h2 ((h3 k b (by simp[pQ,J]) aa).trans dN) aH⟩
  ·rename_i cs J;obtain⟨b,o,vs,el,bn,a8,h1,h2,av⟩:=ab.aj J;obtain⟨v,aH,av⟩:=uy av h;refine⟨v,sH (dt.refl _) _ (cM.nil _) av,fun ek h3 _=> ?_⟩;rcases h3 with h3|⟨k,h3⟩
   ·exact zU h1 (h3 _ _ h2) (asD aH)
   ·simp[pQ,J]at h3
 case pT m x=>
  split at h<;>try cases h
  ·rename_i k o J;split at h<;>try cases h
   rename_i el cs U;obtain⟨b,vs,aa,dN,av⟩:=obj U;obtain⟨rz,lV⟩:=BM h;cases lV;obtain⟨er,h1,h2⟩:=ab.aj J;rw[aa]at h1;cases h1;have hl:=hI (ox o av);exact⟨_,⟨_,rfl,uB m (ox o av)⟩,fun ek _ h3=>L7 h2 ((h3 k b (by simp[pQ,J]) aa).trans dN) (by omega)⟩
  ·rename_i k z j o J;split at h<;>try cases h
   rename_i el cs U;obtain⟨b,vs,aa,dN,av⟩:=obj U;obtain⟨rz,lV⟩:=BM h;cases lV;obtain⟨er,h1,h2⟩:=ab.aj J;rw[aa]at h1;cases h1;have hl:=hI (ox (j*z+o) av);exact⟨_,⟨_,rfl,uB m (ox (j*z+o) av)⟩,fun ek _ h3=>L7 h2 ((h3 k b (by simp[pQ,J]) aa).trans dN) (by omega)⟩
  ·rename_i cs J;obtain⟨b,o,vs,el,bn,a8,h1,h2,av⟩:=ab.aj J;obtain⟨rz,lV⟩:=BM h;cases lV;have hl:=hI av;rw[List.drop_zero]at rz;have gb:=uB m av;rw[List.take_take,Nat.min_eq_left rz]at gb;refine⟨.agg ⟨(vs.drop o).take m⟩,⟨_,rfl,?_⟩,fun ek h3 _=> ?_⟩
   ·rw[List.drop_zero];exact kX (dt.refl _) _ (cM.nil _) gb
   rcases h3 with h3|⟨k,h3⟩
   ·exact L7 h1 (h3 _ _ h2) (by rw[List.length_take]at hl;omega)
   ·simp[pQ,J]at h3
 all_goals cases h
theorem ane{own:List a3}{e:bT}{o:dd}{r:af}{k:Nat}(h:uf own e o=some r)(U:pQ e o=some k):∃bd,own[k]? =some bd∧bd.live=true:=by
 cases o<;>simp only[pQ]at U
 case lE x=>
  simp only[uf]at h;split at U<;>cases U
  ·rename_i J;rw[J]at h;simp only at h;split at h<;>try cases h
   exact⟨_,by assumption,rfl⟩
  ·rename_i J;rw[J]at h;simp only at h;split at h<;>try cases h
   exact⟨_,by assumption,rfl⟩
 case pT n x=>
  simp only[uf]at h;split at U<;>cases U
  ·rename_i J;rw[J]at h;simp only at h;split at h<;>try cases h
   exact⟨_,by assumption,rfl⟩
  ·rename_i J;rw[J]at h;simp only at h;split at h<;>try cases h
   exact⟨_,by assumption,rfl⟩
 all_goals cases U
end
section
variable{β:Type _}
def MH(v:Value)(K:af->Option β):Option β:=
 match v with
 |.int k n=>K (.i k n)
 |.bool t=>K (.b t)
 |.string ⟨⟨l⟩⟩=>K (.s l)
 |.slice none 0 0=>K .nl
 |x=>K (.v x)
def Ad:List Value->(List af->Option β)->Option β
 |[],K=>K []
 |v::vs,K=>MH v fun a=>Ad vs fun r=>K (a::r)
def rj:af->Option (List af)
 |.agg cs=>some cs
 |a=>match sz a with
  |true=>some [a]
  |false=>none
def xS:List af->Nat->List af->(List af->Option β)->Option β
 |cs,0,[],K=>K cs
 |_::cs,0,d::ds,K=>xS cs 0 ds fun r=>K (d::r)
 |c::cs,n+1,ds,K=>xS cs n ds fun r=>K (c::r)
 |[],_,_,_=>none
def zd(e:bT):List (Nat×Nat×Operand)->List af->(List af->Option β)->Option β
 |[],cs,K=>K cs
 |(o,a4,x)::ps,cs,K=>match bI e x with
  |some a=>match rj a with
   |some ds=>match Df ds a4 with
    |true=>xS cs o ds fun cs'=>zd e ps cs' K
    |false=>none
   |none=>none
  |none=>none
def qZ:List a3->a3->(List a3->Option β)->Option β
 |[],o,K=>K [o]
 |a::as,o,K=>qZ as o fun r=>K (a::r)
def iT:List a3->Nat->a3->(List a3->Option β)->Option β
 |[],_,_,_=>none
 |_::as,0,o,K=>K (o::as)
 |a::as,n+1,o,K=>iT as n o fun r=>K (a::r)
def aof:List Nat:=[1,2,3,4,5,6,7,8,9,10,11,12,13,14,15,16,17,18,19,20,21,22,23,24,25,26,27,28,29,30,31,32]
def WK:List Nat->Nat->Option Nat
 |[],_=>none
 |a::_,0=>some a
 |_::as,n+1=>WK as n
def oR(n:Nat)(K:Nat->Option β):Option β:=
 match WK aof n with
 |some m=>match Nat.beq m (n+1)with
  |true=>K m
  |false=>K (n+1)
 |none=>K (n+1)
def aoU:List (Nat×Nat×Operand)->Nat
 |(_,a4,_)::_=>a4
 |[]=>1
def IW(own:List a3)(aM:Nat)(e:bT)(k o n:Nat)(x:Operand)(K:af->List a3->Nat->Option β):Option β:=
 match own[k]? with
 |some (.c el cs)=>match bI e x with
  |some a=>match rj a with
   |some ds=>match Df ds n with
    |true=>match pd ds with
     |true=>xS cs o ds fun cs'=>iT own k (.c el cs') fun bu=>K (.bB []) bu aM
     |false=>none
    |false=>none
   |none=>none
  |none=>none
 |_=>none
def EI(own:List a3)(aM:Nat)(e:bT)(K:af->List a3->Nat->Option β):dd->Option β
 |.alloc z el=>Ad z fun cs=>qZ own (.c el cs) fun bu=>oR aM fun b8=>K (.p aM 0) bu b8
 |.box el x=>match bI e x with
  |some a=>match rj a with
   |some ds=>qZ own (.c el ds) fun bu=>oR aM fun b8=>K (.p aM 0) bu b8
   |none=>none
  |none=>none
 |.ot el len z ps=>Ad z fun cs=>zd e ps cs fun cs'=>qZ own (.c el cs') fun bu=>oR aM fun b8=>K (.a6 aM (aoU ps) 0 len len) bu b8
 |.build z ps=>Ad z fun cs=>zd e ps cs fun cs'=>K (.agg cs') own aM
 |.store n a x=>match bI e a with
  |some (.p k o)=>IW own aM e k o n x K
  |some (.fz k z j o)=>IW own aM e k (j*z+o) n x K
  |_=>none
 |_=>none
def Bj(e:bT):dd->Option af
 |.build z ps=>Ad z fun cs=>zd e ps cs fun cs'=>some (.agg cs')
 |o=>JE e o
def iR(e:bT):dd->Option Nat
 |.store _ a _=>match bI e a with
  |some (.p k _)|some (.fz k _ _ _)=>some k
  |_=>none
 |.app _ _ _ x _|.qm _ x _=>match bI e x with
  |some (.a6 k _ _ _ _)=>some k
  |_=>none
 |.vO _ x _=>match bI e x with
  |some (.p k _)=>some k
  |_=>none
 |_=>none
end
section
variable{β:Type _}{r:β}
theorem aon{v:Value}{K:af->Option β}(h:MH v K=some r):K (Dy v)=some r:=by
 unfold MH at h;unfold Dy;split at h<;>first|exact h|(split<;>first|exact h|(exfalso;simp_all))
theorem Dz:∀{vs:List Value} {K:List af->Option β},Ad vs K=some r->K (vl vs)=some r
 |[],_,h=>h
 |_::vs,_,h=>Dz (vs:=vs) (aon h)
theorem E3{H:bF}{ids:List Nat}{a:af}{ds:List af}{v:Value}(h:rj a=some ds)(d:den H a ids v):s9 v=false∧di H ds ids (ik v):=by
 unfold rj at h;split at h
 ·cases h;obtain⟨vs,rfl,d⟩:=d;exact⟨rfl,d⟩
 ·split at h<;>cases h;rename_i hc;have:=Qf hc d;refine⟨?_,?_⟩
  ·cases v<;>first|rfl|cases this
  ·rw[acO this];exact⟨v,[],rfl,d,rfl⟩
theorem HI:∀{cs:List af} {n:Nat} {ds:List af} {K:List af->Option β},xS cs n ds K=some r->n+ds.length<=cs.length∧K (cs.take n++(ds++cs.drop (n+ds.length)))=some r
 |cs,0,[],K,h=>by
  have h:K cs=some r:=by cases cs<;>exact h
  exact⟨by simp,by simpa using h⟩
 |[],0,d::ds,K,h=>by cases h
 |c::cs,0,d::ds,K,h=>by
  have h:xS cs 0 ds (fun r=>K (d::r))=some r:=h;obtain⟨h1,h2⟩:=HI h;refine⟨by simp at h1 ⊢;omega,?_⟩;simp at h2;simpa using h2
 |[],n+1,ds,K,h=>by cases ds<;>cases h
 |c::cs,n+1,ds,K,h=>by
  have h:xS cs n ds (fun r=>K (c::r))=some r:=by cases ds<;>exact h
  obtain⟨h1,h2⟩:=HI h;refine⟨by simp;omega,?_⟩;rw[show n+1+ds.length=(n+ds.length)+1 by omega];simpa using h2
theorem Kr{H:bF}{ids:List Nat}{cs ds:List af}{vs ws:List Value}(n:Nat)(d:di H cs ids vs)(h5:di H ds ids ws):
 di H (cs.take n++(ds++cs.drop (n+ds.length))) ids (vs.take n++(ws++vs.drop (n+ws.length))):=by
 rw[hI h5];exact y3 (uB n d) (y3 h5 (ox _ d))
theorem sb:∀{own:List a3} {o:a3} {K:List a3->Option β},qZ own o K=some r->K (own++[o])=some r
 |[],_,_,h=>h
 |_::as,_,_,h=>sb (own:=as) h
theorem jT:∀{own:List a3} {k:Nat} {o:a3} {K:List a3->Option β},iT own k o K=some r->K (own.set k o)=some r
 |[],_,_,_,h=>by cases h
 |_::_,0,_,_,h=>h
 |_::as,k+1,_,_,h=>jT (own:=as) (k:=k) h
theorem qN{n:Nat}{K:Nat->Option β}(h:oR n K=some r):K (n+1)=some r:=by
 unfold oR at h;split at h
 ·split at h
  ·rename_i aa;rw[<-ep aa];exact h
  ·exact h
 ·exact h
def B7(e:bT):List (Nat×Nat×Operand)->List af->Option (List af)
 |[],cs=>some cs
 |(o,a4,x)::ps,cs=>match bI e x with
  |some a=>match rj a with
   |some ds=>if ds.length=a4∧o+ds.length<=cs.length then B7 e ps (cs.take o++(ds++cs.drop (o+ds.length)))else none
   |none=>none
  |none=>none
theorem FG{e:bT}:∀{ps:List (Nat×Nat×Operand)} {cs:List af} {K:List af->Option β},zd e ps cs K=some r->∃cs',B7 e ps cs=some cs'∧K cs'=some r
 |[],cs,K,h=>⟨cs,rfl,h⟩
 |(o,a4,x)::ps,cs,K,h=>by
  unfold zd at h;unfold B7;split at h<;>try cases h
  split at h<;>try cases h
  split at h<;>try cases h
  rename_i hl;obtain⟨h1,h2⟩:=HI h;rw[if_pos ⟨GZ hl,h1⟩];exact FG h2
theorem FH{fr:aT}{H:bF}{ids:List Nat}{e:bT}(ab:c3 fr H ids e):∀{ps:List (Nat×Nat×Operand)} {cs cs':List af} {vs:List Value},B7 e ps cs=some cs'->di H cs ids vs->
 ∃fX,di H cs' ids fX∧∀c,nP fr ps vs c=c fX
 |[],cs,_,vs,h,d=>by cases h;exact⟨vs,d,fun _=>rfl⟩
 |(o,a4,x)::ps,cs,cs',vs,h,d=>by
  unfold B7 at h;split at h<;>try cases h
  rename_i a J;split at h<;>try cases h
  rename_i ds iu;split at h<;>try cases h
  rename_i hl;obtain⟨hl,h1⟩:=hl;obtain⟨hp,d2⟩:=E3 iu (ab.aj J);have pE:=hI d2;have Lm:=hI d;obtain⟨fX,aR,a7⟩:=FH ab h (Kr o d d2);refine⟨fX,aR,fun c=> ?_⟩;have hu:nP fr ((o,a4,x)::ps) vs c=cond (s9 (fr.aj x)) .no (et (ec (ik (fr.aj x))) a4 (eo (o+a4) (ec vs) (p0 vs o (ik (fr.aj x)) (fun cs'=>nP fr ps cs' c) .no) .no) .no):=rfl;rw[hu,hp,cond_false,fU,fU,jI (by omega),eX (by omega),qR,if_pos (by omega),a7]
end
theorem JF{call:bQ}{fr:aT}{H:bF}{ids:List Nat}{e:bT}(ab:c3 fr H ids e){o:dd}{r:af}(h:Bj e o=some r):∃v,den H r ids v∧∀st,b2 call o fr st= .ok v fr st:=by
 unfold Bj at h;split at h
 ·rename_i z ps;obtain⟨cs',aL,aR⟩:=FG (Dz h);cases aR;obtain⟨fX,d,a7⟩:=FH ab aL (uz H ids z);refine⟨.agg ⟨fX⟩,⟨_,rfl,d⟩,fun st=> ?_⟩;have:b2 call (.build z ps) fr st=nP fr ps z fun cs=>.ok (.agg ⟨cs⟩) fr st:=rfl;rw[this,a7]
 ·exact ab4 ab h
def gy(call:bQ)(o:dd)(s:cS)(a:af)(bu:List a3)(b8:Nat):Prop:=
 ∀(H:bF) (ids:List Nat) (st:au) (fr:aT),Fit H ids st s.own s.n->c3 fr H ids s.env->
  ∃v st' cU bs,b2 call o fr st= .ok v fr st'∧Fit bs cU st' bu b8∧den bs a cU v∧dt H bs∧cM ids cU∧(∀b9 i0 aJ,dM b9 i0 aJ H ids st->dM b9 i0 aJ bs cU st')∧
   st.ai<=st'.ai∧∀b,b<st.ai->(∀k,iR s.env o=some k->ids[k]? ≠some b)->st'.h.get b=st.h.get b
def v3(b9:bF)(call:bQ)(o:dd)(s:cS)(a:af)(bu:List a3)(b8:Nat):Prop:=
 ∀(H:bF) (ids:List Nat) (st:au) (fr:aT),dt b9 H->Fit H ids st s.own s.n->c3 fr H ids s.env->
  ∃v st' cU bs,b2 call o fr st= .ok v fr st'∧Fit bs cU st' bu b8∧den bs a cU v∧dt H bs∧cM ids cU∧(∀b9 i0 aJ,dM b9 i0 aJ H ids st->dM b9 i0 aJ bs cU st')∧
   st.ai<=st'.ai∧∀b,b<st.ai->(∀k,iR s.env o=some k->ids[k]? ≠some b)->st'.h.get b=st.h.get b
theorem gy.g{b9:bF}{call:bQ}{o:dd}{s:cS}{a:af}{bu:List a3}{b8:Nat}(h:gy call o s a bu b8):v3 b9 call o s a bu b8:=fun H ids st fr _ ar ab=>h H ids st fr ar ab
def yC(call:bQ)(o:dd)(s:cS)(a:af)(bu:List a3)(b8:Nat):Prop:=
 ∀(H:bF) (ids:List Nat) (st:au) (fr:aT),Fit H ids st s.own s.n->c3 fr H ids s.env->
  ∃v st' cU,b2 call o fr st= .ok v fr st'∧Fit H cU st' bu b8∧den H a cU v∧cM ids cU∧(∀b9 i0 aJ,dM b9 i0 aJ H ids st->dM b9 i0 aJ H cU st')∧
   st.ai<=st'.ai∧∀b,b<st.ai->(∀k,iR s.env o=some k->ids[k]? ≠some b)->st'.h.get b=st.h.get b
theorem yC.to{call:bQ}{o:dd}{s:cS}{a:af}{bu:List a3}{b8:Nat}(h:yC call o s a bu b8):gy call o s a bu b8:=fun H ids st fr ar ab=>
 let⟨v,st',cU,h1,h2,h3,ay,aY,b7,dn⟩:=h H ids st fr ar ab
 ⟨v,st',cU,H,h1,h2,h3,dt.refl _,ay,aY,b7,dn⟩
section
variable{call:bQ}{β:Type _}{r:β}
theorem Ms{H:bF}{ids:List Nat}{st:au}{own:List a3}{n:Nat}(ar:Fit H ids st own n){el:TypeId}{cs:List af}{vs:List Value}(d:di H cs ids vs):
 Fit H (ids++[st.ai]) ⟨st.h.set st.ai (.cells vs el (0,0) false),st.ai+1⟩ (own++[.c el cs]) (n+1)∧(ids++[st.ai])[n]? =some st.ai:=by
 refine⟨ar.add ⟨vs,rfl,kX (dt.refl _) _ (cM.app _ _) d⟩,?_⟩;rw[<-ar.len,List.getElem?_append_right (b5 _)];simp
theorem r1{st:au}{eg:bw}{b:Nat}(aa:b<st.ai):(ao.set st.h st.ai eg).get b=st.h.get b:=ao.h6 _ _ (by omega)
theorem ZJ{s:cS}{k o m:Nat}{a x:Operand}{K:af->List a3->Nat->Option β}(h:IW s.own s.n s.env k o m x K=some r)(hm:iR s.env (.store m a x)=some k)
 (ha:∀{H:bF} {ids:List Nat} {fr:aT},c3 fr H ids s.env->∃b,ids[k]? =some b∧fr.aj a= .pointer (some ⟨b,o,none⟩)):∃a' bu b8,K a' bu b8=some r∧yC call (.store m a x) s a' bu b8:=by
 unfold IW at h;split at h<;>try cases h
 rename_i el cs U;split at h<;>try cases h
 rename_i c J;split at h<;>try cases h
 rename_i ds iu;split at h<;>try cases h
 rename_i hl;split at h<;>try cases h
 rename_i hc;obtain⟨h1,h2⟩:=HI h;have h3:=jT h2;refine⟨_,_,_,h3,?_⟩;intro H ids st fr ar ab;obtain⟨b,aa,aH⟩:=ha ab;obtain⟨⟨vs,dN,d⟩,_⟩:=ar.own k _ b U aa;obtain⟨hp,d2⟩:=E3 iu (ab.aj J);have hl:=GZ hl;have pE:=hI d2;have Lm:=hI d;refine⟨undef,_,ids,?_,ar.g3 U rfl aa ⟨_,rfl,Kr o d d2⟩,⟨[],rfl,rfl⟩,cM.refl _,fun _ _ _ B=>B.g3 (List.mem_of_getElem? aa) _,b5 _,?_⟩
 ·have:b2 call (.store m a x) fr st=iD (fr.aj a) (fun p=>bl p (fun a=>et (ec (ik (fr.aj x))) m (cond (hH (ik (fr.aj x))) (st.store a (ik (fr.aj x)) (fun st=>aZ.ok undef fr st) .no) .no) .no) .no) .no:=rfl;rw[this,aH,tN,Sym.eY,fU,jI (by omega),BE hc d2,cond_true];unfold au.store au.gL;rw[Sym.ia,dN,kU,eX (b5 _),qR,if_pos (by show o+_<=_;omega),kt]
 ·intro er _ hne;show(st.h.set b _).get er=_;exact ao.h6 _ _ (fun e=>hne k hm (e▸aa))
theorem OX{s:cS}{K:af->List a3->Nat->Option β}{o:dd}(h:EI s.own s.n s.env K o=some r):∃a bu b8,K a bu b8=some r∧yC call o s a bu b8:=by
 cases o<;>simp only[EI]at h
 case alloc z el=>
  refine⟨_,_,_,qN (sb (Dz h)),?_⟩;intro H ids st fr ar ab;obtain⟨h1,h2⟩:=Ms ar (el:=el) (uz H ids z);refine⟨_,_,_,?_,h1,⟨_,h2,rfl⟩,cM.app _ _,fun _ _ _ B=>B.add _,Nat.le_succ _,fun b aa _=>r1 aa⟩;have:b2 call (.alloc z el) fr st=st.jv (.cells z el (0,0) false) fun id st=>.ok (.pointer (some ⟨id,0,none⟩)) fr st:=rfl;rw[this,gv]
 case box el x=>
  split at h<;>try cases h
  rename_i a J;split at h<;>try cases h
  rename_i ds iu;refine⟨_,_,_,qN (sb h),?_⟩;intro H ids st fr ar ab;obtain⟨hp,d⟩:=E3 iu (ab.aj J);obtain⟨h1,h2⟩:=Ms ar (el:=el) d;refine⟨_,_,_,?_,h1,⟨_,h2,rfl⟩,cM.app _ _,fun _ _ _ B=>B.add _,Nat.le_succ _,fun b aa _=>r1 aa⟩;have:b2 call (.box el x) fr st=cond (s9 (fr.aj x)) .no (st.jv (.cells (ik (fr.aj x)) el (0,0) false) fun id st=>.ok (.pointer (some ⟨id,0,none⟩)) fr st):=rfl;rw[this,hp,cond_false,gv]
 case ot el len z ps=>
  obtain⟨cs',aL,aR⟩:=FG (Dz h);refine⟨_,_,_,qN (sb aR),?_⟩;intro H ids st fr ar ab;obtain⟨fX,d,a7⟩:=FH ab aL (uz H ids z);obtain⟨h1,h2⟩:=Ms ar (el:=el) d;refine⟨_,_,_,?_,h1,⟨_,h2,rfl⟩,cM.app _ _,fun _ _ _ B=>B.add _,Nat.le_succ _,fun b aa _=>r1 aa⟩;have:b2 call (.ot el len z ps) fr st=nP fr ps z fun cs=>st.jv (.cells cs el (0,0) false) fun id st=>.ok (.slice (some ⟨id,0,none⟩) len len) fr st:=rfl;rw[this,a7,gv,Nat.zero_mul]
 case build z ps=>
  obtain⟨cs',aL,aR⟩:=FG (Dz h);refine⟨_,_,_,aR,?_⟩;intro H ids st fr ar ab;obtain⟨fX,d,a7⟩:=FH ab aL (uz H ids z);refine⟨.agg ⟨fX⟩,st,ids,?_,ar,⟨_,rfl,d⟩,cM.refl _,fun _ _ _ B=>B,b5 _,fun b aa _=>rfl⟩;have:b2 call (.build z ps) fr st=nP fr ps z fun cs=>.ok (.agg ⟨cs⟩) fr st:=rfl;rw[this,a7]
 case store m a x=>
  split at h<;>try cases h
  ·rename_i k o ha;exact ZJ h (by simp[iR,ha]) fun ab=>by obtain⟨b,h1,h2⟩:=ab.aj ha;exact⟨b,h1,h2⟩
  ·rename_i k z j o ha;exact ZJ h (by simp[iR,ha]) fun ab=>by obtain⟨b,h1,h2⟩:=ab.aj ha;exact⟨b,h1,h2⟩
 all_goals cases h
end
structure gx where
 call:bQ
 cd:Nat
 fn:FuncId
 b9:bF
 i0:List Nat
 aJ:au
 Q:dF->cS->Prop
inductive eQ where
 |seq (c:dy)
 |cJ (i:Nat)
 |b4 (OM:cS->Prop)
inductive bz where
 |c (c:dy)
 |o (l:List bL)
 |x (e:dF)
 |d (l:List (bL×cL)) (bO:List a3) (aU:bT) (bf cf:Nat)
variable(aF:gx)
def tZ(Q:dF->cS->Prop):dF->aT->au->Prop:=fun x fr st=>∃H ids s,dM aF.b9 aF.i0 aF.aJ H ids st∧Fit H ids st s.own s.n∧c3 fr H ids s.env∧Q x s
def OO(Q:dF->cS->Prop)(c:dy)(s:cS):Prop:=∀H ids st fr,dM aF.b9 aF.i0 aF.aJ H ids st->Fit H ids st s.own s.n->c3 fr H ids s.env->W (dA aF.call aF.cd aF.fn c fr st) (tZ aF Q)
def abB(Q:dF->cS->Prop)(l:List bL)(s:cS):Prop:=∀H ids st fr,dM aF.b9 aF.i0 aF.aJ H ids st->Fit H ids st s.own s.n->c3 fr H ids s.env->W (iJ aF.call l fr st) (tZ aF Q)
structure abD(fE H:bF)(ids:List Nat)(st:au)(bO:List a3)(aU:bT)(bf cf:Nat)(ah:List (ao bw))(fr:aT):Prop where
 len:ah.length=bf
 hle:dt fE H
 fH:∀j a,dO aU j=some a->den fE a ids (fr.tmp j)
 pX:bO.length<=ids.length
 xK:cf<=ids.length
 bO:∀(k:Nat) (o:a3) (b:Nat),bO[k]? =some o->o.live=true->ids[k]? =some b->mz fE ids o (st.h.get b)∧∀h∈ah,h.get b=st.h.get b
 old:∀h∈ah,∀b o,fE b=some o->h.get b=some o
 top:∀h,ah.head?=some h->(∀b o,H b=some o->h.get b=some o)∧∀k b:Nat,k<cf->ids[k]? =some b->h.get b=st.h.get b
def abA(Q:dF->cS->Prop)(l:List (bL×cL))(bO:List a3)(aU:bT)(bf cf:Nat)(s:cS):Prop:=∀H ids st fr fE ah,dM aF.b9 aF.i0 aF.aJ H ids st->Fit H ids st s.own s.n->c3 fr H ids s.env->abD fE H ids st bO aU bf cf ah fr->W (hR aF.call l ah fr st) (tZ aF Q)
def Sem:List eQ->dF->cS->Prop
 |[]=>aF.Q
 |.seq c::K=>fun x s=>match x with
  |.norm=>OO aF (Sem K) c s
  |x=>Sem K x s
 |.cJ i::K=>fun x s=>match x with
  |.exit j=>if j=i then Sem K .norm s else Sem K (.exit j) s
  |x=>Sem K x s
 |.b4 OM::K=>fun x s=>match x with
  |.norm=>OM s
  |x=>Sem K x s
def R(K:List eQ)(c:bz)(s:cS):Prop:=
 match c with
 |.c c=>OO aF (Sem aF K) c s
 |.o l=>abB aF (Sem aF K) l s
 |.x e=>Sem aF K e s
 |.d l bO aU bf cf=>abA aF (Sem aF K) l bO aU bf cf s
structure a2 where
 K:List eQ
 c:bz
 s:cS
def a2.ok(g:a2):Prop:=R aF g.K g.c g.s
def fA(d:Option Tmp)(a:af)(e:bT):bT:=
 match d with
 |none=>e
 |some d=>(d,a)::e
section
def Bs(own:List a3)(n:Nat)(e:bT)(o:dd)(K:af->List a3->Nat->Option a2):Option a2:=
 match Bj e o with
 |some a=>K a own n
 |none=>match uf own e o with
  |some a=>K a own n
  |none=>EI own n e K o
def sJ(d:Option Tmp)(e:bT):bT:=
 match d with
 |none=>e
 |some d=>mC d e
def Ky:List Nat->bT->bT
 |[],e=>e
 |d::ds,e=>Ky ds (mC d e)
def DE{β:Type _}(bO:List a3)(m:Option Nat)(K:List a3->Option β):Option β:=
 match m with
 |none=>K bO
 |some k=>match bO[k]? with
  |some _=>iT bO k .x K
  |none=>K bO
def PC(bO:List a3)(e:bT)(o:dd):Option af:=
 match Bj e o with
 |some a=>some a
 |none=>uf bO e o
def y6{β:Type _}(d:Nat):bT->(bT->Option β)->Option β
 |[],K=>K []
 |p::l,K=>match Nat.beq p.1 d with
  |true=>y6 d l K
  |false=>y6 d l fun r=>K (p::r)
def pg(K:List eQ)(d:Option Tmp)(l:List (bL×cL))(bO:List a3)(aU:bT)(bf cf:Nat)(own:List a3)(n:Nat)(a:af)(e:bT)(kk:Option af):Option a2:=
 match d with
 |none=>some ⟨K,.d l bO aU bf cf,⟨own,n,e⟩⟩
 |some d=>match kk with
  |some kk=>some ⟨K,.d l bO ((d,kk)::aU) bf cf,⟨own,n,(d,a)::e⟩⟩
  |none=>y6 d aU fun afy=>some ⟨K,.d l bO afy bf cf,⟨own,n,(d,a)::e⟩⟩
def KA(K:List eQ)(d:Option Tmp)(o:dd)(c:cL)(l:List (bL×cL))(bO:List a3)(aU:bT)(bf cf:Nat)(own:List a3)(n:Nat)(e:bT):Option a2:=
 match c with
 |.eO=>Bs own n e o fun a bu b8=>DE bO (iR e o) fun hX=>oR bf fun Kj=>pg K d l hX aU Kj b8 bu b8 a e none
 |.hP ts=>EI own n (e7 ts e) (fun a bu b8=>match iR (e7 ts e) o with
  |none=>pg K d l bO aU bf cf bu b8 a e none
  |some _=>none) o
 |.read back ts=>match Nat.ble (back+1) bf with
  |true=>match PC bO (e7 ts aU) o with
   |some kk=>pg K d l bO aU bf cf own n kk e (some kk)
   |none=>match Bj (e7 ts e) o with
    |some a=>pg K d l bO aU bf cf own n a e none
    |none=>match back with
     |0=>match uf own (e7 ts e) o with
      |some a=>match pQ (e7 ts e) o with
       |none=>pg K d l bO aU bf cf own n a e none
       |some k=>match Nat.ble (k+1) cf with
        |true=>pg K d l bO aU bf cf own n a e none
        |false=>none
      |none=>none
     |_=>none
  |false=>none
def E8(c:cL)(e:bT):bT:=
 match c with
 |.eO=>e
 |.hP ts=>e7 ts e
 |.read _ ts=>e7 ts e
def BW(K:List eQ)(d:Option Tmp)(c:cL)(l:List (bL×cL))(bO:List a3)(aU:bT)(bf cf:Nat)(own:List a3)(n:Nat)(e:bT):Option a2:=
 match c with
 |.eO=>oR bf fun Kj=>pg K d l bO aU Kj n own n (.bB []) e none
 |_=>pg K d l bO aU bf cf own n (.bB []) e none
def Dx(K:List eQ)(l:List bL)(d:Option Tmp)(own:List a3)(n:Nat)(e:bT):Option a2:=
 match d with
 |none=>some ⟨K,.o l,⟨own,n,e⟩⟩
 |some d=>some ⟨K,.o l,⟨own,n,(d,.bB [])::e⟩⟩
def Kz{β:Type _}:List Nat->bT->(bT->Option β)->Option β
 |[],e,K=>K e
 |d::ds,e,K=>y6 d e fun cK=>Kz ds cK K
def Eh:a2->Option a2
 |⟨K,.c .skip,s⟩=>some ⟨K,.x .norm,s⟩
 |⟨K,.c (.yb l),s⟩=>some ⟨K,.o l,s⟩
 |⟨K,.c (.seq a b),s⟩=>some ⟨.seq b::K,.c a,s⟩
 |⟨K,.c (.block i a),s⟩=>some ⟨.cJ i::K,.c a,s⟩
 |⟨K,.c (.exit i),s⟩=>some ⟨K,.x (.exit i),s⟩
 |⟨K,.c .ret,s⟩=>some ⟨K,.x .ret,s⟩
 |⟨K,.c (.scope a),s⟩=>some ⟨K,.c a,s⟩
 |⟨K,.c (.cond c a b),s⟩=>match bI s.env c with
  |some (.b true)=>some ⟨K,.c a,s⟩
  |some (.b false)=>some ⟨K,.c b,s⟩
  |_=>none
 |⟨K,.o [],s⟩=>some ⟨K,.x .norm,s⟩
 |⟨K,.o (⟨some d,o,none⟩::l),⟨own,n,e⟩⟩=>Bs own n e o fun a bu b8=>some ⟨K,.o l,⟨bu,b8,(d,a)::e⟩⟩
 |⟨K,.o (⟨none,o,none⟩::l),⟨own,n,e⟩⟩=>Bs own n e o fun _ bu b8=>some ⟨K,.o l,⟨bu,b8,e⟩⟩
 |⟨K,.o (⟨d,o,some (t,b)⟩::l),⟨own,n,e⟩⟩=>match dO e t with
  |some (.b true)=>match b with
   |true=>some ⟨K,.o (⟨d,o,none⟩::l),⟨own,n,e⟩⟩
   |false=>Dx K l d own n e
  |some (.b false)=>match b with
   |false=>some ⟨K,.o (⟨d,o,none⟩::l),⟨own,n,e⟩⟩
   |true=>Dx K l d own n e
  |some (.bB _)=>Dx K l d own n e
  |_=>none
 |⟨K,.c (.sI l _ dZ _),⟨own,n,e⟩⟩=>Kz dZ e fun cK=>some ⟨K,.d l own cK 1 n,⟨own,n,cK⟩⟩
 |⟨K,.d [] _ _ _ _,s⟩=>some ⟨K,.x .norm,s⟩
 |⟨K,.d ((⟨d,o,none⟩,c)::l) bO aU bf cf,⟨own,n,e⟩⟩=>KA K d o c l bO aU bf cf own n e
 |⟨K,.d ((⟨d,o,some (t,b)⟩,c)::l) bO aU bf cf,⟨own,n,e⟩⟩=>match dO (E8 c e) t with
  |some (.b true)=>match b with
   |true=>some ⟨K,.d ((⟨d,o,none⟩,c)::l) bO aU bf cf,⟨own,n,e⟩⟩
   |false=>BW K d c l bO aU bf cf own n e
  |some (.b false)=>match b with
   |false=>some ⟨K,.d ((⟨d,o,none⟩,c)::l) bO aU bf cf,⟨own,n,e⟩⟩
   |true=>BW K d c l bO aU bf cf own n e
  |some (.bB _)=>BW K d c l bO aU bf cf own n e
  |_=>none
 |⟨.seq c::K,.x .norm,s⟩=>some ⟨K,.c c,s⟩
 |⟨.seq _::K,.x (.exit i),s⟩=>some ⟨K,.x (.exit i),s⟩
 |⟨.seq _::K,.x .ret,s⟩=>some ⟨K,.x .ret,s⟩
 |⟨.cJ _::K,.x .norm,s⟩=>some ⟨K,.x .norm,s⟩
 |⟨.cJ i::K,.x (.exit j),s⟩=>match Nat.beq j i with
  |true=>some ⟨K,.x .norm,s⟩
  |false=>some ⟨K,.x (.exit j),s⟩
 |⟨.cJ _::K,.x .ret,s⟩=>some ⟨K,.x .ret,s⟩
 |⟨.b4 _::K,.x (.exit i),s⟩=>some ⟨K,.x (.exit i),s⟩
 |⟨.b4 _::K,.x .ret,s⟩=>some ⟨K,.x .ret,s⟩
 |_=>none
end
section
variable{aF:gx}{K:List eQ}{s:cS}
theorem c3.fA{fr:aT}{H:bF}{ids:List Nat}{e:bT}(h:c3 fr H ids e)(d:Option Tmp){v:Value}{a:af}(aH:den H a ids v):c3 (fr.put d v) H ids (Go.an.fA d a e):=by
 cases d with
 |none=>exact h
 |some d=>exact h.put d aH
theorem JT{call:bQ}{o:dd}{C:af->List a3->Nat->Option a2}{r:a2}(h:Bs s.own s.n s.env o C=some r):∃a bu b8,C a bu b8=some r∧gy call o s a bu b8:=by
 unfold Bs at h;split at h
 ·rename_i a ha;refine⟨a,_,_,h,fun H ids st fr ar ab=> ?_⟩;obtain⟨v,av,he⟩:=JF (call:=call) ab ha;exact⟨v,st,ids,H,he st,ar,av,dt.refl _,cM.refl _,fun _ _ _ B=>B,b5 _,fun _ _ _=>rfl⟩
 ·split at h
  ·rename_i a ha;refine⟨a,_,_,h,fun H ids st fr ar ab=> ?_⟩;obtain⟨v,av,he⟩:=JA (call:=call) ab (by rw[ar.len,ar.cq];exact b5 _) (fun k o b U _ aa=>(ar.own k o b U aa).1) ha;exact⟨v,st,ids,H,he st (.inl ar.le) (fun _ _ _ _=>rfl),ar,av,dt.refl _,cM.refl _,fun _ _ _ B=>B,b5 _,fun _ _ _=>rfl⟩
  ·obtain⟨a,bu,b8,h1,h2⟩:=OX (call:=call) h;exact⟨a,bu,b8,h1,h2.to⟩
theorem D4{d:Option Tmp}{o:dd}{l:List bL}{bu:List a3}{b8:Nat}{a:af}(h:v3 aF.b9 aF.call o s a bu b8)(k:R aF K (.o l) ⟨bu,b8,fA d a s.env⟩):R aF K (.o (⟨d,o,none⟩::l)) s:=by
 intro H ids st fr a5 ar ab;obtain⟨v,st',cU,bs,h1,h2,h3,b7,ay,aY,_⟩:=h H ids st fr a5.hle ar ab;exact vQ h1 (k bs cU st' _ (aY _ _ _ a5) h2 ((ab.mono b7 ay).fA d h3))
theorem IG{d:Option Tmp}{o:dd}{l:List bL}{bu:List a3}{b8:Nat}{a:af}(h:gy aF.call o s a bu b8)(k:R aF K (.o l) ⟨bu,b8,fA d a s.env⟩):R aF K (.o (⟨d,o,none⟩::l)) s:=D4 h.g k
theorem wu{fr:aT}{fE:bF}{ids:List Nat}{aU:bT}(h:∀j a,dO aU j=some a->den fE a ids (fr.tmp j))(d:Option Tmp)(v:Value):∀j a,dO (sJ d aU) j=some a->den fE a ids ((fr.put d v).tmp j):=by
 cases d with
 |none=>exact h
 |some d=>
  intro j a hj;obtain⟨h1,h2⟩:=G3 d aU j a hj;rw[AV,if_neg h1];exact h j a h2
theorem afg{fr:aT}{fE:bF}{ids:List Nat}{aU:bT}(h:∀j a,dO aU j=some a->den fE a ids (fr.tmp j))(d:Option Tmp){v:Value}{b:af}(aH:den fE b ids v):∀j a,dO (fA d b aU) j=some a->den fE a ids ((fr.put d v).tmp j):=by
 cases d with
 |none=>exact h
 |some d=>
  intro j a hj;have hj:cond (Nat.beq d j) (some b) (dO aU j)=some a:=hj;rw[AV];cases aa:Nat.beq d j with
  |true=>
   rw[aa]at hj;rw[if_pos (ep aa).symm];cases hj;exact aH
  |false=>
   rw[aa]at hj;rw[if_neg (fun e=>by rw[e,Nat.beq_refl]at aa;cases aa)];exact h j a hj
theorem Fv{β:Type _}{r:β}{d:Nat}:∀{e:bT} {C:bT->Option β},y6 d e C=some r->C (mC d e)=some r
 |[],_,h=>h
 |p::l,C,h=>by
  unfold y6 at h;unfold mC;cases aa:Nat.beq p.1 d with
  |true=>rw[aa]at h;exact Fv (e:=l) h
  |false=>rw[aa]at h;exact Fv (e:=l) h
theorem QU{β:Type _}{r:β}:∀{ds:List Nat} {e:bT} {C:bT->Option β},Kz ds e C=some r->C (Ky ds e)=some r
 |[],_,_,h=>h
 |_::ds,_,_,h=>QU (ds:=ds) (Fv h)
theorem wq{d:Option Tmp}{l:List (bL×cL)}{bO:List a3}{aU:bT}{bf cf:Nat}{own:List a3}{n:Nat}{a:af}{e:bT}{g:a2}(h:pg K d l bO aU bf cf own n a e none=some g)(k:g.ok aF):R aF K (.d l bO (sJ d aU) bf cf) ⟨own,n,fA d a e⟩:=by
 unfold pg at h;split at h
 ·cases h;exact k
 ·have:=Fv h;cases this;exact k
theorem ae9{d:Option Tmp}{l:List (bL×cL)}{bO:List a3}{aU:bT}{bf cf:Nat}{own:List a3}{n:Nat}{a:af}{e:bT}{g:a2}(h:pg K d l bO aU bf cf own n a e (some a)=some g)(k:g.ok aF):R aF K (.d l bO (fA d a aU) bf cf) ⟨own,n,fA d a e⟩:=by
 unfold pg at h;split at h
 ·cases h;exact k
 ·cases h;exact k
theorem MG{d:Option Tmp}{l:List bL}{own:List a3}{n:Nat}{e:bT}{g:a2}(h:Dx K l d own n e=some g)(k:g.ok aF):R aF K (.o l) ⟨own,n,fA d (.bB []) e⟩:=by
 unfold Dx at h;split at h
 ·cases h;exact k
 ·cases h;exact k
theorem M3{β:Type _}{r:β}{bO:List a3}{m:Option Nat}{C:List a3->Option β}(h:DE bO m C=some r):∃hX,C hX=some r∧hX.length=bO.length∧∀(k:Nat) (o:a3),hX[k]? =some o->o.live=true->bO[k]? =some o∧m≠some k:=by
 unfold DE at h;split at h
 ·exact⟨_,h,rfl,fun k o U _=>⟨U,by simp⟩⟩
 ·rename_i m;split at h
  ·refine⟨_,jT h,by simp,fun k o U hl=> ?_⟩;rw[List.getElem?_set]at U;by_cases Lk:m=k
   ·rw[if_pos Lk]at U;split at U<;>cases U;cases hl
   ·rw[if_neg Lk]at U;exact⟨U,by simpa using Lk⟩
  ·rename_i hn;refine⟨_,h,rfl,fun k o U hl=>⟨U,fun e=> ?_⟩⟩;cases e;rw[hn]at U;cases U
theorem Kp{d:Option Tmp}{o:dd}{l:List (bL×cL)}{bO hX:List a3}{aU:bT}{bf cf b8:Nat}{bu:List a3}{a:af}(h:v3 aF.b9 aF.call o s a bu b8)(hl:hX.length=bO.length)(h1:∀(k:Nat) (bd:a3),hX[k]? =some bd->bd.live=true->bO[k]? =some bd∧iR s.env o≠some k)
 (k:R aF K (.d l hX (sJ d aU) (bf+1) b8) ⟨bu,b8,fA d a s.env⟩):R aF K (.d ((⟨d,o,none⟩,.eO)::l) bO aU bf cf) s:=by
 intro H ids st fr fE ah a5 ar ab ch;obtain⟨v,st',cU,bs,aL,aR,a7,cl,dc,eI,g8,nR⟩:=h H ids st fr a5.hle ar ab;have uS:∀(k:Nat) (b:Nat),k<ids.length->cU[k]? =some b->ids[k]? =some b:=fun k b U aa=>by
  have:=dc k _ (a9 U);rw[aa]at this;rw[a9 U,this]
 have Gh:∀(k:Nat) (b:Nat),iR s.env o≠some k->ids[k]? =some b->st'.h.get b=st.h.get b:=fun k b U aa=>by
  refine nR b (ar.lt b (List.mem_of_getElem? aa)) fun k' fu cT=> ?_;have aA:=List.getElem?_eq_some_iff.1 aa;have e2:=List.getElem?_eq_some_iff.1 cT;have:=(List.getElem_inj (h₀:=aA.1) (h₁:=e2.1) ar.iz).1 (aA.2.trans e2.2.symm);exact U (this▸fu)
 have gq:=k bs cU st' (fr.put d v) fE (st'.h::ah) (eI _ _ _ a5) aR ((ab.mono cl dc).fA d a7) ⟨by simp[ch.len],ch.hle.trans cl,wu (fun j a hj=>sH (dt.refl _) _ dc (ch.fH j a hj)) d v,?_,by rw[aR.len];exact b5 _,?_,?_,?_⟩
 ·refine W.of_eq ?_ gq;show aZ.rec (motive:=fun _=>cY) (fun v aI st'=>eo st.ai st'.ai (hR aF.call l (st'.h::ah) (aT.put ⟨fr.t,aI.c4,aI.bk,aI.cF,aI.b4⟩ d v) st') .no) (fun v st'=>cond o.m0 (GU l (.out (.bk v) fr st') .no) .no) .no (b2 aF.call o fr st)=_;rw[aL];show eo st.ai st'.ai _ _=_;rw[eX g8]
 ·rw[hl];have:ids.length<=cU.length:=by
   rcases Nat.lt_or_ge cU.length ids.length with aP|lz
   ·have:=dc cU.length _ (a9 aP);simp at this
   ·exact lz
  exact Nat.le_trans ch.pX this
 ·intro k bd b U uY aa;obtain⟨h2,h3⟩:=h1 k bd U uY;have Lj:k<ids.length:=e4 (List.getElem?_eq_some_iff.1 h2).1 ch.pX;have aa:=uS k b Lj aa;obtain⟨ay,aY⟩:=ch.bO k bd b h2 uY aa;have e:=Gh k b h3 aa;rw[e];refine⟨rn (dt.refl _) dc ay,fun h hm=> ?_⟩;rcases List.mem_cons.1 hm with rfl|hm
  ·exact e
  ·exact aY h hm
 ·intro h hm b bd aa;rcases List.mem_cons.1 hm with rfl|hm
  ·exact aR.le _ _ (cl _ _ (ch.hle _ _ aa))
  ·exact ch.old h hm b bd aa
 ·intro h hm;simp at hm;subst hm;exact⟨aR.le,fun _ _ _ _=>rfl⟩
theorem BP{d:Option Tmp}{o:dd}{l:List (bL×cL)}{bO hX:List a3}{aU:bT}{bf cf b8:Nat}{bu:List a3}{a:af}(h:gy aF.call o s a bu b8)(hl:hX.length=bO.length)(h1:∀(k:Nat) (bd:a3),hX[k]? =some bd->bd.live=true->bO[k]? =some bd∧iR s.env o≠some k)
 (k:R aF K (.d l hX (sJ d aU) (bf+1) b8) ⟨bu,b8,fA d a s.env⟩):R aF K (.d ((⟨d,o,none⟩,.eO)::l) bO aU bf cf) s:=Kp h.g hl h1 k
theorem LV{i j:List Nat}(h:cM i j):i.length<=j.length:=by
 rcases Nat.lt_or_ge j.length i.length with aP|lz
 ·have:=h j.length _ (a9 aP);simp at this
 ·exact lz
theorem QJ{d:Option Tmp}{o:dd}{ts:List Tmp}{l:List (bL×cL)}{bO:List a3}{aU:bT}{bf cf b8:Nat}{bu:List a3}{a:af}(h:yC aF.call o ⟨s.own,s.n,e7 ts s.env⟩ a bu b8)(hm:iR (e7 ts s.env) o=none)
 (k:R aF K (.d l bO (sJ d aU) bf cf) ⟨bu,b8,fA d a s.env⟩):R aF K (.d ((⟨d,o,none⟩,.hP ts)::l) bO aU bf cf) s:=by
 intro H ids st fr fE ah a5 ar ab ch;obtain⟨v,st',cU,aL,aR,a7,dc,eI,g8,nR⟩:=h H ids st (fr.only ts) ar (ab.only ts);have uS:∀(k:Nat) (b:Nat),k<ids.length->cU[k]? =some b->ids[k]? =some b:=fun k b U aa=>by
  have:=dc k _ (a9 U);rw[aa]at this;rw[a9 U,this]
 have Gh:∀(k:Nat) (b:Nat),ids[k]? =some b->st'.h.get b=st.h.get b:=fun k b aa=>nR b (ar.lt b (List.mem_of_getElem? aa)) fun k' fu=>by rw[hm]at fu;cases fu
 have gq:=k H cU st' (fr.put d v) fE ah (eI _ _ _ a5) aR ((ab.mono (dt.refl _) dc).fA d a7) ⟨ch.len,ch.hle,wu (fun j a hj=>sH (dt.refl _) _ dc (ch.fH j a hj)) d v,Nat.le_trans ch.pX (LV dc),Nat.le_trans ch.xK (LV dc),?_,ch.old,?_⟩
 ·refine W.of_eq ?_ gq;show n0 fr.t ts (fun t=>aZ.rec (motive:=fun _=>cY) (fun v _ st'=>hR aF.call l ah (fr.put d v) st') (fun _ _=>.no) .no (b2 aF.call o ⟨t,[],none,false,none⟩ st))=_;rw[r2];have e:b2 aF.call o ⟨DB fr.t ts,[],none,false,none⟩ st= .ok v (fr.only ts) st':=aL;rw[e]
 ·intro k bd b U uY aa;have Lj:k<ids.length:=e4 (List.getElem?_eq_some_iff.1 U).1 ch.pX;have aa:=uS k b Lj aa;obtain⟨ay,aY⟩:=ch.bO k bd b U uY aa;rw[Gh k b aa];exact⟨rn (dt.refl _) dc ay,aY⟩
 ·intro h kI;obtain⟨h1,h2⟩:=ch.top h kI;refine⟨h1,fun k b U aa=> ?_⟩;have aa:=uS k b (e4 U ch.xK) aa;rw[Gh k b aa];exact h2 k b U aa
theorem NF{o:dd}{d:Option Tmp}{ts:List Tmp}{back:Nat}{l:List (bL×cL)}{ah:List (ao bw)}{fr:aT}{st:au}{v:Value}{Q:dF->aT->au->Prop}(h1:b2 aF.call o (fr.only ts) st= .ok v (fr.only ts) st)(h2:∀h∈ah.take (back+1),b2 aF.call o (fr.only ts) ⟨h,st.ai⟩= .ok v (fr.only ts) ⟨h,st.ai⟩)(hl:back<ah.length)
 (k:W (hR aF.call l ah (fr.put d v) st) Q):W (hR aF.call ((⟨d,o,none⟩,.read back ts)::l) ah fr st) Q:=by
 refine atf (fun h hm=> ?_) hl k;rcases List.mem_cons.1 hm with rfl|hm
 ·exact h1
 ·exact h2 h hm
theorem rm{d:Option Tmp}{o:dd}{ts:List Tmp}{back:Nat}{l:List (bL×cL)}{bO:List a3}{aU:bT}{bf cf:Nat}{a:af}(aa:back<bf)
 (h:∀(H:bF) (ids:List Nat) (st:au) (fr:aT),c3 fr H ids (e7 ts aU)->bO.length<=ids.length->(∀(k:Nat) (o:a3) (b:Nat),bO[k]? =some o->o.live=true->ids[k]? =some b->mz H ids o (st.h.get b))->
  ∃v,den H a ids v∧∀ek:au,(∀b o,H b=some o->ek.h.get b=some o)->(∀(k:Nat) (o:a3) (b:Nat),bO[k]? =some o->o.live=true->ids[k]? =some b->ek.h.get b=st.h.get b)->b2 aF.call o fr ek= .ok v fr ek)
 (k:R aF K (.d l bO (fA d a aU) bf cf) ⟨s.own,s.n,fA d a s.env⟩):R aF K (.d ((⟨d,o,none⟩,.read back ts)::l) bO aU bf cf) s:=by
 intro H ids st fr fE ah a5 ar ab ch;have pB:c3 fr fE ids aU:=⟨ab.pl,ch.fH⟩;obtain⟨v,h1,h2⟩:=h fE ids st (fr.only ts) (pB.only ts) ch.pX (fun k o b U hl aa=>(ch.bO k o b U hl aa).1);have gq:=k H ids st (fr.put d v) fE ah a5 ar (ab.fA d (sH ch.hle _ (cM.refl _) h1)) ⟨ch.len,ch.hle,afg ch.fH d h1,ch.pX,ch.xK,ch.bO,ch.old,ch.top⟩;refine NF (h2 st (fun b o ako=>ar.le _ _ (ch.hle _ _ ako)) (fun _ _ _ _ _ _=>rfl)) (fun h hm=> ?_) (by rw[ch.len];exact aa) gq;have hm:=List.mem_of_mem_take hm;exact h2 ⟨h,st.ai⟩ (ch.old h hm) (fun k o b U hl aa=>(ch.bO k o b U hl aa).2 h hm)
theorem ae3{d:Option Tmp}{o:dd}{ts:List Tmp}{back:Nat}{l:List (bL×cL)}{bO:List a3}{aU:bT}{bf cf:Nat}{a:af}(aa:back<bf)
 (h:∀(H:bF) (ids:List Nat) (fr:aT),c3 fr H ids (e7 ts s.env)->∃v,den H a ids v∧∀st,b2 aF.call o fr st= .ok v fr st)
 (k:R aF K (.d l bO (sJ d aU) bf cf) ⟨s.own,s.n,fA d a s.env⟩):R aF K (.d ((⟨d,o,none⟩,.read back ts)::l) bO aU bf cf) s:=by
 intro H ids st fr fE ah a5 ar ab ch;obtain⟨v,h1,h2⟩:=h H ids (fr.only ts) (ab.only ts);have gq:=k H ids st (fr.put d v) fE ah a5 ar (ab.fA d h1) ⟨ch.len,ch.hle,wu ch.fH d v,ch.pX,ch.xK,ch.bO,ch.old,ch.top⟩;exact NF (h2 st) (fun h hm=>h2 _) (by rw[ch.len];exact aa) gq
theorem ae2{d:Option Tmp}{o:dd}{ts:List Tmp}{l:List (bL×cL)}{bO:List a3}{aU:bT}{bf cf:Nat}{a:af}(aa:0<bf)
 (h:∀(H:bF) (ids:List Nat) (st:au) (fr:aT),Fit H ids st s.own s.n->c3 fr H ids (e7 ts s.env)->∃v,den H a ids v∧∀ek:au,(∀b o,H b=some o->ek.h.get b=some o)->(∀k b:Nat,k<cf->ids[k]? =some b->ek.h.get b=st.h.get b)->b2 aF.call o fr ek= .ok v fr ek)
 (k:R aF K (.d l bO (sJ d aU) bf cf) ⟨s.own,s.n,fA d a s.env⟩):R aF K (.d ((⟨d,o,none⟩,.read 0 ts)::l) bO aU bf cf) s:=by
 intro H ids st fr fE ah a5 ar ab ch;obtain⟨v,h1,h2⟩:=h H ids st (fr.only ts) ar (ab.only ts);have gq:=k H ids st (fr.put d v) fE ah a5 ar (ab.fA d h1) ⟨ch.len,ch.hle,wu ch.fH d v,ch.pX,ch.xK,ch.bO,ch.old,ch.top⟩;refine NF (h2 st ar.le (fun _ _ _ _=>rfl)) (fun h hm=> ?_) (by rw[ch.len];exact aa) gq;have hl:=ch.len
 match ah,hl,hm with
 |[],hl,_=>simp at hl;omega
 |h0::ah,_,hm=>
  simp at hm;subst hm;obtain⟨aL,aR⟩:=ch.top h rfl;exact h2 ⟨h,st.ai⟩ aL aR
theorem afx{d:Option Tmp}{o:dd}{c:cL}{l:List (bL×cL)}{bO:List a3}{aU:bT}{bf cf:Nat}{g:a2}(h:KA K d o c l bO aU bf cf s.own s.n s.env=some g)(k:g.ok aF):R aF K (.d ((⟨d,o,none⟩,c)::l) bO aU bf cf) s:=by
 unfold KA at h;split at h
 ·obtain⟨a,bu,b8,h1,h2⟩:=JT (call:=aF.call) h;obtain⟨hX,h3,ay,aY⟩:=M3 h1;exact BP h2 ay aY (wq (qN h3) k)
 ·rename_i ts;obtain⟨a,bu,b8,h1,h2⟩:=OX (call:=aF.call) (s:=⟨s.own,s.n,e7 ts s.env⟩) h;split at h1
  ·rename_i hm;exact QJ h2 hm (wq h1 k)
  ·cases h1
 ·rename_i back ts;split at h<;>try cases h
  rename_i aa;have aa:back<bf:=kx aa;split at h
  ·rename_i kk ha;refine rm aa (fun H ids st fr ab hl ak=> ?_) (ae9 h k);unfold PC at ha;split at ha
   ·rename_i J;cases ha;obtain⟨v,h1,h2⟩:=JF (call:=aF.call) ab J;exact⟨v,h1,fun ek _ _=>h2 ek⟩
   ·obtain⟨v,h1,h2⟩:=JA (call:=aF.call) ab hl ak ha;refine⟨v,h1,fun ek aL aR=>h2 ek (.inl aL) fun k b U aa=> ?_⟩;obtain⟨bd,fu,cu⟩:=ane ha U;exact aR k bd b fu cu aa
  ·split at h
   ·rename_i a ha;exact ae3 aa (fun H ids fr ab=>JF ab ha) (wq h k)
   ·split at h<;>try cases h
    split at h<;>try cases h
    rename_i a ha;have key:(∀k,pQ (e7 ts s.env) o=some k->k<cf)->a2.ok aF ⟨K,.d l bO (sJ d aU) bf cf,⟨s.own,s.n,fA d a s.env⟩⟩->R aF K (.d ((⟨d,o,none⟩,.read 0 ts)::l) bO aU bf cf) s:=fun U k=>by
     refine ae2 aa (fun H ids st fr ar ab=> ?_) k;obtain⟨v,h1,h2⟩:=JA (call:=aF.call) ab (by rw[ar.len,ar.cq];exact b5 _) (fun k o b U _ aa=>(ar.own k o b U aa).1) ha;exact⟨v,h1,fun ek aL aR=>h2 ek (.inl aL) fun k b fu cT=>aR k b (U k fu) cT⟩
    split at h
    ·rename_i hn;exact key (fun k U=>by rw[hn]at U;cases U) (wq h k)
    ·rename_i bD hn;split at h
     ·rename_i aP;exact key (fun k U=>by rw[hn]at U;cases U;exact kx aP) (wq h k)
     ·cases h
theorem Kw{d:Option Tmp}{o:dd}{t:Tmp}{b:Bool}{c:cL}{l:List (bL×cL)}{bO:List a3}{aU:bT}{bf cf:Nat}{g:a2}(aO:dO (E8 c s.env) t=some (.b (!b))∨∃vs,dO (E8 c s.env) t=some (.bB vs))(h:BW K d c l bO aU bf cf s.own s.n s.env=some g)(k:g.ok aF):R aF K (.d ((⟨d,o,some (t,b)⟩,c)::l) bO aU bf cf) s:=by
 have want:∀{fr:aT} {H:bF} {ids:List Nat} {e:bT} {y n z:cY},c3 fr H ids e->(dO e t=some (.b (!b))∨∃vs,dO e t=some (.bB vs))->hY fr (some (t,b)) y n z=n:=fun{fr H ids e y n z} ab aO=>by
  rcases aO with aO|⟨vs,aO⟩
  ·exact atx (ab.get _ _ aO)
  ·obtain⟨ws,aH,_⟩:=ab.get _ _ aO;show mT (fr.tmp t) (fun c=>cond c (cond b y n) (cond b n y)) (qb (fr.tmp t) (fun _=>n) z)=_;rw[aH];rfl
 unfold BW at h;intro H ids st fr fE ah a5 ar ab ch;split at h
 ·have k:=wq (qN h) k;have gq:=k H ids st (fr.put d undef) fE (st.h::ah) a5 ar (ab.fA d ⟨[],rfl,rfl⟩) ⟨by simp[ch.len],ch.hle,wu ch.fH d _,ch.pX,by rw[ar.len];exact b5 _,fun k o b U hl aa=> ?_,fun h hm=> ?_,fun h hm=> ?_⟩
  ·refine W.of_eq ?_ gq;show hY fr (some (t,b)) _ (hR aF.call l (st.h::ah) (fr.put d undef) st) _=_;exact want ab aO
  ·obtain⟨h1,h2⟩:=ch.bO k o b U hl aa;refine⟨h1,fun h hm=> ?_⟩;rcases List.mem_cons.1 hm with rfl|hm
   ·rfl
   ·exact h2 h hm
  ·rcases List.mem_cons.1 hm with rfl|hm
   ·exact fun b o aa=>ar.le _ _ (ch.hle _ _ aa)
   ·exact ch.old h hm
  ·simp at hm;subst hm;exact⟨ar.le,fun _ _ _ _=>rfl⟩
 ·rename_i hne;have k:=wq h k;have gq:=k H ids st (fr.put d undef) fE ah a5 ar (ab.fA d ⟨[],rfl,rfl⟩) ⟨ch.len,ch.hle,wu ch.fH d _,ch.pX,ch.xK,ch.bO,ch.old,ch.top⟩;refine W.of_eq ?_ gq;cases c with
  |eO=>exact absurd rfl hne
  |hP ts=>
   show n0 fr.t ts (fun gV=>hY ⟨gV,[],none,false,none⟩ (some (t,b)) _ _ _)=_;rw[r2];exact want (ab.only ts) aO
  |read back ts=>
   show n0 fr.t ts (fun gV=>hY ⟨gV,[],none,false,none⟩ (some (t,b)) _ _ _)=_;rw[r2];exact want (ab.only ts) aO
theorem QT{d:Option Tmp}{o:dd}{t:Tmp}{b:Bool}{c:cL}{l:List (bL×cL)}{bO:List a3}{aU:bT}{bf cf:Nat}(aO:dO (E8 c s.env) t=some (.b b))(k:R aF K (.d ((⟨d,o,none⟩,c)::l) bO aU bf cf) s):R aF K (.d ((⟨d,o,some (t,b)⟩,c)::l) bO aU bf cf) s:=by
 intro H ids st fr fE ah a5 ar ab ch;refine W.of_eq ?_ (k H ids st fr fE ah a5 ar ab ch);cases c with
 |eO=>
  show hY fr (some (t,b)) _ _ _=hY fr none _ _ _;exact Ot (ab.get _ _ aO)
 |hP ts=>
  show n0 fr.t ts (fun gV=>hY ⟨gV,[],none,false,none⟩ (some (t,b)) _ _ _)=n0 fr.t ts (fun gV=>hY ⟨gV,[],none,false,none⟩ none _ _ _);rw[r2,r2];exact Ot ((ab.only ts).get _ _ aO)
 |read back ts=>
  show n0 fr.t ts (fun gV=>hY ⟨gV,[],none,false,none⟩ (some (t,b)) _ _ _)=n0 fr.t ts (fun gV=>hY ⟨gV,[],none,false,none⟩ none _ _ _);rw[r2,r2];exact Ot ((ab.only ts).get _ _ aO)
theorem c3.XG{H:bF}{ids:List Nat}:∀(dZ:List Tmp) {fr:aT} {e:bT},c3 fr H ids e->c3 (oT fr dZ) H ids (Ky dZ e)
 |[],_,_,h=>h
 |d::dZ,_,_,h=>c3.XG dZ (h.afw d ib)
theorem N1{g jb:a2}(h:Eh g=some jb)(k:jb.ok aF):g.ok aF:=by
 unfold Eh at h;split at h
 ·cases h;exact fun H ids st fr a5 ar ab=>atu ⟨H,ids,_,a5,ar,ab,k⟩
 ·cases h;exact fun H ids st fr a5 ar ab=>atp (k H ids st fr a5 ar ab)
 ·cases h;intro H ids st fr a5 ar ab;refine att ((k H ids st fr a5 ar ab).mono ?_);rintro x aI st' ⟨bs,cU,br,dg,c6,eG,hq⟩;cases x with
  |norm=>exact hq bs cU st' aI dg c6 eG
  |exit i=>exact⟨bs,cU,br,dg,c6,eG,hq⟩
  |ret=>exact⟨bs,cU,br,dg,c6,eG,hq⟩
  |bk v=>exact⟨bs,cU,br,dg,c6,eG,hq⟩
 ·cases h;rename_i i a s;intro H ids st fr a5 ar ab;refine atd ((k H ids st fr a5 ar ab).mono ?_);rintro x aI st' ⟨bs,cU,br,dg,c6,eG,hq⟩;cases x with
  |norm=>exact⟨bs,cU,br,dg,c6,eG,hq⟩
  |exit j=>
   show(if j=i then _ else _);have hq:(if j=i then _ else _):=hq;split at hq
   ·rw[if_pos (by assumption)];exact⟨bs,cU,br,dg,c6,eG,hq⟩
   ·rw[if_neg (by assumption)];exact⟨bs,cU,br,dg,c6,eG,hq⟩
  |ret=>exact⟨bs,cU,br,dg,c6,eG,hq⟩
  |bk v=>exact⟨bs,cU,br,dg,c6,eG,hq⟩
 ·cases h;exact fun H ids st fr a5 ar ab=>ati ⟨H,ids,_,a5,ar,ab,k⟩
 ·cases h;exact fun H ids st fr a5 ar ab=>atq ⟨H,ids,_,a5,ar,ab,k⟩
 ·cases h;exact fun H ids st fr a5 ar ab=>ats (k H ids st fr a5 ar ab)
 ·split at h<;>cases h
  ·rename_i hc;exact fun H ids st fr a5 ar ab=>atv (ab.aj hc) rfl (k H ids st fr a5 ar ab)
  ·rename_i hc;exact fun H ids st fr a5 ar ab=>ath (ab.aj hc) rfl (k H ids st fr a5 ar ab)
 ·cases h;exact fun H ids st fr a5 ar ab=>atl ⟨H,ids,_,a5,ar,ab,k⟩
 ·rename_i K d o l own n e;obtain⟨a,bu,b8,h1,h2⟩:=JT (call:=aF.call) (s:=⟨own,n,e⟩) h;cases h1;exact IG (s:=⟨own,n,e⟩) (d:=some d) h2 k
 ·rename_i K o l own n e;obtain⟨a,bu,b8,h1,h2⟩:=JT (call:=aF.call) (s:=⟨own,n,e⟩) h;cases h1;exact IG (s:=⟨own,n,e⟩) (d:=none) h2 k
 ·rename_i K d o t b l own n e;have on:∀{b:Bool},dO e t=some (.b b)->R aF K (.o (⟨d,o,none⟩::l)) ⟨own,n,e⟩->R aF K (.o (⟨d,o,some (t,b)⟩::l)) ⟨own,n,e⟩:=fun aO k H ids st fr a5 ar ab=>ato (ab.get _ _ aO) rfl (k H ids st fr a5 ar ab);have off:∀{b:Bool},dO e t=some (.b (!b))->R aF K (.o l) ⟨own,n,fA d (.bB []) e⟩->R aF K (.o (⟨d,o,some (t,b)⟩::l)) ⟨own,n,e⟩:=fun aO k H ids st fr a5 ar ab=>atm (ab.get _ _ aO) rfl (k H ids st _ a5 ar (ab.fA d ⟨[],rfl,rfl⟩));split at h
  ·rename_i aO;cases b
   ·exact off aO (MG h k)
   ·cases h;exact on aO k
  ·rename_i aO;cases b
   ·cases h;exact on aO k
   ·exact off aO (MG h k)
  ·rename_i aO;have k:=MG h k;intro H ids st fr a5 ar ab;obtain⟨vs,aH,_⟩:=ab.get _ _ aO;exact atn aH (k H ids st _ a5 ar (ab.fA d ⟨[],rfl,rfl⟩))
  ·cases h
 ·rename_i K l cb dZ ms own n e;have h:=QU h;cases h;intro H ids st fr a5 ar ab;have ab:=ab.XG dZ;exact atg (k H ids st _ H [st.h] a5 ar ab ⟨rfl,dt.refl _,ab.get,by rw[ar.len,<-ar.cq];exact b5 _,by rw[ar.len];exact b5 _,fun k o b U hl aa=>⟨(ar.own k o b U aa).1,fun h hm=>by simp at hm;rw[hm]⟩,fun h hm=>by simp at hm;subst hm;exact ar.le,fun h hm=>by simp at hm;subst hm;exact⟨ar.le,fun _ _ _ _=>rfl⟩⟩)
 ·cases h;exact fun H ids st fr fE ah a5 ar ab ch=>ate ⟨H,ids,_,a5,ar,ab,k⟩
 ·exact afx (s:=⟨_,_,_⟩) h k
 ·split at h
  ·rename_i aO;split at h
   ·cases h;exact QT (s:=⟨_,_,_⟩) aO k
   ·exact Kw (s:=⟨_,_,_⟩) (.inl aO) h k
  ·rename_i aO;split at h
   ·cases h;exact QT (s:=⟨_,_,_⟩) aO k
   ·exact Kw (s:=⟨_,_,_⟩) (.inl aO) h k
  ·rename_i aO;exact Kw (s:=⟨_,_,_⟩) (.inr ⟨_,aO⟩) h k
  ·cases h
 ·cases h;exact k
 ·cases h;exact k
 ·cases h;exact k
 ·cases h;exact k
 ·split at h<;>cases h
  ·rename_i aa;show(if _ then _ else _);rw[if_pos (ep aa)];exact k
  ·rename_i aa;show(if _ then _ else _);rw[if_neg (fun e=>by rw[e,Nat.beq_refl]at aa;cases aa)];exact k
 ·cases h;exact k
 ·cases h;exact k
 ·cases h;exact k
 ·cases h
theorem x8{c:Operand}{a b:dy}{t:Bool}(hc:bI s.env c=some (.b t))(ha:t=true->a2.ok aF ⟨K,.c a,s⟩)(aa:t=false->a2.ok aF ⟨K,.c b,s⟩):a2.ok aF ⟨K,.c (.cond c a b),s⟩:=fun H ids st fr a5 ar ab=>
 atj (ab.aj hc) (fun h=>ha h H ids st fr a5 ar ab) (fun h=>aa h H ids st fr a5 ar ab)
theorem ap0{c:Operand}{a b:dy}{t:Bool}(hc:bI s.env c=some (.b t))(aN:t=true)(ha:a2.ok aF ⟨K,.c a,s⟩):a2.ok aF ⟨K,.c (.cond c a b),s⟩:=x8 hc (fun _=>ha) (fun h=>by rw[aN]at h;cases h)
theorem apP{c:Operand}{a b:dy}{t:Bool}(hc:bI s.env c=some (.b t))(aN:t=false)(aa:a2.ok aF ⟨K,.c b,s⟩):a2.ok aF ⟨K,.c (.cond c a b),s⟩:=x8 hc (fun h=>by rw[aN]at h;cases h) (fun _=>aa)
theorem apU{L:Type _}{b:dy}(lN:L->cS->Prop)(fc:L->Nat)(k7:L)(h0:lN k7 s)(hm:fc k7<aF.cd)(h:∀l br,lN l br->a2.ok aF ⟨.b4 (fun t=>∃l',fc l'<fc l∧lN l' t)::K,.c b,br⟩):a2.ok aF ⟨K,.c (.loop b),s⟩:=by
 intro H ids st fr a5 ar ab;refine atk (fun m fr st=>∃l H ids s,fc l=m∧lN l s∧dM aF.b9 aF.i0 aF.aJ H ids st∧Fit H ids st s.own s.n∧c3 fr H ids s.env) (fc k7) hm ⟨k7,H,ids,s,rfl,h0,a5,ar,ab⟩ ?_;rintro m fr st ⟨l,H,ids,br,rfl,ae,a5,ar,ab⟩;refine(h l br ae H ids st fr a5 ar ab).mono ?_;rintro x aI st' ⟨bs,cU,br,dg,c6,eG,hq⟩;cases x with
 |norm=>obtain⟨l',h1,h2⟩:=hq;exact⟨_,h1,l',bs,cU,br,rfl,h2,dg,c6,eG⟩
 |exit i=>exact⟨bs,cU,br,dg,c6,eG,hq⟩
 |ret=>exact⟨bs,cU,br,dg,c6,eG,hq⟩
 |bk v=>exact⟨bs,cU,br,dg,c6,eG,hq⟩
end
theorem I{aF:gx}{g jb:a2}(k:jb.ok aF)(h:Eh g=some jb:=by rfl):g.ok aF:=N1 h k
end Go.an
namespace Go.an
open Sym
def lk(f:List Nat):bT->bT->Prop
 |[],_=>True
 |p::l,e=>dO e p.1=some (jx f p.2)∧lk f l e
theorem lk.get{f:List Nat}:∀{l e:bT},lk f l e->∀{j:Nat} {a:af},dO l j=some a->dO e j=some (jx f a)
 |[],_,_,_,_,h=>by cases h
 |p::l,e,ah,j,v,h=>by
  rw[pS]at h;cases aa:Nat.beq p.1 j with
  |true=>rw[aa]at h;cases h;rw[<-ep aa];exact ah.1
  |false=>rw[aa]at h;exact lk.get ah.2 h
def ft(f:List Nat):a3->a3->Prop
 |.c el cs,o=>o= .c el (nB f cs)
 |.a el a8 z α R l,o=>o= .a el a8 z α R l∧∀x,ht (R x)=true
 |.x,_=>True
def uc(f:List Nat)(own:List a3):List Nat->List a3->Prop
 |[],[]=>True
 |m::ms,o::os=>(∃bd,own[m]? =some bd∧ft f o bd)∧uc f own ms os
 |_,_=>False
theorem uc.len{f:List Nat}{own:List a3}:∀{ms:List Nat} {os:List a3},uc f own ms os->os.length=ms.length
 |[],[],_=>rfl
 |[],_::_,h=>h.elim
 |_::_,[],h=>h.elim
 |_::ms,_::os,h=>by simp[uc.len h.2]
theorem uc.get{f:List Nat}{own:List a3}:∀{ms:List Nat} {os:List a3},uc f own ms os->∀{k:Nat} {o:a3},os[k]? =some o->∃m bd,ms[k]? =some m∧own[m]? =some bd∧ft f o bd
 |[],[],_,_,_,h=>by simp at h
 |[],_::_,h,_,_,_=>h.elim
 |_::_,[],h,_,_,_=>h.elim
 |m::ms,o::os,⟨⟨bd,h1,h2⟩,h3⟩,0,q,h=>by simp at h;subst h;exact⟨m,bd,rfl,h1,h2⟩
 |m::ms,o::os,⟨_,h3⟩,k+1,q,h=>uc.get h3 (by simpa using h)
def pinned:Nat->List Nat->Nat->Bool
 |0,_,_=>true
 |n+1,m::f,k=>Nat.beq m k&&pinned n f (k+1)
 |_+1,[],_=>false
theorem M6:∀{n:Nat} {f:List Nat} {k:Nat},pinned n f k=true->∀i,i<n->f[i]? =some (k+i)
 |0,_,_,_,i,h=>by omega
 |n+1,[],k,h,_,_=>by cases h
 |n+1,m::f,k,h,i,ae=>by
  have h:(Nat.beq m k&&pinned n f (k+1))=true:=h;rw[bZ]at h;cases i with
  |zero=>simp[ep h.1]
  |succ i=>rw[show k+(i+1)=(k+1)+i by omega];simpa using M6 h.2 i (by omega)
structure Sub(p:Nat)(f:List Nat)(s t:cS):Prop where
 iz:f.Nodup
 n:t.n=f.length
 own:uc f s.own f t.own
 env:lk f t.env s.env
 DG:pinned p f 0=true
section
variable{H:bF}{ids:List Nat}{st:au}{fr:aT}{s t:cS}{f:List Nat}
theorem afd{o bd:a3}{eg:Option bw}(h:ft f o bd)(d:mz H ids bd eg):mz H (pick f ids) o eg:=by
 cases o with
 |c el cs=>cases h;obtain⟨vs,e,d⟩:=d;exact⟨vs,e,uA f cs d⟩
 |a el a8 z α R l=>
  obtain⟨h,hp⟩:=h;cases h;obtain⟨vs,aA,e2,d⟩:=d;exact⟨vs,aA,e2,fun i x J=>mA _ (hp x) (d i x J) _⟩
 |x=>trivial
theorem ft.live{o bd:a3}(h:ft f o bd)(hl:o.live=true):bd.live=true:=by
 cases o with
 |c el cs=>cases h;rfl
 |a el a8 z α R l=>cases h.1;rfl
 |x=>cases hl
theorem Sub.fit{p:Nat}(h:Sub p f s t)(ar:Fit H ids st s.own s.n):Fit H (pick f ids) st t.own t.n:=by
 have aO:∀{k m:Nat},f[k]? =some m->(∃o,s.own[m]? =some o)->∃b,ids[m]? =some b∧(pick f ids)[k]? =some b:=fun{k m} U ⟨o,ak⟩=>by
  have aP:=(List.getElem?_eq_some_iff.1 ak).1;have ae:m<ids.length:=by rw[ar.len,<-ar.cq];exact aP
  exact⟨_,a9 ae,tu U (a9 ae)⟩
 have ez:∀k m:Nat,f[k]? =some m->∃o,s.own[m]? =some o:=fun k m U=>by
  have hl:=h.own.len;have aP:=(List.getElem?_eq_some_iff.1 U).1;obtain⟨fq,bd,h1,h2,_⟩:=h.own.get (a9 (show k<t.own.length by omega));rw[U]at h1;cases h1;exact⟨bd,h2⟩
 have h7:(pick f ids).length=f.length:=by simp[pick]
 refine⟨ar.wf,ar.le,by rw[h.n,h.own.len],by rw[h.n,h7],?_,?_,?_⟩
 ·rw[List.Nodup,List.pairwise_iff_getElem];intro i j ae hj rC;rw[h7]at ae hj;obtain⟨b,h1,h2⟩:=aO (a9 ae) (ez _ _ (a9 ae));obtain⟨c,h3,ay⟩:=aO (a9 hj) (ez _ _ (a9 hj));have aA:=(List.getElem?_eq_some_iff.1 h2).2;have e2:=(List.getElem?_eq_some_iff.1 ay).2;rw[aA,e2];intro e;subst e;have aL:=List.getElem?_eq_some_iff.1 h1;have aR:=List.getElem?_eq_some_iff.1 h3;have:=(List.getElem_inj (h₀:=aL.1) (h₁:=aR.1) ar.iz).1 (aL.2.trans aR.2.symm);have:=(List.getElem_inj (h₀:=ae) (h₁:=hj) h.iz).1 this;omega
 ·intro b aa;obtain⟨k,U⟩:=List.mem_iff_getElem?.1 aa;have aP:=(List.getElem?_eq_some_iff.1 U).1;rw[h7]at aP;obtain⟨c,h1,h2⟩:=aO (a9 aP) (ez _ _ (a9 aP));rw[U]at h2;cases h2;exact ar.lt _ (List.mem_of_getElem? h1)
 ·intro k o b U aa;obtain⟨m,bd,h1,h2,h3⟩:=h.own.get U;obtain⟨c,ay,aY⟩:=aO h1 ⟨bd,h2⟩;rw[aa]at aY;cases aY;obtain⟨aL,aR⟩:=ar.own m bd b h2 ay;exact⟨afd h3 aL,fun hl=>aR (h3.live hl)⟩
theorem Sub.Rm{p:Nat}(h:Sub p f s t)(ab:c3 fr H ids s.env):c3 fr H (pick f ids) t.env:=⟨ab.pl,fun j a hj=>Kq f a (ab.get j _ (h.env.get hj))⟩
theorem Sub.bW{b9:bF}{i0:List Nat}{aJ:au}(h:Sub i0.length f s t)(ar:Fit H ids st s.own s.n)(a5:dM b9 i0 aJ H ids st):dM b9 i0 aJ H (pick f ids) st:=by
 refine⟨a5.hle,a5.hold,a5.gz,a5.ai,?_,?_⟩
 ·intro k b U;have aP:=(List.getElem?_eq_some_iff.1 U).1;have:=M6 h.DG k aP;rw[Nat.zero_add]at this;exact tu this (a5.kq k b U)
 ·intro b aa;obtain⟨k,U⟩:=List.mem_iff_getElem?.1 aa;unfold pick at U;rw[List.getElem?_map]at U;cases Ga:f[k]? with
  |none=>rw[Ga]at U;cases U
  |some m=>
   rw[Ga]at U;have U:some ((ids[m]?).getD 0)=some b:=U;have hl:=h.own.len;have aP:=(List.getElem?_eq_some_iff.1 Ga).1;obtain⟨fq,bd,h1,h2,_⟩:=h.own.get (a9 (show k<t.own.length by omega));rw[Ga]at h1;cases h1;have ae:m<ids.length:=by rw[ar.len,<-ar.cq];exact(List.getElem?_eq_some_iff.1 h2).1
   rw[a9 ae]at U;cases U;exact a5.new _ (dr ae)
end
section
variable{aF:gx}{K:List eQ}{s t:cS}{f:List Nat}
theorem tZ.sub{Q A8:dF->cS->Prop}{x:dF}{fr:aT}{st:au}(hq:∀s,Q x s->∃f t,Sub aF.i0.length f s t∧A8 x t)(h:tZ aF Q x fr st):tZ aF A8 x fr st:=by
 obtain⟨H,ids,s,a5,ar,ab,h⟩:=h;obtain⟨f,t,ah,aB⟩:=hq s h;exact⟨H,_,t,ah.bW ar a5,ah.fit ar,ah.Rm ab,aB⟩
theorem NB{c:dy}(f:List Nat)(t:cS)(h:Sub aF.i0.length f s t)(k:a2.ok aF ⟨K,.c c,t⟩):a2.ok aF ⟨K,.c c,s⟩:=fun H ids st fr a5 ar ab=>k H _ st fr (h.bW ar a5) (h.fit ar) (h.Rm ab)
def vW(p:Nat){L:Type _}(P:L->Prop)(T:L->cS)(s:cS):Prop:=∃f l,P l∧Sub p f s (T l)
theorem cG{L:Type _}{b:dy}(P:L->Prop)(T:L->cS)(fc:L->Nat)(f0:List Nat)(k7:L)(iq:P k7)(hm:fc k7<aF.cd)(h0:Sub aF.i0.length f0 s (T k7))
 (h:∀l,P l->a2.ok aF ⟨.b4 (vW aF.i0.length (fun l'=>fc l'<fc l∧P l') T)::K,.c b,T l⟩):a2.ok aF ⟨K,.c (.loop b),s⟩:=
 apU (fun l s=>P l∧∃f,Sub aF.i0.length f s (T l)) fc k7 ⟨iq,f0,h0⟩ hm fun l br ⟨hp,f,ah⟩=>NB f _ ah (by
  refine fun H ids st fr a5 ar ab=>(h l hp H ids st fr a5 ar ab).mono ?_;rintro x aI st' ⟨bs,cU,br,dg,c6,eG,hq⟩;refine⟨bs,cU,br,dg,c6,eG,?_⟩;cases x with
  |norm=>obtain⟨m5,l',⟨h1,h2⟩,h3⟩:=hq;exact⟨l',h1,h2,m5,h3⟩
  |exit i=>exact hq
  |ret=>exact hq
  |bk v=>exact hq)
theorem bc{L:Type _}{P:L->Prop}{T:L->cS}{p:Nat}(f:List Nat)(l:L)(iq:P l)(h:Sub p f s (T l)):a2.ok aF ⟨.b4 (vW p P T)::K,.x .norm,s⟩:=⟨f,l,iq,h⟩
theorem mi{e:dF}(h:aF.Q e s):a2.ok aF ⟨[],.x e,s⟩:=h
theorem oM{fr:aT}{H:bF}{ids:List Nat}{e:bT}{t:Nat}{a b:af}(h:dO e t=some a)(hn:∀H ids v,den H a ids v->den H b ids v)(ab:c3 fr H ids e):c3 fr H ids ((t,b)::e):=⟨ab.pl,fun j c hj=>by
 rw[pS]at hj;cases aa:Nat.beq t j with
 |true=>rw[aa]at hj;cases hj;rw[<-ep aa];exact hn _ _ _ (ab.get t _ h)
 |false=>rw[aa]at hj;exact ab.get j c hj⟩
def bz.ta:bz->Bool
 |.x _=>true
 |_=>false
theorem az(t:Nat){a:af}(b:af){own:List a3}{aM:Nat}{e:bT}{c:bz}(h:dO e t=some a)(iK:a=b)(cc:a2.ok aF ⟨K,c,⟨own,aM,(t,b)::e⟩⟩)(hc:c.ta=false:=by rfl):a2.ok aF ⟨K,c,⟨own,aM,e⟩⟩:=by
 subst iK;cases c with
 |c c=>exact fun H ids st fr a5 ar aB=>cc H ids st fr a5 ar (oM h (fun _ _ _ d=>d) aB)
 |o l=>exact fun H ids st fr a5 ar aB=>cc H ids st fr a5 ar (oM h (fun _ _ _ d=>d) aB)
 |x e=>cases hc
 |d l bO aU bf cf=>exact fun H ids st fr fE ah a5 ar aB ch=>cc H ids st fr fE ah a5 ar (oM h (fun _ _ _ d=>d) aB) ch
theorem AH(t:Nat){a:af}(b:af){own:List a3}{aM:Nat}{e:bT}{c:bz}(h:dO e t=some a)(iK:b3 a b)(cc:a2.ok aF ⟨K,c,⟨own,aM,(t,b)::e⟩⟩)(hc:c.ta=false:=by rfl):a2.ok aF ⟨K,c,⟨own,aM,e⟩⟩:=by
 cases c with
 |c c=>exact fun H ids st fr a5 ar aB=>cc H ids st fr a5 ar (oM h iK aB)
 |o l=>exact fun H ids st fr a5 ar aB=>cc H ids st fr a5 ar (oM h iK aB)
 |x e=>cases hc
 |d l bO aU bf cf=>exact fun H ids st fr fE ah a5 ar aB ch=>cc H ids st fr fE ah a5 ar (oM h iK aB) ch
theorem eh(t:Nat){a:af}(b:af){own bO:List a3}{aM bf cf:Nat}{e aU:bT}{l:List (bL×cL)}(h:dO e t=some a)(h0:dO aU t=some a)(iK:a=b)(cc:a2.ok aF ⟨K,.d l bO ((t,b)::aU) bf cf,⟨own,aM,(t,b)::e⟩⟩):a2.ok aF ⟨K,.d l bO aU bf cf,⟨own,aM,e⟩⟩:=by
 subst iK;exact fun H ids st fr fE ah a5 ar aB ch=>cc H ids st fr fE ah a5 ar (oM h (fun _ _ _ d=>d) aB) ⟨ch.len,ch.hle,(oM (fr:=fr) h0 (fun _ _ _ d=>d) ⟨aB.pl,ch.fH⟩).get,ch.pX,ch.xK,ch.bO,ch.old,ch.top⟩
theorem jA{own:List a3}{n p:Nat}{e cK:bT}(h:lk [] cK e)(hp:pinned p [] 0=true:=by rfl):Sub p [] ⟨own,n,e⟩ ⟨[],0,cK⟩:=⟨List.nodup_nil,rfl,trivial,h,hp⟩
end
section
variable{aF:gx}{K:List eQ}{own bu:List a3}{aM b8:Nat}{e:bT}
theorem g2{d:Tmp}{o:dd}{l:List bL}{a:af}(h:gy aF.call o ⟨own,aM,e⟩ a bu b8)(k:a2.ok aF ⟨K,.o l,⟨bu,b8,(d,a)::e⟩⟩):a2.ok aF ⟨K,.o (⟨some d,o,none⟩::l),⟨own,aM,e⟩⟩:=IG (d:=some d) h k
theorem YO{o:dd}{l:List bL}{a:af}(h:gy aF.call o ⟨own,aM,e⟩ a bu b8)(k:a2.ok aF ⟨K,.o l,⟨bu,b8,e⟩⟩):a2.ok aF ⟨K,.o (⟨none,o,none⟩::l),⟨own,aM,e⟩⟩:=IG (d:=none) h k
end
section
variable{call:bQ}{s:cS}{x y i:Operand}{a b:af}
theorem l6{o:dd}(h:∀H ids st fr,Fit H ids st s.own s.n->c3 fr H ids s.env->∃v,den H a ids v∧b2 call o fr st= .ok v fr st):gy call o s a s.own s.n:=fun H ids st fr ar ab=>
 let⟨v,h1,h2⟩:=h H ids st fr ar ab
 ⟨v,st,ids,H,h2,ar,h1,dt.refl _,cM.refl _,fun _ _ _ B=>B,b5 _,fun _ _ _=>rfl⟩
theorem Vj{k z o n c j:Nat}{cc:IntKind}(J:bI s.env x=some (.a6 k z o n c))(ae:bI s.env i=some (.i cc (j:Int)))(hj:j<n):gy call (.lD z x i) s (.fz k z (o+j) 0) s.own s.n:=l6 fun H ids st fr ar ab=>by
 obtain⟨b,h1,h2⟩:=ab.aj J;have h3:fr.aj i= .int cc (j:Int):=ab.aj ae;exact⟨_,⟨b,h1,by rw[Nat.add_mul,Nat.add_zero]⟩,Hq h2 h3 hj⟩
theorem LP{z j:Nat}{α:Type}{R:α->List af}{l:List α}{q:α}{cc:IntKind}(J:bI s.env x=some (.bS z α R l))(ae:bI s.env i=some (.i cc (j:Int)))(hj:l[j]? =some q):gy call (.lD z x i) s (.ip (R q)) s.own s.n:=l6 fun H ids st fr ar ab=>by
 have h3:fr.aj i= .int cc (j:Int):=ab.aj ae;have aP:=(List.getElem?_eq_some_iff.1 hj).1;rcases ab.aj J with⟨hl,_⟩|⟨b,o,c,vs,el,bn,a8,h1,h2,ay,aY⟩
 ·subst hl;simp at aP
 ·refine⟨_,⟨b,o+j*z,vs,el,bn,a8,rfl,ay,?_⟩,Hq h1 h3 aP⟩;have av:=aY j q hj;have hl:=hI av;rw[<-hl];rw[show(vs.drop (o+j*z)).take ((vs.drop (o+j*z)).take z).length=(vs.drop (o+j*z)).take z by rw[List.length_take,<-List.take_eq_take_min]];exact av
theorem om{H:bF}{ids:List Nat}{st:au}{k:Nat}{el:TypeId}{a8:Bool}{z:Nat}{α:Type}{R:α->List af}{l:List α}(ar:Fit H ids st s.own s.n)(U:s.own[k]? =some (.a el a8 z α R l)){b:Nat}(aa:ids[k]? =some b):∃vs,st.h.get b=some (.cells vs el (0,0) a8)∧vs.length=l.length*z∧∀i x,l[i]? =some x->di H (R x) ids ((vs.drop (i*z)).take z):=(ar.own k _ b U aa).1
theorem anc{k z j q:Nat}{el:TypeId}{a8:Bool}{α:Type}{R:α->List af}{l:List α}{w:α}(J:bI s.env x=some (.fz k z j q))(U:s.own[k]? =some (.a el a8 z α R l))(hj:l[j]? =some w)(hq:(R w)[q]? =some a):gy call (.lE x) s a s.own s.n:=l6 fun H ids st fr ar ab=>by
 obtain⟨b,h1,h2⟩:=ab.aj J;obtain⟨vs,h3,ay,aY⟩:=om ar U h1;obtain⟨v,aH,av⟩:=uy (aY j w hj) hq;refine⟨v,av,zU h2 h3 ?_⟩;rw[List.getElem?_take]at aH;split at aH
 ·rw[List.getElem?_drop]at aH;exact aH
 ·cases aH
theorem acR{H:bF}{ids:List Nat}{a:af}{ds:List af}{v:Value}(h:rj a=some ds)(hc:pd ds=true)(d:den H a ids v):di H ds ids (ik v)∧hH (ik v)=true:=by
 obtain⟨_,d2⟩:=E3 h d;exact⟨d2,BE hc d2⟩
theorem acV{z j q:Nat}{vs ws:List Value}(i:Nat)(aH:(j+1)*z<=vs.length)(hq:q+ws.length<=z):
 ((vs.take (j*z+q)++(ws++vs.drop (j*z+q+ws.length))).drop (i*z)).take z=if i=j then((vs.drop (j*z)).take z).take q++(ws++((vs.drop (j*z)).take z).drop (q+ws.length))else(vs.drop (i*z)).take z:=by
 rw[Nat.add_mul,Nat.one_mul]at aH;apply List.ext_getElem?;intro p;rw[List.getElem?_take,List.getElem?_drop];by_cases hp:p<z
 ·rw[if_pos hp];have get:∀m,(vs.take (j*z+q)++(ws++vs.drop (j*z+q+ws.length)))[m]? =if m<j*z+q then vs[m]? else if m<j*z+q+ws.length then ws[m-(j*z+q)]? else vs[m]? :=by
   intro m;by_cases h1:m<j*z+q
   ·rw[if_pos h1,List.getElem?_append_left (by simp;omega),List.getElem?_take,if_pos h1]
   ·rw[if_neg h1,List.getElem?_append_right (by simp;omega),List.length_take,Nat.min_eq_left (by omega)];by_cases h2:m<j*z+q+ws.length
    ·rw[if_pos h2,List.getElem?_append_left (by omega)]
    ·rw[if_neg h2,List.getElem?_append_right (by omega),List.getElem?_drop];congr 1;omega
  rw[get];by_cases rC:i=j
  ·subst rC;rw[if_pos rfl];by_cases h1:p<q
   ·rw[if_pos (by omega),List.getElem?_append_left (by simp;omega),List.getElem?_take,if_pos h1,List.getElem?_take,if_pos hp,List.getElem?_drop]
   ·rw[if_neg (by omega),List.getElem?_append_right (by simp;omega)];have e:(((vs.drop (i*z)).take z).take q).length=q:=by simp;omega
    rw[e];by_cases h2:p<q+ws.length
    ·rw[if_pos (by omega),List.getElem?_append_left (by omega)];congr 1;omega
    ·rw[if_neg (by omega),List.getElem?_append_right (by omega),List.getElem?_drop,List.getElem?_take,if_pos (by omega),List.getElem?_drop];congr 1;omega
  ·rw[if_neg rC,List.getElem?_take,if_pos hp,List.getElem?_drop];have:i*z+p<j*z∨j*z+z<=i*z+p:=by
    rcases Nat.lt_or_gt_of_ne rC with h|h
    ·left;have:(i+1)*z<=j*z:=hF z h;rw[Nat.add_mul,Nat.one_mul]at this;omega
    ·right;have:(j+1)*z<=i*z:=hF z h;rw[Nat.add_mul,Nat.one_mul]at this;omega
   rcases this with h|h
   ·rw[if_pos (by omega)]
   ·rw[if_neg (by omega),if_neg (by omega)]
 ·rw[if_neg hp]
  symm
  rw[List.getElem?_eq_none_iff];split
  ·simp;omega
  ·simp;omega
theorem NZ{k z j q m:Nat}{el:TypeId}{a8:Bool}{α:Type}{R:α->List af}{l:List α}{w:α}(w':α){ds:List af}(J:bI s.env x=some (.fz k z j q))(aG:bI s.env y=some a)(hc:rj a=some ds)(hl:ds.length=m)(eu:pd ds=true)
 (U:s.own[k]? =some (.a el a8 z α R l)) (hj:l[j]? =some w) (cI:R w'=(R w).take q++(ds++(R w).drop (q+ds.length))) (ax:q+m<=z):
 gy call (.store m x y) s (.bB []) (s.own.set k (.a el a8 z α R (l.set j w'))) s.n:=fun H ids st fr ar ab=>by
 obtain⟨b,h1,h2⟩:=ab.aj J;obtain⟨vs,h3,ay,aY⟩:=om ar U h1;obtain⟨d2,bP⟩:=acR hc eu (ab.aj aG);have pE:=hI d2;have aP:=(List.getElem?_eq_some_iff.1 hj).1;have Vc:(j+1)*z<=vs.length:=by rw[ay];exact hF z aP
 have alX:=Vc;rw[Nat.add_mul,Nat.one_mul]at alX;refine⟨undef,⟨st.h.set b (.cells (vs.take (j*z+q)++(ik (fr.aj y)++vs.drop (j*z+q+(ik (fr.aj y)).length))) el (0,0) a8),st.ai⟩,ids,H,?_,ar.g3 U rfl h1 ⟨_,rfl,?_,?_⟩,⟨[],rfl,rfl⟩,dt.refl _,cM.refl _,fun _ _ _ B=>B.g3 (List.mem_of_getElem? h1) _,b5 _,?_⟩
 ·have:b2 call (.store m x y) fr st=iD (fr.aj x) (fun p=>bl p (fun a=>et (ec (ik (fr.aj y))) m (cond (hH (ik (fr.aj y))) (st.store a (ik (fr.aj y)) (fun st=>aZ.ok undef fr st) .no) .no) .no) .no) .no:=rfl;rw[this,h2,tN,Sym.eY,fU,jI (by omega),bP,cond_true];unfold au.store au.gL;rw[Sym.ia,h3,kU,eX (b5 _),qR,if_pos (by show j*z+q+_<=_;omega),kt]
 ·simp only[List.length_append,List.length_take,List.length_drop,List.length_set];rw[<-ay];omega
 ·intro i p hp;rw[acV i Vc (by omega)];rw[List.getElem?_set]at hp;by_cases rC:j=i
  ·subst rC;rw[if_pos rfl,if_pos aP]at hp;cases hp;rw[if_pos rfl,cI];exact Kr q (aY j w hj) d2
  ·rw[if_neg rC]at hp;rw[if_neg (Ne.symm rC)];exact aY i p hp
 ·intro er _ hne;exact ao.h6 _ _ (fun e=>hne k (by simp[iR,J]) (e▸h1))
theorem ZN{k j:Nat}{el:TypeId}{a8:Bool}{α:Type}{R:α->List af}{l:List α}(w':α)(J:bI s.env x=some (.fz k 1 j 0))(aG:bI s.env y=some a)(U:s.own[k]? =some (.a el a8 1 α R l))(cI:R w'=[a])(hj:j<l.length)(hc:sz a=true)(h1:∀w,(R w).length=1):
 gy call (.store 1 x y) s (.bB []) (s.own.set k (.a el a8 1 α R (l.set j w'))) s.n:=by
 refine NZ (w:=l[j]) w' J aG (ds:=[a]) ?_ rfl ?_ U (a9 hj) ?_ (by decide)
 ·cases a<;>first|rfl|cases hc|(show(match sz _ with|true=>_|false=>_)=_;rw[hc])
 ·show(sz a&&true)=true;rw[hc];rfl
 ·rw[cI];have:=h1 l[j];rw[show(R l[j]).drop (0+[a].length)=[] by apply List.drop_of_length_le;simp;omega];rfl
end
set_option maxRecDepth 10000
section
variable{call:bQ}{s:cS}{x y i:Operand}{a b:af}
def jY(H:bF)(ids:List Nat){α:Type}(R:α->List af)(z:Nat)(l:List α)(vs:List Value):Prop:=vs.length=l.length*z∧∀i x,l[i]? =some x->di H (R x) ids ((vs.drop (i*z)).take z)
theorem E5(H:bF)(ids:List Nat){α:Type}(R:α->List af)(z:Nat):jY H ids R z [] []:=⟨by simp,fun i x h=>by simp at h⟩
theorem uq{H:bF}{ids:List Nat}{α:Type}{R:α->List af}{z:Nat}{l m:List α}{vs ws:List Value}(h:jY H ids R z l vs)(aB:jY H ids R z m ws):jY H ids R z (l++m) (vs++ws):=by
 refine⟨by rw[List.length_append,List.length_append,h.1,aB.1,Nat.add_mul],fun i x J=> ?_⟩;by_cases ae:i<l.length
 ·rw[List.getElem?_append_left ae]at J;have h1:=h.2 i x J;have hle:(i+1)*z<=vs.length:=by rw[h.1];exact hF z ae
  rw[Nat.add_mul,Nat.one_mul]at hle;rw[List.drop_append_of_le_length (by omega),List.take_append_of_le_length (by simp;omega)];exact h1
 ·rw[List.getElem?_append_right (by omega)]at J;have h1:=aB.2 _ x J;have e:i*z=vs.length+(i-l.length)*z:=by rw[h.1,<-Nat.add_mul];congr 1;omega
  rw[e,<-List.drop_drop,List.drop_left];exact h1
theorem E6{H:bF}{ids:List Nat}{α:Type}{R:α->List af}{z:Nat}{l:List α}{vs:List Value}(h:jY H ids R z l vs)(n:Nat)(hn:n<=l.length):jY H ids R z (l.take n) (vs.take (n*z)):=by
 have CK:n*z<=l.length*z:=hF z hn;refine⟨by rw[List.length_take,List.length_take,h.1,Nat.min_eq_left CK,Nat.min_eq_left hn],fun i x J=> ?_⟩;rw[List.getElem?_take]at J;split at J
 ·rename_i ae;have hle:(i+1)*z<=n*z:=hF z ae;rw[Nat.add_mul,Nat.one_mul]at hle;rw[List.drop_take,List.take_take,Nat.min_eq_left (by omega)];exact h.2 i x J
 ·cases J
theorem yU{H:bF}{ids:List Nat}{α:Type}{R:α->List af}{z:Nat}{l:List α}{vs:List Value}(h:jY H ids R z l vs)(n:Nat):jY H ids R z (l.drop n) (vs.drop (n*z)):=by
 refine⟨by rw[List.length_drop,List.length_drop,h.1,Nat.sub_mul],fun i x J=> ?_⟩;rw[List.getElem?_drop]at J;rw[List.drop_drop,<-Nat.add_mul];exact h.2 _ x J
theorem Ki{H:bF}{ids:List Nat}{α:Type}{R:α->List af}{z:Nat}{w:α}{vs:List Value}(h:di H (R w) ids vs)(ax:(R w).length=z):jY H ids R z [w] vs:=by
 have hl:=hI h;refine⟨by simp;omega,fun i x J=> ?_⟩;cases i with
 |zero=>simp at J;subst J;rw[Nat.zero_mul,List.drop_zero,List.take_of_length_le (by omega)];exact h
 |succ i=>simp at J
theorem Kg{H:bF}{ids:List Nat}{α:Type}{R:α->List af}{w:α}{gi:List Value}(h:di H (R w) ids gi):∀n,jY H ids R gi.length (List.replicate n w) (my gi n)
 |0=>E5 _ _ _ _
 |n+1=>by
  have e:my gi (n+1)=gi++my gi n:=by show fZ gi (my gi n)=_;rw[og]
  rw[e,List.replicate_succ,<-List.singleton_append];exact uq (Ki h (by rw[hI h])) (Kg h n)
theorem Kh{H:bF}{ids:List Nat}{α:Type}{R:α->List af}{z:Nat}(ax:∀w,(R w).length=z):∀{l:List α} {vs:List Value},di H (l.flatMap R) ids vs->jY H ids R z l vs
 |[],vs,d=>by cases d;exact E5 _ _ _ _
 |w::l,vs,d=>by
  rw[List.flatMap_cons]at d;have h1:=uB z d;have h2:=ox z d;rw[List.take_left' (ax w)]at h1;rw[List.drop_left' (ax w)]at h2;rw[<-List.take_append_drop z vs];exact uq (l:=[w]) (Ki h1 (ax w)) (Kh ax h2)
theorem mk{el:TypeId}{cQ z n c:Nat}{gi:List Value}{k k':IntKind}{α:Type}(R:α->List af)(w:α)(J:bI s.env x=some (.i k (n:Int)))(aG:bI s.env y=some (.i k' (c:Int)))(ax:gi.length=z)(cI:vl gi=R w)(hn:n<=c)(hc:c*(cQ+1)<=1099511627776):
 gy call (.oO el cQ gi x y) s (.a6 s.n z 0 n c) (s.own++[.a el false z α R (List.replicate c w)]) (s.n+1):=fun H ids st fr ar ab=>by
 have h1:fr.aj x= .int k (n:Int):=ab.aj J;have h2:fr.aj y= .int k' (c:Int):=ab.aj aG;subst ax;have av:=uz H (ids++[st.ai]) gi;rw[cI]at av;have iL:=Kg av c;refine⟨_,_,_,H,?_,ar.add (eg:=.cells (my gi c) el (0,0) false) ⟨_,rfl,iL.1,iL.2⟩,⟨st.ai,by rw[<-ar.len,List.getElem?_append_right (b5 _)];simp,rfl⟩,dt.refl _,cM.app _ _,fun _ _ _ B=>B.add _,Nat.le_succ _,fun b aa _=>r1 aa⟩;show r3 el cQ gi x y call fr st=_;unfold r3;rw[h1,h2,mU,mU,oQ,oQ,eX hn,eX (show Nat.mul c (Nat.succ cQ)<=2^40 from hc),gv,Nat.zero_mul]
def od(s:cS)(x:Operand){α:Type}(R:α->List af)(z:Nat)(l:List α):Prop:=∀(H:bF) (ids:List Nat) (st:au) (fr:aT),Fit H ids st s.own s.n->c3 fr H ids s.env->
 (l=[]∧∃c,fr.aj x= .slice none 0 c)∨∃b o c vs el bn a8,fr.aj x= .slice (some ⟨b,o,none⟩) l.length c∧st.h.get b=some (.cells vs el bn a8)∧l.length*z<=(vs.drop o).length∧jY H ids R z l ((vs.drop o).take (l.length*z))∧hH ((vs.drop o).take (l.length*z))=true
theorem O3:∀(vs:List Value) (n:Nat),hH vs=true->hH (vs.take n)=true
 |[],n,_=>by simp[hH]
 |v::vs,0,_=>rfl
 |v::vs,n+1,h=>by
  have h:cond (mx v) (hH vs) false=true:=h;show cond (mx v) (hH (vs.take n)) false=true;cases aH:mx v with
  |false=>rw[aH]at h;cases h
  |true=>rw[aH]at h;exact O3 vs n h
theorem O2:∀(vs ws:List Value),hH vs=true->hH ws=true->hH (vs++ws)=true
 |[],ws,_,h=>h
 |v::vs,ws,h,aB=>by
  have h:cond (mx v) (hH vs) false=true:=h;show cond (mx v) (hH (vs++ws)) false=true;cases aH:mx v with
  |false=>rw[aH]at h;cases h
  |true=>rw[aH]at h;exact O2 vs ws h aB
theorem arU{k z o n c:Nat}{el:TypeId}{cs:List af}{α:Type}{R:α->List af}(l:List α)(J:bI s.env x=some (.a6 k z o l.length c))(ak:o=0)(U:s.own[k]? =some (.c el cs))(eu:cs=l.flatMap R)(ax:∀w,(R w).length=z)(hc:pd cs=true)(hn:l.length=n):od s x R z l:=by
 intro H ids st fr ar ab;subst ak;obtain⟨b,h1,h2⟩:=ab.aj J;obtain⟨⟨vs,h3,d⟩,_⟩:=ar.own k _ b U h1;rw[eu]at d;have iL:=Kh ax d;have bP:=BE (eu▸hc) d;rw[Nat.zero_mul]at h2;refine .inr ⟨b,0,c,vs,el,_,_,h2,h3,by simp[iL.1],?_,O3 _ _ (by simpa using bP)⟩;rw[List.drop_zero,List.take_of_length_le (by rw[iL.1];exact b5 _)];exact iL
theorem amp{H:bF}{α:Type}{R:α->List af}{z:Nat}(ax:∀w,(R w).length=z){vs:List Value}{o:Nat}:∀{l:List α},(∀i x,l[i]? =some x->di H (R x) [] ((vs.drop (o+i*z)).take z))->∀n,n<=l.length->n*z<=(vs.drop o).length∧jY H [] R z (l.take n) ((vs.drop o).take (n*z)):=by
 intro l h n
 induction n with
 |zero=>intro _;exact⟨by simp,by simpa using E5 _ _ _ _⟩
 |succ n a0=>
  intro hn;obtain⟨h1,h2⟩:=a0 (by omega);have aO:l[n]? =some l[n]:=a9 (by omega);have h3:=h n _ aO;have hl:=hI h3;rw[ax,List.length_take]at hl;rw[<-List.drop_drop,List.length_drop]at hl;have hle:(n+1)*z<=(vs.drop o).length:=by
   rw[Nat.add_mul,Nat.one_mul];rcases Nat.eq_zero_or_pos z with h0|h0
   ·subst h0;simp
   ·omega
  refine⟨hle,?_⟩;rw[List.take_succ_eq_append_getElem (by omega)];have e:(vs.drop o).take ((n+1)*z)=(vs.drop o).take (n*z)++(vs.drop (o+n*z)).take z:=by
   rw[Nat.add_mul,Nat.one_mul,List.take_add,List.drop_drop]
  rw[e];exact uq h2 (Ki h3 (ax _))
theorem BI{H bs:bF}{i j:List Nat}(hh:dt H bs)(ae:cM i j){α:Type}{R:α->List af}{z:Nat}{l:List α}{vs:List Value}(h:jY H i R z l vs):jY bs j R z l vs:=⟨h.1,fun k x J=>kX hh _ ae (h.2 k x J)⟩
theorem Qn{H:bF}{ids:List Nat}{α:Type}{R:α->List af}{z:Nat}(ax:∀w,(R w).length=z)(hc:∀w,pd (R w)=true):∀{l:List α} {vs:List Value},jY H ids R z l vs->hH vs=true
 |[],vs,h=>by
  have:vs=[]:=List.eq_nil_of_length_eq_zero (by rw[h.1];simp);subst this;rfl
 |w::l,vs,h=>by
  rw[<-List.take_append_drop z vs];have h1:=h.2 0 w (by simp);rw[Nat.zero_mul,List.drop_zero]at h1;have h2:=yU h 1;rw[Nat.one_mul]at h2;exact O2 _ _ (BE (hc w) h1) (Qn ax hc (l:=l) h2)
theorem lL{z:Nat}{α:Type}{R:α->List af}{l:List α}(J:bI s.env x=some (.bS z α R l))(ax:∀w,(R w).length=z)(hc:∀w,pd (R w)=true):od s x R z l:=by
 intro H ids st fr ar ab;rcases ab.aj J with⟨hl,h1⟩|⟨b,o,c,vs,el,bn,a8,h1,h2,ay,aY⟩
 ·exact .inl ⟨hl,0,h1⟩
 ·obtain⟨aL,aR⟩:=amp ax aY l.length (b5 _);rw[List.take_length]at aR;exact .inr ⟨b,o,c,vs,el,bn,a8,h1,ar.le _ _ ay,aL,BI (dt.refl _) (cM.nil _) aR,Qn ax hc aR⟩
def ub(call:bQ)(el:TypeId)(cQ:Nat)(s:cS)(y:Operand){α:Type}(R:α->List af)(z:Nat)(l:List α):Prop:=∀(H:bF) (ids:List Nat) (st:au) (fr:aT),Fit H ids st s.own s.n->c3 fr H ids s.env->∀(x:Operand) (p:Option Addr) (n c:Nat),fr.aj x= .slice p n c->
 ∃new,jY H ids R z l new∧hH new=true∧b2 call (.app el z cQ x y) fr st=kZ fr st el z cQ p n c l.length new
theorem wb{a4 cQ:Nat}{el:TypeId}{α:Type}{R:α->List af}{l:List α}(ah:od s y R a4 l):ub call el cQ s y R a4 l:=fun H ids st fr ar ab x p n c J=>by
 have e:b2 call (.app el a4 cQ x y) fr st=ku (fr.aj x) (fun base len cap=>ku (fr.aj y) (fun b n _=>bl b (fun b=>st.load b (Nat.mul n a4) (fun new=>cond (hH new) (kZ fr st el a4 cQ base len cap n new) .no) .no) (et n 0 (kZ fr st el a4 cQ base len cap 0 []) .no)) (jB (fr.aj y) (fun s=>et a4 1 (kZ fr st el a4 cQ base len cap (ec s.data.toList) (n9 s.data.toList)) .no) .no)) .no:=rfl;rw[e,J,sj];rcases ah H ids st fr ar ab with⟨rfl,bJ,h1⟩|⟨b,o,bJ,vs,B0,bn,a8,h1,h2,h3,ay,aY⟩
 ·refine⟨[],E5 _ _ _ _,rfl,?_⟩;rw[h1,sj,Sym.ia,jI rfl];rfl
 ·refine⟨_,ay,aY,?_⟩;rw[h1,sj,Sym.eY];show st.load ⟨b,o,none⟩ (l.length*a4) _ _=_;unfold au.load au.gL;rw[Sym.ia,h2,kU,rl h3,aY];rfl
theorem abZ{a4 cQ:Nat}{el:TypeId}{α:Type}{R:α->List af}{l:List α}(J:bI s.env x=some .nl)(ah:ub call el cQ s y R a4 l)(h0:l≠[])(aa:(2*l.length+768)*(cQ+1)<=1099511627776):
 gy call (.app el a4 cQ x y) s (.a6 s.n a4 0 l.length l.length) (s.own++[.a el true a4 α R l]) (s.n+1):=fun H ids st fr ar ab=>by
 obtain⟨new,h1,h2,h3⟩:=ah H ids st fr ar ab x _ _ _ (show fr.aj x= .slice none 0 0 from ab.aj J);have kD:=BI (dt.refl H) (cM.app ids [st.ai]) h1;have hl:0<l.length:=List.length_pos_iff.2 h0;refine⟨_,_,_,H,?_,ar.add (eg:=.cells new el (0,0) true) ⟨_,rfl,kD.1,kD.2⟩,⟨st.ai,by rw[<-ar.len,List.getElem?_append_right (b5 _)];simp,rfl⟩,dt.refl _,cM.app _ _,fun _ _ _ B=>B.add _,Nat.le_succ _,fun b aa _=>r1 aa⟩;rw[h3];unfold kZ;simp only[Nat.add_eq,Nat.mul_eq,Nat.zero_add];rw[eX (show(2*l.length+768)*Nat.succ cQ<=2^40 from aa),Sym.ia,jI rfl,jI rfl,rr (by omega),gv,Nat.zero_mul]
theorem abW{a4 cQ k n c:Nat}{el:TypeId}{α:Type}{R:α->List af}{l m:List α}(J:bI s.env x=some (.a6 k a4 0 n c))(U:s.own[k]? =some (.a el true a4 α R l))(ah:ub call el cQ s y R a4 m)(h0:m≠[])(hn:n<=l.length)(lC:n<=c)(hc:c<=l.length)(aa:(2*(n+m.length)+768)*(cQ+1)<=1099511627776):
 gy call (.app el a4 cQ x y) s (.a6 s.n a4 0 (n+m.length) (n+m.length)) (s.own.set k .x++[.a el true a4 α R (l.take n++m)]) (s.n+1):=fun H ids st fr ar ab=>by
 obtain⟨b,aL,aR⟩:=ab.aj J;obtain⟨vs,a7,cl,dc⟩:=om ar U aL;obtain⟨new,h1,h2,h3⟩:=ah H ids st fr ar ab x _ _ _ aR;have hl:0<m.length:=List.length_pos_iff.2 h0;have j7:Fit H ids ⟨st.h.set b .dead,st.ai⟩ (s.own.set k .x) s.n:=ar.g3 U rfl aL trivial;have iL:=uq (E6 ⟨cl,dc⟩ n hn) h1;have kD:=BI (dt.refl H) (cM.app ids [st.ai]) iL;have F8:c*a4<=l.length*a4:=hF a4 hc;have CK:n*a4<=l.length*a4:=hF a4 hn;have auh:b<st.ai:=ar.lt b (List.mem_of_getElem? aL);refine⟨.slice (some ⟨st.ai,0,none⟩) (n+m.length) (n+m.length),_,_,H,?_,j7.add (eg:=.cells (vs.take (n*a4)++new) el (0,0) true) ⟨_,rfl,kD.1,kD.2⟩,⟨st.ai,by rw[<-ar.len,List.getElem?_append_right (b5 _)];simp,by rw[Nat.zero_mul]⟩,dt.refl _,cM.app _ _,fun _ _ _ B=>(B.g3 (List.mem_of_getElem? aL) .dead).add _,Nat.le_succ _,?_⟩
 ·rw[h3];unfold kZ au.gL;simp only[Nat.add_eq,Nat.mul_eq,Sym.eY,Sym.ia,a7,kU,Nat.zero_mul];rw[eX (show(2*(n+m.length)+768)*Nat.succ cQ<=2^40 from aa),eX (b5 _),eX lC,eX (by rw[fU,cl];show 0+c*a4<=_;omega),jI rfl,rr (by omega),cond_true,rl (by simp;omega),kt,gv,og,List.drop_zero]
 ·intro er cT hne;show((st.h.set b .dead).set st.ai _).get er=_;rw[ao.h6 _ _ (by omega)];exact ao.h6 _ _ (fun e=>hne k (by simp[iR,J]) (e▸aL))
theorem abY{a4 cQ k n c:Nat}{el:TypeId}{α:Type}{R:α->List af}{l m:List α}(J:bI s.env x=some (.a6 k a4 0 n c))(U:s.own[k]? =some (.a el false a4 α R l))(ah:ub call el cQ s y R a4 m)(h0:m≠[])(hn:n+m.length<=c)(hc:c<=l.length)(aa:(2*(n+m.length)+768)*(cQ+1)<=1099511627776):
 gy call (.app el a4 cQ x y) s (.a6 k a4 0 (n+m.length) c) (s.own.set k (.a el false a4 α R (l.take n++(m++l.drop (n+m.length))))) s.n:=fun H ids st fr ar ab=>by
 obtain⟨b,aL,aR⟩:=ab.aj J;obtain⟨vs,a7,cl,dc⟩:=om ar U aL;obtain⟨new,h1,h2,h3⟩:=ah H ids st fr ar ab x _ _ _ aR;have hl:0<m.length:=List.length_pos_iff.2 h0;have iL:=uq (E6 ⟨cl,dc⟩ n (by omega)) (uq h1 (yU ⟨cl,dc⟩ (n+m.length)));have F8:c*a4<=l.length*a4:=hF a4 hc;have CK:(n+m.length)*a4<=l.length*a4:=hF a4 (by omega);have e:n*a4+new.length=(n+m.length)*a4:=by rw[h1.1,Nat.add_mul]
 refine⟨.slice (some ⟨b,0,none⟩) (n+m.length) c,_,ids,H,?_,ar.g3 U rfl aL (eg:=.cells (vs.take (n*a4)++(new++vs.drop (n*a4+new.length))) el (0,0) false) ⟨_,rfl,by rw[e];exact iL.1,by rw[e];exact iL.2⟩,⟨b,aL,by rw[Nat.zero_mul]⟩,dt.refl _,cM.refl _,fun _ _ _ B=>B.g3 (List.mem_of_getElem? aL) _,b5 _,?_⟩
 ·rw[h3];unfold kZ au.gL;simp only[Nat.add_eq,Nat.mul_eq,Sym.eY,Sym.ia,a7,kU,Nat.zero_mul,Nat.zero_add];rw[eX (show(2*(n+m.length)+768)*Nat.succ cQ<=2^40 from aa),eX (b5 _),eX (by omega),eX (by rw[fU,cl];exact F8),jI rfl,rr (by omega),cond_false,eX hn,qR,if_pos (by rw[e,cl];exact CK),kt]
 ·intro er _ hne;exact ao.h6 _ _ (fun e=>hne k (by simp[iR,J]) (e▸aL))
end
section
variable{call:bQ}{s:cS}{x y i:Operand}{a b:af}
def fj(s:cS)(x:Option Operand)(dflt n:Nat):Prop:=
 match x with
 |none=>n=dflt
 |some x=>∃cc,bI s.env x=some (.i cc (n:Int))
theorem fj.aj{H:bF}{ids:List Nat}{fr:aT}{x:Option Operand}{dflt n y:Nat}(h:fj s x dflt n)(ab:c3 fr H ids s.env)(aG:n<=y)(k:Nat->aZ):e5 fr x dflt y k=k n:=by
 cases x with
 |none=>cases h;rfl
 |some x=>
  obtain⟨cc,h⟩:=h;have h:fr.aj x= .int cc (n:Int):=ab.aj h;show gB (fr.aj x) (fun _ n=>hA n (fun n=>eo n y (k n) .no) .no) .no=_;rw[h,mU,oQ,eX aG]
theorem BC(fr:aT)(d y:Nat)(k:Nat->aZ):e5 fr none d y k=k d:=rfl
theorem ZB{z p q:Nat}{α:Type}{R:α->List af}{l:List α}{bb ae:Option Operand}(J:bI s.env x=some (.bS z α R l))(gr:fj s bb 0 p)(gP:fj s ae l.length q)(hp:p<=q)(hq:q<=l.length){H:bF}{ids:List Nat}{fr:aT}(ab:c3 fr H ids s.env):
 ∃v,den H (.bS z α R ((l.drop p).take (q-p))) ids v∧∀st:au,(∀b o,H b=some o->st.h.get b=some o)->b2 call (.nE z x bb ae none) fr st= .ok v fr st:=by
 have hl:((l.drop p).take (q-p)).length=q-p:=by simp;omega
 have e:∀st:au,b2 call (.nE z x bb ae none) fr st=ku (fr.aj x) (fun b len cap=>bl b (fun a=>st.gL a (fun _ _ _ a8=>cond a8 (eo len cap (e5 fr ae len len fun h=>e5 fr bb 0 h fun l=>.ok (.slice (some (a.add (l*z))) (h-l) (cap-l)) fr st) .no) (e5 fr none cap cap fun m=>e5 fr ae len m fun h=>e5 fr bb 0 h fun l=>.ok (.slice (some (et m l a (a.add (l*z)))) (h-l) (m-l)) fr st)) .no) (e5 fr none cap cap fun m=>e5 fr ae len m fun h=>e5 fr bb 0 h fun l=>.ok (.slice none (h-l) (m-l)) fr st)) .no:=fun st=>rfl;rcases ab.aj J with⟨hn,h1⟩|⟨b,o,c,vs,el,bn,a8,h1,h2,ay,aY⟩
 ·subst hn;simp at hq;subst hq;have:p=0:=by omega
  subst this;refine⟨.slice none 0 0,.inl ⟨by simp,rfl⟩,fun st _=> ?_⟩;rw[e,h1,sj,Sym.ia];rw[BC,fj.aj (dflt:=0) gP ab (b5 _),fj.aj gr ab (b5 _)]
 ·have e2:∀st:au,(∀b o,H b=some o->st.h.get b=some o)->b2 call (.nE z x bb ae none) fr st=cond a8 (eo l.length c (e5 fr ae l.length l.length fun h=>e5 fr bb 0 h fun l=>.ok (.slice (some ((⟨b,o,none⟩:Addr).add (l*z))) (h-l) (c-l)) fr st) .no) (e5 fr none c c fun m=>e5 fr ae l.length m fun h=>e5 fr bb 0 h fun l=>.ok (.slice (some (et m l ⟨b,o,none⟩ ((⟨b,o,none⟩:Addr).add (l*z)))) (h-l) (m-l)) fr st):=fun st hle=>by
   rw[e,h1,sj,Sym.eY];unfold au.gL;rw[Sym.ia,hle _ _ ay,kU]
  have chunk:∀i x,((l.drop p).take (q-p))[i]? =some x->di H (R x) [] ((vs.drop (o+p*z+i*z)).take z):=fun i x J=>by
   rw[List.getElem?_take]at J;split at J
   ·rw[List.getElem?_drop]at J;have:=aY _ x J;rw[Nat.add_mul]at this;rw[Nat.add_assoc];exact this
   ·cases J
  cases a8 with
  |true=>
   exact⟨_,.inr ⟨b,o+p*z,c-p,vs,el,bn,true,by rw[hl],by rw[hl];omega,ay,chunk⟩,fun st hle=>by rw[e2 st hle,cond_true,eX h2,fj.aj gP ab hq,fj.aj gr ab hp,o3]⟩
  |false=>
   have b0:∀st:au,(∀b o,H b=some o->st.h.get b=some o)->b2 call (.nE z x bb ae none) fr st= .ok (.slice (some (et c p ⟨b,o,none⟩ ((⟨b,o,none⟩:Addr).add (p*z)))) (q-p) (c-p)) fr st:=fun st hle=>by
    rw[e2 st hle,cond_false,BC,fj.aj gP ab (by omega),fj.aj gr ab hp]
   by_cases hc:c=p
   ·have LA:q=p:=by omega
    refine⟨_,.inr ⟨b,o,c-p,vs,el,bn,false,by rw[hl],by rw[hl];omega,ay,fun i x J=> ?_⟩,fun st hle=>by rw[b0 st hle,jI hc]⟩;rw[LA]at J;simp at J
   ·exact⟨_,.inr ⟨b,o+p*z,c-p,vs,el,bn,false,by rw[hl],by rw[hl];omega,ay,chunk⟩,fun st hle=>by rw[b0 st hle,rr hc,o3]⟩
theorem ZA{z p q:Nat}{α:Type}{R:α->List af}{l:List α}{bb ae:Option Operand}(J:bI s.env x=some (.bS z α R l))(gr:fj s bb 0 p)(gP:fj s ae l.length q)(hp:p<=q)(hq:q<=l.length):
 gy call (.nE z x bb ae none) s (.bS z α R ((l.drop p).take (q-p))) s.own s.n:=l6 fun H ids st fr ar ab=>
 let⟨v,h1,h2⟩:=ZB J gr gP hp hq ab
 ⟨v,h1,h2 st ar.le⟩
theorem arO{k z o n c p q:Nat}{el:TypeId}{a8:Bool}{α:Type}{R:α->List af}{l:List α}{bb ae:Option Operand}(J:bI s.env x=some (.a6 k z o n c))(U:s.own[k]? =some (.a el a8 z α R l))(gr:fj s bb 0 p)(gP:fj s ae n q)(hp:p<=q)(hq:q<=n)(hn:n<=c)(hc:p<c∨p=0):
 gy call (.nE z x bb ae none) s (.a6 k z (o+p) (q-p) (c-p)) s.own s.n:=l6 fun H ids st fr ar ab=>by
 have e:b2 call (.nE z x bb ae none) fr st=ku (fr.aj x) (fun b len cap=>bl b (fun a=>st.gL a (fun _ _ _ a8=>cond a8 (eo len cap (e5 fr ae len len fun h=>e5 fr bb 0 h fun l=>.ok (.slice (some (a.add (l*z))) (h-l) (cap-l)) fr st) .no) (e5 fr none cap cap fun m=>e5 fr ae len m fun h=>e5 fr bb 0 h fun l=>.ok (.slice (some (et m l a (a.add (l*z)))) (h-l) (m-l)) fr st)) .no) (e5 fr none cap cap fun m=>e5 fr ae len m fun h=>e5 fr bb 0 h fun l=>.ok (.slice none (h-l) (m-l)) fr st)) .no:=rfl;obtain⟨b,aL,aR⟩:=ab.aj J;obtain⟨vs,a7,cl,dc⟩:=om ar U aL;refine⟨_,⟨b,aL,rfl⟩,?_⟩;rw[e,aR,sj,Sym.eY];unfold au.gL;rw[Sym.ia,a7,kU];cases a8 with
 |true=>rw[cond_true,eX hn,fj.aj gP ab hq,fj.aj gr ab hp,o3,Nat.add_mul]
 |false=>
  rw[cond_false];rw[BC,fj.aj gP ab (by omega),fj.aj gr ab hp];by_cases fR:c=p
  ·rw[jI fR];have:p=0:=by omega
   subst this;rw[Nat.add_zero]
  ·rw[rr fR,o3,Nat.add_mul]
theorem amL{l:List UInt8}{j:Nat}{cc:IntKind}{BF:UInt8}(J:bI s.env x=some (.s l))(ae:bI s.env i=some (.i cc (j:Int)))(hj:l[j]? =some BF):gy call (.u9 x i) s (.i .u8 (BF.toNat:Int)) s.own s.n:=l6 fun H ids st fr ar ab=>by
 have h1:fr.aj x= .string ⟨⟨l⟩⟩:=ab.aj J;have h2:fr.aj i= .int cc (j:Int):=ab.aj ae;refine⟨_,rfl,?_⟩;have e:b2 call (.u9 x i) fr st=jB (fr.aj x) (fun s=>gB (fr.aj i) (fun _ j=>hA j (fun j=>il s.data.toList j 1 (fun bW=>one bW (fun b=>.ok (.int .u8 (.ofNat b.toNat)) fr st) .no) .no) .no) .no) .no:=rfl;obtain⟨aP,aH⟩:=List.getElem?_eq_some_iff.1 hj;rw[e,h1,Et,h2,mU,oQ];show il l j 1 _ _=_;rw[BN (by omega),hf aP,aH];rfl
theorem arQ{l:List UInt8}{p q:Nat}{bb ae:Option Operand}(J:bI s.env x=some (.s l))(gr:fj s bb 0 p)(gP:fj s ae l.length q)(hp:p<=q)(hq:q<=l.length):gy call (.sa x bb ae) s (.s ((l.drop p).take (q-p))) s.own s.n:=l6 fun H ids st fr ar ab=>by
 have h1:fr.aj x= .string ⟨⟨l⟩⟩:=ab.aj J;refine⟨_,rfl,?_⟩;have e:b2 call (.sa x bb ae) fr st=jB (fr.aj x) (fun s=>e5 fr ae (ec s.data.toList) (ec s.data.toList) fun h=>e5 fr bb 0 h fun l=>il s.data.toList l (h-l) (fun bW=>.ok (.string ⟨⟨bW⟩⟩) fr st) .no) .no:=rfl;rw[e,h1,Et];show e5 fr ae (ec l) (ec l) _=_;rw[fU,fj.aj gP ab hq,fj.aj gr ab hp,BN (by show p+(q-p)<=l.length;omega)]
theorem acM{l m:List UInt8}(J:bI s.env x=some (.s l))(aG:bI s.env y=some (.s m))(hl:l.length+m.length<=1099511627776):gy call (.bin .add x y) s (.s (l++m)) s.own s.n:=l6 fun H ids st fr ar ab=>by
 have h1:fr.aj x= .string ⟨⟨l⟩⟩:=ab.aj J;have h2:fr.aj y= .string ⟨⟨m⟩⟩:=ab.aj aG;refine⟨_,rfl,?_⟩;rw[DC,h1,h2,Q6];show eo (ec l+ec m) (2^40) _ _=_;rw[fU,fU,eX (show _<=2^40 from hl),og]
theorem apG{k:IntKind}{m n:Int}(J:bI s.env x=some (.i k m))(aG:bI s.env y=some (.i k n))(hn:n≠0):gy call (.bin .quo x y) s (.i k (k.wrap (m.tdiv n))) s.own s.n:=l6 fun H ids st fr ar ab=>
 ⟨_,rfl,Ab (by decide) (by decide) (ab.aj J) (ab.aj aG) (by show(if n=0 then none else _)=_;rw[if_neg hn])⟩
theorem ap8{k:IntKind}{m n:Int}(J:bI s.env x=some (.i k m))(aG:bI s.env y=some (.i k n))(hn:n≠0):gy call (.bin .rem x y) s (.i k (m.tmod n)) s.own s.n:=l6 fun H ids st fr ar ab=>
 ⟨_,rfl,Ab (by decide) (by decide) (ab.aj J) (ab.aj aG) (by show(if n=0 then none else _)=_;rw[if_neg hn])⟩
theorem aqR{k k':IntKind}{m n:Nat}(J:bI s.env x=some (.i k (m:Int)))(aG:bI s.env y=some (.i k' (n:Int)))(hn:n<=k.bits):gy call (.bin .shr x y) s (.i k ((m/2^n:Nat):Int)) s.own s.n:=l6 fun H ids st fr ar ab=>by
 obtain⟨v,h1,h2⟩:=PH (call:=call) (k:=k) (a:=(m:Int)) (b:=(n:Int)) (r:=.i k ((m/2^n:Nat):Int)) (by show(match Nat.ble n k.bits with|true=>_|false=>_)=_;rw[Nat.ble_eq_true_of_le hn]) (ab.aj J) (ab.aj aG);exact⟨v,h1 _ _,h2 st⟩
end
def g7(H:bF)(st:au)(b:Nat):bF:=fun c=>open Classical in if c=b then st.h.get b else H c
section
variable{H:bF}{ids:List Nat}{st:au}{own:List a3}{n:Nat}
theorem uK{k b:Nat}{o:a3}(ar:Fit H ids st own n)(U:own[k]? =some o)(hl:o.live=true)(aa:ids[k]? =some b):dt H (g7 H st b):=fun c q hc=>by
 unfold g7;rw[if_neg]
 ·exact hc
 ·intro e;rw[e,(ar.own k o b U aa).2 hl]at hc;cases hc
theorem Fit.g7{k b:Nat}{o:a3}(ar:Fit H ids st own n)(U:own[k]? =some o)(hl:o.live=true)(aa:ids[k]? =some b):Fit (Go.an.g7 H st b) ids st (own.set k .x) n:=by
 refine⟨ar.wf,?_,by simp[ar.cq],ar.len,ar.iz,ar.lt,?_⟩
 ·intro c q hc;unfold Go.an.g7 at hc;split at hc
  ·rename_i e;rw[e];exact hc
  ·exact ar.le c q hc
 ·intro j q c hj hc;rw[List.getElem?_set]at hj;by_cases je:k=j
  ·rw[if_pos je]at hj;split at hj<;>cases hj;exact⟨trivial,fun h=>by cases h⟩
  ·rw[if_neg je]at hj;obtain⟨h1,h2⟩:=ar.own j q c hj hc;refine⟨rn (uK ar U hl aa) (cM.refl _) h1,fun hq=> ?_⟩;unfold Go.an.g7;rw[if_neg]
   ·exact h2 hq
   ·intro e;subst e;have aL:=List.getElem?_eq_some_iff.1 aa;have aR:=List.getElem?_eq_some_iff.1 hc;exact je ((List.getElem_inj (h₀:=aL.1) (h₁:=aR.1) ar.iz).1 (aL.2.trans aR.2.symm))
theorem dM.g7{b9:bF}{i0:List Nat}{aJ:au}{k b:Nat}{o:a3}(a5:dM b9 i0 aJ H ids st)(ar:Fit H ids st own n)(U:own[k]? =some o)(hl:o.live=true)(aa:ids[k]? =some b):dM b9 i0 aJ (Go.an.g7 H st b) ids st:=by
 refine⟨a5.hle.trans (uK ar U hl aa),?_,a5.gz,a5.ai,a5.kq,a5.new⟩;intro c hc hn;unfold Go.an.g7;rw[if_neg]
 ·exact a5.hold c hc hn
 ·intro e;subst e;rcases a5.new _ (List.mem_of_getElem? aa)with h|h
  ·exact hn h
  ·omega
end
section
variable{aF:gx}{K:List eQ}{own:List a3}{aM:Nat}{e:bT}
theorem Rn{k t z o n c:Nat}{el:TypeId}{a8:Bool}{α:Type}{R:α->List af}{l:List α}(l':List α)(aN:dO e t=some (.a6 k z o n c))(U:own[k]? =some (.a el a8 z α R l))(hl:(l.drop o).take n=l')(hn:l'.length=n)(hc:n<=c)(hp:∀x,ht (R x)=true)
 {H:bF} {ids:List Nat} {st:au} {fr:aT} (a5:dM aF.b9 aF.i0 aF.aJ H ids st) (ar:Fit H ids st own aM) (ab:c3 fr H ids e):
 ∃bs,dM aF.b9 aF.i0 aF.aJ bs ids st∧Fit bs ids st (own.set k .x) aM∧c3 fr bs ids ((t,.bS z α R l')::e):=by
 obtain⟨b,aL,aR⟩:=ab.get t _ aN;obtain⟨⟨vs,a7,cl,dc⟩,_⟩:=ar.own k _ b U aL;have hle:=uK ar U rfl aL;refine⟨g7 H st b,a5.g7 ar U rfl aL,ar.g7 U rfl aL,(ab.mono hle (cM.refl _)).pl,fun j q hj=> ?_⟩;rw[pS]at hj;cases aa:Nat.beq t j with
 |false=>rw[aa]at hj;exact(ab.mono hle (cM.refl _)).get j q hj
 |true=>
  rw[aa]at hj;cases hj;rw[<-ep aa];refine .inr ⟨b,o*z,c,vs,el,(0,0),a8,by rw[hn];exact aR,by rw[hn];exact hc,by unfold g7;rw[if_pos rfl];exact a7,fun i x J=> ?_⟩;rw[<-hl,List.getElem?_take]at J;split at J
  ·rw[List.getElem?_drop]at J;rw[<-Nat.add_mul];exact kX hle _ (cM.refl _) (mA _ (hp x) (dc _ x J) [])
  ·cases J
theorem apQ{k z o n c:Nat}(t:Nat){el:TypeId}{a8:Bool}{α:Type}{R:α->List af}{l:List α}(l':List α){p:dy}(aN:dO e t=some (.a6 k z o n c))(U:own[k]? =some (.a el a8 z α R l))(hl:(l.drop o).take n=l')(hn:l'.length=n)(hc:n<=c)(hp:∀x,ht (R x)=true)
 (cc:a2.ok aF ⟨K,.c p,⟨own.set k .x,aM,(t,.bS z α R l')::e⟩⟩):a2.ok aF ⟨K,.c p,⟨own,aM,e⟩⟩:=fun H ids st fr a5 ar ab=>by
 obtain⟨bs,h1,h2,h3⟩:=Rn l' aN U hl hn hc hp a5 ar ab;exact cc bs ids st fr h1 h2 h3
theorem YL{k z o n c:Nat}(t:Nat){el:TypeId}{a8:Bool}{α:Type}{R:α->List af}{l:List α}(l':List α){p:List bL}(aN:dO e t=some (.a6 k z o n c))(U:own[k]? =some (.a el a8 z α R l))(hl:(l.drop o).take n=l')(hn:l'.length=n)(hc:n<=c)(hp:∀x,ht (R x)=true)
 (cc:a2.ok aF ⟨K,.o p,⟨own.set k .x,aM,(t,.bS z α R l')::e⟩⟩):a2.ok aF ⟨K,.o p,⟨own,aM,e⟩⟩:=fun H ids st fr a5 ar ab=>by
 obtain⟨bs,h1,h2,h3⟩:=Rn l' aN U hl hn hc hp a5 ar ab;exact cc bs ids st fr h1 h2 h3
theorem JS{k z:Nat}{el:TypeId}{cs:List af}{α:Type}{R:α->List af}(l:List α)(U:own[k]? =some (.c el cs))(eu:cs=l.flatMap R)(ax:∀w,(R w).length=z){H:bF}{ids:List Nat}{st:au}(ar:Fit H ids st own aM):Fit H ids st (own.set k (.a el false z α R l)) aM:=by
 refine⟨ar.wf,ar.le,by simp[ar.cq],ar.len,ar.iz,ar.lt,?_⟩;intro j q c hj hc;rw[List.getElem?_set]at hj;by_cases je:k=j
 ·subst je;rw[if_pos rfl]at hj;split at hj<;>cases hj;obtain⟨⟨vs,h3,d⟩,ay⟩:=ar.own k _ c U hc;rw[eu]at d;have:=Kh ax d;exact⟨⟨vs,h3,this.1,this.2⟩,fun _=>ay rfl⟩
 ·rw[if_neg je]at hj;exact ar.own j q c hj hc
theorem YI(k:Nat){z:Nat}{el:TypeId}{cs:List af}{α:Type}{R:α->List af}(l:List α){p:List bL}(U:own[k]? =some (.c el cs))(eu:cs=l.flatMap R)(ax:∀w,(R w).length=z)(cc:a2.ok aF ⟨K,.o p,⟨own.set k (.a el false z α R l),aM,e⟩⟩):a2.ok aF ⟨K,.o p,⟨own,aM,e⟩⟩:=fun H ids st fr a5 ar ab=>
 cc H ids st fr a5 (JS l U eu ax ar) ab
end
structure bE where
 L:Type
 args:L->List af
 pre:L->Prop
 res:L->af
 hp:bF->Prop:=fun _=>True
 hm:∀{H bs:bF},dt H bs->hp H->hp bs:=by exact fun _ _=>trivial
def bE.spec(S:bE):Spec where
 L:=S.L×bF
 pre:=fun l vs st=>S.pre l.1∧S.hp l.2∧Fit l.2 [] st [] 0∧di l.2 (S.args l.1) [] vs
 post:=fun l vs st v st'=>∃bs,Fit bs [] st' [] 0∧dM l.2 [] st bs [] st'∧den bs (S.res l.1) [] v
def Fin(S:bE)(l:S.L)(res:List ig)(x:dF)(s:cS):Prop:=(x= .norm∨x= .ret)∧∃r,tH s res=some r∧pZ r=true∧b3 r (S.res l)
where
 NK (s:cS):ig->Option af
  |.tmp t=>dO s.env t
  |.cell a hx n=>match dO s.env a with
   |some (.p k o)=>match s.own[k]? with
    |some (.c _ cs)=>wo cs o n (Hz hx)
    |_=>none
   |_=>none
 IK (s:cS):List ig->Option (List af)
  |[]=>some []
  |r::rs=>match NK s r with
   |some a=>match IK s rs with
    |some as=>some (a::as)
    |none=>none
   |none=>none
 tH (s:cS) (l:List ig):Option af:=match IK s l with
  |some [a]=>some a
  |some as=>some (.bB as)
  |none=>none
theorem Fit.less{H:bF}{ids:List Nat}{st:au}{own:List a3}{n:Nat}(h:Fit H ids st own n):Fit H [] st [] 0:=⟨h.wf,h.le,rfl,rfl,List.nodup_nil,fun b aa=>by simp at aa,fun k o b U=>by simp at U⟩
theorem dM.refl(H:bF)(i:List Nat)(st:au):dM H i st H i st:=⟨dt.refl _,fun _ _ _=>rfl,fun _ _ _=>rfl,b5 _,cM.refl _,fun b aa=>.inl aa⟩
theorem dM.less{b9:bF}{aJ:au}{H:bF}{ids:List Nat}{st:au}(h:dM b9 [] aJ H ids st):dM b9 [] aJ H [] st:=⟨h.hle,h.hold,h.gz,h.ai,cM.refl _,fun b aa=>.inl aa⟩
theorem aql{s:cS}{H:bF}{ids:List Nat}{st:au}{fr:aT}(ar:Fit H ids st s.own s.n)(ab:c3 fr H ids s.env){r:ig}{a:af}(h:Fin.NK s r=some a):
 ∃v,den H a ids v∧∀vs:List Value,(ig.rec (motive:=fun _=>Option (List Value)) (fun t=>some (fr.tmp t::vs)) (fun a agg n=>iD (fr.tmp a) (fun p=>bl p (fun ad=>st.load ad n (fun cs=>cond agg (some (.agg ⟨cs⟩::vs)) (one cs (fun v=>some (v::vs)) none)) none) none) none) r:Option (List Value))=some (v::vs):=by
 cases r with
 |tmp t=>exact⟨_,ab.get t a h,fun vs=>rfl⟩
 |cell t hx n=>
  simp only[Fin.NK]at h;split at h<;>try cases h
  rename_i k o aN;split at h<;>try cases h
  rename_i el cs U;obtain⟨b,aL,aR⟩:=ab.get t _ aN;obtain⟨⟨ws,a7,d⟩,_⟩:=ar.own k _ b U aL;obtain⟨h1,h2⟩:=BM h;have av:=uB n (ox o d);have hl:=hI (ox o d);have e:∀vs:List Value,iD (fr.tmp t) (fun p=>bl p (fun ad=>st.load ad n (fun cs=>cond hx (some (.agg ⟨cs⟩::vs)) (one cs (fun v=>some (v::vs)) none)) none) none) none=cond hx (some (.agg ⟨(ws.drop o).take n⟩::vs)) (one ((ws.drop o).take n) (fun v=>some (v::vs)) none):=fun vs=>by
   rw[aR,tN,Sym.eY];unfold au.load au.gL;rw[Sym.ia,a7,kU,rl (by show n<=(ws.drop o).length;omega)]
  rcases Xw h2 with⟨rfl,rfl⟩|⟨rfl,h3⟩
  ·exact⟨_,⟨_,rfl,av⟩,fun vs=>e vs⟩
  ·rw[h3]at av;obtain⟨v,us,aH,av,hn⟩:=av;cases hn;refine⟨v,av,fun vs=>(e vs).trans ?_⟩;rw[aH];rfl
theorem NL{s:cS}{H:bF}{ids:List Nat}{st:au}{fr:aT}(ar:Fit H ids st s.own s.n)(ab:c3 fr H ids s.env):∀{rs:List ig} {as:List af},Fin.IK s rs=some as->∃vs,di H as ids vs∧qq fr st rs=some vs
 |[],as,h=>by cases h;exact⟨[],rfl,rfl⟩
 |r::rs,as,h=>by
  unfold Fin.IK at h;split at h<;>try cases h
  rename_i a h1;split at h<;>try cases h
  rename_i as' h2;obtain⟨v,aL,aR⟩:=aql ar ab h1;obtain⟨vs,a7,cl⟩:=NL ar ab h2;refine⟨v::vs,⟨v,vs,rfl,aL,a7⟩,?_⟩;show bl (qq fr st rs) _ none=_;rw[cl];exact aR vs
theorem AK{s:cS}{H:bF}{ids:List Nat}{st:au}{fr:aT}{call:bQ}(ar:Fit H ids st s.own s.n)(ab:c3 fr H ids s.env){rs:List ig}{r:af}(h:Fin.tH s rs=some r):∃v,den H r ids v∧nQ call rs none fr st= .ret v st false:=by
 have e:∀vs,qq fr st rs=some vs->nQ call rs none fr st=one vs (fun v=>.ret v st false) (.ret (.tuple ⟨vs⟩) st false):=fun vs aH=>by
  unfold nQ;rw[ab.pl.c4,ab.pl.cF];simp only[jV];show bl (qq fr st rs) _ _=_;rw[aH];rfl
 unfold Fin.tH at h;split at h
 ·rename_i a ha;cases h;obtain⟨vs,⟨v,ws,rfl,h1,h2⟩,h3⟩:=NL ar ab ha;cases h2;exact⟨v,h1,(e _ h3).trans rfl⟩
 ·rename_i as hn ha;cases h;obtain⟨vs,h1,h3⟩:=NL ar ab ha;refine⟨_,⟨vs,rfl,h1⟩,(e _ h3).trans ?_⟩;have hl:=hI h1
  match vs,as,hl with
  |[],_,_=>rfl
  |[v],[a],_=>exact absurd ha (by intro _;exact hn a rfl)
  |_::_::_,_,_=>rfl
 ·cases h
def lS:Nat->List af->bT
 |_,[]=>[]
 |i,a::as=>(i,a)::lS (i+1) as
theorem Q1:∀(as:List af) (i j:Nat) (a:af),dO (lS i as) j=some a->i<=j∧as[j-i]? =some a
 |[],_,_,_,h=>by cases h
 |w::as,i,j,a,h=>by
  rw[lS,pS]at h;cases aa:Nat.beq i j with
  |true=>
   rw[aa]at h;have:=ep aa;subst this;cases h;exact⟨b5 _,by simp⟩
  |false=>
   rw[aa]at h;obtain⟨h1,h2⟩:=Q1 as (i+1) j a h;refine⟨by omega,?_⟩;have:j-i=(j-(i+1))+1:=by omega
   rw[this];simpa using h2
theorem c3.zero{H:bF}{ids:List Nat}{as:List af}{vs:List Value}(d:di H as ids vs):c3 (fH vs) H ids (lS 0 as):=by
 refine⟨v7.zero _,fun j a h=> ?_⟩;obtain⟨_,h2⟩:=Q1 as 0 j a h;obtain⟨v,h3,ay⟩:=uy d h2;have hj:=(List.getElem?_eq_some_iff.1 h3).1;have:(fH vs).tmp j=v:=by
  show Option.rec (motive:=fun _=>Value) _ _ ((nO vs 0 .nil).get j)=v;rw[PD,if_pos (by omega),h3]
 rw[this];exact ay
variable{X:Ctx}
theorem Km{aW:ao df}(dv:Good X)(h8:mY X aW)(cp:FuncId->List Value->au->Value->au->Prop){f:FuncId}{xf:df}(J:aW.get f=some xf){S:bE}(hl:∀l,(S.args l).length<=xf.aS)
 (h:∀l,S.pre l->∀H aJ,S.hp H->a2.ok ⟨cC aW (c0 X cp) (ba+1),ba+1,f,H,[],aJ,Fin S l xf.res⟩ ⟨[],.c xf.body,⟨[],0,lS 0 (S.args l)⟩⟩):bg X f S.spec:=by
 refine Ff dv h8 cp J (fun l vs st ⟨_,_,_,d⟩=>by rw[hI d];exact hl l.1) ?_;rintro⟨l,H⟩ vs st ⟨hp,hh,ar,d⟩;refine(h l hp H st hh H [] st (fH vs) (dM.refl _ _ _) ar (c3.zero d)).mono ?_;rintro x fr st' ⟨bs,ids,s,a5,c6,ab,J,r,h1,h2,hle⟩;obtain⟨v,h3,ay⟩:=AK (call:=cC aW (c0 X cp) (ba+1)) c6 ab h1;exact⟨J,v,ay,bs,c6.less,a5.less,hle _ _ _ (BR _ h2 h3 _)⟩
theorem aeQ{aW:ao df}(dv:Good X)(h8:mY X aW)(cp:FuncId->List Value->au->Value->au->Prop){f:FuncId}{xf:df}(J:aW.get f=some xf){S:bE}(hl:∀l,(S.args l).length<=xf.aS)
 (h:∀l,S.pre l->∀H aJ,a2.ok ⟨cC aW (c0 X cp) (ba+1),ba+1,f,H,[],aJ,Fin S l xf.res⟩ ⟨[],.c xf.body,⟨[],0,lS 0 (S.args l)⟩⟩):bg X f S.spec:=Km dv h8 cp J hl fun l hp H aJ _=>h l hp H aJ
theorem Qc{aW:ao df}{cp:FuncId->List Value->au->Value->au->Prop}{g:FuncId}{S:bE}(hc:bg X g S.spec)(dB:cp g=S.spec.K){s:cS}{cr:List Operand}{as:List af}{n:Nat}(l:S.L)(ha:kc s.env cr=some as)(nh:ht as=true)(he:jE as (S.args l))(hp:S.pre l){b9:bF}(hh:S.hp b9):
 v3 b9 (cC aW (c0 X cp) (n+1)) (.call (.func g) cr) s (S.res l) s.own s.n:=fun H ids st fr dX ar ab=>by
 have av:=he.den (mA _ nh (ab.dT ha) []);obtain⟨v,st',h1,h2⟩:=hc _ st ⟨(l,H),hp,S.hm dX hh,ar.less,av⟩;obtain⟨v1,cm,aL,aR⟩:=DD (X:=X) (K:=cp) (f:=g) ⟨v,st',by rw[dB];exact h1,h2⟩;rw[dB]at aR;obtain⟨bs,c6,dg,gb⟩:=aR (l,H) ⟨hp,S.hm dX hh,ar.less,av⟩;have a7:cC aW (c0 X cp) (n+1) (.func (.func g) #[] #[]) (dT fr cr) none st= .ret v1 cm false:=by
  rw[um];have e:fZ (#[]:Array Value).toList (fZ (dT fr cr) (#[]:Array Value).toList)=dT fr cr:=by simp
  rw[e,aL];rfl
 have hle:dt H bs:=dg.hle;refine⟨v1,cm,ids,bs,?_,?_,sH (dt.refl _) _ (cM.nil _) gb,hle,cM.refl _,?_,dg.ai,fun b aa _=>dg.gz b aa (by simp)⟩
 ·rw[vp];show sM (cC aW (c0 X cp) (n+1) (.func (.func g) #[] #[]) (dT fr cr) none st) _ _=_;rw[a7];rfl
 ·refine⟨c6.wf,c6.le,ar.cq,ar.len,ar.iz,fun b aa=>e4 (ar.lt b aa) dg.ai,fun k o b U aa=> ?_⟩;obtain⟨h3,ay⟩:=ar.own k o b U aa;have aP:=ar.lt b (List.mem_of_getElem? aa);rw[dg.gz b aP (by simp)];exact⟨rn hle (cM.refl _) h3,fun hl=>by rw[dg.hold b aP (by simp)];exact ay hl⟩
 ·intro b9 i0 aJ B;refine⟨B.hle.trans hle,fun b aa hn=> ?_,fun b aa hn=> ?_,Nat.le_trans B.ai dg.ai,B.kq,B.new⟩
  ·rw[dg.hold b (e4 aa B.ai) (by simp)];exact B.hold b aa hn
  ·rw[dg.gz b (e4 aa B.ai) (by simp)];exact B.gz b aa hn
section
variable{aW:ao df}{cp:FuncId->List Value->au->Value->au->Prop}{cd n:Nat}{fn:FuncId}{b9:bF}{i0:List Nat}{aJ:au}{Q:dF->cS->Prop}{K:List eQ}{own:List a3}{aM:Nat}{e:bT}
theorem aX{g:FuncId}{S:bE}(hc:bg X g S.spec){cr:List Operand}{as:List af}{d:Tmp}{xs:List bL}(l:S.L)(hp:S.pre l)(k:a2.ok ⟨cC aW (c0 X cp) (n+1),cd,fn,b9,i0,aJ,Q⟩ ⟨K,.o xs,⟨own,aM,(d,S.res l)::e⟩⟩)
 (ha:kc e cr=some as:=by rfl) (he:jE as (S.args l):=by exact jE.refl _) (nh:ht as=true:=by rfl) (dB:cp g=S.spec.K:=by rfl) (hh:S.hp b9:=by exact trivial):
 a2.ok ⟨cC aW (c0 X cp) (n+1),cd,fn,b9,i0,aJ,Q⟩ ⟨K,.o (⟨some d,.call (.func g) cr,none⟩::xs),⟨own,aM,e⟩⟩:=D4 (d:=some d) (s:=⟨own,aM,e⟩) (Qc hc dB l ha nh he hp hh) k
theorem ck{g:FuncId}{S:bE}(hc:bg X g S.spec){cr:List Operand}{as:List af}{d:Tmp}{xs:List (bL×cL)}{bO:List a3}{aU:bT}{bf cf:Nat}(l:S.L)(hp:S.pre l)(k:a2.ok ⟨cC aW (c0 X cp) (n+1),cd,fn,b9,i0,aJ,Q⟩ ⟨K,.d xs bO (mC d aU) (bf+1) aM,⟨own,aM,(d,S.res l)::e⟩⟩)
 (ha:kc e cr=some as:=by rfl) (he:jE as (S.args l):=by exact jE.refl _) (nh:ht as=true:=by rfl) (dB:cp g=S.spec.K:=by rfl) (hh:S.hp b9:=by exact trivial):
 a2.ok ⟨cC aW (c0 X cp) (n+1),cd,fn,b9,i0,aJ,Q⟩ ⟨K,.d ((⟨some d,.call (.func g) cr,none⟩,.eO)::xs) bO aU bf cf,⟨own,aM,e⟩⟩:=
 Kp (d:=some d) (s:=⟨own,aM,e⟩) (Qc hc dB l ha nh he hp hh) rfl (fun _ _ U _=>⟨U,by simp[iR]⟩) k
end
def cc:List (Nat×Spec)->FuncId->List Value->au->Value->au->Prop
 |[],_=>fun _ _ _ _=>False
 |p::l,g=>cond (Nat.beq p.1 g) p.2.K (cc l g)
theorem ago{S:bE}{l:S.L}{res:List ig}{s:cS}{r:af}{e:dF}(h1:Fin.tH s res=some r)(h2:pZ r=true)(h3:b3 r (S.res l))(he:e= .ret∨e= .norm:=by first|exact .inl rfl|exact .inr rfl):Fin S l res e s:=⟨he.symm,r,h1,h2,h3⟩
theorem aw{call:bQ}{cd:Nat}{fn:FuncId}{b9:bF}{i0:List Nat}{aJ:au}{S:bE}{l:S.L}{res:List ig}{s:cS}{r:af}{e:dF}(h1:Fin.tH s res=some r)(h3:b3 r (S.res l))(h2:pZ r=true:=by rfl)(he:e= .ret∨e= .norm:=by first|exact .inl rfl|exact .inr rfl):a2.ok ⟨call,cd,fn,b9,i0,aJ,Fin S l res⟩ ⟨[],.x e,s⟩:=mi (ago h1 h2 h3 he)
end Go.an
namespace Go.an
open Sym
section
variable{aF:gx}{K:List eQ}{own bu:List a3}{aM b8:Nat}{e:bT}{d:Tmp}{xs:List bL}{x y i:Operand}
theorem cV{z j:Nat}{α:Type}{R:α->List af}{l:List α}(q:α){cc:IntKind}(hj:l[j]? =some q)(k:a2.ok aF ⟨K,.o xs,⟨own,aM,(d,.ip (R q))::e⟩⟩)(J:bI e x=some (.bS z α R l):=by rfl)(ae:bI e i=some (.i cc (j:Int)):=by rfl):a2.ok aF ⟨K,.o (⟨some d,.lD z x i,none⟩::xs),⟨own,aM,e⟩⟩:=
 g2 (LP J ae hj) k
theorem tC{bD z o n c j:Nat}{cc:IntKind}(k:a2.ok aF ⟨K,.o xs,⟨own,aM,(d,.fz bD z (o+j) 0)::e⟩⟩)(J:bI e x=some (.a6 bD z o n c):=by rfl)(ae:bI e i=some (.i cc (j:Int)):=by rfl)(hj:j<n:=by omega):a2.ok aF ⟨K,.o (⟨some d,.lD z x i,none⟩::xs),⟨own,aM,e⟩⟩:=
 g2 (Vj J ae hj) k
theorem hE{bD z n c j:Nat}{cc:IntKind}(k:a2.ok aF ⟨K,.o xs,⟨own,aM,(d,.fz bD z j 0)::e⟩⟩)(J:bI e x=some (.a6 bD z 0 n c):=by rfl)(ae:bI e i=some (.i cc (j:Int)):=by rfl)(hj:j<n:=by omega):a2.ok aF ⟨K,.o (⟨some d,.lD z x i,none⟩::xs),⟨own,aM,e⟩⟩:=
 g2 (Vj J ae hj) (by rw[Nat.zero_add];exact k)
theorem p4{bD z j q:Nat}{el:TypeId}{a8:Bool}{α:Type}{R:α->List af}{l:List α}(w:α){a:af}(hj:l[j]? =some w)(k:a2.ok aF ⟨K,.o xs,⟨own,aM,(d,a)::e⟩⟩)(J:bI e x=some (.fz bD z j q):=by rfl)(U:own[bD]? =some (.a el a8 z α R l):=by rfl)(hq:(R w)[q]? =some a:=by rfl):a2.ok aF ⟨K,.o (⟨some d,.lE x,none⟩::xs),⟨own,aM,e⟩⟩:=
 g2 (anc J U hj hq) k
theorem jk{bD j:Nat}{el:TypeId}{a8:Bool}{α:Type}{R:α->List af}{l:List α}{a:af}(w':α)(k:a2.ok aF ⟨K,.o xs,⟨bu,aM,e⟩⟩)(J:bI e x=some (.fz bD 1 j 0):=by rfl)(aG:bI e y=some a:=by rfl)(U:own[bD]? =some (.a el a8 1 α R l):=by rfl)(cI:R w'=[a]:=by rfl)(hc:sz a=true:=by rfl)(h1:∀w,(R w).length=1:=by exact fun _=>rfl)
 (ak:iT own bD (.a el a8 1 α R (l.set j w')) some=some bu:=by rfl) (hj:j<l.length:=by first|omega|(simp;done)|(simp;omega)):a2.ok aF ⟨K,.o (⟨none,.store 1 x y,none⟩::xs),⟨own,aM,e⟩⟩:=by
 have:=jT ak;cases this;exact YO (ZN (s:=⟨own,aM,e⟩) w' J aG U cI hj hc h1) k
def G0:List Value->Option Nat
 |[]=>some 0
 |[_]=>some 1
 |[_,_]=>some 2
 |[_,_,_]=>some 3
 |[_,_,_,_]=>some 4
 |[_,_,_,_,_]=>some 5
 |[_,_,_,_,_,_]=>some 6
 |[_,_,_,_,_,_,_]=>some 7
 |l=>some l.length
theorem VQ{l:List Value}{n:Nat}(h:G0 l=some n):l.length=n:=by
 unfold G0 at h;split at h<;>cases h<;>rfl
theorem oW{el:TypeId}{cQ z n c:Nat}{gi:List Value}{bD k':IntKind}{α:Type}(R:α->List af)(w:α)(k:a2.ok aF ⟨K,.o xs,⟨bu,b8,(d,.a6 aM z 0 n c)::e⟩⟩)(J:bI e x=some (.i bD (n:Int)):=by rfl)(aG:bI e y=some (.i k' (c:Int)):=by rfl)(ax:G0 gi=some z:=by rfl)(cI:vl gi=R w:=by rfl)
 (ak:qZ own (.a el false z α R (List.replicate c w)) some=some bu:=by rfl) (gR:oR aM some=some b8:=by rfl) (hn:n<=c:=by omega) (hc:c*(cQ+1)<=1099511627776:=by omega):a2.ok aF ⟨K,.o (⟨some d,.oO el cQ gi x y,none⟩::xs),⟨own,aM,e⟩⟩:=by
 have h1:=sb ak;have h2:=qN gR;cases h1;cases h2;exact g2 (mk (s:=⟨own,aM,e⟩) R w J aG (VQ ax) cI hn hc) k
theorem ID{bD z o n c:Nat}(t:Nat){el:TypeId}{a8:Bool}{α:Type}{R:α->List af}{l:List α}(l':List α)(k:a2.ok aF ⟨K,.o xs,⟨bu,aM,(t,.bS z α R l')::e⟩⟩)(aN:dO e t=some (.a6 bD z o n c):=by rfl)(U:own[bD]? =some (.a el a8 z α R l):=by rfl)(hp:∀x,ht (R x)=true:=by exact fun _=>rfl)
 (ak:iT own bD .x some=some bu:=by rfl) (hl:(l.drop o).take n=l':=by first|rfl|simp) (hn:l'.length=n:=by first|omega|(simp;done)|(simp;omega)) (hc:n<=c:=by omega):a2.ok aF ⟨K,.o xs,⟨own,aM,e⟩⟩:=by
 have h1:=jT ak;cases h1;exact YL t l' aN U hl hn hc hp k
theorem hD{bD z n c:Nat}(t:Nat){el:TypeId}{a8:Bool}{α:Type}{R:α->List af}{l:List α}(k:a2.ok aF ⟨K,.o xs,⟨bu,aM,(t,.bS z α R l)::e⟩⟩)(aN:dO e t=some (.a6 bD z 0 n c):=by rfl)(U:own[bD]? =some (.a el a8 z α R l):=by rfl)(hp:∀x,ht (R x)=true:=by exact fun _=>rfl)
 (ak:iT own bD .x some=some bu:=by rfl) (hn:l.length=n:=by first|omega|(simp;done)|(simp;omega)) (hc:n<=c:=by omega):a2.ok aF ⟨K,.o xs,⟨own,aM,e⟩⟩:=
 ID t (l:=l) l k aN U hp ak (by rw[List.drop_zero,List.take_of_length_le (by omega)]) hn hc
theorem mh(bD:Nat){z:Nat}{el:TypeId}{cs:List af}{α:Type}(R:α->List af)(l:List α)(k:a2.ok aF ⟨K,.o xs,⟨bu,aM,e⟩⟩)(U:own[bD]? =some (.c el cs):=by rfl)(ax:∀w,(R w).length=z:=by exact fun _=>rfl)
 (ak:iT own bD (.a el false z α R l) some=some bu:=by rfl) (eu:cs=l.flatMap R:=by rfl):a2.ok aF ⟨K,.o xs,⟨own,aM,e⟩⟩:=by
 have h1:=jT ak;cases h1;exact YI bD l U eu ax k
theorem apX{bD z o n c p q:Nat}{el:TypeId}{a8:Bool}{α:Type}{R:α->List af}{l:List α}{bb ae:Option Operand}(k:a2.ok aF ⟨K,.o xs,⟨own,aM,(d,.a6 bD z (o+p) (q-p) (c-p))::e⟩⟩)(J:bI e x=some (.a6 bD z o n c):=by rfl)(U:own[bD]? =some (.a el a8 z α R l):=by rfl)(gr:fj ⟨own,aM,e⟩ bb 0 p:=by first|exact rfl|exact⟨_,rfl⟩)(gP:fj ⟨own,aM,e⟩ ae n q:=by first|exact rfl|exact⟨_,rfl⟩)(hp:p<=q:=by omega)(hq:q<=n:=by omega)(hn:n<=c:=by omega)(hc:p<c∨p=0:=by omega):a2.ok aF ⟨K,.o (⟨some d,.nE z x bb ae none,none⟩::xs),⟨own,aM,e⟩⟩:=
 g2 (arO J U gr gP hp hq hn hc) k
theorem YP{bD z n c p q:Nat}{el:TypeId}{a8:Bool}{α:Type}{R:α->List af}{l:List α}{bb ae:Option Operand}(k:a2.ok aF ⟨K,.o xs,⟨own,aM,(d,.a6 bD z p (q-p) (c-p))::e⟩⟩)(J:bI e x=some (.a6 bD z 0 n c):=by rfl)(U:own[bD]? =some (.a el a8 z α R l):=by rfl)(gr:fj ⟨own,aM,e⟩ bb 0 p:=by first|exact rfl|exact⟨_,rfl⟩)(gP:fj ⟨own,aM,e⟩ ae n q:=by first|exact rfl|exact⟨_,rfl⟩)(hp:p<=q:=by omega)(hq:q<=n:=by omega)(hn:n<=c:=by omega)(hc:p<c∨p=0:=by omega):a2.ok aF ⟨K,.o (⟨some d,.nE z x bb ae none,none⟩::xs),⟨own,aM,e⟩⟩:=
 apX (by rw[Nat.zero_add];exact k) J U gr gP hp hq hn hc
theorem x6{a4 cQ:Nat}{el:TypeId}{α:Type}(R:α->List af)(l:List α)(ah:od ⟨own,aM,e⟩ y R a4 l)(k:a2.ok aF ⟨K,.o xs,⟨bu,b8,(d,.a6 aM a4 0 l.length l.length)::e⟩⟩)(J:bI e x=some .nl:=by rfl)
 (ak:qZ own (.a el true a4 α R l) some=some bu:=by rfl) (gR:oR aM some=some b8:=by rfl) (h0:l≠[]:=by first|rfl|simp) (aa:(2*l.length+768)*(cQ+1)<=1099511627776:=by first|omega|(simp;done)|(simp;omega)):a2.ok aF ⟨K,.o (⟨some d,.app el a4 cQ x y,none⟩::xs),⟨own,aM,e⟩⟩:=by
 have h1:=sb ak;have h2:=qN gR;cases h1;cases h2;exact g2 (abZ (s:=⟨own,aM,e⟩) J (wb ah) h0 aa) k
theorem x5{a4 cQ bD n c:Nat}{el:TypeId}{α:Type}{R:α->List af}{l:List α}{hX:List a3}(m:List α)(ah:od ⟨own,aM,e⟩ y R a4 m)(k:a2.ok aF ⟨K,.o xs,⟨bu,b8,(d,.a6 aM a4 0 (n+m.length) (n+m.length))::e⟩⟩)(J:bI e x=some (.a6 bD a4 0 n c):=by rfl)(U:own[bD]? =some (.a el true a4 α R l):=by rfl)
 (k4:iT own bD .x some=some hX:=by rfl) (ak:qZ hX (.a el true a4 α R (l++m)) some=some bu:=by rfl) (gR:oR aM some=some b8:=by rfl) (h0:m≠[]:=by first|rfl|simp) (hn:n=l.length:=by first|omega|(simp;done)|(simp;omega)) (lC:n=c:=by omega) (aa:(2*(n+m.length)+768)*(cQ+1)<=1099511627776:=by first|omega|(simp;done)|(simp;omega)):a2.ok aF ⟨K,.o (⟨some d,.app el a4 cQ x y,none⟩::xs),⟨own,aM,e⟩⟩:=by
 have kC:=jT k4;cases kC;have h1:=sb ak;have h2:=qN gR;cases h1;cases h2;have:=abW (call:=aF.call) (s:=⟨own,aM,e⟩) (cQ:=cQ) J U (wb ah) h0 (by omega) (by omega) (by omega) aa;rw[hn,List.take_length]at this;rw[hn]at k;exact g2 this k
theorem YH{a4 cQ bD n c:Nat}{el:TypeId}{α:Type}{R:α->List af}{l:List α}(m:List α)(ah:od ⟨own,aM,e⟩ y R a4 m)(l':List α)(k:a2.ok aF ⟨K,.o xs,⟨bu,aM,(d,.a6 bD a4 0 (n+m.length) c)::e⟩⟩)(J:bI e x=some (.a6 bD a4 0 n c):=by rfl)(U:own[bD]? =some (.a el false a4 α R l):=by rfl)
 (ak:iT own bD (.a el false a4 α R l') some=some bu:=by rfl) (h0:m≠[]:=by first|rfl|simp) (hn:n+m.length<=c:=by first|omega|(simp;done)|(simp;omega)) (hc:c<=l.length:=by first|omega|(simp;done)|(simp;omega)) (aa:(2*(n+m.length)+768)*(cQ+1)<=1099511627776:=by first|omega|(simp;done)|(simp;omega)) (hl:l.take n++(m++l.drop (n+m.length))=l':=by first|rfl|simp):a2.ok aF ⟨K,.o (⟨some d,.app el a4 cQ x y,none⟩::xs),⟨own,aM,e⟩⟩:=by
 subst hl;have h1:=jT ak;cases h1;exact g2 (abY (s:=⟨own,aM,e⟩) J U (wb ah) h0 hn hc aa) k
theorem gG{bD z c:Nat}{el:TypeId}{cs:List af}{α:Type}{R:α->List af}(l:List α)(eu:cs=l.flatMap R)(J:bI e x=some (.a6 bD z 0 l.length c):=by rfl)(U:own[bD]? =some (.c el cs):=by rfl)(ax:∀w,(R w).length=z:=by exact fun _=>rfl)(hc:pd cs=true:=by rfl):od ⟨own,aM,e⟩ x R z l:=arU l J rfl U eu ax hc rfl
theorem nz{l:List UInt8}{j:Nat}{cc:IntKind}(BF:UInt8)(hj:l[j]? =some BF)(k:a2.ok aF ⟨K,.o xs,⟨own,aM,(d,.i .u8 (BF.toNat:Int))::e⟩⟩)(J:bI e x=some (.s l):=by rfl)(ae:bI e i=some (.i cc (j:Int)):=by rfl):a2.ok aF ⟨K,.o (⟨some d,.u9 x i,none⟩::xs),⟨own,aM,e⟩⟩:=g2 (amL J ae hj) k
theorem x9{l:List UInt8}{p q:Nat}{bb ae:Option Operand}(l':List UInt8)(k:a2.ok aF ⟨K,.o xs,⟨own,aM,(d,.s l')::e⟩⟩)(J:bI e x=some (.s l):=by rfl)(gr:fj ⟨own,aM,e⟩ bb 0 p:=by first|exact rfl|exact⟨_,rfl⟩)(gP:fj ⟨own,aM,e⟩ ae l.length q:=by first|exact rfl|exact⟨_,rfl⟩)(hl:(l.drop p).take (q-p)=l':=by first|rfl|simp)(hp:p<=q:=by omega)(hq:q<=l.length:=by first|omega|(simp;done)|(simp;omega)):a2.ok aF ⟨K,.o (⟨some d,.sa x bb ae,none⟩::xs),⟨own,aM,e⟩⟩:=by
 subst hl;exact g2 (arQ J gr gP hp hq) k
theorem D2{l m:List UInt8}(k:a2.ok aF ⟨K,.o xs,⟨own,aM,(d,.s (l++m))::e⟩⟩)(J:bI e x=some (.s l):=by rfl)(aG:bI e y=some (.s m):=by rfl)(hl:l.length+m.length<=1099511627776:=by first|omega|(simp;done)|(simp;omega)):a2.ok aF ⟨K,.o (⟨some d,.bin .add x y,none⟩::xs),⟨own,aM,e⟩⟩:=g2 (acM J aG hl) k
end
section
variable{aF:gx}{K:List eQ}{own:List a3}{aM:Nat}{e:bT}{d:Tmp}{xs:List bL}{x y:Operand}
theorem apV{m n:Nat}(k:a2.ok aF ⟨K,.o xs,⟨own,aM,(d,.i .u64 ((m/n:Nat):Int))::e⟩⟩)(J:bI e x=some (.i .u64 (m:Int)):=by rfl)(aG:bI e y=some (.i .u64 (n:Int)):=by rfl)(hn:n≠0:=by omega)(hm:m<18446744073709551616:=by omega):a2.ok aF ⟨K,.o (⟨some d,.bin .quo x y,none⟩::xs),⟨own,aM,e⟩⟩:=by
 have h:=apG (call:=aF.call) (s:=⟨own,aM,e⟩) J aG (by omega);have aA:IntKind.u64.wrap ((m:Int).tdiv n)=((m/n:Nat):Int):=by
  show IntKind.u64.wrap ((m/n:Nat):Int)=_;have:=Nat.div_le_self m n;generalize m/n=q at *;exact aa7 (by omega) (by omega)
 rw[aA]at h;exact g2 h k
theorem apW{bD:IntKind}{m n:Nat}(k:a2.ok aF ⟨K,.o xs,⟨own,aM,(d,.i bD ((m%n:Nat):Int))::e⟩⟩)(J:bI e x=some (.i bD (m:Int)):=by rfl)(aG:bI e y=some (.i bD (n:Int)):=by rfl)(hn:n≠0:=by omega):a2.ok aF ⟨K,.o (⟨some d,.bin .rem x y,none⟩::xs),⟨own,aM,e⟩⟩:=
 g2 (ap8 (s:=⟨own,aM,e⟩) J aG (by omega)) k
theorem apY{bD bj:IntKind}{m n:Nat}(k:a2.ok aF ⟨K,.o xs,⟨own,aM,(d,.i bD ((m/2^n:Nat):Int))::e⟩⟩)(J:bI e x=some (.i bD (m:Int)):=by rfl)(aG:bI e y=some (.i bj (n:Int)):=by rfl)(hn:n<=bD.bits:=by first|decide|(show _<=64;omega)):a2.ok aF ⟨K,.o (⟨some d,.bin .shr x y,none⟩::xs),⟨own,aM,e⟩⟩:=
 g2 (aqR (s:=⟨own,aM,e⟩) J aG hn) k
end
def N0(d:Nat):a2->Option a2
 |⟨K,c,⟨own,n,(t,a)::e⟩⟩=>match Nat.beq t d with
  |true=>none
  |false=>Eh ⟨K,c,⟨own,n,(t,a)::e⟩⟩
 |g=>Eh g
theorem asw{aF:gx}(d:Nat){g jb:a2}(h:N0 d g=some jb)(k:jb.ok aF):g.ok aF:=by
 unfold N0 at h;split at h
 ·split at h
  ·cases h
  ·exact N1 h k
 ·exact N1 h k
theorem R.mono{aF:gx}{K A5:List eQ}{c:bz}{s:cS}(h:∀x s,Sem aF K x s->Sem aF A5 x s)(k:R aF K c s):R aF A5 c s:=by
 have up:∀x fr st,tZ aF (Sem aF K) x fr st->tZ aF (Sem aF A5) x fr st:=fun x fr st ⟨H,ids,s,h1,h2,h3,ay⟩=>⟨H,ids,s,h1,h2,h3,h x s ay⟩;cases c with
 |c c=>exact fun H ids st fr a5 ar ab=>(k H ids st fr a5 ar ab).mono up
 |o l=>exact fun H ids st fr a5 ar ab=>(k H ids st fr a5 ar ab).mono up
 |x e=>exact h e s k
 |d l bO aU bf cf=>exact fun H ids st fr fE ah a5 ar ab ch=>(k H ids st fr fE ah a5 ar ab ch).mono up
theorem cP{aF:gx}{K:List eQ}{s:cS}{c:Operand}{a b:dy}{P:Prop}[av:Decidable P](ha:P->a2.ok aF ⟨K,.c a,s⟩)(aa:¬P->a2.ok aF ⟨K,.c b,s⟩)(hc:bI s.env c=some (.b (decide P)):=by rfl):a2.ok aF ⟨K,.c (.cond c a b),s⟩:=x8 hc (fun h=>ha (of_decide_eq_true h)) (fun h=>aa (of_decide_eq_false h))
theorem AG{aF:gx}{K:List eQ}{s:cS}{c:Operand}{a b:dy}{P:Prop}[av:Decidable P](ha:¬P->a2.ok aF ⟨K,.c a,s⟩)(aa:P->a2.ok aF ⟨K,.c b,s⟩)(hc:bI s.env c=some (.b (!decide P)):=by rfl):a2.ok aF ⟨K,.c (.cond c a b),s⟩:=x8 hc (fun h=>ha (by simpa using h)) (fun h=>aa (by simpa using h))
theorem iS{aF:gx}{K:List eQ}{c:bz}{s:cS}{b:dy}{L:Type _}(P:L->Prop)(T:L->cS)(h1:a2.ok aF ⟨.b4 (vW aF.i0.length P T)::K,c,s⟩)(h2:∀l,P l->a2.ok aF ⟨K,.c b,T l⟩):a2.ok aF ⟨.seq b::K,c,s⟩:=by
 refine R.mono (fun x s J=> ?_) h1;cases x with
 |norm=>obtain⟨f,l,hp,ah⟩:=J;exact NB f _ ah (h2 l hp)
 |exit i=>exact J
 |ret=>exact J
 |bk v=>exact J
theorem fo{n m:Int}(h:n=m:=by omega)(h1: -9223372036854775808<=n:=by omega)(h2:n<9223372036854775808:=by omega):some (af.i .i64 (IntKind.i64.wrap n))=some (af.i .i64 m):=by rw[g0 h1 h2,h]
theorem cO{n m:Int}(h:n=m:=by omega)(h1: -9223372036854775808<=n:=by omega)(h2:n<9223372036854775808:=by omega):af.i .i64 (IntKind.i64.wrap n)=af.i .i64 m:=by rw[g0 h1 h2,h]
theorem l0{k:IntKind}{n m:Int}(h:n=m:=by omega):some (af.i k n)=some (af.i k m):=by rw[h]
theorem fI{k:IntKind}{n m:Int}(h:n=m:=by omega):af.i k n=af.i k m:=by rw[h]
theorem e3{own:List a3}{n p:Nat}{e cK:bT}{o:a3}(h:lk [0] cK e)(ak:∃bd,own[0]? =some bd∧ft [0] o bd)(hp:pinned p [0] 0=true:=by rfl):Sub p [0] ⟨own,n,e⟩ ⟨[o],1,cK⟩:=⟨by simp,rfl,⟨ak,trivial⟩,h,hp⟩
theorem nG{own:List a3}{n p:Nat}{e cK:bT}{o q:a3}(h:lk [0,1] cK e)(ak:∃bd,own[0]? =some bd∧ft [0,1] o bd)(hq:∃bd,own[1]? =some bd∧ft [0,1] q bd)(hp:pinned p [0,1] 0=true:=by rfl):Sub p [0,1] ⟨own,n,e⟩ ⟨[o,q],2,cK⟩:=⟨by simp,rfl,⟨ak,hq,trivial⟩,h,hp⟩
theorem al{aF:gx}(d:Nat){g jb:a2}(k:jb.ok aF)(h:N0 d g=some jb:=by rfl):g.ok aF:=asw d h k
theorem dx{aF:gx}{K:List eQ}{own:List a3}{aM:Nat}{e:bT}{c:bz}(t:Nat){P:Prop}{av:Decidable P}(h:P)(k:a2.ok aF ⟨K,c,⟨own,aM,(t,.b true)::e⟩⟩)(hl:dO e t=some (.b (decide P)):=by rfl)(hc:c.ta=false:=by rfl):a2.ok aF ⟨K,c,⟨own,aM,e⟩⟩:=az t (.b true) hl (by rw[decide_eq_true h]) k hc
theorem dL{aF:gx}{K:List eQ}{own:List a3}{aM:Nat}{e:bT}{c:bz}(t:Nat){P:Prop}{av:Decidable P}(h:¬P)(k:a2.ok aF ⟨K,c,⟨own,aM,(t,.b false)::e⟩⟩)(hl:dO e t=some (.b (decide P)):=by rfl)(hc:c.ta=false:=by rfl):a2.ok aF ⟨K,c,⟨own,aM,e⟩⟩:=az t (.b false) hl (by rw[decide_eq_false h]) k hc
theorem ei{own:List a3}{n p:Nat}{e cK:bT}(h:lk [] cK e:=by repeat first|exact trivial|refine⟨rfl,?_⟩)(hp:pinned p [] 0=true:=by rfl):Sub p [] ⟨own,n,e⟩ ⟨[],0,cK⟩:=jA h hp
theorem dP{own:List a3}{n p k:Nat}{e cK:bT}{o:a3}(h:lk [k] cK e:=by repeat first|exact trivial|refine⟨rfl,?_⟩)(ak:∃bd,own[k]? =some bd∧ft [k] o bd:=by first|exact⟨_,rfl,rfl,fun _=>rfl⟩|exact⟨_,rfl,rfl⟩)(hp:pinned p [k] 0=true:=by rfl):Sub p [k] ⟨own,n,e⟩ ⟨[o],1,cK⟩:=⟨by simp,rfl,⟨ak,trivial⟩,h,hp⟩
theorem ej{own:List a3}{n p k m:Nat}{e cK:bT}{o q:a3}(h:lk [k,m] cK e:=by repeat first|exact trivial|refine⟨rfl,?_⟩)(ak:∃bd,own[k]? =some bd∧ft [k,m] o bd:=by first|exact⟨_,rfl,rfl,fun _=>rfl⟩|exact⟨_,rfl,rfl⟩)(hq:∃bd,own[m]? =some bd∧ft [k,m] q bd:=by first|exact⟨_,rfl,rfl,fun _=>rfl⟩|exact⟨_,rfl,rfl⟩)(U:k≠m:=by decide)(hp:pinned p [k,m] 0=true:=by rfl):Sub p [k,m] ⟨own,n,e⟩ ⟨[o,q],2,cK⟩:=⟨by simpa using U,rfl,⟨ak,hq,trivial⟩,h,hp⟩
theorem ld{own:List a3}{n p k m j:Nat}{e cK:bT}{o q r:a3}(h:lk [k,m,j] cK e:=by repeat first|exact trivial|refine⟨rfl,?_⟩)(ak:∃bd,own[k]? =some bd∧ft [k,m,j] o bd:=by first|exact⟨_,rfl,rfl,fun _=>rfl⟩|exact⟨_,rfl,rfl⟩)(hq:∃bd,own[m]? =some bd∧ft [k,m,j] q bd:=by first|exact⟨_,rfl,rfl,fun _=>rfl⟩|exact⟨_,rfl,rfl⟩)(aQ:∃bd,own[j]? =some bd∧ft [k,m,j] r bd:=by first|exact⟨_,rfl,rfl,fun _=>rfl⟩|exact⟨_,rfl,rfl⟩)(U:[k,m,j].Nodup:=by decide)(hp:pinned p [k,m,j] 0=true:=by rfl):Sub p [k,m,j] ⟨own,n,e⟩ ⟨[o,q,r],3,cK⟩:=⟨U,rfl,⟨ak,hq,aQ,trivial⟩,h,hp⟩
theorem nC{own:List a3}{n p k m j i:Nat}{e cK:bT}{o q r t:a3}(h:lk [k,m,j,i] cK e:=by repeat first|exact trivial|refine⟨rfl,?_⟩)(ak:∃bd,own[k]? =some bd∧ft [k,m,j,i] o bd:=by first|exact⟨_,rfl,rfl,fun _=>rfl⟩|exact⟨_,rfl,rfl⟩)(hq:∃bd,own[m]? =some bd∧ft [k,m,j,i] q bd:=by first|exact⟨_,rfl,rfl,fun _=>rfl⟩|exact⟨_,rfl,rfl⟩)(aQ:∃bd,own[j]? =some bd∧ft [k,m,j,i] r bd:=by first|exact⟨_,rfl,rfl,fun _=>rfl⟩|exact⟨_,rfl,rfl⟩)(aN:∃bd,own[i]? =some bd∧ft [k,m,j,i] t bd:=by first|exact⟨_,rfl,rfl,fun _=>rfl⟩|exact⟨_,rfl,rfl⟩)(U:[k,m,j,i].Nodup:=by decide)(hp:pinned p [k,m,j,i] 0=true:=by rfl):Sub p [k,m,j,i] ⟨own,n,e⟩ ⟨[o,q,r,t],4,cK⟩:=⟨U,rfl,⟨ak,hq,aQ,aN,trivial⟩,h,hp⟩
section
variable{call:bQ}{fr:aT}{H:bF}{ids:List Nat}{e:bT}{x y i:Operand}
theorem amd{z j:Nat}{α:Type}{R:α->List af}{l:List α}{q:α}{cc:IntKind}(ab:c3 fr H ids e)(J:bI e x=some (.bS z α R l))(ae:bI e i=some (.i cc (j:Int)))(hj:l[j]? =some q):∃v,den H (.ip (R q)) ids v∧∀st,b2 call (.lD z x i) fr st= .ok v fr st:=by
 have h3:fr.aj i= .int cc (j:Int):=ab.aj ae;have aP:=(List.getElem?_eq_some_iff.1 hj).1;rcases ab.aj J with⟨hl,_⟩|⟨b,o,c,vs,el,bn,a8,h1,h2,ay,aY⟩
 ·subst hl;simp at aP
 ·refine⟨_,⟨b,o+j*z,vs,el,bn,a8,rfl,ay,?_⟩,fun st=>Hq h1 h3 aP⟩;have av:=aY j q hj;have hl:=hI av;rw[<-hl];rw[show(vs.drop (o+j*z)).take ((vs.drop (o+j*z)).take z).length=(vs.drop (o+j*z)).take z by rw[List.length_take,<-List.take_eq_take_min]];exact av
theorem ame{k z o n c j:Nat}{cc:IntKind}(ab:c3 fr H ids e)(J:bI e x=some (.a6 k z o n c))(ae:bI e i=some (.i cc (j:Int)))(hj:j<n):∃v,den H (.fz k z (o+j) 0) ids v∧∀st,b2 call (.lD z x i) fr st= .ok v fr st:=by
 obtain⟨b,h1,h2⟩:=ab.aj J;have h3:fr.aj i= .int cc (j:Int):=ab.aj ae;exact⟨_,⟨b,h1,by rw[Nat.add_mul,Nat.add_zero]⟩,fun st=>Hq h2 h3 hj⟩
end
section
variable{aF:gx}{K:List eQ}{own bO:List a3}{aM bf cf back:Nat}{e aU:bT}{d:Tmp}{ts:List Tmp}{xs:List (bL×cL)}{x y i:Operand}
theorem gm{z j:Nat}{α:Type}{R:α->List af}{l:List α}(q:α){cc:IntKind}(hj:l[j]? =some q)(k:a2.ok aF ⟨K,.d xs bO ((d,.ip (R q))::aU) bf cf,⟨own,aM,(d,.ip (R q))::e⟩⟩)(J:bI (e7 ts aU) x=some (.bS z α R l):=by rfl)(ae:bI (e7 ts aU) i=some (.i cc (j:Int)):=by rfl)(aa:back<bf:=by decide):a2.ok aF ⟨K,.d ((⟨some d,.lD z x i,none⟩,.read back ts)::xs) bO aU bf cf,⟨own,aM,e⟩⟩:=
 rm (d:=some d) aa (fun H ids st fr ab _ _=>let⟨v,h1,h2⟩:=amd ab J ae hj;⟨v,h1,fun ek _ _=>h2 ek⟩) k
theorem ae0{bD z o n c j:Nat}{cc:IntKind}(k:a2.ok aF ⟨K,.d xs bO ((d,.fz bD z (o+j) 0)::aU) bf cf,⟨own,aM,(d,.fz bD z (o+j) 0)::e⟩⟩)(J:bI (e7 ts aU) x=some (.a6 bD z o n c):=by rfl)(ae:bI (e7 ts aU) i=some (.i cc (j:Int)):=by rfl)(hj:j<n:=by omega)(aa:back<bf:=by decide):a2.ok aF ⟨K,.d ((⟨some d,.lD z x i,none⟩,.read back ts)::xs) bO aU bf cf,⟨own,aM,e⟩⟩:=
 rm (d:=some d) aa (fun H ids st fr ab _ _=>let⟨v,h1,h2⟩:=ame ab J ae hj;⟨v,h1,fun ek _ _=>h2 ek⟩) k
theorem y2{bD z n c j:Nat}{cc:IntKind}(k:a2.ok aF ⟨K,.d xs bO ((d,.fz bD z j 0)::aU) bf cf,⟨own,aM,(d,.fz bD z j 0)::e⟩⟩)(J:bI (e7 ts aU) x=some (.a6 bD z 0 n c):=by rfl)(ae:bI (e7 ts aU) i=some (.i cc (j:Int)):=by rfl)(hj:j<n:=by omega)(aa:back<bf:=by decide):a2.ok aF ⟨K,.d ((⟨some d,.lD z x i,none⟩,.read back ts)::xs) bO aU bf cf,⟨own,aM,e⟩⟩:=
 ae0 (by rw[Nat.zero_add];exact k) J ae hj aa
theorem Fk{bD z j q:Nat}{el:TypeId}{a8:Bool}{α:Type}{R:α->List af}{l:List α}(w:α){a:af}(hj:l[j]? =some w)(k:a2.ok aF ⟨K,.d xs bO ((d,a)::aU) bf cf,⟨own,aM,(d,a)::e⟩⟩)(J:bI (e7 ts aU) x=some (.fz bD z j q):=by rfl)(U:bO[bD]? =some (.a el a8 z α R l):=by rfl)(hq:(R w)[q]? =some a:=by rfl)(aa:back<bf:=by decide):a2.ok aF ⟨K,.d ((⟨some d,.lE x,none⟩,.read back ts)::xs) bO aU bf cf,⟨own,aM,e⟩⟩:=
 rm (d:=some d) aa (fun H ids st fr ab hl ak=>by
  obtain⟨b,h1,h2⟩:=ab.aj J;obtain⟨vs,h3,ay,aY⟩:=ak bD _ b U rfl h1;obtain⟨v,aH,av⟩:=uy (aY j w hj) hq;refine⟨v,av,fun ek _ ah=>zU h2 ((ah bD _ b U rfl h1).trans h3) ?_⟩;rw[List.getElem?_take]at aH;split at aH
  ·rw[List.getElem?_drop]at aH;exact aH
  ·cases aH) k
theorem ae6{bD j:Nat}{el:TypeId}{a8:Bool}{α:Type}{R:α->List af}{l:List α}{a:af}{bu hX:List a3}(w':α)(k:a2.ok aF ⟨K,.d xs hX aU (bf+1) aM,⟨bu,aM,e⟩⟩)(J:bI e x=some (.fz bD 1 j 0):=by rfl)(aG:bI e y=some a:=by rfl)(U:own[bD]? =some (.a el a8 1 α R l):=by rfl)(cI:R w'=[a]:=by rfl)(hc:sz a=true:=by rfl)(h1:∀w,(R w).length=1:=by exact fun _=>rfl)
 (ak:iT own bD (.a el a8 1 α R (l.set j w')) some=some bu:=by rfl) (k4:DE bO (some bD) some=some hX:=by rfl) (hj:j<l.length:=by first|omega|(simp;done)|(simp;omega)):a2.ok aF ⟨K,.d ((⟨none,.store 1 x y,none⟩,.eO)::xs) bO aU bf cf,⟨own,aM,e⟩⟩:=by
 have h:=jT ak;cases h;obtain⟨aoN,aL,aR,a7⟩:=M3 k4;cases aL;exact BP (d:=none) (s:=⟨own,aM,e⟩) (ZN (s:=⟨own,aM,e⟩) w' J aG U cI hj hc h1) aR (fun k o fu hl=>by
  have:=a7 k o fu hl;simp only[iR,J];exact this) k
end
structure GS where
 L:Type
 own:L->List a3
 args:L->List af
 pre:L->Prop
 bu:L->List a3
 res:L->af
def GS.spec(S:GS):Spec where
 L:=S.L×bF×List Nat
 pre:=fun l vs st=>S.pre l.1∧Fit l.2.1 l.2.2 st (S.own l.1) (S.own l.1).length∧di l.2.1 (S.args l.1) l.2.2 vs
 post:=fun l vs st v st'=>∃bs,Fit bs l.2.2 st' (S.bu l.1) (S.own l.1).length∧dM l.2.1 l.2.2 st bs l.2.2 st'∧den bs (S.res l.1) l.2.2 v
def EA(S:GS)(l:S.L)(res:List ig)(x:dF)(s:cS):Prop:=(x= .norm∨x= .ret)∧(∃r,Fin.tH s res=some r∧pZ r=true∧b3 r (S.res l))∧∃f,f.length=(S.own l).length∧Sub (S.own l).length f s ⟨S.bu l,(S.own l).length,[]⟩
theorem HB{f ids i0:List Nat}(ab:f.length=i0.length)(hp:pinned i0.length f 0=true)(ae:cM i0 ids):pick f ids=i0:=by
 apply List.ext_getElem?;intro k;by_cases U:k<i0.length
 ·have h1:=M6 hp k U;rw[Nat.zero_add]at h1;have h2:=ae k _ (a9 U);rw[tu h1 h2,a9 U]
 ·rw[List.getElem?_eq_none (by simp[pick];omega),List.getElem?_eq_none (by omega)]
variable{X:Ctx}
theorem aeO{aW:ao df}(dv:Good X)(h8:mY X aW)(cp:FuncId->List Value->au->Value->au->Prop){f:FuncId}{xf:df}(J:aW.get f=some xf){S:GS}(hl:∀l,(S.args l).length<=xf.aS)
 (h:∀l,S.pre l->∀H i0 aJ,i0.length=(S.own l).length->a2.ok ⟨cC aW (c0 X cp) (ba+1),ba+1,f,H,i0,aJ,EA S l xf.res⟩ ⟨[],.c xf.body,⟨S.own l,(S.own l).length,lS 0 (S.args l)⟩⟩):bg X f S.spec:=by
 refine Ff dv h8 cp J (fun l vs st ⟨_,_,d⟩=>by rw[hI d];exact hl l.1) ?_;rintro⟨l,H,i0⟩ vs st ⟨hp,ar,d⟩;simp only at hp ar d;refine(h l hp H i0 st ar.len H i0 st (fH vs) (dM.refl _ _ _) ar (c3.zero d)).mono ?_;rintro x fr st' ⟨bs,ids,s,a5,c6,ab,J,⟨r,h1,h2,hle⟩,g,aO,ah⟩;obtain⟨v,h3,ay⟩:=AK (call:=cC aW (c0 X cp) (ba+1)) c6 ab h1;have zw:i0.length=(S.own l).length:=ar.len;have e1:Sub i0.length g s ⟨S.bu l,(S.own l).length,[]⟩:=by rw[zw];exact ah
 have w5:=HB (by omega) e1.DG a5.kq;have oD:=e1.fit c6;have Ci:=e1.bW c6 a5;rw[w5]at oD Ci;exact⟨J,v,ay,bs,oD,Ci,hle _ _ _ (BR _ h2 h3 _)⟩
mutual
theorem Fp{H:bF}{f ids:List Nat}(ab:∀k m:Nat,f[k]? =some m->m<ids.length):∀(a:af) {v:Value},den H a (pick f ids) v->den H (jx f a) ids v
 |.i _ _,_,d=>d
 |.b _,_,d=>d
 |.s _,_,d=>d
 |.nl,_,d=>d
 |.v _,_,d=>d
 |.p k o,v,⟨b,e,d⟩=>by
  obtain⟨m,h1,h2⟩:=xP ab e;unfold jx;rw[h1];exact⟨b,h2,d⟩
 |.fz k z j o,v,⟨b,e,d⟩=>by
  obtain⟨m,h1,h2⟩:=xP ab e;unfold jx;rw[h1];exact⟨b,h2,d⟩
 |.a6 k z o n c,v,⟨b,e,d⟩=>by
  obtain⟨m,h1,h2⟩:=xP ab e;unfold jx;rw[h1];exact⟨b,h2,d⟩
 |.bS _ _ _ _,_,d=>d
 |.iP _ _ _ _,_,d=>d
 |.ip _,_,d=>d
 |.fn _ fs cs,_,⟨vs,ws,e,d1,d2⟩=>⟨vs,ws,e,y4 ab fs d1,y4 ab cs d2⟩
 |.agg cs,_,⟨vs,e,d⟩=>⟨vs,e,y4 ab cs d⟩
 |.bB cs,_,⟨vs,e,d⟩=>⟨vs,e,y4 ab cs d⟩
 |.bad,_,d=>d.elim
theorem y4{H:bF}{f ids:List Nat}(ab:∀k m:Nat,f[k]? =some m->m<ids.length):∀(a:List af) {v:List Value},di H a (pick f ids) v->di H (nB f a) ids v
 |[],_,d=>d
 |a::as,_,⟨v,ws,e,d1,d2⟩=>⟨v,ws,e,Fp ab a d1,y4 ab as d2⟩
theorem xP{f ids:List Nat}(ab:∀k m:Nat,f[k]? =some m->m<ids.length){k b:Nat}(h:(pick f ids)[k]? =some b):∃m,f[k]? =some m∧ids[m]? =some b:=by
 unfold pick at h;rw[List.getElem?_map]at h;cases U:f[k]? with
 |none=>rw[U]at h;cases h
 |some m=>
  rw[U]at h;have hm:=ab k m U;have h:some ((ids[m]?).getD 0)=some b:=h;rw[a9 hm]at h;exact⟨m,rfl,by rw[a9 hm];exact h⟩
end
def j2(f:List Nat):a3->a3->Prop
 |.c el cs,o=>o= .c el (nB f cs)
 |.a el a8 z α R l,o=>o= .a el a8 z α R l∧∀x,ht (R x)=true
 |.x,o=>o= .x
theorem j2.den{H:bF}{f ids:List Nat}(ab:∀k m:Nat,f[k]? =some m->m<ids.length){o bd:a3}{eg:Option bw}(h:j2 f o bd)(d:mz H (pick f ids) o eg):mz H ids bd eg∧bd.live=o.live:=by
 cases o with
 |c el cs=>cases h;obtain⟨vs,e,d⟩:=d;exact⟨⟨vs,e,y4 ab cs d⟩,rfl⟩
 |a el a8 z α R l=>
  obtain⟨h,hp⟩:=h;cases h;obtain⟨vs,aA,e2,d⟩:=d;exact⟨⟨vs,aA,e2,fun i x J=>mA _ (hp x) (d i x J) _⟩,rfl⟩
 |x=>cases h;exact⟨trivial,rfl⟩
def yA(f:List Nat)(own bu:List a3)(os:List a3):Prop:=bu.length=own.length∧(∀j:Nat,j∉f->bu[j]? =own[j]?)∧∀(i k:Nat) (bd:a3),f[i]? =some k->bu[k]? =some bd->∃o,os[i]? =some o∧j2 f o bd
theorem acs{k:Nat}{own bu:List a3}{o bd:a3}(h:iT own k bd some=some bu)(aa:j2 [k] o bd):yA [k] own bu [o]:=by
 have:=jT h;cases this;refine⟨by simp,fun j hj=>List.getElem?_set_ne (by simpa using fun e=>hj (by simp[e])),fun i k' q U hq=> ?_⟩;cases i with
 |zero=>
  simp at U;subst U;rw[List.getElem?_set]at hq;rw[if_pos rfl]at hq;split at hq<;>cases hq;exact⟨o,rfl,aa⟩
 |succ i=>simp at U
theorem acK{aW:ao df}{cp:FuncId->List Value->au->Value->au->Prop}{cd n:Nat}{fn:FuncId}{b9:bF}{i0:List Nat}{aJ:au}{Q:dF->cS->Prop}{K:List eQ}{own bu:List a3}{aM:Nat}{e:bT}{g:FuncId}{S:GS}(hc:bg X g S.spec){cr:List Operand}{as:List af}{d:Option Tmp}{xs:List bL}(f:List Nat)(l:S.L)(hp:S.pre l)
 (ah:Sub 0 f ⟨own,aM,e⟩ ⟨S.own l,(S.own l).length,[]⟩) (aa:yA f own bu (S.bu l)) (k:a2.ok ⟨cC aW (c0 X cp) (n+1),cd,fn,b9,i0,aJ,Q⟩ ⟨K,.o xs,⟨bu,aM,fA d (jx f (S.res l)) e⟩⟩)
 (ha:kc e cr=some as) (he:as=nB f (S.args l)) (dB:cp g=S.spec.K):
 a2.ok ⟨cC aW (c0 X cp) (n+1),cd,fn,b9,i0,aJ,Q⟩ ⟨K,.o (⟨d,.call (.func g) cr,none⟩::xs),⟨own,aM,e⟩⟩:=by
 intro H ids st fr a5 ar ab;subst he;have j7:=ah.fit ar;have av:=uA f _ (ab.dT ha);obtain⟨v,st',h1,h2⟩:=hc _ st ⟨(l,H,pick f ids),hp,j7,av⟩;obtain⟨v1,cm,aL,aR⟩:=DD (X:=X) (K:=cp) (f:=g) ⟨v,st',by rw[dB];exact h1,h2⟩;rw[dB]at aR;obtain⟨bs,c6,dg,gb⟩:=aR (l,H,pick f ids) ⟨hp,j7,av⟩;simp only at c6 dg gb;have aP:∀k m:Nat,f[k]? =some m->m<ids.length:=fun k m U=>by
  have hl:(S.own l).length=f.length:=ah.own.len;have h1:=(List.getElem?_eq_some_iff.1 U).1;obtain⟨fq,bd,h2,h3,_⟩:=ah.own.get (a9 (show k<(S.own l).length by omega));rw[U]at h2;cases h2;rw[ar.len,<-ar.cq];exact(List.getElem?_eq_some_iff.1 h3).1
 have CJ:∀(j b:Nat),j∉f->ids[j]? =some b->b∉pick f ids:=fun j b hj aa hm=>by
  obtain⟨k,U⟩:=List.mem_iff_getElem?.1 hm;obtain⟨m,h3,ay⟩:=xP aP U;have aA:=List.getElem?_eq_some_iff.1 aa;have e2:=List.getElem?_eq_some_iff.1 ay;have:=(List.getElem_inj (h₀:=aA.1) (h₁:=e2.1) ar.iz).1 (aA.2.trans e2.2.symm);exact hj (this▸List.mem_of_getElem? h3)
 have a7:cC aW (c0 X cp) (n+1) (.func (.func g) #[] #[]) (dT fr cr) none st= .ret v1 cm false:=by
  rw[um];have e:fZ (#[]:Array Value).toList (fZ (dT fr cr) (#[]:Array Value).toList)=dT fr cr:=by simp
  rw[e,aL];rfl
 have hle:dt H bs:=dg.hle;refine vQ (v:=v1) (st':=cm) ?_ (k bs ids cm _ ?_ ?_ ((ab.mono hle (cM.refl _)).fA d (Fp aP _ gb)))
 ·rw[vp];show sM (cC aW (c0 X cp) (n+1) (.func (.func g) #[] #[]) (dT fr cr) none st) _ _=_;rw[a7];rfl
 ·have uS:∀b,b∈pick f ids->b∈ids:=fun b aa=>by
   obtain⟨k,U⟩:=List.mem_iff_getElem?.1 aa;obtain⟨m,_,ay⟩:=xP aP U;exact List.mem_of_getElem? ay
  have mG:∀b,b<aJ.ai->b∉i0->b∉pick f ids:=fun b aa hn hm=>by
   rcases a5.new b (uS b hm)with h|h
   ·exact hn h
   ·have h:aJ.ai<=b:=h;omega
  refine⟨a5.hle.trans hle,fun b aa hn=> ?_,fun b aa hn=> ?_,Nat.le_trans a5.ai dg.ai,a5.kq,a5.new⟩
  ·rw[dg.hold b (e4 aa a5.ai) (mG b aa hn)];exact a5.hold b aa hn
  ·rw[dg.gz b (e4 aa a5.ai) (mG b aa hn)];exact a5.gz b aa hn
 ·obtain⟨fQ,mE,Cq⟩:=aa;refine⟨c6.wf,c6.le,by rw[fQ];exact ar.cq,ar.len,ar.iz,fun b aa=>e4 (ar.lt b aa) dg.ai,fun j o b hj lU=> ?_⟩;by_cases wV:j∈f
  ·obtain⟨i,ae⟩:=List.mem_iff_getElem?.1 wV;obtain⟨gS,CL,qB⟩:=Cq i j o ae hj;have CO:=tu ae lU;obtain⟨h3,ay⟩:=c6.own i gS b CL CO;obtain⟨aY,b7⟩:=qB.den aP h3;exact⟨aY,fun hl=>ay (by rw[<-b7];exact hl)⟩
  ·have hj:bu[j]? =some o:=hj;rw[mE j wV]at hj;obtain⟨h3,ay⟩:=ar.own j o b hj lU;have uX:=ar.lt b (List.mem_of_getElem? lU);have rF:=CJ j b wV lU;rw[dg.gz b uX rF];exact⟨rn hle (cM.refl _) h3,fun hl=>by rw[dg.hold b uX rF];exact ay hl⟩
theorem YJ{aW:ao df}{cp:FuncId->List Value->au->Value->au->Prop}{cd n:Nat}{fn:FuncId}{b9:bF}{i0:List Nat}{aJ:au}{Q:dF->cS->Prop}{K:List eQ}{own bu:List a3}{aM:Nat}{e:bT}{g:FuncId}{S:GS}(hc:bg X g S.spec){cr:List Operand}{as:List af}{d:Option Tmp}{xs:List bL}{o bd:a3}(bD:Nat)(l:S.L)(hp:S.pre l)
 (k:a2.ok ⟨cC aW (c0 X cp) (n+1),cd,fn,b9,i0,aJ,Q⟩ ⟨K,.o xs,⟨bu,aM,fA d (jx [bD] (S.res l)) e⟩⟩) (ak:S.own l=[o]:=by rfl) (iv:S.bu l=[bd]:=by rfl)
 (U:∃jh,own[bD]? =some jh∧ft [bD] o jh:=by exact⟨_,rfl,rfl,fun _=>rfl⟩) (ah:iT own bD bd some=some bu:=by rfl) (aa:j2 [bD] bd bd:=by exact⟨rfl,fun _=>rfl⟩)
 (ha:kc e cr=some as:=by rfl) (he:as=nB [bD] (S.args l):=by rfl) (dB:cp g=S.spec.K:=by rfl):
 a2.ok ⟨cC aW (c0 X cp) (n+1),cd,fn,b9,i0,aJ,Q⟩ ⟨K,.o (⟨d,.call (.func g) cr,none⟩::xs),⟨own,aM,e⟩⟩:=
 acK hc [bD] l hp ⟨by simp,by rw[ak];rfl,by rw[ak];exact⟨U,trivial⟩,trivial,rfl⟩ (by rw[iv];exact acs ah aa) k ha he dB
end Go.an
namespace Go.an
open Sym
set_option maxRecDepth 10000
section
variable{aF:gx}{K:List eQ}{own bu:List a3}{aM:Nat}{e:bT}
theorem IE{bD z n c:Nat}(t:Nat){el:TypeId}{a8:Bool}{α:Type}{R:α->List af}{l:List α}{p:dy}(k:a2.ok aF ⟨K,.c p,⟨bu,aM,(t,.bS z α R l)::e⟩⟩)(aN:dO e t=some (.a6 bD z 0 n c):=by rfl)(U:own[bD]? =some (.a el a8 z α R l):=by rfl)(hp:∀x,ht (R x)=true:=by exact fun _=>rfl)
 (ak:iT own bD .x some=some bu:=by rfl) (hn:l.length=n:=by first|omega|(simp;done)|(simp;omega)) (hc:n<=c:=by omega):a2.ok aF ⟨K,.c p,⟨own,aM,e⟩⟩:=by
 have h1:=jT ak;cases h1;exact apQ t l aN U (by rw[List.drop_zero,List.take_of_length_le (by omega)]) hn hc hp k
end
section
variable{call:bQ}{s:cS}{x y:Operand}
theorem ada{k z n c:Nat}{el:TypeId}{a8:Bool}{α:Type}{R:α->List af}{l m:List α}(J:bI s.env x=some (.a6 k z 0 n c))(U:s.own[k]? =some (.a el a8 z α R l))(ah:od s y R z m)(h1:m.length<=n)(h2:n<=l.length)(ax:0<z):
 gy call (.qm z x y) s (.i .i64 (m.length:Nat)) (s.own.set k (.a el a8 z α R (m++l.drop m.length))) s.n:=fun H ids st fr ar ab=>by
 obtain⟨b,aL,aR⟩:=ab.aj J;obtain⟨vs,a7,cl,dc⟩:=om ar U aL;have e:b2 call (.qm z x y) fr st=ku (fr.aj x) (fun a dl _=>ku (fr.aj y) (fun b a6 _=>bl a (fun a=>bl b (fun b=>st.load b (Nat.mul (eo a6 dl a6 dl) z) (fun vs=>cond (hH vs) (st.store a vs (fun st=>.ok (.int .i64 (.ofNat (eo a6 dl a6 dl))) fr st) .no) .no) .no) (et a6 0 (.ok (.int .i64 0) fr st) .no)) (et dl 0 (.ok (.int .i64 0) fr st) .no)) .no) .no:=rfl;rw[e,aR,sj,Nat.zero_mul];rcases ah H ids st fr ar ab with⟨rfl,bJ,cn⟩|⟨er,o,bJ,ws,B0,bn,Cg,cn,cz,dp,jS,tv⟩
 ·refine⟨.int .i64 0,st,ids,H,by rw[cn,sj,Sym.eY,Sym.ia,jI rfl],?_,rfl,dt.refl _,cM.refl _,fun _ _ _ B=>B,b5 _,fun _ _ _=>rfl⟩;rw[show([]++l.drop ([]:List α).length)=l by simp,show s.own.set k (.a el a8 z α R l)=s.own from ?_]
  ·exact ar
  ·apply List.ext_getElem?;intro i;rw[List.getElem?_set];split
   ·rename_i h;subst h;rw[U];simp[(List.getElem?_eq_some_iff.1 U).1]
   ·rfl
 ·have Gm:((ws.drop o).take (m.length*z)).length=m.length*z:=by simp at dp ⊢;omega
  have auy:m.length*z<=l.length*z:=hF z (by omega);have iL:=uq jS (yU (n:=m.length) ⟨cl,dc⟩);have av:vs.take 0++((ws.drop o).take (m.length*z)++vs.drop (0+((ws.drop o).take (m.length*z)).length))=(ws.drop o).take (m.length*z)++vs.drop (m.length*z):=by rw[Gm];simp
  refine⟨_,_,ids,H,?_,ar.g3 U rfl aL (eg:=.cells ((ws.drop o).take (m.length*z)++vs.drop (m.length*z)) el (0,0) a8) ⟨_,rfl,iL.1,iL.2⟩,rfl,dt.refl _,cM.refl _,fun _ _ _ B=>B.g3 (List.mem_of_getElem? aL) _,b5 _,fun atV _ hne=>ao.h6 _ _ (fun e=>hne k (by simp[iR,J]) (e▸aL))⟩;rw[cn,sj,Sym.eY,Sym.eY,eX h1];show au.load st ⟨er,o,none⟩ (m.length*z) _ _=_;unfold au.load au.gL;rw[Sym.ia,cz,kU,rl dp,tv,cond_true];unfold au.store au.gL;rw[Sym.ia,a7,kU,eX (b5 _),qR,if_pos (by show 0+_<=_;rw[Gm,cl];omega),kt,av];rfl
end
section
variable{aF:gx}{K:List eQ}{own bu:List a3}{aM:Nat}{e:bT}{d:Tmp}{xs:List bL}{x y:Operand}
theorem apO{bD z n c:Nat}{el:TypeId}{a8:Bool}{α:Type}{R:α->List af}{l:List α}(m:List α)(ah:od ⟨own,aM,e⟩ y R z m)(k:a2.ok aF ⟨K,.o xs,⟨bu,aM,(d,.i .i64 (m.length:Nat))::e⟩⟩)(J:bI e x=some (.a6 bD z 0 n c):=by rfl)(U:own[bD]? =some (.a el a8 z α R l):=by rfl)
 (ak:iT own bD (.a el a8 z α R (m++l.drop m.length)) some=some bu:=by rfl) (h1:m.length<=n:=by omega) (h2:n<=l.length:=by first|omega|(simp;done)|(simp;omega)) (ax:0<z:=by decide):a2.ok aF ⟨K,.o (⟨some d,.qm z x y,none⟩::xs),⟨own,aM,e⟩⟩:=by
 have h:=jT ak;cases h;exact g2 (ada (s:=⟨own,aM,e⟩) J U ah h1 h2 ax) k
end
section
variable{aF:gx}{K:List eQ}{own bO:List a3}{aM bf cf back:Nat}{e aU:bT}{d:Tmp}{ts:List Tmp}{xs:List (bL×cL)}{x y i:Operand}
theorem ae1{m n:Nat}(k:a2.ok aF ⟨K,.d xs bO ((d,.i .u64 ((m/n:Nat):Int))::aU) bf cf,⟨own,aM,(d,.i .u64 ((m/n:Nat):Int))::e⟩⟩)(J:bI (e7 ts aU) x=some (.i .u64 (m:Int)):=by rfl)(aG:bI (e7 ts aU) y=some (.i .u64 (n:Int)):=by rfl)(aa:back<bf:=by decide)(hn:n≠0:=by omega)(hm:m<18446744073709551616:=by omega):a2.ok aF ⟨K,.d ((⟨some d,.bin .quo x y,none⟩,.read back ts)::xs) bO aU bf cf,⟨own,aM,e⟩⟩:=
 rm (d:=some d) (a:=.i .u64 ((m/n:Nat):Int)) aa (fun H ids st fr ab _ _=>⟨.int .u64 ((m/n:Nat):Int),rfl,fun ek _ _=>by
  rw[WT (ab.aj J) (ab.aj aG) hn];have:=Nat.div_le_self m n;generalize m/n=q at *;rw[aa7 (by omega) (by omega)]⟩) k
theorem ae4{bD:IntKind}{m n:Nat}(k:a2.ok aF ⟨K,.d xs bO ((d,.i bD ((m%n:Nat):Int))::aU) bf cf,⟨own,aM,(d,.i bD ((m%n:Nat):Int))::e⟩⟩)(J:bI (e7 ts aU) x=some (.i bD (m:Int)):=by rfl)(aG:bI (e7 ts aU) y=some (.i bD (n:Int)):=by rfl)(aa:back<bf:=by decide)(hn:n≠0:=by omega):a2.ok aF ⟨K,.d ((⟨some d,.bin .rem x y,none⟩,.read back ts)::xs) bO aU bf cf,⟨own,aM,e⟩⟩:=
 rm (d:=some d) (a:=.i bD ((m%n:Nat):Int)) aa (fun H ids st fr ab _ _=>⟨.int bD ((m%n:Nat):Int),rfl,fun ek _ _=>aol (ab.aj J) (ab.aj aG) hn⟩) k
theorem ae5{z p q:Nat}{α:Type}{R:α->List af}{l:List α}{bb ae:Option Operand}(l':List α)(k:a2.ok aF ⟨K,.d xs bO ((d,.bS z α R l')::aU) bf cf,⟨own,aM,(d,.bS z α R l')::e⟩⟩)(J:bI (e7 ts aU) x=some (.bS z α R l):=by rfl)(gr:fj ⟨[],0,e7 ts aU⟩ bb 0 p:=by first|exact rfl|exact⟨_,rfl⟩)(gP:fj ⟨[],0,e7 ts aU⟩ ae l.length q:=by first|exact rfl|exact⟨_,rfl⟩)(aa:back<bf:=by decide)(hl:(l.drop p).take (q-p)=l':=by first|rfl|simp)(hp:p<=q:=by omega)(hq:q<=l.length:=by first|omega|(simp;done)|(simp;omega)):a2.ok aF ⟨K,.d ((⟨some d,.nE z x bb ae none,none⟩,.read back ts)::xs) bO aU bf cf,⟨own,aM,e⟩⟩:=by
 subst hl;refine rm (d:=some d) aa (fun H ids st fr ab _ _=> ?_) k;obtain⟨v,h1,h2⟩:=ZB (call:=aF.call) (s:=⟨[],0,e7 ts aU⟩) J gr gP hp hq ab;exact⟨v,h1,fun ek hle _=>h2 ek hle⟩
end
section
variable{call:bQ}{s:cS}{x y:Operand}
theorem abV{a4 cQ k n c:Nat}{el:TypeId}{a8:Bool}{α:Type}{R:α->List af}{l:List α}(J:bI s.env x=some (.a6 k a4 0 n c))(U:s.own[k]? =some (.a el a8 a4 α R l))(ah:ub call el cQ s y R a4 [])(lC:n<=c)(hc:c<=l.length)(aa:(2*n+768)*(cQ+1)<=1099511627776):
 gy call (.app el a4 cQ x y) s (.a6 k a4 0 n c) s.own s.n:=fun H ids st fr ar ab=>by
 obtain⟨b,aL,aR⟩:=ab.aj J;obtain⟨vs,a7,cl,dc⟩:=om ar U aL;obtain⟨new,h1,h2,h3⟩:=ah H ids st fr ar ab x _ _ _ aR;have F8:c*a4<=l.length*a4:=hF a4 hc;refine⟨_,st,ids,H,?_,ar,⟨b,aL,rfl⟩,dt.refl _,cM.refl _,fun _ _ _ B=>B,b5 _,fun _ _ _=>rfl⟩;rw[h3];unfold kZ au.gL;simp only[Nat.add_eq,Nat.mul_eq,Sym.eY,Sym.ia,a7,kU,Nat.zero_mul,List.length_nil,Nat.add_zero];rw[eX (show(2*n+768)*Nat.succ cQ<=2^40 from aa),eX (b5 _),eX lC,eX (by rw[fU,cl];show 0+c*a4<=_;omega),jI rfl,jI rfl]
theorem ab1{a4 cQ k n c:Nat}{el:TypeId}{α:Type}{R:α->List af}{l m:List α}(J:bI s.env x=some (.a6 k a4 0 n c))(U:s.own[k]? =some (.a el false a4 α R l))(ah:ub call el cQ s y R a4 m)(h0:m≠[])(lC:n<=c)(zD:c<n+m.length)(hc:c<=l.length)(aa:(2*(n+m.length)+768)*(cQ+1)<=1099511627776):
 gy call (.app el a4 cQ x y) s (.a6 s.n a4 0 (n+m.length) (n+m.length)) (s.own++[.a el true a4 α R (l.take n++m)]) (s.n+1):=fun H ids st fr ar ab=>by
 obtain⟨b,aL,aR⟩:=ab.aj J;obtain⟨vs,a7,cl,dc⟩:=om ar U aL;obtain⟨new,h1,h2,h3⟩:=ah H ids st fr ar ab x _ _ _ aR;have hl:0<m.length:=List.length_pos_iff.2 h0;have iL:=uq (E6 ⟨cl,dc⟩ n (by omega)) h1;have kD:=BI (dt.refl H) (cM.app ids [st.ai]) iL;have F8:c*a4<=l.length*a4:=hF a4 hc;have CK:n*a4<=l.length*a4:=hF a4 (by omega);refine⟨.slice (some ⟨st.ai,0,none⟩) (n+m.length) (n+m.length),_,_,H,?_,ar.add (eg:=.cells (vs.take (n*a4)++new) el (0,0) true) ⟨_,rfl,kD.1,kD.2⟩,⟨st.ai,by rw[<-ar.len,List.getElem?_append_right (b5 _)];simp,by rw[Nat.zero_mul]⟩,dt.refl _,cM.app _ _,fun _ _ _ B=>B.add _,Nat.le_succ _,fun b aa _=>r1 aa⟩;rw[h3];unfold kZ au.gL;simp only[Nat.add_eq,Nat.mul_eq,Sym.eY,Sym.ia,a7,kU,Nat.zero_mul];rw[eX (show(2*(n+m.length)+768)*Nat.succ cQ<=2^40 from aa),eX (b5 _),eX lC,eX (by rw[fU,cl];show 0+c*a4<=_;omega),jI rfl,rr (by omega),cond_false,L8 (by omega),rl (by simp;omega),gv,og,List.drop_zero]
end
section
variable{aF:gx}{K:List eQ}{own bu:List a3}{aM b8:Nat}{e:bT}{d:Tmp}{xs:List bL}{x y:Operand}
theorem AF{a4 cQ bD n c:Nat}{el:TypeId}{a8:Bool}{α:Type}{R:α->List af}{l:List α}(ah:od ⟨own,aM,e⟩ y R a4 ([]:List α))(k:a2.ok aF ⟨K,.o xs,⟨own,aM,(d,.a6 bD a4 0 n c)::e⟩⟩)(J:bI e x=some (.a6 bD a4 0 n c):=by rfl)(U:own[bD]? =some (.a el a8 a4 α R l):=by rfl)
 (lC:n<=c:=by omega) (hc:c<=l.length:=by first|omega|(simp;done)|(simp;omega)) (aa:(2*n+768)*(cQ+1)<=1099511627776:=by omega):a2.ok aF ⟨K,.o (⟨some d,.app el a4 cQ x y,none⟩::xs),⟨own,aM,e⟩⟩:=g2 (abV (s:=⟨own,aM,e⟩) J U (wb ah) lC hc aa) k
theorem x7{a4 cQ bD n c:Nat}{el:TypeId}{α:Type}{R:α->List af}{l:List α}(m:List α)(ah:od ⟨own,aM,e⟩ y R a4 m)(l':List α)(k:a2.ok aF ⟨K,.o xs,⟨bu,b8,(d,.a6 aM a4 0 (n+m.length) (n+m.length))::e⟩⟩)(J:bI e x=some (.a6 bD a4 0 n c):=by rfl)(U:own[bD]? =some (.a el false a4 α R l):=by rfl)
 (ak:qZ own (.a el true a4 α R l') some=some bu:=by rfl) (gR:oR aM some=some b8:=by rfl) (h0:m≠[]:=by first|rfl|simp) (lC:n<=c:=by omega) (zD:c<n+m.length:=by first|omega|(simp;done)|(simp;omega)) (hc:c<=l.length:=by first|omega|(simp;done)|(simp;omega))
 (aa:(2*(n+m.length)+768)*(cQ+1)<=1099511627776:=by first|omega|(simp;done)|(simp;omega)) (hl:l.take n++m=l':=by first|rfl|simp):a2.ok aF ⟨K,.o (⟨some d,.app el a4 cQ x y,none⟩::xs),⟨own,aM,e⟩⟩:=by
 subst hl;have h1:=sb ak;have h2:=qN gR;cases h1;cases h2;exact g2 (ab1 (s:=⟨own,aM,e⟩) J U (wb ah) h0 lC zD hc aa) k
end
section
variable{aF:gx}{K:List eQ}{own bO:List a3}{aM bf cf back:Nat}{e aU:bT}{d:Tmp}{ts:List Tmp}{xs:List (bL×cL)}{x y:Operand}
theorem QL{m n:Nat}(k:a2.ok aF ⟨K,.d xs bO ((d,.i .i64 ((m/n:Nat):Int))::aU) bf cf,⟨own,aM,(d,.i .i64 ((m/n:Nat):Int))::e⟩⟩)(J:bI (e7 ts aU) x=some (.i .i64 (m:Int)):=by rfl)(aG:bI (e7 ts aU) y=some (.i .i64 (n:Int)):=by rfl)(aa:back<bf:=by decide)(hn:n≠0:=by omega)(hm:m<9223372036854775808:=by omega):a2.ok aF ⟨K,.d ((⟨some d,.bin .quo x y,none⟩,.read back ts)::xs) bO aU bf cf,⟨own,aM,e⟩⟩:=
 rm (d:=some d) (a:=.i .i64 ((m/n:Nat):Int)) aa (fun H ids st fr ab _ _=>⟨.int .i64 ((m/n:Nat):Int),rfl,fun ek _ _=>by
  rw[WT (ab.aj J) (ab.aj aG) hn];have:=Nat.div_le_self m n;generalize m/n=q at *;rw[g0 (by omega) (by omega)]⟩) k
end
theorem oV{aF:gx}{K:List eQ}{i:Nat}{c:bz}{s:cS}{b:dy}{L:Type _}(P:L->Prop)(T:L->cS)(h1:a2.ok aF ⟨.cJ i:: .b4 (vW aF.i0.length P T)::K,c,s⟩)(h2:∀l,P l->a2.ok aF ⟨K,.c b,T l⟩):a2.ok aF ⟨.cJ i:: .seq b::K,c,s⟩:=by
 have up:∀s,vW aF.i0.length P T s->Sem aF (.seq b::K) .norm s:=fun s J=>by
  obtain⟨f,l,hp,ah⟩:=J;exact NB f _ ah (h2 l hp)
 refine R.mono (fun x s J=> ?_) h1;cases x with
 |norm=>exact up s J
 |exit j=>
  show if j=i then Sem aF (.seq b::K) .norm s else Sem aF (.seq b::K) (.exit j) s;have J:if j=i then Sem aF (.b4 (vW aF.i0.length P T)::K) .norm s else Sem aF (.b4 (vW aF.i0.length P T)::K) (.exit j) s:=J;split
  ·rename_i h;rw[if_pos h]at J;exact up s J
  ·rename_i h;rw[if_neg h]at J;exact J
 |ret=>exact J
 |bk v=>exact J
theorem N3{own:List a3}{n p:Nat}{e cK:bT}{o q r:a3}(h:lk [0,1,2] cK e)(ak:∃bd,own[0]? =some bd∧ft [0,1,2] o bd)(hq:∃bd,own[1]? =some bd∧ft [0,1,2] q bd)(aQ:∃bd,own[2]? =some bd∧ft [0,1,2] r bd)(hp:pinned p [0,1,2] 0=true:=by rfl):Sub p [0,1,2] ⟨own,n,e⟩ ⟨[o,q,r],3,cK⟩:=⟨by simp,rfl,⟨ak,hq,aQ,trivial⟩,h,hp⟩
def yD(c:UInt8):List af:=[.i .u8 (c.toNat:Int)]
theorem Qj{H:bF}{ids:List Nat}:∀{l:List UInt8} {vs:List Value},jY H ids yD 1 l vs->bytesOf vs=some l
 |[],vs,h=>by
  have:vs=[]:=List.eq_nil_of_length_eq_zero (by rw[h.1];simp);subst this;rfl
 |c::l,vs,h=>by
  have h1:=h.2 0 c (by simp);rw[Nat.zero_mul,List.drop_zero]at h1;have h2:=yU h 1;obtain⟨v,ws,aA,e2,b0⟩:=h1;have e2:v= .int .u8 (c.toNat:Int):=e2;have b0:ws=[]:=b0;subst e2 b0;have aH:vs= .int .u8 (c.toNat:Int)::vs.drop 1:=by
   conv=>lhs;rw[<-List.take_append_drop 1 vs,aA]
   rfl
  have a0:=Qj (l:=l) (vs:=vs.drop 1) (by simpa using h2);rw[aH];show bl (bytesOf (vs.drop 1)) (fun bW=>some (UInt8.ofNat ((c.toNat:Int)).toNat::bW)) none=_;rw[a0];show some (UInt8.ofNat ((c.toNat:Int)).toNat::l)=_;rw[Int.toNat_natCast,UInt8.ofNat_toNat]
section
variable{call:bQ}{s:cS}{x y:Operand}
theorem acN{k o n c:Nat}{el:TypeId}{a8:Bool}{l:List UInt8}(J:bI s.env x=some (.a6 k 1 o n c))(U:s.own[k]? =some (.a el a8 1 UInt8 yD l))(hn:o+n<=l.length):gy call (.yS x) s (.s ((l.drop o).take n)) s.own s.n:=l6 fun H ids st fr ar ab=>by
 obtain⟨b,aL,aR⟩:=ab.aj J;obtain⟨vs,a7,cl,dc⟩:=om ar U aL;have iL:jY H ids yD 1 ((l.drop o).take n) ((vs.drop o).take n):=by
  have:=E6 (yU (⟨cl,dc⟩:jY H ids yD 1 l vs) o) n (by simp;omega)
  rwa [Nat.mul_one,Nat.mul_one]at this
 refine⟨_,rfl,?_⟩;show Hu x call fr st=_;unfold Hu;rw[aR,sj,Nat.mul_one,Sym.eY];unfold au.load au.gL;rw[Sym.ia,a7,kU,rl (by show n<=(vs.drop o).length;rw[List.length_drop,cl];omega)];show bl (bytesOf ((vs.drop o).take n)) _ _=_;rw[Qj iL];rfl
end
section
variable{aF:gx}{K:List eQ}{own:List a3}{aM:Nat}{e:bT}{d:Tmp}{xs:List bL}{x y:Operand}
theorem apM{bD n c:Nat}{el:TypeId}{a8:Bool}{l:List UInt8}(l':List UInt8)(k:a2.ok aF ⟨K,.o xs,⟨own,aM,(d,.s l')::e⟩⟩)(J:bI e x=some (.a6 bD 1 0 n c):=by rfl)(U:own[bD]? =some (.a el a8 1 UInt8 yD l):=by rfl)(hn:n<=l.length:=by first|omega|(simp;done)|(simp;omega))(hl:l.take n=l':=by first|rfl|simp):a2.ok aF ⟨K,.o (⟨some d,.yS x,none⟩::xs),⟨own,aM,e⟩⟩:=by
 have:=acN (call:=aF.call) (s:=⟨own,aM,e⟩) J U (by omega);rw[List.drop_zero,hl]at this;exact g2 this k
end
section
variable{aF:gx}{K:List eQ}{own bO:List a3}{aM bf cf back:Nat}{e aU:bT}{d:Tmp}{ts:List Tmp}{xs:List (bL×cL)}{x y:Operand}
theorem arP{call:bQ}{s:cS}{l:List UInt8}{p q:Nat}{bb ae:Option Operand}{H:bF}{ids:List Nat}{fr:aT}{st:au}(ab:c3 fr H ids s.env)(J:bI s.env x=some (.s l))(gr:fj s bb 0 p)(gP:fj s ae l.length q)(hp:p<=q)(hq:q<=l.length):b2 call (.sa x bb ae) fr st= .ok (.string ⟨⟨(l.drop p).take (q-p)⟩⟩) fr st:=by
 have h1:fr.aj x= .string ⟨⟨l⟩⟩:=ab.aj J;have e:b2 call (.sa x bb ae) fr st=jB (fr.aj x) (fun s=>e5 fr ae (ec s.data.toList) (ec s.data.toList) fun h=>e5 fr bb 0 h fun l=>il s.data.toList l (h-l) (fun bW=>.ok (.string ⟨⟨bW⟩⟩) fr st) .no) .no:=rfl;rw[e,h1,Et];show e5 fr ae (ec l) (ec l) _=_;rw[fU,fj.aj gP ab hq,fj.aj gr ab hp,BN (by show p+(q-p)<=l.length;omega)]
theorem Fm{l:List UInt8}{p q:Nat}{bb ae:Option Operand}(l':List UInt8)(k:a2.ok aF ⟨K,.d xs bO ((d,.s l')::aU) bf cf,⟨own,aM,(d,.s l')::e⟩⟩)(J:bI (e7 ts aU) x=some (.s l):=by rfl)(gr:fj ⟨[],0,e7 ts aU⟩ bb 0 p:=by first|exact rfl|exact⟨_,rfl⟩)(gP:fj ⟨[],0,e7 ts aU⟩ ae l.length q:=by first|exact rfl|exact⟨_,rfl⟩)(aa:back<bf:=by decide)(hl:(l.drop p).take (q-p)=l':=by first|rfl|simp)(hp:p<=q:=by omega)(hq:q<=l.length:=by first|omega|(simp;done)|(simp;omega)):a2.ok aF ⟨K,.d ((⟨some d,.sa x bb ae,none⟩,.read back ts)::xs) bO aU bf cf,⟨own,aM,e⟩⟩:=by
 subst hl;exact rm (d:=some d) (a:=.s ((l.drop p).take (q-p))) aa (fun H ids st fr ab _ _=>⟨_,rfl,fun ek _ _=>arP (s:=⟨[],0,e7 ts aU⟩) ab J gr gP hp hq⟩) k
end
theorem anh{k z j q o:Nat}(h:o=j*z+q):b3 (.p k o) (.fz k z j q):=fun _ _ _ d=>by subst h;exact d
section
variable{call:bQ}{s:cS}{x y i:Operand}
theorem xn{n z k o j:Nat}{cc:IntKind}(J:bI s.env x=some (.p k o))(ae:bI s.env i=some (.i cc (j:Int)))(hj:j<n):gy call (.s6 n z x i) s (.p k (o+j*z)) s.own s.n:=l6 fun H ids st fr ar ab=>by
 obtain⟨b,h1,h2⟩:=ab.aj J;have h3:fr.aj i= .int cc (j:Int):=ab.aj ae;refine⟨_,⟨b,h1,rfl⟩,?_⟩;show vq n z x i call fr st=_;unfold vq;rw[h2,tN,Sym.eY,h3,mU,oQ,eX (by omega),o3];rfl
theorem amc{n z j:Nat}{cs:List af}{cc:IntKind}(J:bI s.env x=some (.ip cs))(ae:bI s.env i=some (.i cc (j:Int)))(hj:j<n):gy call (.s6 n z x i) s (.ip (cs.drop (j*z))) s.own s.n:=l6 fun H ids st fr ar ab=>by
 obtain⟨b,o,vs,el,bn,a8,h1,h2,d⟩:=ab.aj J;have h3:fr.aj i= .int cc (j:Int):=ab.aj ae;refine⟨.pointer (some ⟨b,o+j*z,none⟩),⟨b,o+j*z,vs,el,bn,a8,rfl,h2,?_⟩,?_⟩
 ·have:=ox (j*z) d;rw[List.drop_take,List.drop_drop,<-List.length_drop]at this;exact this
 ·show vq n z x i call fr st=_;unfold vq;rw[h1,tN,Sym.eY,h3,mU,oQ,eX (by omega),o3];rfl
theorem amb{b9:bF}{n z j g:Nat}{vs:List Value}{el:TypeId}{bn:Nat×Nat}{a8:Bool}{cs:List af}{cc:IntKind}(J:bI s.env x=some (.v (.pointer (some ⟨g,0,none⟩))))(aO:b9 g=some (.cells vs el bn a8))(av:∀H,di H cs [] vs)(ae:bI s.env i=some (.i cc (j:Int)))(hj:j<n):v3 b9 call (.s6 n z x i) s (.ip (cs.drop (j*z))) s.own s.n:=fun H ids st fr dX ar ab=>by
 have h1:fr.aj x= .pointer (some ⟨g,0,none⟩):=ab.aj J;have h3:fr.aj i= .int cc (j:Int):=ab.aj ae;refine⟨.pointer (some ⟨g,0+j*z,none⟩),st,ids,H,?_,ar,⟨g,0+j*z,vs,el,bn,a8,rfl,dX _ _ aO,?_⟩,dt.refl _,cM.refl _,fun _ _ _ B=>B,b5 _,fun _ _ _=>rfl⟩
 ·show vq n z x i call fr st=_;unfold vq;rw[h1,tN,Sym.eY,h3,mU,oQ,eX (by omega),o3];rfl
 ·have:=ox (j*z) (av H);have hl:=hI this;rw[Nat.zero_add,<-hl,List.take_length];exact this
theorem arM{k z n p q:Nat}{el:TypeId}{α:Type}{R:α->List af}{l:List α}{bb ae:Option Operand}(J:bI s.env x=some (.p k 0))(U:s.own[k]? =some (.a el false z α R l))(gr:fj s bb 0 p)(gP:fj s ae n q)(hp:p<=q)(hq:q<=n)(h0:p<n∨p=0):gy call (.AQ n z x bb ae none) s (.a6 k z p (q-p) (n-p)) s.own s.n:=l6 fun H ids st fr ar ab=>by
 obtain⟨b,h1,h2⟩:=ab.aj J;obtain⟨vs,a7,cl,dc⟩:=om ar U h1;refine⟨_,⟨b,h1,rfl⟩,?_⟩;show Am n z x bb ae none call fr st=_;unfold Am au.gL;rw[h2,tN,Sym.eY,Sym.ia,a7,kU,cond_false,BC,fj.aj gP ab hq,fj.aj gr ab hp];congr 2;by_cases ng:n=p
 ·subst ng;rcases h0 with h0|h0
  ·omega
  ·subst h0;rw[jI rfl];simp
 ·rw[rr ng,o3,Nat.zero_add];rfl
def s7(c:UInt8)(l:List UInt8):Int:=match pO c l with
 |some i=>i
 |none=> -1
theorem amg{l:List UInt8}{c:UInt8}(J:bI s.env x=some (.s l))(aG:bI s.env y=some (.i .u8 (c.toNat:Int))):gy call (.kb x y) s (.i .i64 (s7 c l)) s.own s.n:=l6 fun H ids st fr ar ab=>by
 have h1:fr.aj x= .string ⟨⟨l⟩⟩:=ab.aj J;have h2:fr.aj y= .int .u8 (c.toNat:Int):=ab.aj aG;refine⟨_,rfl,?_⟩;show Hv x y call fr st=_;unfold Hv;rw[h1,Et,h2,mU,show jM .u8 .u8=true from rfl,cond_true,oQ,UInt8.ofNat_toNat];unfold s7;show aZ.ok (.int .i64 (bl (pO c l) (fun i=>.ofNat i) (.negSucc 0))) fr st=_;cases pO c l<;>rfl
end
