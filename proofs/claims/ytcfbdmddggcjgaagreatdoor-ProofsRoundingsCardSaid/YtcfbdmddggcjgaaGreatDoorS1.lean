/- Rules for what a function computes on abstract states (part 1); no condition. -/
import Derived.Test.YtcfbdmddggcjgaaGreatDoorM1
import Derived.Test.YtcfbdmddggcjgaaGreatDoorM3
noncomputable section
set_option linter.all false
namespace Go.az
namespace Sym
section
variable{α β:Type}
def yc(r:aY)(k:Value->aQ->aw->cC)(p:Value->aw->cC):cC:=aY.rec (motive:=fun _=>cC) k p .no r
theorem JF(v:Value)(fr:aQ)(st:aw)(k:Value->aQ->aw->cC)(p:Value->aw->cC):yc (.ok v fr st) k p=k v fr st:=rfl
theorem aiH(v:Value)(st:aw)(k:Value->aQ->aw->cC)(p:Value->aw->cC):yc (.bh v st) k p=p v st:=rfl
theorem aiG(k:Value->aQ->aw->cC)(p:Value->aw->cC):yc .no k p= .no:=rfl
def uH(r:dC)(k:Value->aw->aY)(p:Value->aw->aY):aY:=dC.rec (motive:=fun _=>aY) (fun v st _=>k v st) (fun v st _=>p v st) .no r
theorem Zt(v:Value)(st:aw)(t:Bool)(k p:Value->aw->aY):uH (.ret v st t) k p=k v st:=rfl
theorem Zs(v:Value)(st:aw)(t:Bool)(k p:Value->aw->aY):uH (.bh v st t) k p=p v st:=rfl
theorem Ts(fr:aQ)(st:aw)(k:aQ->aw->cC):n5 (.out .norm fr st) k=k fr st:=rfl
theorem VS(id i:Nat)(fr:aQ)(st:aw):sD id (.out (.exit i) fr st)=if i=id then .out .norm fr st else .out (.exit i) fr st:=by
 show ea i id _ _=_;rw[mW]
theorem mb(a:IntKind)(n:Int)(k:IntKind->Int->β)(z:β):gd (.int a n) k z=k a n:=rfl
theorem yQ(s:ByteArray)(k:ByteArray->β)(z:β):ik (.string s) k z=k s:=rfl
theorem pZ(a:Option Addr)(k:Option Addr->β)(z:β):hP (.pointer a) k z=k a:=rfl
theorem o6(a:Option Addr)(n c:Nat)(k:Option Addr->Nat->Nat->β)(z:β):jh (.slice a n c) k z=k a n c:=rfl
theorem amz(x:Array Value)(k:Array Value->β)(z:β):si (.agg x) k z=k x:=rfl
theorem amA(x:Array Value)(k:Array Value->β)(z:β):o7 (.tuple x) k z=k x:=rfl
@[congr] theorem aog {o cg:Option α} (h:o=cg) (k:α->β) (z:β):bo o k z=bo cg k z:=by rw[h]
theorem eU(a:α)(k:α->β)(z:β):bo (some a) k z=k a:=rfl
theorem h3(k:α->β)(z:β):bo (none:Option α) k z=z:=rfl
@[congr] theorem aoc {a a' b fF:Nat} (h:a=a') (aL:b=fF) (x y:β):ey a b x y=ey a' fF x y:=by rw[h,aL]
theorem gj{a b:Nat}(h:a<=b)(x y:β):ey a b x y=x:=by rw[nQ,if_pos h]
theorem ahG{a b:Nat}(h:¬a<=b)(x y:β):ey a b x y=y:=by rw[nQ,if_neg h]
theorem jE{a b:Nat}(h:a=b)(x y:β):ea a b x y=x:=by rw[mW,if_pos h]
theorem ri{a b:Nat}(h:¬a=b)(x y:β):ea a b x y=y:=by rw[mW,if_neg h]
theorem nU(n:Nat)(k:Nat->β)(z:β):gW (n:Int) k z=k n:=rfl
theorem ah2{n:Int}(h:0<=n)(k:Nat->β)(z:β):gW n k z=k n.toNat:=by
 obtain⟨m,rfl⟩:=Int.eq_ofNat_of_zero_le h;rfl
theorem wR{l:List α}{o n:Nat}(h:o+n<=l.length)(k:List α->β)(z:β):hV l o n k z=k ((l.drop o).take n):=by
 unfold hV;rw[zF,BS,if_pos (by simp;omega)];rfl
end
theorem C5(fr:aQ)(t:Tmp):fr.an (.tmp t)=fr.tmp t:=rfl
theorem yN(fr:aQ)(d:Tmp)(v:Value)(j:Nat):(fr.put (some d) v).tmp j=if j=d then v else fr.tmp j:=by
 rw[qO];by_cases h:j=d
 ·subst h;simp
 ·rw[if_neg h,if_neg (by simpa using fun e=>h e.symm)]
section
variable(call:bP)(a9:Nat)(fn:FuncId)(fr:aQ)(st:aw)
theorem C4(d:Option Tmp)(o:dH)(xs:List bB):hJ call (⟨d,o,none⟩::xs) fr st=
 yc (cb call o fr st) (fun v fr st=>hJ call xs (fr.put d v) st) (fun v st=>cond o.mT (.out (.bh v) fr st) .no):=rfl
def sR{β:Type}(v:Value)(b:Bool)(yes gX z:β):β:=ky v (fun c=>cond c (cond b yes gX) (cond b gX yes)) (o7 v (fun _=>gX) z)
theorem ZV{β:Type}(x y z:β):sR (.bool true) true x y z=x:=rfl
theorem ZU{β:Type}(x y z:β):sR (.bool true) false x y z=y:=rfl
theorem ZT{β:Type}(x y z:β):sR (.bool false) true x y z=y:=rfl
theorem ZS{β:Type}(x y z:β):sR (.bool false) false x y z=x:=rfl
theorem ZW{β:Type}(b:Bool)(x y z:β)(a:Array Value):sR (.tuple a) b x y z=y:=rfl
theorem HA(d:Option Tmp)(o:dH)(t:Tmp)(b:Bool)(xs:List bB):hJ call (⟨d,o,some (t,b)⟩::xs) fr st=
 sR (fr.tmp t) b (yc (cb call o fr st) (fun v fr st=>hJ call xs (fr.put d v) st) (fun v st=>cond o.mT (.out (.bh v) fr st) .no)) (hJ call xs (fr.put d undef) st) .no:=rfl
theorem Hy(a b:du):dD call a9 fn (.seq a b) fr st=n5 (dD call a9 fn a fr st) (dD call a9 fn b):=rfl
theorem Hx(c:Operand)(a b:du):dD call a9 fn (.cond c a b) fr st=Ni (fr.an c) (dD call a9 fn a fr st) (dD call a9 fn b fr st):=rfl
theorem NS(i:Nat)(a:du):dD call a9 fn (.block i a) fr st=sD i (dD call a9 fn a fr st):=rfl
def Hz(b:du)(n:Nat)(fr:aQ)(st:aw):cC:=
 Nat.rec (motive:=fun _=>aQ->aw->cC) (fun _ _=>.no) (fun _ bb fr st=>n5 (dD call a9 fn b fr st) bb) n fr st
theorem Y6(b:du)(n:Nat):Hz call a9 fn b (n+1) fr st=n5 (dD call a9 fn b fr st) (Hz call a9 fn b n):=rfl
end
section
variable(call:bP)(fr:aQ)(st:aw)
theorem Rb(c a b:Operand):cb call (.pick c a b) fr st=ky (fr.an c) (fun t=>.ok (cond t (fr.an a) (fr.an b)) fr st) .no:=rfl
theorem aiR(x:Operand):cb call (.oR x) fr st=jh (fr.an x) (fun _ n _=>.ok (.int .i64 (n:Int)) fr st) .no:=rfl
theorem aiS(x:Operand):cb call (.vq x) fr st=ik (fr.an x) (fun s=>.ok (.int .i64 (s.data.toList.length:Int)) fr st) .no:=by
 show ik (fr.an x) (fun s=>fB (ef s.data.toList) fun n=>aY.ok (.int .i64 (.ofNat n)) fr st) aY.no=_;simp only[w9,fx];rfl
theorem Bf(f:Operand)(args:List Operand):cb call (.call f args) fr st=uH (call (fr.an f) (fv fr args) none st) (fun v st=>.ok v fr st) (fun v st=>.bh v st):=rfl
theorem aiP(bj:Nat)(x i:Operand):cb call (.lZ bj x i) fr st=
 jh (fr.an x) (fun b len _=>bo b (fun a=>gd (fr.an i) (fun _ j=>gW j (fun j=>ey (j+1) len (.ok (.pointer (some (a.add (j*bj)))) fr st) .no) .no) .no) .no) .no:=rfl
theorem aiT(x:Operand):cb call (.l1 x) fr st=hP (fr.an x) (fun p=>bo p (fun a=>st.load a 1 (fun vs=>one vs (fun v=>.ok v fr st) .no) .no) .no) .no:=rfl
theorem aiU(n:Nat)(x:Operand):cb call (.qy n x) fr st=hP (fr.an x) (fun p=>bo p (fun a=>st.load a n (fun vs=>.ok (.agg ⟨vs⟩) fr st) .no) .no) .no:=rfl
theorem aiL(k:IntKind)(x:Operand):cb call (.uq k x) fr st=gd (fr.an x) (fun _ n=>.ok (.int k (k.wrap n)) fr st) .no:=by
 show gd (fr.an x) (fun _ n=>hi k (mQ k n) fun v=>aY.ok v fr st) aY.no=_;simp only[hB,kd]
theorem Be(op:BinOp)(x y:Operand):cb call (.bin op x y) fr st=zL op (fr.an x) (fr.an y) (fun v=>.ok v fr st):=rfl
theorem Hw(op:BinOp)(k tX:IntKind)(a b:Int)(c:Value->aY):zL op (.int k a) (.int tX b) c=w0 op k a tX b c:=rfl
theorem NR(op:BinOp)(a b:ByteArray)(c:Value->aY):zL op (.string a) (.string b) c=zi op a b c:=rfl
theorem aho(k:IntKind):jd k k=true:=by cases k<;>rfl
end
end Sym
end Go.az
namespace Go.az
open Sym
def W(r:cC)(Q:ee->aQ->aw->Prop):Prop:=∃e fr st,r= .out e fr st∧Q e fr st
theorem W.mk{e:ee}{fr:aQ}{st:aw}{Q:ee->aQ->aw->Prop}(h:Q e fr st):W (.out e fr st) Q:=⟨e,fr,st,rfl,h⟩
theorem W.of_eq{r dt:cC}{Q:ee->aQ->aw->Prop}(e:r=dt)(h:W dt Q):W r Q:=by rw[e];exact h
theorem W.mono{r:cC}{Q y2:ee->aQ->aw->Prop}(h:W r Q)(hq:∀e fr st,Q e fr st->y2 e fr st):W r y2:=
 let⟨e,fr,st,J,U⟩:=h;⟨e,fr,st,J,hq _ _ _ U⟩
def UU(call:bP)(a9:Nat)(fn:FuncId)(b:du)(Q:ee->aQ->aw->Prop):ee->aQ->aw->Prop
 |.norm,fr,st=>W (dD call a9 fn b fr st) Q
 |e,fr,st=>Q e fr st
def UI(id:Nat)(Q:ee->aQ->aw->Prop):ee->aQ->aw->Prop
 |.exit i,fr,st=>if i=id then Q .norm fr st else Q (.exit i) fr st
 |e,fr,st=>Q e fr st
def Round(aq:Nat->aQ->aw->Prop)(m:Nat)(Q:ee->aQ->aw->Prop):ee->aQ->aw->Prop
 |.norm,fr,st=>∃fL,fL<m∧aq fL fr st
 |e,fr,st=>Q e fr st
section
variable{call:bP}{a9:Nat}{fn:FuncId}{fr:aQ}{st:aw}{Q:ee->aQ->aw->Prop}
theorem amV{a b:du}(h:W (dD call a9 fn a fr st) (UU call a9 fn b Q)):W (dD call a9 fn (.seq a b) fr st) Q:=by
 obtain⟨e,aE,st',J,U⟩:=h;rw[Hy,J];cases e with
 |norm=>exact U
 |exit i=>exact .mk U
 |ret=>exact .mk U
 |bh v=>exact .mk U
theorem amW(h:Q .norm fr st):W (dD call a9 fn .skip fr st) Q:=.mk h
theorem amK{i:Nat}(h:Q (.exit i) fr st):W (dD call a9 fn (.exit i) fr st) Q:=.mk h
theorem amS(h:Q .ret fr st):W (dD call a9 fn .ret fr st) Q:=.mk h
theorem amU{a:du}(h:W (dD call a9 fn a fr st) Q):W (dD call a9 fn (.scope a) fr st) Q:=h
theorem amF{i:Nat}{a:du}(h:W (dD call a9 fn a fr st) (UI i Q)):W (dD call a9 fn (.block i a) fr st) Q:=by
 obtain⟨e,aE,st',J,U⟩:=h;rw[NS,J];cases e with
 |norm=>exact .mk U
 |exit j=>
  rw[VS];have ah:(if j=i then Q .norm aE st' else Q (.exit j) aE st'):=U;split at ah
  ·rw[if_pos (by assumption)];exact .mk ah
  ·rw[if_neg (by assumption)];exact .mk ah
 |ret=>exact .mk U
 |bh v=>exact .mk U
theorem amR{ops:List bB}(h:W (hJ call ops fr st) Q):W (dD call a9 fn (.r9 ops) fr st) Q:=h
theorem amN(h:Q .norm fr st):W (hJ call [] fr st) Q:=.mk h
theorem amL{c:Operand}{a b:du}{t:Bool}(hc:fr.an c= .bool t)(a2:t=true->W (dD call a9 fn a fr st) Q)(hb:t=false->W (dD call a9 fn b fr st) Q):W (dD call a9 fn (.cond c a b) fr st) Q:=by
 rw[Hx,hc];cases t
 ·exact hb rfl
 ·exact a2 rfl
theorem amX{c:Operand}{a b:du}{t:Bool}(hc:fr.an c= .bool t)(aX:t=true)(a2:W (dD call a9 fn a fr st) Q):W (dD call a9 fn (.cond c a b) fr st) Q:=by
 rw[Hx,hc,aX];exact a2
theorem amJ{c:Operand}{a b:du}{t:Bool}(hc:fr.an c= .bool t)(aX:t=false)(hb:W (dD call a9 fn b fr st) Q):W (dD call a9 fn (.cond c a b) fr st) Q:=by
 rw[Hx,hc,aX];exact hb
theorem UB{b:du}(aq:Nat->aQ->aw->Prop)
 (cq:∀m fr st,aq m fr st->W (dD call a9 fn b fr st) (Round aq m Q)):∀(n m:Nat) (fr:aQ) (st:aw),m<n->aq m fr st->W (Hz call a9 fn b n fr st) Q
 |0,m,_,_,h,_=>by omega
 |n+1,m,fr,st,h,ag=>by
  obtain⟨e,aE,st',J,U⟩:=cq m fr st ag;rw[Y6,J];cases e with
  |norm=>
   obtain⟨fL,hm,ah⟩:=U;exact UB aq cq n fL aE st' (by omega) ah
  |exit i=>exact .mk U
  |ret=>exact .mk U
  |bh v=>exact .mk U
theorem amM{b:du}(aq:Nat->aQ->aw->Prop)(m:Nat)(hm:m<a9)(h0:aq m fr st)
 (cq:∀m fr st,aq m fr st->W (dD call a9 fn b fr st) (Round aq m Q)):W (dD call a9 fn (.loop b) fr st) Q:=
 UB aq cq a9 m fr st hm h0
theorem E{d:Tmp}{v:Value}:(fr.put (some d) v).an (.tmp d)=v:=by rw[C5,yN,if_pos rfl]
theorem N{d j:Tmp}{v x:Value}(h:fr.an (.tmp j)=x)(cx:Nat.beq j d=false:=by rfl):(fr.put (some d) v).an (.tmp j)=x:=by
 rw[C5,yN,if_neg];exact h;intro e;subst e;simp at cx
theorem C{v:Value}:fr.an (.const v)=v:=rfl
section
variable{xs:List bB}{d:Option Tmp}{o:dH}{x y i:Operand}
theorem Gr{v:Value}{st':aw}(h:cb call o fr st= .ok v fr st')(k:W (hJ call xs (fr.put d v) st') Q):W (hJ call (⟨d,o,none⟩::xs) fr st) Q:=by
 rw[C4,h,JF];exact k
theorem amQ{t:Tmp}{b c:Bool}(aZ:fr.an (.tmp t)= .bool c)(hc:c=b)(k:W (hJ call (⟨d,o,none⟩::xs) fr st) Q):W (hJ call (⟨d,o,some (t,b)⟩::xs) fr st) Q:=by
 subst hc;rw[HA,show fr.tmp t= .bool c from aZ];rw[C4]at k;cases c
 ·rw[ZS];exact k
 ·rw[ZV];exact k
theorem amO{t:Tmp}{b c:Bool}(aZ:fr.an (.tmp t)= .bool c)(hc:c= !b)(k:W (hJ call xs (fr.put d undef) st) Q):W (hJ call (⟨d,o,some (t,b)⟩::xs) fr st) Q:=by
 subst hc;rw[HA,show fr.tmp t= .bool (!b)from aZ];cases b
 ·rw[show sR (.bool (!false)) false _ _ cC.no=_ from ZU _ _ _];exact k
 ·rw[show sR (.bool (!true)) true _ _ cC.no=_ from ZT _ _ _];exact k
theorem amP{t:Tmp}{b:Bool}{a:Array Value}(aZ:fr.an (.tmp t)= .tuple a)(k:W (hJ call xs (fr.put d undef) st) Q):W (hJ call (⟨d,o,some (t,b)⟩::xs) fr st) Q:=by
 rw[HA,show fr.tmp t= .tuple a from aZ,ZW];exact k
end
section
variable{x y i c a b:Operand}
theorem x4{p:Option Addr}{n m:Nat}(h:fr.an x= .slice p n m):cb call (.oR x) fr st= .ok (.int .i64 (n:Int)) fr st:=by rw[aiR,h];rfl
theorem aiu{k k':IntKind}{n:Int}(h:fr.an x= .int k' n):cb call (.uq k x) fr st= .ok (.int k (k.wrap n)) fr st:=by rw[aiL,h];rfl
theorem aiv{bj:Nat}{p:Addr}{n m:Nat}{k:IntKind}{j:Int}(h:fr.an x= .slice (some p) n m)(aL:fr.an i= .int k j)(h0:0<=j)(J:j<n):
 cb call (.lZ bj x i) fr st= .ok (.pointer (some (p.add (j.toNat*bj)))) fr st:=by
 rw[aiP,h,aL];show gW j (fun j=>ey (j+1) n _ _) _=_;rw[ah2 h0,gj (by omega)]
theorem aiw{p:Addr}{cs:List Value}{el:TypeId}{bt:Nat×Nat}{aR:Bool}{v:Value}(h:fr.an x= .pointer (some p))(hp:p.spot=none)(ao:st.h.get p.block=some (.cells cs el bt aR))(aD:cs[p.off]? =some v):
 cb call (.l1 x) fr st= .ok v fr st:=by
 rw[aiT,h];show st.load p 1 _ _=_;unfold aw.load aw.gI;rw[hp,ao];show hV cs p.off 1 _ _=_;have bO:p.off<cs.length:=by
  rcases Nat.lt_or_ge p.off cs.length with h|h
  ·exact h
  ·rw[List.getElem?_eq_none h]at aD;cases aD
 rw[wR (by omega)];have:(cs.drop p.off).take 1=[v]:=by
  rw[cA bO]at aD;cases aD;rw[iG bO];rfl
 rw[this];rfl
end
end
end Go.az
namespace Go.az
open Sym
variable{X:Ctx}
def en(X:Ctx)(K:FuncId->List Value->aw->Value->aw->Prop):la:=fun f as st=>
 open Classical in if h:∃p:Value×aw,K f as st p.1 p.2∧cF X f ⟨as,st,p.1,p.2⟩then some (.ret (Classical.choose h).1 (Classical.choose h).2 false)else none
theorem ai0(K:FuncId->List Value->aw->Value->aw->Prop):p4 X (en X K):=by
 intro f as st r aF ι as' w a2 hw _;unfold en at aF;split at aF
 ·rename_i h;cases aF;exact(Classical.choose_spec h).2 ι as' w a2 hw
 ·cases aF
theorem Rj{K:FuncId->List Value->aw->Value->aw->Prop}{f:FuncId}{as:List Value}{st:aw}(h:∃v st',K f as st v st'∧cF X f ⟨as,st,v,st'⟩):
 ∃v st',en X K f as st=some (.ret v st' false)∧K f as st v st':=by
 obtain⟨v,st',J,U⟩:=h;have hp:∃p:Value×aw,K f as st p.1 p.2∧cF X f ⟨as,st,p.1,p.2⟩:=⟨(v,st'),J,U⟩;refine⟨(Classical.choose hp).1,(Classical.choose hp).2,?_,(Classical.choose_spec hp).1⟩;unfold en;rw[dif_pos hp]
structure Spec where
 L:Type
 pre:L->List Value->aw->Prop
 post:L->List Value->aw->Value->aw->Prop
def Spec.K(S:Spec)(as:List Value)(st:aw)(v:Value)(st':aw):Prop:=∀l,S.pre l as st->S.post l as st v st'
def ca(X:Ctx)(f:FuncId)(S:Spec):Prop:=∀as st,(∃l,S.pre l as st)->∃v st',S.K as st v st'∧cF X f ⟨as,st,v,st'⟩
def cp:Nat:=4611686018427387904
theorem Ss{a7:au aK}(dE:Good X)(hA:mi X a7){K:FuncId->List Value->aw->Value->aw->Prop}{f:FuncId}{xf:aK}(aa:a7.get f=some xf){n:Nat}{as:List Value}{st:aw}{v:Value}{st':aw}
 (h:oi (dx a7 (en X K) n) n f xf as none st= .ret v st' false):cF X f ⟨as,st,v,st'⟩:=by
 obtain⟨Fn,c,ok⟩:=hA f xf aa;obtain⟨mD,kW⟩:=Cz dE hA (ai0 (X:=X) K) n;intro ι as' w a2 hw;refine⟨ok.enters,fun yT bc aF=> ?_⟩;have:=MX dE kW mD (fun b ay bc _=>FX kW b ay bc) ok n (K:=yT) (bc:=bc) a2 hw aF;rw[h]at this;exact this
structure tZ(fr:aQ):Prop where
 c8:fr.c8=[]
 bh:fr.bh=none
 cL:fr.cL=false
theorem tZ.put{fr:aQ}(h:tZ fr)(d:Option Tmp)(v:Value):tZ (fr.put d v):=by
 obtain⟨J,U,ah,aC⟩:=tB fr d v;exact⟨J.trans h.c8,U.trans h.bh,ah.trans h.cL⟩
def gq(as:List Value):aQ:=⟨lP as 0 .nil,[],none,false,none⟩
theorem tZ.zero(as:List Value):tZ (gq as):=⟨rfl,rfl,rfl⟩
theorem Cx{call:bP}{n:Nat}{f:FuncId}{xf:aK}{as:List Value}{st:aw}{Post:Value->aw->Prop}(hl:as.length<=xf.ay)
 (h:W (dD call n f xf.body (gq as) st) (fun e fr st'=>(e= .norm∨e= .ret)∧∃v,lj call xf.res none fr st'= .ret v st' false∧Post v st')):
 ∃v st',oi call n f xf as none st= .ret v st' false∧Post v st':=by
 obtain⟨e,fr,st',J,he,v,U,ah⟩:=h;refine⟨v,st',?_,ah⟩;unfold oi;rw[nQ,if_pos (by rw[fx];exact hl)];show cC.rec (motive:=fun _=>dC) _ _ (dD call n f xf.body (gq as) st)=_;rw[J];rcases he with rfl|rfl
 ·exact U
 ·exact U
theorem Nm{a7:au aK}(dE:Good X)(hA:mi X a7)(K:FuncId->List Value->aw->Value->aw->Prop){f:FuncId}{xf:aK}(aa:a7.get f=some xf){S:Spec}(hl:∀l as st,S.pre l as st->as.length<=xf.ay)
 (h:∀l as st,S.pre l as st->W (dD (dx a7 (en X K) (cp+1)) (cp+1) f xf.body (gq as) st)
  (fun e fr st'=>(e= .norm∨e= .ret)∧∃v,lj (dx a7 (en X K) (cp+1)) xf.res none fr st'= .ret v st' false∧S.post l as st v st')):ca X f S:=by
 intro as st ⟨l,hp⟩;obtain⟨v,st',J,U⟩:=Cx (Post:=S.post l as st) (hl l as st hp) (h l as st hp);refine⟨v,st',fun l' jb=> ?_,Ss dE hA aa J⟩;obtain⟨v2,cS,aW,a0⟩:=Cx (Post:=S.post l' as st) (hl l' as st jb) (h l' as st jb);rw[J]at aW;cases aW;exact a0
section
variable{call:bP}{fr:aQ}{st:aw}{x y i:Operand}
theorem kG{β:Type}(cs:List Value)(e:TypeId)(bt:Nat×Nat)(aR:Bool)(k:List Value->TypeId->Nat×Nat->Bool->β)(z:β):zr (some (.cells cs e bt aR)) k z=k cs e bt aR:=rfl
end
def eN:List Nat->List Nat
 |[]=>[]
 |d::ds=>match eN ds with
  |[]=>if d=0 then[]else[d]
  |r=>d::r
end Go.az
namespace Go.az
open Sym
section
variable{call:bP}{fr:aQ}{st:aw}{Q:ee->aQ->aw->Prop}{a9:Nat}{fn:FuncId}
theorem O{ts:List Tmp}{j:Tmp}{x:Value}(h:fr.an (.tmp j)=x)(hj:ts.contains j=true:=by rfl):(fr.only ts).an (.tmp j)=x:=by
 rw[C5,QQ,if_pos (by simpa using hj)];exact h
theorem amI{ops:List (bB×c0)}{cm ec ms:List Nat}(h:W (hI call ops [st.h] (nY fr ec) st) Q):W (dD call a9 fn (.dJ ops cm ec ms) fr st) Q:=h
theorem amG{ak:List (au bL)}(h:Q .norm fr st):W (hI call [] ak fr st) Q:=.mk h
theorem SA{o:dH}{f:aQ}{v:Value}{aj:Nat}:∀(n:Nat) (ak:List (au bL)),n<=ak.length->(∀h∈ak.take n,∃nC br,cb call o f ⟨h,aj⟩= .ok v nC br)->sameAt call o f v aj n ak=true
 |0,_,_,_=>rfl
 |n+1,[],h,_=>by simp at h
 |n+1,h::ak,hl,hh=>by
  obtain⟨nC,br,e⟩:=hh h (by simp);show aY.rec (motive:=fun _=>Bool) (fun v' _ _=>cond (dI v v') (sameAt call o f v aj n ak) false) (fun _ _=>false) false (cb call o f ⟨h,aj⟩)=true;rw[e];show cond (dI v v) (sameAt call o f v aj n ak) false=true;rw[wk];exact SA n ak (by simpa using hl) fun aL hm=>hh aL (by simp[hm])
theorem amH{o:dH}{d:Option Tmp}{ts:List Tmp}{back:Nat}{ops:List (bB×c0)}{ak:List (au bL)}{v:Value}(dK:∀h∈st.h::ak.take (back+1),cb call o (fr.only ts) ⟨h,st.aj⟩= .ok v (fr.only ts) ⟨h,st.aj⟩)(hl:back<ak.length)
 (k:W (hI call ops ak (fr.put d v) st) Q):W (hI call ((⟨d,o,none⟩,.read back ts)::ops) ak fr st) Q:=by
 refine W.of_eq ?_ k;show ng fr.t ts (fun t=>hF ⟨t,[],none,false,none⟩ none
  (aY.rec (motive:=fun _=>cC) (fun v _ _=>cond (sameAt call o ⟨t,[],none,false,none⟩ v st.aj (Nat.succ back) ak) (hI call ops ak (fr.put d v) st) .no) (fun _ _=>.no) .no (cb call o ⟨t,[],none,false,none⟩ st))
  (hI call ops ak (fr.put d undef) st) .no)=_
 rw[qD];have e:=dK st.h (by simp);have e:cb call o ⟨Bd fr.t ts,[],none,false,none⟩ st= .ok v (fr.only ts) st:=e;show aY.rec (motive:=fun _=>cC) _ _ _ (cb call o ⟨Bd fr.t ts,[],none,false,none⟩ st)=_;rw[e];show cond (sameAt call o (fr.only ts) v st.aj (Nat.succ back) ak) _ _=_;rw[SA _ _ (by omega) fun h hm=>⟨_,_,dK h (by simp[hm])⟩];rfl
theorem aiy{c a b:Operand}{t:Bool}{u:Value}(hc:fr.an c= .bool t)(aX:t=true)(a2:fr.an a=u):cb call (.pick c a b) fr st= .ok u fr st:=by
 rw[Rb,hc,a2,aX];rfl
theorem aix{c a b:Operand}{t:Bool}{u:Value}(hc:fr.an c= .bool t)(aX:t=false)(hb:fr.an b=u):cb call (.pick c a b) fr st= .ok u fr st:=by
 rw[Rb,hc,hb,aX];rfl
theorem ED{x i:Operand}{bj id off n m j:Nat}{k:IntKind}(h:fr.an x= .slice (some ⟨id,off,none⟩) n m)(aL:fr.an i= .int k (j:Int))(hj:j<n):
 cb call (.lZ bj x i) fr st= .ok (.pointer (some ⟨id,off+j*bj,none⟩)) fr st:=by
 rw[aiv h aL (by omega) (by omega)];rw[Int.toNat_natCast];congr 3;unfold Addr.add;split
 ·rename_i h0;rw[h0];rfl
 ·rfl
theorem gD{n:Int}(h: -9223372036854775808<=n)(aL:n<9223372036854775808):IntKind.i64.wrap n=n:=by
 rw[<-kd];show wm 18446744073709551616 9223372036854775808 n=n;rw[wo _ _ _ (by decide)];split<;>omega
theorem Uu{n:Int}(h:0<=n)(aL:n<18446744073709551616):IntKind.u64.wrap n=n:=by
 rw[<-kd];show yS 18446744073709551616 n=n;rw[qP _ _ (by decide)];omega
end
section
variable{call:bP}{fr:aQ}{st:aw}{x y i:Operand}
end
section
variable{call:bP}{fr:aQ}{st:aw}{x y i:Operand}
end
abbrev Env:=List (Nat×Value)
def iB(L:List Nat)(e:Env):Env:=e.filter fun p=>L.any (Nat.beq p.1)
abbrev Gy:=ee->Env->aw->Prop
section
variable{call:bP}{a9:Nat}{fn:FuncId}{e:Env}{st:aw}{Q:Gy}
end
end Go.az
namespace Go.az
open Sym
variable{X:Ctx}
theorem My:∀(vs:List Value) (i:Nat) (t:au Value) (j:Nat),(lP vs i t).get j=if i<=j∧j<i+vs.length then vs[j-i]? else t.get j
 |[],i,t,j=>by rw[if_neg (by simp)];rfl
 |v::vs,i,t,j=>by
  have e:lP (v::vs) i t=lP vs (i+1) (t.set i v):=by
   show au.hM (Nat.succ i) t i v (fun t=>lP vs (Nat.succ i) t)=_;rw[au.v5]
  rw[e,My vs (i+1) _ j,au.eI];by_cases ae:j=i
  ·subst ae;rw[if_neg (by omega),if_pos rfl,if_pos (by simp)];simp
  ·rw[if_neg ae];by_cases J:i+1<=j∧j<i+1+vs.length
   ·rw[if_pos J,if_pos (by simp;omega)];have:j-i=(j-(i+1))+1:=by omega
    rw[this];simp
   ·rw[if_neg J,if_neg (by simp;omega)]
section
variable{call:bP}{a9:Nat}{fn:FuncId}{e:Env}{st:aw}{Q:Gy}
end
end Go.az
namespace Go.az
open Sym
section
variable{call:bP}{fr:aQ}{st:aw}{x y i:Operand}
theorem x3{op:BinOp}{k:IntKind}{m n:Int}{v:Value}(J:op≠.shl)(U:op≠.shr)(h:fr.an x= .int k m)(aL:fr.an y= .int k n)(aD:pE op k m n=some v):cb call (.bin op x y) fr st= .ok v fr st:=by
 rw[Be,h,aL,Hw];have:w0 op k m k n (fun v=>aY.ok v fr st)=cond (jd k k) (wG op k m n (fun v=>aY.ok v fr st)) .no:=by
  cases op<;>first|rfl|(exact absurd rfl J)|(exact absurd rfl U)
 rw[this,aho,G3,aD];rfl
theorem QO{k:IntKind}{m n:Nat}(h:fr.an x= .int k (m:Int))(aL:fr.an y= .int k (n:Int))(hn:n≠0):cb call (.bin .quo x y) fr st= .ok (.int k (k.wrap ((m/n:Nat):Int))) fr st:=
 x3 (by decide) (by decide) h aL (by
  show(if(n:Int)=0 then none else _)=_;rw[if_neg (by omega)];rfl)
theorem aiz{k:IntKind}{m n:Nat}(h:fr.an x= .int k (m:Int))(aL:fr.an y= .int k (n:Int))(hn:n≠0):cb call (.bin .rem x y) fr st= .ok (.int k ((m%n:Nat):Int)) fr st:=
 x3 (by decide) (by decide) h aL (by
  show(if(n:Int)=0 then none else _)=_;rw[if_neg (by omega)];rfl)
end
section
variable{call:bP}{a9:Nat}{fn:FuncId}{e:Env}{st:aw}{Q:Gy}
theorem Ll{fr:aQ}{t:Tmp}{b:Bool}{yes gX z:cC}(h:fr.tmp t= .bool b):hF fr (some (t,b)) yes gX z=yes:=by
 show ky (fr.tmp t) (fun c=>cond c (cond b yes gX) (cond b gX yes)) _=_;rw[h];cases b<;>rfl
theorem am0{fr:aQ}{t:Tmp}{b:Bool}{yes gX z:cC}(h:fr.tmp t= .bool (!b)):hF fr (some (t,b)) yes gX z=gX:=by
 show ky (fr.tmp t) (fun c=>cond c (cond b yes gX) (cond b gX yes)) _=_;rw[h];cases b<;>rfl
end
end Go.az
namespace Go.az
inductive al:Type 1
 |i (k:IntKind) (n:Int)
 |b (t:Bool)
 |s (l:List UInt8)
 |nl
 |v (x:Value)
 |p (k o:Nat)
 |gG (k z j o:Nat)
 |bH (k z o n c:Nat)
 |gE (z:Nat) (α:Type) (R:α->List al) (l:List α)
 |jJ (z:Nat) (α:Type) (R:α->List al) (l:List α)
 |ip (cs:List al)
 |fn (f:Fn) (dd cs:List al)
 |agg (cs:List al)
 |b5 (cs:List al)
 |bad
abbrev bY:=Nat->Option bL
mutual
def den(H:bY):al->List Nat->Value->Prop
 |.i k n,_,v=>v= .int k n
 |.b t,_,v=>v= .bool t
 |.s l,_,v=>v= .string ⟨⟨l⟩⟩
 |.nl,_,v=>v= .slice none 0 0
 |.v x,_,v=>v=x
 |.p k o,ids,v=>∃b,ids[k]? =some b∧v= .pointer (some ⟨b,o,none⟩)
 |.gG k z j o,ids,v=>∃b,ids[k]? =some b∧v= .pointer (some ⟨b,j*z+o,none⟩)
 |.bH k z o n c,ids,v=>∃b,ids[k]? =some b∧v= .slice (some ⟨b,o*z,none⟩) n c
 |.gE z _ R l,_,v=>(l=[]∧v= .slice none 0 0)∨∃b o c vs el bt aR,v= .slice (some ⟨b,o,none⟩) l.length c∧l.length<=c∧H b=some (.cells vs el bt aR)∧∀i x,l[i]? =some x->ei H (R x) [] ((vs.drop (o+i*z)).take z)
 |.jJ z _ R l,_,v=>(l=[]∧v= .slice none 0 0)∨(l≠[]∧∃b o c vs el bt aR,v= .slice (some ⟨b,o,none⟩) l.length c∧l.length<=c∧H b=some (.cells vs el bt aR)∧∀i x,l[i]? =some x->ei H (R x) [] ((vs.drop (o+i*z)).take z))
 |.ip cs,_,v=>∃b o vs el bt aR,v= .pointer (some ⟨b,o,none⟩)∧H b=some (.cells vs el bt aR)∧ei H cs [] ((vs.drop o).take cs.length)
 |.fn f dd cs,ids,v=>∃vs ws,v= .func f ⟨vs⟩ ⟨ws⟩∧ei H dd ids vs∧ei H cs ids ws
 |.agg cs,ids,v=>∃vs,v= .agg ⟨vs⟩∧ei H cs ids vs
 |.b5 cs,ids,v=>∃vs,v= .tuple ⟨vs⟩∧ei H cs ids vs
 |.bad,_,_=>False
def ei(H:bY):List al->List Nat->List Value->Prop
 |[],_,vs=>vs=[]
 |c::cs,ids,vs=>∃v ws,vs=v::ws∧den H c ids v∧ei H cs ids ws
end
def dZ(H cc:bY):Prop:=∀b o,H b=some o->cc b=some o
theorem dZ.refl(H:bY):dZ H H:=fun _ _ h=>h
theorem dZ.trans{H cc LF:bY}(h:dZ H cc)(aL:dZ cc LF):dZ H LF:=fun b o e=>aL b o (h b o e)
def dO(i j:List Nat):Prop:=∀k b:Nat,i[k]? =some b->j[k]? =some b
theorem dO.refl(i:List Nat):dO i i:=fun _ _ h=>h
theorem dO.nil(i:List Nat):dO [] i:=fun k b h=>by simp at h
theorem dO.app(i j:List Nat):dO i (i++j):=fun k b h=>by
 rw[List.getElem?_append_left (List.getElem?_eq_some_iff.1 h).1];exact h
mutual
theorem ux{H cc:bY}(h:dZ H cc):∀(a:al) {i j:List Nat} {v:Value},dO i j->den H a i v->den cc a j v
 |.i _ _,_,_,_,_,d=>d
 |.b _,_,_,_,_,d=>d
 |.s _,_,_,_,_,d=>d
 |.nl,_,_,_,_,d=>d
 |.v _,_,_,_,_,d=>d
 |.p _ _,_,_,_,ag,⟨b,e,d⟩=>⟨b,ag _ _ e,d⟩
 |.gG _ _ _ _,_,_,_,ag,⟨b,e,d⟩=>⟨b,ag _ _ e,d⟩
 |.bH _ _ _ _ _,_,_,_,ag,⟨b,e,d⟩=>⟨b,ag _ _ e,d⟩
 |.gE _ _ _ _,_,_,_,_,.inl d=>.inl d
 |.gE _ _ R _,_,_,_,_,.inr ⟨b,o,c,vs,el,bt,aR,aG,e2,cw,gz⟩=>.inr ⟨b,o,c,vs,el,bt,aR,aG,e2,h _ _ cw,fun i x aa=>mn h (R x) (dO.refl _) (gz i x aa)⟩
 |.jJ _ _ _ _,_,_,_,_,.inl d=>.inl d
 |.jJ _ _ R _,_,_,_,_,.inr ⟨hn,b,o,c,vs,el,bt,aR,aG,e2,cw,gz⟩=>.inr ⟨hn,b,o,c,vs,el,bt,aR,aG,e2,h _ _ cw,fun i x aa=>mn h (R x) (dO.refl _) (gz i x aa)⟩
 |.ip cs,_,_,_,_,⟨b,o,vs,el,bt,aR,aG,e2,cw⟩=>⟨b,o,vs,el,bt,aR,aG,h _ _ e2,mn h cs (dO.refl _) cw⟩
 |.fn _ dd cs,_,_,_,ag,⟨vs,ws,e,d1,d2⟩=>⟨vs,ws,e,mn h dd ag d1,mn h cs ag d2⟩
 |.agg cs,_,_,_,ag,⟨vs,e,d⟩=>⟨vs,e,mn h cs ag d⟩
 |.b5 cs,_,_,_,ag,⟨vs,e,d⟩=>⟨vs,e,mn h cs ag d⟩
 |.bad,_,_,_,_,d=>d.elim
theorem mn{H cc:bY}(h:dZ H cc):∀(a:List al) {i j:List Nat} {v:List Value},dO i j->ei H a i v->ei cc a j v
 |[],_,_,_,_,d=>d
 |a::as,_,_,_,ag,⟨v,ws,e,d1,d2⟩=>⟨v,ws,e,ux h a ag d1,mn h as ag d2⟩
end
mutual
def mN(f:List Nat):al->al
 |.p k o=>match f[k]? with|some j=>.p j o|none=>.bad
 |.gG k z j o=>match f[k]? with|some m=>.gG m z j o|none=>.bad
 |.bH k z o n c=>match f[k]? with|some m=>.bH m z o n c|none=>.bad
 |.fn g dd cs=>.fn g (pT f dd) (pT f cs)
 |.agg cs=>.agg (pT f cs)
 |.b5 cs=>.b5 (pT f cs)
 |.i k n=>.i k n
 |.b t=>.b t
 |.s l=>.s l
 |.nl=>.nl
 |.v x=>.v x
 |.gE z α R l=>.gE z α R l
 |.jJ z α R l=>.jJ z α R l
 |.ip cs=>.ip cs
 |.bad=>.bad
def pT(f:List Nat):List al->List al
 |[]=>[]
 |a::as=>mN f a::pT f as
end
def pick(f ids:List Nat):List Nat:=f.map (fun k=>(ids[k]?).getD 0)
theorem vI{f ids:List Nat}{k m b:Nat}(af:f[k]? =some m)(hb:ids[m]? =some b):(pick f ids)[k]? =some b:=by
 unfold pick;rw[List.getElem?_map,af];simp[hb]
mutual
theorem Nz{H:bY}(f:List Nat){ids:List Nat}:∀(a:al) {v:Value},den H (mN f a) ids v->den H a (pick f ids) v
 |.i _ _,_,d=>d
 |.b _,_,d=>d
 |.s _,_,d=>d
 |.nl,_,d=>d
 |.v _,_,d=>d
 |.p k o,v,d=>by
  unfold mN at d;cases h:f[k]? with
  |none=>rw[h]at d;exact d.elim
  |some j=>rw[h]at d;obtain⟨b,e,d⟩:=d;exact⟨b,vI h e,d⟩
 |.gG k z j o,v,d=>by
  unfold mN at d;cases h:f[k]? with
  |none=>rw[h]at d;exact d.elim
  |some j=>rw[h]at d;obtain⟨b,e,d⟩:=d;exact⟨b,vI h e,d⟩
 |.bH k z o n c,v,d=>by
  unfold mN at d;cases h:f[k]? with
  |none=>rw[h]at d;exact d.elim
  |some j=>rw[h]at d;obtain⟨b,e,d⟩:=d;exact⟨b,vI h e,d⟩
 |.gE _ _ _ _,_,d=>d
 |.jJ _ _ _ _,_,d=>d
 |.ip _,_,d=>d
 |.fn _ dd cs,_,⟨vs,ws,e,d1,d2⟩=>⟨vs,ws,e,uz f dd d1,uz f cs d2⟩
 |.agg cs,_,⟨vs,e,d⟩=>⟨vs,e,uz f cs d⟩
 |.b5 cs,_,⟨vs,e,d⟩=>⟨vs,e,uz f cs d⟩
 |.bad,_,d=>d.elim
theorem uz{H:bY}(f:List Nat){ids:List Nat}:∀(a:List al) {v:List Value},ei H (pT f a) ids v->ei H a (pick f ids) v
 |[],_,d=>d
 |a::as,_,⟨v,ws,e,d1,d2⟩=>⟨v,ws,e,Nz f a d1,uz f as d2⟩
end
mutual
def pL:al->Bool
 |.p _ _|.gG _ _ _ _|.bH _ _ _ _ _=>false
 |.fn _ dd cs=>jL dd&&jL cs
 |.agg cs=>jL cs
 |.b5 cs=>jL cs
 |_=>true
def jL:List al->Bool
 |[]=>true
 |a::as=>pL a&&jL as
end
mutual
theorem CT{H:bY}{ids:List Nat}:∀(a:al) {v:Value},pL a=true->den H a ids v->∀j,den H a j v
 |.i _ _,_,_,d,_=>d
 |.b _,_,_,d,_=>d
 |.s _,_,_,d,_=>d
 |.nl,_,_,d,_=>d
 |.v _,_,_,d,_=>d
 |.p _ _,_,h,_,_=>by cases h
 |.gG _ _ _ _,_,h,_,_=>by cases h
 |.bH _ _ _ _ _,_,h,_,_=>by cases h
 |.gE _ _ _ _,_,_,d,_=>d
 |.jJ _ _ _ _,_,_,d,_=>d
 |.ip _,_,_,d,_=>d
 |.fn _ dd cs,_,h,⟨vs,ws,e,d1,d2⟩,j=>by
  have h:(jL dd&&jL cs)=true:=h;rw[b2]at h;exact⟨vs,ws,e,qa dd h.1 d1 j,qa cs h.2 d2 j⟩
 |.agg cs,_,h,⟨vs,e,d⟩,j=>⟨vs,e,qa cs h d j⟩
 |.b5 cs,_,h,⟨vs,e,d⟩,j=>⟨vs,e,qa cs h d j⟩
 |.bad,_,_,d,_=>d.elim
theorem qa{H:bY}{ids:List Nat}:∀(a:List al) {v:List Value},jL a=true->ei H a ids v->∀j,ei H a j v
 |[],_,_,d,_=>d
 |a::as,_,h,⟨v,ws,e,d1,d2⟩,j=>by
  have h:(pL a&&jL as)=true:=h;rw[b2]at h;exact⟨v,ws,e,CT a h.1 d1 j,qa as h.2 d2 j⟩
end
def q5:al->Bool
 |.v x=>lQ x
 |.agg _|.b5 _|.bad=>false
 |_=>true
def p8:List al->Bool
 |[]=>true
 |a::as=>q5 a&&p8 as
theorem M7{H:bY}{ids:List Nat}{a:al}{v:Value}(h:q5 a=true)(d:den H a ids v):lQ v=true:=by
 cases a<;>first
  |(cases h;done)
  |(obtain⟨b,_,rfl⟩:=d;rfl;done)
  |(rcases d with⟨_,rfl⟩|⟨b,o,c,_,_,_,_,rfl,_⟩<;>rfl;done)
  |(rcases d with⟨_,rfl⟩|⟨_,b,o,c,_,_,_,_,rfl,_⟩<;>rfl;done)
  |(obtain⟨b,o,c,_,_,_,rfl,_⟩:=d;rfl;done)
  |(obtain⟨b,_,rfl,_⟩:=d;rfl;done)
  |(have lh:=d;unfold den at lh;subst lh;first|rfl|exact h)
theorem V5{v:Value}(h:lQ v=true):hT v=[v]:=by
 cases v<;>first|rfl|cases h
theorem zs{H:bY}{ids:List Nat}:∀{as:List al} {vs:List Value},p8 as=true->ei H as ids vs->gS vs=true
 |[],_,_,d=>by cases d;rfl
 |a::as,_,h,⟨v,ws,e,d1,d2⟩=>by
  subst e;have h:(q5 a&&p8 as)=true:=h;rw[b2]at h;show cond (lQ v) (gS ws) false=true;rw[M7 h.1 d1,zs h.2 d2];rfl
theorem hH{H:bY}{ids:List Nat}:∀{as:List al} {vs:List Value},ei H as ids vs->vs.length=as.length
 |[],_,d=>by cases d;rfl
 |a::as,_,⟨v,ws,e,d1,d2⟩=>by subst e;simp[hH d2]
theorem sI{H:bY}{ids:List Nat}:∀{as:List al} {vs:List Value} {k:Nat} {a:al},ei H as ids vs->as[k]? =some a->∃v,vs[k]? =some v∧den H a ids v
 |[],_,_,_,_,h=>by simp at h
 |a::as,_,0,_,⟨v,ws,e,d1,d2⟩,h=>by subst e;simp at h;subst h;exact⟨v,rfl,d1⟩
 |a::as,_,k+1,c,⟨v,ws,e,d1,d2⟩,h=>by
  subst e;obtain⟨u,J,U⟩:=sI (k:=k) (a:=c) d2 (by simpa using h);exact⟨u,by simpa using J,U⟩
theorem CU{H:bY}{ids:List Nat}:∀{as bn:List al} {vs ws:List Value},ei H as ids vs->ei H bn ids ws->ei H (as++bn) ids (vs++ws)
 |[],_,_,_,d,lh=>by cases d;exact lh
 |a::as,_,_,_,⟨v,ws,e,d1,d2⟩,lh=>by subst e;exact⟨v,_,rfl,d1,CU d2 lh⟩
theorem nx{H:bY}{ids:List Nat}:∀{as:List al} {vs:List Value} (n:Nat),ei H as ids vs->ei H (as.drop n) ids (vs.drop n)
 |_,_,0,d=>d
 |[],_,n+1,d=>by cases d;exact rfl
 |a::as,_,n+1,⟨v,ws,e,d1,d2⟩=>by subst e;exact nx n d2
theorem sJ{H:bY}{ids:List Nat}:∀{as:List al} {vs:List Value} (n:Nat),ei H as ids vs->ei H (as.take n) ids (vs.take n)
 |_,_,0,d=>rfl
 |[],_,n+1,d=>by cases d;exact rfl
 |a::as,_,n+1,⟨v,ws,e,d1,d2⟩=>by subst e;exact⟨v,_,rfl,d1,sJ n d2⟩
def c5(a b:al):Prop:=∀(H:bY) (i:List Nat) (v:Value),den H a i v->den H b i v
def mc:List al->List al->Prop
 |[],[]=>True
 |a::as,b::bn=>c5 a b∧mc as bn
 |_,_=>False
theorem c5.refl(a:al):c5 a a:=fun _ _ _ d=>d
theorem c5.of{a b:al}(h:a=b):c5 a b:=h▸c5.refl a
theorem mc.refl:∀l:List al,mc l l
 |[]=>trivial
 |a::as=>⟨c5.refl a,mc.refl as⟩
theorem mc.den{H:bY}{i:List Nat}:∀{as bn:List al} {vs:List Value},mc as bn->ei H as i vs->ei H bn i vs
 |[],[],_,_,d=>d
 |[],_::_,_,h,_=>h.elim
 |_::_,[],_,h,_=>h.elim
 |_::_,_::_,_,⟨J,U⟩,⟨v,ws,e,d1,d2⟩=>⟨v,ws,e,J _ _ _ d1,mc.den U d2⟩
theorem c5.agg{as bn:List al}(h:mc as bn):c5 (.agg as) (.agg bn):=fun _ _ _ ⟨vs,e,d⟩=>⟨vs,e,h.den d⟩
theorem c5.b5{as bn:List al}(h:mc as bn):c5 (.b5 as) (.b5 bn):=fun _ _ _ ⟨vs,e,d⟩=>⟨vs,e,h.den d⟩
theorem c5.nl{z:Nat}{α:Type}{R:α->List al}:c5 .nl (.gE z α R []):=fun _ _ _ d=>.inl ⟨rfl,d⟩
theorem c5.QH{z:Nat}{α:Type}{R:α->List al}:c5 .nl (.jJ z α R []):=fun _ _ _ d=>.inl ⟨rfl,d⟩
theorem c5.anh{z:Nat}{α:Type}{R:α->List al}{l:List α}:c5 (.jJ z α R l) (.gE z α R l):=fun _ _ _ d=>d.elim .inl (fun d=>.inr d.2)
theorem c5.jJ{z:Nat}{α:Type}{R:α->List al}{l:List α}(h:l≠[]):c5 (.gE z α R l) (.jJ z α R l):=fun _ _ _ d=>d.elim .inl (fun d=>.inr ⟨h,d⟩)
theorem c5.trans{a b c:al}(h:c5 a b)(aL:c5 b c):c5 a c:=fun H i v d=>aL H i v (h H i v d)
open Sym
section
abbrev cf:=List (Nat×al)
def fc:cf->Nat->Option al
 |[],_=>none
 |(i,a)::l,j=>cond (Nat.beq i j) (some a) (fc l j)
theorem qx(p:Nat×al)(l:cf)(j:Nat):fc (p::l) j=cond (Nat.beq p.1 j) (some p.2) (fc l j):=rfl
def Ba:Value->al
 |.int k n=>.i k n
 |.bool t=>.b t
 |.string ⟨⟨l⟩⟩=>.s l
 |.slice none 0 0=>.nl
 |x=>.v x
def x5:List Value->List al
 |[]=>[]
 |v::vs=>Ba v::x5 vs
theorem Yk(H:bY)(ids:List Nat)(v:Value):den H (Ba v) ids v:=by
 unfold Ba;split<;>rfl
theorem uy(H:bY)(ids:List Nat):∀vs:List Value,ei H (x5 vs) ids vs
 |[]=>rfl
 |v::vs=>⟨v,vs,rfl,Yk H ids v,uy H ids vs⟩
def JA:Value->Option al
 |.agg ⟨l⟩=>some (.agg (x5 l))
 |.int k n=>some (.i k n)
 |.bool t=>some (.b t)
 |.string ⟨⟨l⟩⟩=>some (.s l)
 |.slice none 0 0=>some .nl
 |x=>some (.v x)
theorem aiB{v:Value}{a:al}(h:JA v=some a)(H:bY)(ids:List Nat):den H a ids v:=by
 unfold JA at h;split at h<;>cases h
 ·exact⟨_,rfl,uy H ids _⟩
 all_goals rfl
def bN(e:cf):Operand->Option al
 |.tmp j=>fc e j
 |.const v=>JA v
 |.global g=>some (.v (.pointer (some ⟨g,0,none⟩)))
 |.func f=>some (.v (.func (.func f) #[] #[]))
def nR(e:cf):List Operand->Option (List al)
 |[]=>some []
 |x::xs=>match bN e x with
  |some a=>match nR e xs with
   |some as=>some (a::as)
   |none=>none
  |none=>none
structure dk(fr:aQ)(H:bY)(ids:List Nat)(e:cf):Prop where
 pl:tZ fr
 get:∀j a,fc e j=some a->den H a ids (fr.tmp j)
theorem dk.an{fr:aQ}{H:bY}{ids:List Nat}{e:cf}(h:dk fr H ids e){x:Operand}{a:al}(aa:bN e x=some a):den H a ids (fr.an x):=by
 cases x with
 |tmp j=>exact h.get j a aa
 |const w=>exact aiB aa H ids
 |global g=>cases aa;rfl
 |func f=>cases aa;rfl
theorem dk.fv{fr:aQ}{H:bY}{ids:List Nat}{e:cf}(h:dk fr H ids e):∀{xs:List Operand} {as:List al},nR e xs=some as->ei H as ids (fv fr xs)
 |[],_,aa=>by cases aa;rfl
 |x::xs,_,aa=>by
  unfold nR at aa;cases J:bN e x with
  |none=>rw[J]at aa;cases aa
  |some a=>
   cases U:nR e xs with
   |none=>rw[J,U]at aa;cases aa
   |some as=>
    rw[J,U]at aa;cases aa;exact⟨_,_,rfl,h.an J,h.fv U⟩
theorem dk.put{fr:aQ}{H:bY}{ids:List Nat}{e:cf}(h:dk fr H ids e)(d:Tmp){v:Value}{a:al}(aD:den H a ids v):dk (fr.put (some d) v) H ids ((d,a)::e):=by
 refine⟨h.pl.put _ _,fun j w hj=> ?_⟩;rw[qx]at hj;rw[yN];cases hb:Nat.beq d j with
 |true=>
  rw[hb]at hj;rw[if_pos (dY hb).symm];cases hj;exact aD
 |false=>
  rw[hb]at hj;rw[if_neg (fun e=>by rw[e,Nat.beq_refl]at hb;cases hb)];exact h.get j w hj
def ot(d:Nat):cf->cf
 |[]=>[]
 |p::l=>cond (Nat.beq p.1 d) (ot d l) (p::ot d l)
theorem Ei(d:Nat):∀(e:cf) (j:Nat) (a:al),fc (ot d e) j=some a->j≠d∧fc e j=some a
 |[],_,_,h=>by cases h
 |p::e,j,a,h=>by
  unfold ot at h;cases hb:Nat.beq p.1 d with
  |true=>
   rw[hb]at h;obtain⟨J,U⟩:=Ei d e j a h;refine⟨J,?_⟩;rw[qx];have:Nat.beq p.1 j=false:=by
    cases hc:Nat.beq p.1 j with
    |false=>rfl
    |true=>exact absurd ((dY hc).symm.trans (dY hb)) J
   rw[this];exact U
  |false=>
   rw[hb]at h;have h:cond (Nat.beq p.1 j) (some p.2) (fc (ot d e) j)=some a:=h;rw[qx];cases hc:Nat.beq p.1 j with
   |true=>
    rw[hc]at h;refine⟨fun e=> ?_,h⟩;rw[<-e,hc]at hb;cases hb
   |false=>rw[hc]at h;exact Ei d e j a h
theorem dk.YB{fr:aQ}{H:bY}{ids:List Nat}{e:cf}(h:dk fr H ids e)(d:Tmp)(v:Value):dk (fr.put (some d) v) H ids (ot d e):=by
 refine⟨h.pl.put _ _,fun j w hj=> ?_⟩;obtain⟨J,U⟩:=Ei d e j w hj;rw[yN,if_neg J];exact h.get j w U
theorem dk.mono{fr:aQ}{H cc:bY}{ids dA:List Nat}{e:cf}(h:dk fr H ids e)(hh:dZ H cc)(ag:dO ids dA):dk fr cc dA e:=⟨h.pl,fun j a hj=>ux hh a ag (h.get j a hj)⟩
def fg(L:List Nat):cf->cf
 |[]=>[]
 |p::l=>cond (L.any (Nat.beq p.1)) (p::fg L l) (fg L l)
theorem Ja(L:List Nat):∀(e:cf) (j:Nat) (a:al),fc (fg L e) j=some a->L.contains j=true∧fc e j=some a
 |[],_,_,h=>by cases h
 |p::e,j,a,h=>by
  unfold fg at h;cases hb:L.any (Nat.beq p.1)with
  |true=>
   rw[hb]at h;have h:cond (Nat.beq p.1 j) (some p.2) (fc (fg L e) j)=some a:=h;rw[qx];cases hc:Nat.beq p.1 j with
   |true=>
    rw[hc]at h;refine⟨?_,h⟩;obtain⟨x,aa,b4⟩:=List.any_eq_true.1 hb;rw[<-dY hc,dY b4];simpa using aa
   |false=>rw[hc]at h;exact Ja L e j a h
  |false=>
   rw[hb]at h;obtain⟨J,U⟩:=Ja L e j a h;refine⟨J,?_⟩;rw[qx];have:Nat.beq p.1 j=false:=by
    cases hc:Nat.beq p.1 j with
    |false=>rfl
    |true=>
     rw[dY hc]at hb;rw[List.any_eq_false]at hb;exact absurd (Nat.beq_refl j) (hb j (by simpa using J))
   rw[this];exact U
theorem dk.only{fr:aQ}{H:bY}{ids:List Nat}{e:cf}(h:dk fr H ids e)(ts:List Tmp):dk (fr.only ts) H ids (fg ts e):=
 ⟨⟨rfl,rfl,rfl⟩,fun j a hj=>by
   obtain⟨J,U⟩:=Ja ts e j a hj;have:=O (ts:=ts) (fr:=fr) (j:=j) (x:=fr.tmp j) rfl J;rw[C5]at this;rw[this];exact h.get j a U⟩
def pc(op:BinOp)(k:IntKind)(a b:Int):Option al:=
 match op with
 |.add=>some (.i k (k.wrap (a+b)))
 |.sub=>some (.i k (k.wrap (a-b)))
 |.mul=>some (.i k (k.wrap (a*b)))
 |.quo=>if b=0 then none else some (.i k (k.wrap (a.tdiv b)))
 |.rem=>if b=0 then none else some (.i k (a.tmod b))
 |.and=>some (.i k (k.wrap (BitVec.ofInt k.bits a&&&BitVec.ofInt k.bits b).toNat))
 |.or=>some (.i k (k.wrap (BitVec.ofInt k.bits a|||BitVec.ofInt k.bits b).toNat))
 |.xor=>some (.i k (k.wrap (BitVec.ofInt k.bits a^^^BitVec.ofInt k.bits b).toNat))
 |.andNot=>some (.i k (k.wrap (BitVec.ofInt k.bits a&&& ~~~(BitVec.ofInt k.bits b)).toNat))
 |.eql=>some (.b (decide (a=b)))
 |.neq=>some (.b (decide (a≠b)))
 |.lss=>some (.b (decide (a<b)))
 |.leq=>some (.b (decide (a<=b)))
 |.gtr=>some (.b (decide (b<a)))
 |.geq=>some (.b (decide (b<=a)))
 |_=>none
def wB(op:BinOp)(k:IntKind)(M:Nat)(a b:Int):Option al:=
 match op with
 |.add=>match a,b with
  |.ofNat m,.ofNat n=>some (.i k (((m+n)%M:Nat):Int))
  |a,b=>pc .add k a b
 |.sub=>match a,b with
  |.ofNat m,.ofNat n=>some (.i k (((m+(M*n-n))%M:Nat):Int))
  |a,b=>pc .sub k a b
 |.mul=>match a,b with
  |.ofNat m,.ofNat n=>some (.i k ((m*n%M:Nat):Int))
  |a,b=>pc .mul k a b
 |.quo=>match a,b with
  |.ofNat m,.ofNat n=>if n=0 then none else some (.i k ((m/n%M:Nat):Int))
  |a,b=>pc .quo k a b
 |.rem=>match a,b with
  |.ofNat m,.ofNat n=>if n=0 then none else some (.i k ((m%n:Nat):Int))
  |a,b=>pc .rem k a b
 |.and=>match a,b with
  |.ofNat m,.ofNat n=>some (.i k (((m%M)&&&(n%M):Nat):Int))
  |a,b=>pc .and k a b
 |.or=>match a,b with
  |.ofNat m,.ofNat n=>some (.i k (((m%M)|||(n%M):Nat):Int))
  |a,b=>pc .or k a b
 |op=>pc op k a b
def GC(op:BinOp)(k:IntKind)(a b:Int):Option al:=
 match k with
 |.u8=>wB op .u8 256 a b
 |.u16=>wB op .u16 65536 a b
 |.u32=>wB op .u32 4294967296 a b
 |.u64=>wB op .u64 18446744073709551616 a b
 |k=>pc op k a b
def wC(k:IntKind)(M:Nat)(n:Int):Option al:=
 match n with
 |.ofNat m=>some (.i k ((m%M:Nat):Int))
 |n=>some (.i k (k.wrap n))
def GF(k:IntKind)(n:Int):Option al:=
 match k with
 |.u8=>wC .u8 256 n
 |.u16=>wC .u16 65536 n
 |.u32=>wC .u32 4294967296 n
 |.u64=>wC .u64 18446744073709551616 n
 |k=>some (.i k (k.wrap n))
def wF(k:IntKind)(M:Nat)(a b:Int):Option al:=
 match a,b with
 |.ofNat m,.ofNat n=>some (.i k ((m*2^n%M:Nat):Int))
 |_,_=>none
def GZ(k:IntKind)(a b:Int):Option al:=
 match b with
 |.ofNat n=>match Nat.ble n k.bits with
  |true=>some (.i k (k.wrap (a*2^n)))
  |false=>none
 |_=>none
def GY(k:IntKind)(a b:Int):Option al:=
 match k with
 |.u8=>wF .u8 256 a b
 |.u16=>wF .u16 65536 a b
 |.u32=>wF .u32 4294967296 a b
 |.u64=>wF .u64 18446744073709551616 a b
 |k=>GZ k a b
def G0(k:IntKind)(a b:Int):Option al:=
 match b with
 |.ofNat n=>match Nat.ble n k.bits with
  |true=>match a with
   |.ofNat m=>some (.i k ((m/2^n:Nat):Int))
   |a=>some (.i k (a.fdiv (2^n)))
  |false=>none
 |_=>none
def LL(op:BinOp)(k k':IntKind)(a b:Int):Option al:=
 match op with
 |.shl=>GY k a b
 |.shr=>G0 k a b
 |op=>match jd k k' with
  |true=>GC op k a b
  |false=>none
def GD(op:BinOp):al->al->Option al
 |.i k a,.i k' b=>LL op k k' a b
 |.s x,.s y=>match op with
  |.eql=>some (.b (x==y))
  |.neq=>some (.b (!(x==y)))
  |_=>none
 |_,_=>none
def G1(op:UnOp):al->Option al
 |.i k n=>match op with
  |.neg=>some (.i k (k.wrap (-n)))
  |.xor=>some (.i k (k.wrap (BitVec.ofInt k.bits (if k.signed then -1 else k.max)^^^BitVec.ofInt k.bits n).toNat))
  |_=>none
 |.b t=>match op with
  |.not=>some (.b (!t))
  |_=>none
 |_=>none
def lf(neg:Bool)(b:Bool):Bool:=cond neg (!b) b
def GI(neg:Bool):n8->al->al->Option al
 |.oW,.b x,.b y=>some (.b (lf neg (x==y)))
 |.oW,.i k x,.i k' y=>match jd k k' with
  |true=>some (.b (lf neg (decide (x=y))))
  |false=>none
 |.oW,.s x,.s y=>some (.b (lf neg (x==y)))
 |.nc,.nl,.nl=>some (.b (lf neg true))
 |.nc,.jJ _ _ _ l,.nl=>some (.b (lf neg l.isEmpty))
 |.nc,.bH _ _ _ _ _,.nl=>some (.b (lf neg false))
 |.nc,.nl,.bH _ _ _ _ _=>some (.b (lf neg false))
 |.ptr,.p _ _,.v (.pointer none)=>some (.b (lf neg false))
 |.ptr,.gG _ _ _ _,.v (.pointer none)=>some (.b (lf neg false))
 |.ptr,.ip _,.v (.pointer none)=>some (.b (lf neg false))
 |.vC,.fn _ _ _,.v .nilFunc=>some (.b (lf neg false))
 |_,_,_=>none
def Cf(e:cf)(k:IntKind):List Operand->Int->Option al
 |[],m=>some (.i k m)
 |x::xs,m=>match bN e x with
  |some (.i k' y)=>match jd k k' with
   |true=>Cf e k xs (max m y)
   |false=>none
  |_=>none
def Cg(e:cf)(k:IntKind):List Operand->Int->Option al
 |[],m=>some (.i k m)
 |x::xs,m=>match bN e x with
  |some (.i k' y)=>match jd k k' with
   |true=>Cg e k xs (min m y)
   |false=>none
  |_=>none
def Gf{β:Type _}:List al->Nat->(List al->Option β)->Option β
 |_,0,K=>K []
 |[],_+1,_=>none
 |a::as,n+1,K=>Gf as n fun r=>K (a::r)
def AV:List al->Nat->Bool
 |[],0=>true
 |_::as,n+1=>AV as n
 |_,_=>false
def uu{β:Type _}(cs:List al)(o n:Nat)(K:List al->Option β):Option β:=
 match o with
 |0=>match AV cs n with
  |true=>K cs
  |false=>Gf cs n K
 |o=>Gf (cs.drop o) n K
def ET(g0:Bool):List al->Option al
 |[a]=>match g0 with
  |true=>some (.agg [a])
  |false=>some a
 |cs=>match g0 with
  |true=>some (.agg cs)
  |false=>none
def GN(e:cf):dH->Option al
 |.na x=>bN e x
 |.j5 x=>bN e x
 |.bin op x y=>match bN e x with
  |some a=>match bN e y with
   |some b=>GD op a b
   |none=>none
  |none=>none
 |.eqv neg t x y=>match bN e x with
  |some a=>match bN e y with
   |some b=>GI neg t a b
   |none=>none
  |none=>none
 |.un op x=>match bN e x with
  |some a=>G1 op a
  |none=>none
 |.uq k x=>match bN e x with
  |some (.i _ n)=>GF k n
  |_=>none
 |.zu x=>match bN e x with
  |some (.s l)=>some (.s l)
  |_=>none
 |.vz f dd cs=>match nR e dd with
  |some as=>match nR e cs with
   |some bn=>some (.fn f as bn)
   |none=>none
  |none=>none
 |.zN x i=>match bN e x with
  |some (.b5 vs)=>vs[i]?
  |_=>none
 |.oR x=>match bN e x with
  |some .nl=>some (.i .i64 0)
  |some (.bH _ _ _ n _)=>some (.i .i64 (n:Int))
  |some (.gE _ _ _ l)=>some (.i .i64 (l.length:Int))
  |some (.jJ _ _ _ l)=>some (.i .i64 (l.length:Int))
  |_=>none
 |.vq x=>match bN e x with
  |some (.s l)=>some (.i .i64 (l.length:Int))
  |_=>none
 |.AU n=>some (.i .i64 (n:Int))
 |.w3 off x=>match bN e x with
  |some (.p k o)=>some (.p k (o+off))
  |some (.gG k z j o)=>some (.gG k z j (o+off))
  |some (.ip cs)=>some (.ip (cs.drop off))
  |_=>none
 |.w7 off bj g0 x=>match bN e x with
  |some (.agg cs)=>uu cs off bj (ET g0)
  |_=>none
 |.tm x=>match bN e x with
  |some (.p k o)=>some (.p k o)
  |some (.gG k z j o)=>some (.gG k z j o)
  |some (.ip cs)=>some (.ip cs)
  |some (.v (.func (.func g) a b))=>some (.v (.func (.func g) a b))
  |_=>none
 |.pick c x y=>match bN e c with
  |some (.b true)=>bN e x
  |some (.b false)=>bN e y
  |_=>none
 |.eM x xs=>match bN e x with
  |some (.i k n)=>Cf e k xs n
  |_=>none
 |.rS x xs=>match bN e x with
  |some (.i k n)=>Cg e k xs n
  |_=>none
 |_=>none
end
section
variable{call:bP}{fr:aQ}{x y i:Operand}
theorem PE{k k':IntKind}(h:jd k k'=true):k=k':=by cases k<;>cases k'<;>first|rfl|cases h
theorem qV{op:BinOp}{k:IntKind}{a b:Int}{r:al}(h:pc op k a b=some r)(J:op≠.shl)(U:op≠.shr)(aa:fr.an x= .int k a)(aJ:fr.an y= .int k b):
 ∃v,(∀H ids,den H r ids v)∧∀st,cb call (.bin op x y) fr st= .ok v fr st:=by
 have key:∀v,pE op k a b=some v->(∀H ids,den H r ids v)->∃v,(∀H ids,den H r ids v)∧∀st,cb call (.bin op x y) fr st= .ok v fr st:=
  fun v e d=>⟨v,d,fun st=>x3 J U aa aJ e⟩
 cases op<;>simp only[pc]at h
 case quo=>split at h<;>cases h;rename_i hb;exact key _ (by simp only[pE,if_neg hb]) fun _ _=>rfl
 case rem=>split at h<;>cases h;rename_i hb;exact key _ (by simp only[pE,if_neg hb]) fun _ _=>rfl
 all_goals first
  |(cases h;done)
  |(cases h;exact key _ rfl fun _ _=>rfl)
  |(cases h;exact key _ rfl fun _ _=>by show Value.bool _=Value.bool _;congr 1;rw[Bool.eq_iff_iff];simp)
def ud(k:IntKind)(M:Nat):Prop:=(∀n:Int,k.wrap n=n%(M:Int))∧M=2^k.bits
theorem Le:ud .u8 256:=⟨fun n=>by rw[<-kd];exact qP _ _ (by decide),rfl⟩
theorem Lb:ud .u16 65536:=⟨fun n=>by rw[<-kd];exact qP _ _ (by decide),rfl⟩
theorem Lc:ud .u32 4294967296:=⟨fun n=>by rw[<-kd];exact qP _ _ (by decide),rfl⟩
theorem Ld:ud .u64 18446744073709551616:=⟨fun n=>by rw[<-kd];exact qP _ _ (by decide),rfl⟩
theorem Cb{op:BinOp}{k:IntKind}{M:Nat}(kM:ud k M){a b:Int}{r:al}(h:wB op k M a b=some r)(J:op≠.shl)(U:op≠.shr)(aa:fr.an x= .int k a)(aJ:fr.an y= .int k b):
 ∃v,(∀H ids,den H r ids v)∧∀st,cb call (.bin op x y) fr st= .ok v fr st:=by
 have hp:0<M:=by rw[kM.2];exact Nat.two_pow_pos _
 have key:∀v,pE op k a b=some v->(∀H ids,den H r ids v)->∃v,(∀H ids,den H r ids v)∧∀st,cb call (.bin op x y) fr st= .ok v fr st:=
  fun v e d=>⟨v,d,fun st=>x3 J U aa aJ e⟩
 have uE:∀{m n:Int},m=n->∀(H:bY) (ids:List Nat),den H (.i k n) ids (.int k m):=fun e _ _=>by rw[e];rfl
 have wn:∀n:Nat,k.wrap (n:Int)=((n%M:Nat):Int):=fun n=>by rw[kM.1];rfl
 have aoe:∀n:Nat,n%M<2^k.bits:=fun n=>by rw[<-kM.2];exact Nat.mod_lt _ hp
 unfold wB at h;split at h
 ·split at h
  ·rename_i m n;cases h;exact key _ rfl (uE (wn (m+n)))
  ·exact qV h J U aa aJ
 ·split at h
  ·rename_i m n;cases h;refine key _ rfl (uE ?_);rw[kM.1];have e:((m+(M*n-n):Nat):Int)=((m:Int)-n)+M*n:=by
    have:n<=M*n:=Nat.le_mul_of_pos_left n hp;rw[Int.natCast_add,Int.ofNat_sub this,Int.natCast_mul];omega
   rw[Int.natCast_emod,e,Int.add_mul_emod_self_left];rfl
  ·exact qV h J U aa aJ
 ·split at h
  ·rename_i m n;cases h;exact key _ rfl (uE (wn (m*n)))
  ·exact qV h J U aa aJ
 ·split at h
  ·rename_i m n;split at h<;>cases h;rename_i hn;refine key (.int k (k.wrap ((m:Int).tdiv n))) (by show(if(n:Int)=0 then none else _)=_;rw[if_neg (by omega)];rfl) (uE ?_);exact wn (m/n)
  ·exact qV h J U aa aJ
 ·split at h
  ·rename_i m n;split at h<;>cases h;rename_i hn;exact key (.int k ((m:Int).tmod n)) (by show(if(n:Int)=0 then none else _)=_;rw[if_neg (by omega)];rfl) (uE rfl)
  ·exact qV h J U aa aJ
 ·split at h
  ·rename_i m n;cases h;refine key _ rfl (uE ?_);show k.wrap ((BitVec.ofInt k.bits (m:Int)&&&BitVec.ofInt k.bits (n:Int)).toNat:Nat)=_;rw[BitVec.toNat_and,BitVec.ofInt_natCast,BitVec.ofInt_natCast,BitVec.toNat_ofNat,BitVec.toNat_ofNat,<-kM.2,wn,fY];rw[kM.2];exact Nat.and_lt_two_pow _ (by rw[<-kM.2];exact Nat.mod_lt _ hp)
  ·exact qV h J U aa aJ
 ·split at h
  ·rename_i m n;cases h;refine key _ rfl (uE ?_);show k.wrap ((BitVec.ofInt k.bits (m:Int)|||BitVec.ofInt k.bits (n:Int)).toNat:Nat)=_;rw[BitVec.toNat_or,BitVec.ofInt_natCast,BitVec.ofInt_natCast,BitVec.toNat_ofNat,BitVec.toNat_ofNat,<-kM.2,wn,fY];rw[kM.2];exact Nat.or_lt_two_pow (by rw[<-kM.2];exact Nat.mod_lt _ hp) (by rw[<-kM.2];exact Nat.mod_lt _ hp)
  ·exact qV h J U aa aJ
 ·exact qV h J U aa aJ
theorem UY{op:BinOp}{k:IntKind}{a b:Int}{r:al}(h:GC op k a b=some r)(J:op≠.shl)(U:op≠.shr)(aa:fr.an x= .int k a)(aJ:fr.an y= .int k b):
 ∃v,(∀H ids,den H r ids v)∧∀st,cb call (.bin op x y) fr st= .ok v fr st:=by
 unfold GC at h;split at h
 ·exact Cb Le h J U aa aJ
 ·exact Cb Lb h J U aa aJ
 ·exact Cb Lc h J U aa aJ
 ·exact Cb Ld h J U aa aJ
 ·exact qV h J U aa aJ
theorem U1{k:IntKind}{n:Int}{r:al}(h:GF k n=some r)(H:bY)(ids:List Nat):den H r ids (.int k (k.wrap n)):=by
 have u:∀{k:IntKind} {M:Nat},ud k M->wC k M n=some r->den H r ids (.int k (k.wrap n)):=fun kM h=>by
  unfold wC at h;split at h<;>cases h
  ·show Value.int _ _=Value.int _ _;rw[kM.1];rfl
  ·rfl
 unfold GF at h;split at h
 ·exact u Le h
 ·exact u Lb h
 ·exact u Lc h
 ·exact u Ld h
 ·cases h;rfl
theorem SJ{k k':IntKind}{a:Int}{n:Nat}(aa:fr.an x= .int k a)(aJ:fr.an y= .int k' (n:Int))(st:aw):cb call (.bin .shl x y) fr st= .ok (.int k (k.wrap (a*2^(min n k.bits)))) fr st:=by
 rw[Be,aa,aJ,Hw];show gW (n:Int) (fun n=>hi k (v7 k a n) (fun v=>aY.ok v fr st)) aY.no=_;rw[nU,hB];have:v7 k a n=k.wrap (a*2^(min n k.bits)):=by
  unfold v7;rw[kd,Jo];simp
 rw[this]
theorem Cu{k k':IntKind}{M:Nat}(kM:ud k M){a b:Int}{r:al}(h:wF k M a b=some r)(aa:fr.an x= .int k a)(aJ:fr.an y= .int k' b):
 ∃v,(∀H ids,den H r ids v)∧∀st,cb call (.bin .shl x y) fr st= .ok v fr st:=by
 unfold wF at h;split at h
 ·rename_i m n;cases h;refine⟨_,fun H ids=> ?_,fun st=>SJ aa aJ st⟩;show Value.int _ _=Value.int _ _;congr 1;have e:((m:Int)*2^(min n k.bits))=((m*2^(min n k.bits):Nat):Int):=by simp
  show k.wrap ((m:Int)*2^(min n k.bits))=_;rw[e,kM.1,<-Int.natCast_emod];congr 1;rcases Nat.le_total n k.bits with hn|hn
  ·rw[Nat.min_eq_left hn]
  ·rw[Nat.min_eq_right hn,<-kM.2];have:2^n=M*2^(n-k.bits):=by rw[kM.2,<-Nat.pow_add];congr 1;omega
   rw[this,Nat.mul_mod_left,<-Nat.mul_assoc,Nat.mul_comm m M,Nat.mul_assoc,Nat.mul_mod_right]
 ·cases h
theorem VD{k k':IntKind}{a b:Int}{r:al}(h:GZ k a b=some r)(aa:fr.an x= .int k a)(aJ:fr.an y= .int k' b):
 ∃v,(∀H ids,den H r ids v)∧∀st,cb call (.bin .shl x y) fr st= .ok v fr st:=by
 unfold GZ at h;cases b with
 |negSucc n=>cases h
 |ofNat n=>
  simp only at h;split at h<;>cases h;rename_i hn;refine⟨_,fun _ _=> ?_,fun st=>SJ aa aJ st⟩;rw[Nat.min_eq_left (jk hn)];rfl
theorem VE{k k':IntKind}{a b:Int}{r:al}(h:GY k a b=some r)(aa:fr.an x= .int k a)(aJ:fr.an y= .int k' b):
 ∃v,(∀H ids,den H r ids v)∧∀st,cb call (.bin .shl x y) fr st= .ok v fr st:=by
 unfold GY at h;split at h
 ·exact Cu Le h aa aJ
 ·exact Cu Lb h aa aJ
 ·exact Cu Lc h aa aJ
 ·exact Cu Ld h aa aJ
 ·exact VD h aa aJ
theorem MB{k k':IntKind}{a b:Int}{r:al}(h:G0 k a b=some r)(aa:fr.an x= .int k a)(aJ:fr.an y= .int k' b):
 ∃v,(∀H ids,den H r ids v)∧∀st,cb call (.bin .shr x y) fr st= .ok v fr st:=by
 unfold G0 at h;cases b with
 |negSucc n=>cases h
 |ofNat n=>
  simp only at h;split at h<;>try cases h
  rename_i hn;have hn:=jk hn;have e:∀st,cb call (.bin .shr x y) fr st= .ok (.int k (se k a n)) fr st:=fun st=>by
   rw[Be,aa,aJ,Hw];show gW (n:Int) (fun n=>hi k (se k a n) (fun v=>aY.ok v fr st)) aY.no=_;rw[nU,hB]
  refine⟨_,?_,e⟩;intro H ids;cases a with
  |ofNat m=>
   cases h;show Value.int _ _=Value.int _ _;congr 1;show se k (m:Int) n=_;unfold se;rw[nU,Nat.min_eq_left hn];rfl
  |negSucc m=>
   cases h;show Value.int _ _=Value.int _ _;congr 1;unfold se;rw[Nat.min_eq_left hn];rfl
theorem UX{op:BinOp}{a b r:al}(h:GD op a b=some r){H:bY}{ids:List Nat}(aa:den H a ids (fr.an x))(aJ:den H b ids (fr.an y)):
 ∃v,(∀H ids,den H r ids v)∧∀st,cb call (.bin op x y) fr st= .ok v fr st:=by
 unfold GD at h;split at h
 ·rename_i k m k' n;have aa:fr.an x= .int k m:=aa;have aJ:fr.an y= .int k' n:=aJ;unfold LL at h;split at h
  ·exact VE h aa aJ
  ·exact MB h aa aJ
  ·rename_i J U;split at h
   ·rename_i ae;cases PE ae;exact UY h (by simpa using J) (by simpa using U) aa aJ
   ·cases h
 ·rename_i l m;have aa:fr.an x= .string ⟨⟨l⟩⟩:=aa;have aJ:fr.an y= .string ⟨⟨m⟩⟩:=aJ;have e:∀st,cb call (.bin op x y) fr st=zi op ⟨⟨l⟩⟩ ⟨⟨m⟩⟩ (fun v=>.ok v fr st):=fun st=>by rw[Be,aa,aJ,NR]
  split at h<;>cases h
  ·exact⟨_,fun _ _=>rfl,e⟩
  ·exact⟨_,fun _ _=>rfl,e⟩
 ·cases h
theorem VF{op:UnOp}{a r:al}(h:G1 op a=some r){H:bY}{ids:List Nat}(aa:den H a ids (fr.an x)):
 ∃v,(∀H ids,den H r ids v)∧∀st,cb call (.un op x) fr st= .ok v fr st:=by
 unfold G1 at h;split at h
 ·rename_i k n;have aa:fr.an x= .int k n:=aa;have e:∀st,cb call (.un op x) fr st=w1 op (.int k n) (fun v=>.ok v fr st):=fun st=>by
   have:cb call (.un op x) fr st=w1 op (fr.an x) (fun v=>.ok v fr st):=rfl;rw[this,aa]
  split at h<;>cases h
  ·refine⟨_,fun _ _=>rfl,fun st=> ?_⟩;rw[e];simp only[w1,mb,hB,kd,Jt]
  ·refine⟨_,fun _ _=>rfl,fun st=> ?_⟩;rw[e];simp only[w1,mb,hB]
 ·rename_i t;have aa:fr.an x= .bool t:=aa;split at h<;>cases h;refine⟨_,fun _ _=>rfl,fun st=> ?_⟩;have:cb call (.un .not x) fr st=w1 .not (fr.an x) (fun v=>.ok v fr st):=rfl;rw[this,aa];rfl
 ·cases h
theorem U3{neg:Bool}{t:n8}{a b r:al}(h:GI neg t a b=some r){H:bY}{ids:List Nat}(aa:den H a ids (fr.an x))(aJ:den H b ids (fr.an y)):
 ∃v,(∀H ids,den H r ids v)∧∀st,cb call (.eqv neg t x y) fr st= .ok v fr st:=by
 have key:∀c,jV 8 t (fr.an x) (fr.an y)=some c->r= .b (lf neg c)->∃v,(∀H ids,den H r ids v)∧∀st,cb call (.eqv neg t x y) fr st= .ok v fr st:=by
  intro c hc aF;subst aF;refine⟨_,fun _ _=>rfl,fun st=> ?_⟩;show bo (jV 8 t (fr.an x) (fr.an y)) (fun b=>aY.ok (.bool (cond neg (!b) b)) fr st) .no=_;rw[hc];rfl
 unfold GI at h;split at h
 ·cases h;exact key _ (by rw[show fr.an x=_ from aa,show fr.an y=_ from aJ];simp only[jV,wZ]) rfl
 ·split at h<;>cases h;rename_i ae;cases PE ae;refine key _ ?_ rfl;rw[show fr.an x=_ from aa,show fr.an y=_ from aJ];simp only[jV,wZ];simp only[if_true];congr 1
 ·cases h;exact key _ (by rw[show fr.an x=_ from aa,show fr.an y=_ from aJ];simp only[jV,wZ]) rfl
 ·cases h;exact key true (by rw[show fr.an x=_ from aa,show fr.an y=_ from aJ];simp[jV,qd]) rfl
 ·cases h;rcases aa with⟨rfl,aa⟩|⟨hn,b,o,c,vs,el,bt,aR,aa,_⟩
  ·exact key true (by rw[aa,show fr.an y=_ from aJ];simp[jV,qd]) rfl
  ·exact key false (by rw[aa,show fr.an y=_ from aJ];simp[jV,qd]) (by rw[List.isEmpty_eq_false_iff.2 hn])
 ·cases h;obtain⟨b,_,aa⟩:=aa;exact key false (by rw[aa,show fr.an y=_ from aJ];simp[jV,qd]) rfl
 ·cases h;obtain⟨b,_,aJ⟩:=aJ;exact key false (by rw[show fr.an x=_ from aa,aJ];simp[jV,qd]) rfl
 ·cases h;obtain⟨b,_,aa⟩:=aa;exact key false (by rw[aa,show fr.an y=_ from aJ];simp[jV,qe]) rfl
 ·cases h;obtain⟨b,_,aa⟩:=aa;exact key false (by rw[aa,show fr.an y=_ from aJ];simp[jV,qe]) rfl
 ·cases h;obtain⟨b,o,vs,el,bt,aR,aa,_⟩:=aa;exact key false (by rw[aa,show fr.an y=_ from aJ];simp[jV,qe]) rfl
 ·cases h;obtain⟨b,o,aa,_⟩:=aa;exact key false (by rw[aa,show fr.an y=_ from aJ];simp[jV,wY]) rfl
 ·cases h
theorem LZ{H:bY}{ids:List Nat}{e:cf}(af:dk fr H ids e){k:IntKind}:∀{xs:List Operand} {m:Int} {r:al},Cf e k xs m=some r->∃n,r= .i k n∧AY k fr xs m=some n
 |[],m,r,h=>by cases h;exact⟨m,rfl,rfl⟩
 |x::xs,m,r,h=>by
  unfold Cf at h;split at h<;>try cases h
  rename_i k' z aa;split at h<;>try cases h
  rename_i ae;obtain⟨n,J,U⟩:=LZ af h;refine⟨n,J,?_⟩;have aD:fr.an x= .int k' z:=af.an aa;show gd (fr.an x) (fun k' y=>cond (jd k k') (AY k fr xs (cond (ly y m) m y)) none) none=_;rw[aD,mb,ae,cond_true,<-U];congr 1;rw[qu];by_cases a8:z<=m
  ·rw[decide_eq_true a8,cond_true];omega
  ·rw[decide_eq_false a8,cond_false];omega
theorem L0{H:bY}{ids:List Nat}{e:cf}(af:dk fr H ids e){k:IntKind}:∀{xs:List Operand} {m:Int} {r:al},Cg e k xs m=some r->∃n,r= .i k n∧AZ k fr xs m=some n
 |[],m,r,h=>by cases h;exact⟨m,rfl,rfl⟩
 |x::xs,m,r,h=>by
  unfold Cg at h;split at h<;>try cases h
  rename_i k' z aa;split at h<;>try cases h
  rename_i ae;obtain⟨n,J,U⟩:=L0 af h;refine⟨n,J,?_⟩;have aD:fr.an x= .int k' z:=af.an aa;show gd (fr.an x) (fun k' y=>cond (jd k k') (AZ k fr xs (cond (ly m y) m y)) none) none=_;rw[aD,mb,ae,cond_true,<-U];congr 1;rw[qu];by_cases a8:m<=z
  ·rw[decide_eq_true a8,cond_true];omega
  ·rw[decide_eq_false a8,cond_false];omega
theorem K2{β:Type _}{r:β}:∀{cs:List al} {n:Nat} {K:List al->Option β},Gf cs n K=some r->n<=cs.length∧K (cs.take n)=some r
 |cs,0,K,h=>by
  have h:K []=some r:=by cases cs<;>exact h
  exact⟨Nat.zero_le _,by simpa using h⟩
 |[],n+1,K,h=>by cases h
 |a::as,n+1,K,h=>by
  obtain⟨J,U⟩:=K2 (cs:=as) (n:=n) h;exact⟨by simpa using J,by simpa using U⟩
theorem Eg:∀{cs:List al} {n:Nat},AV cs n=true->cs.length=n
 |[],0,_=>rfl
 |[],n+1,h=>by cases h
 |_::_,0,h=>by cases h
 |a::as,n+1,h=>by simp[Eg (cs:=as) (n:=n) h]
theorem zy{β:Type _}{r:β}{cs:List al}{o n:Nat}{K:List al->Option β}(h:uu cs o n K=some r):n<=(cs.drop o).length∧K ((cs.drop o).take n)=some r:=by
 unfold uu at h;split at h
 ·split at h
  ·rename_i hl;have:=Eg hl;refine⟨by simp;omega,?_⟩;rw[List.drop_zero,List.take_of_length_le (by omega)];exact h
  ·exact K2 h
 ·exact K2 h
theorem q8{α β:Type}{l:List α}{o n:Nat}(h:n<=(l.drop o).length)(k:List α->β)(z:β):hV l o n k z=k ((l.drop o).take n):=by
 unfold hV;rw[zF,BS,if_pos h];rfl
theorem Ro{g0:Bool}{cs:List al}{r:al}(h:ET g0 cs=some r):(g0=true∧r= .agg cs)∨(g0=false∧cs=[r]):=by
 unfold ET at h;split at h<;>split at h<;>cases h
 ·exact .inl ⟨rfl,rfl⟩
 ·exact .inr ⟨rfl,rfl⟩
 ·exact .inl ⟨rfl,rfl⟩
theorem qW(b o n:Nat):(⟨b,o,none⟩:Addr).add n=⟨b,o+n,none⟩:=by
 unfold Addr.add;split
 ·rename_i h;rw[h];rfl
 ·rfl
theorem Vf{H:bY}{ids:List Nat}{e:cf}(af:dk fr H ids e){o:dH}{r:al}(h:GN e o=some r):∃v,den H r ids v∧∀st,cb call o fr st= .ok v fr st:=by
 have up:∀{r:al} {o:dH},(∃v,(∀H ids,den H r ids v)∧∀st,cb call o fr st= .ok v fr st)->∃v,den H r ids v∧∀st,cb call o fr st= .ok v fr st:=fun⟨v,J,U⟩=>⟨v,J _ _,U⟩;cases o<;>simp only[GN]at h
 case na x=>exact⟨_,af.an h,fun st=>rfl⟩
 case j5 x=>exact⟨_,af.an h,fun st=>rfl⟩
 case bin op x y=>
  split at h<;>try cases h
  split at h<;>try cases h
  rename_i aa _ _ aJ;exact up (UX h (af.an aa) (af.an aJ))
 case eqv neg t x y=>
  split at h<;>try cases h
  split at h<;>try cases h
  rename_i aa _ _ aJ;exact up (U3 h (af.an aa) (af.an aJ))
 case un op x=>
  split at h<;>try cases h
  rename_i aa;exact up (VF h (af.an aa))
 case uq k x=>
  split at h<;>try (cases h;done)
  rename_i k' n aa;have aa:fr.an x= .int k' n:=af.an aa;exact⟨_,U1 h H ids,fun st=>aiu aa⟩
 case zu x=>
  split at h<;>try cases h
  rename_i l aa;have aa:fr.an x= .string ⟨⟨l⟩⟩:=af.an aa;refine⟨_,rfl,fun st=> ?_⟩;show ik (fr.an x) _ _=_;rw[aa];rfl
 case vz f dd cs=>
  split at h<;>try cases h
  split at h<;>try cases h
  rename_i J _ _ U;exact⟨_,⟨_,_,rfl,af.fv J,af.fv U⟩,fun st=>rfl⟩
 case zN x i=>
  split at h<;>try cases h
  rename_i vs aa;obtain⟨ws,aa,ax⟩:=af.an aa;obtain⟨v,aD,ax⟩:=sI ax h;refine⟨v,ax,fun st=> ?_⟩;show o7 (fr.an x) (fun vs=>hV vs.toList i 1 (fun l=>one l (fun v=>aY.ok v fr st) .no) .no) .no=_;rw[aa,amA];obtain⟨bO,D3⟩:=List.getElem?_eq_some_iff.1 aD;show hV ws i 1 _ _=_;rw[wR (by omega),iG bO,D3];rfl
 case oR x=>
  split at h<;>try cases h
  ·rename_i aa;have aa:fr.an x= .slice none 0 0:=af.an aa;exact⟨_,rfl,fun st=>x4 aa⟩
  ·rename_i aa;obtain⟨b,_,aa⟩:=af.an aa;exact⟨_,rfl,fun st=>x4 aa⟩
  ·rename_i aa;rcases af.an aa with⟨hl,aa⟩|⟨b,o,c,vs,el,bt,aR,aa,_⟩
   ·rw[hl];exact⟨_,rfl,fun st=>x4 aa⟩
   ·exact⟨_,rfl,fun st=>x4 aa⟩
  ·rename_i aa;rcases af.an aa with⟨hl,aa⟩|⟨_,b,o,c,vs,el,bt,aR,aa,_⟩
   ·rw[hl];exact⟨_,rfl,fun st=>x4 aa⟩
   ·exact⟨_,rfl,fun st=>x4 aa⟩
 case vq x=>
  split at h<;>try cases h
  rename_i l aa;have aa:fr.an x= .string ⟨⟨l⟩⟩:=af.an aa;exact⟨_,rfl,fun st=>by rw[aiS,aa,yQ]⟩
 case AU n=>cases h;exact⟨_,rfl,fun st=>rfl⟩
 case w3 off x=>
  have e:∀{b o:Nat},fr.an x= .pointer (some ⟨b,o,none⟩)->∀st,cb call (.w3 off x) fr st= .ok (.pointer (some ⟨b,o+off,none⟩)) fr st:=fun aa st=>by
   show hP (fr.an x) (fun p=>bo p (fun a=>aY.ok (.pointer (some (a.add off))) fr st) .no) .no=_;rw[aa,pZ];show aY.ok (.pointer (some (Addr.add _ off))) fr st=_;rw[qW]
  split at h<;>try cases h
  ·rename_i aa;obtain⟨b,hb,aa⟩:=af.an aa;exact⟨_,⟨b,hb,rfl⟩,e aa⟩
  ·rename_i k z j o aa;obtain⟨b,hb,aa⟩:=af.an aa;exact⟨_,⟨b,hb,by rw[Nat.add_assoc]⟩,e aa⟩
  ·rename_i cs aa;obtain⟨b,o,vs,el,bt,aR,aa,hb,ax⟩:=af.an aa;refine⟨_,⟨b,o+off,vs,el,bt,aR,rfl,hb,?_⟩,e aa⟩;have:=nx off ax;rw[List.drop_take,List.drop_drop]at this;rw[List.length_drop];exact this
 case w7 off bj g0 x=>
  split at h<;>try cases h
  rename_i cs aa;obtain⟨ws,aa,ax⟩:=af.an aa;obtain⟨J,U⟩:=zy h;have ax:=sJ bj (nx off ax);have hl:=hH ax;have e:∀st,cb call (.w7 off bj g0 x) fr st=bo (cond g0 (some (.agg ⟨(ws.drop off).take bj⟩)) (one ((ws.drop off).take bj) (fun v=>some v) none)) (fun v=>.ok v fr st) .no:=fun st=>by
   show si (fr.an x) (fun cs=>bo (r1 off bj g0 cs.toList) (fun v=>aY.ok v fr st) .no) .no=_;rw[aa,amz];show bo (r1 off bj g0 ws) _ _=_;unfold r1;rw[q8 (by rw[List.length_take,List.length_take,Nat.min_eq_left J]at hl;omega)]
  rcases Ro U with⟨rfl,rfl⟩|⟨rfl,ah⟩
  ·exact⟨_,⟨_,rfl,ax⟩,fun st=>by rw[e];rfl⟩
  ·rw[ah]at ax;obtain⟨v,us,aD,ax,hn⟩:=ax;cases hn;rw[aD]at e;exact⟨v,ax,fun st=>by rw[e];rfl⟩
 case tm x=>
  have e:∀{a:Addr},fr.an x= .pointer (some a)->∀st,cb call (.tm x) fr st= .ok (.pointer (some a)) fr st:=fun aa st=>by
   show hP (fr.an x) (fun p=>bo p (fun a=>aY.ok (.pointer (some a)) fr st) .no) _=_;rw[aa];rfl
  split at h<;>try cases h
  ·rename_i aa;obtain⟨b,hb,aa⟩:=af.an aa;exact⟨_,⟨b,hb,rfl⟩,e aa⟩
  ·rename_i aa;obtain⟨b,hb,aa⟩:=af.an aa;exact⟨_,⟨b,hb,rfl⟩,e aa⟩
  ·rename_i aa;obtain⟨b,o,vs,el,bt,aR,aa,ax⟩:=af.an aa;exact⟨_,⟨b,o,vs,el,bt,aR,rfl,ax⟩,e aa⟩
  ·rename_i g a b aa;have aa:fr.an x= .func (.func g) a b:=af.an aa;refine⟨_,rfl,fun st=> ?_⟩;have:cb call (.tm x) fr st=hP (fr.an x) (fun p=>bo p (fun a=>aY.ok (.pointer (some a)) fr st) .no) (yP (fr.an x) (fun f a b=>match f with|.func g=>.ok (.func (.func g) a b) fr st|_=>.no) .no):=rfl;rw[this,aa];rfl
 case pick c x y=>
  split at h
  ·rename_i hc;exact⟨_,af.an h,fun st=>aiy (af.an hc) rfl rfl⟩
  ·rename_i hc;exact⟨_,af.an h,fun st=>aix (af.an hc) rfl rfl⟩
  ·cases h
 case eM x xs=>
  split at h<;>try cases h
  rename_i k n aa;have aa:fr.an x= .int k n:=af.an aa;obtain⟨m,rfl,hm⟩:=LZ af h;refine⟨_,rfl,fun st=> ?_⟩;show gd (fr.an x) (fun k n=>bo (AY k fr xs n) (fun m=>hi k m fun v=>aY.ok v fr st) .no) .no=_;rw[aa,mb,hm,Sym.eU,hB]
 case rS x xs=>
  split at h<;>try cases h
  rename_i k n aa;have aa:fr.an x= .int k n:=af.an aa;obtain⟨m,rfl,hm⟩:=L0 af h;refine⟨_,rfl,fun st=> ?_⟩;show gd (fr.an x) (fun k n=>bo (AZ k fr xs n) (fun m=>hi k m fun v=>aY.ok v fr st) .no) .no=_;rw[aa,mb,hm,Sym.eU,hB]
 all_goals cases h
end
inductive bJ:Type 1
 |c (el:TypeId) (cs:List al)
 |a (el:TypeId) (aR:Bool) (z:Nat) (α:Type) (R:α->List al) (l:List α)
 |x
def bJ.live:bJ->Bool
 |.x=>false
 |_=>true
def lR(H:bY)(ids:List Nat):bJ->Option bL->Prop
 |.c el cs,ez=>∃vs,ez=some (.cells vs el (0,0) false)∧ei H cs ids vs
 |.a el aR z _ R l,ez=>∃vs,ez=some (.cells vs el (0,0) aR)∧vs.length=l.length*z∧∀i x,l[i]? =some x->ei H (R x) ids ((vs.drop (i*z)).take z)
 |.x,_=>True
theorem wS{H cc:bY}{i j:List Nat}(h:dZ H cc)(ag:dO i j):∀{o:bJ} {ez:Option bL},lR H i o ez->lR cc j o ez
 |.c _ _,_,⟨vs,e,d⟩=>⟨vs,e,mn h _ ag d⟩
 |.a _ _ _ _ _ _,_,⟨vs,e,cj,d⟩=>⟨vs,e,cj,fun k x aa=>mn h _ ag (d k x aa)⟩
 |.x,_,_=>trivial
structure di where
 own:List bJ
 n:Nat
 env:cf
structure Fit(H:bY)(ids:List Nat)(st:aw)(own:List bJ)(n:Nat):Prop where
 wf:∀i,st.aj<=i->st.h.get i=none
 le:∀b o,H b=some o->st.h.get b=some o
 cQ:own.length=n
 len:ids.length=n
 dr:ids.Nodup
 lt:∀b∈ids,b<st.aj
 own:∀(k:Nat) (o:bJ) (b:Nat),own[k]? =some o->ids[k]? =some b->lR H ids o (st.h.get b)∧(o.live=true->H b=none)
structure eL(dc:bY)(i0:List Nat)(a4:aw)(H:bY)(ids:List Nat)(st:aw):Prop where
 hle:dZ dc H
 hold:∀b,b<a4.aj->b∉i0->H b=dc b
 iB:∀b,b<a4.aj->b∉i0->st.h.get b=a4.h.get b
 aj:a4.aj<=st.aj
 l0:dO i0 ids
 new:∀b∈ids,b∈i0∨a4.aj<=b
theorem Fit.bO{H:bY}{ids:List Nat}{st:aw}{own:List bJ}{n:Nat}(h:Fit H ids st own n){b:Nat}{o:bL}(hb:H b=some o):b<st.aj:=by
 rcases Nat.lt_or_ge b st.aj with aL|aL
 ·exact aL
 ·have:=h.le b o hb;rw[h.wf b aL]at this;cases this
theorem Fit.rB{H:bY}{ids:List Nat}{st:aw}{own:List bJ}{n:Nat}(h:Fit H ids st own n){b:Nat}(hb:st.aj<=b):H b=none:=by
 cases e:H b with
 |none=>rfl
 |some o=>have:=h.bO e;omega
theorem Fit.add{H:bY}{ids:List Nat}{st:aw}{own:List bJ}{n:Nat}(h:Fit H ids st own n){o:bJ}{ez:bL}(d:lR H (ids++[st.aj]) o (some ez)):
 Fit H (ids++[st.aj]) ⟨st.h.set st.aj ez,st.aj+1⟩ (own++[o]) (n+1):=by
 have s4:st.aj∉ids:=fun hm=>by have:=h.lt _ hm;omega
 refine⟨?_,?_,by simp[h.cQ],by simp[h.len],?_,?_,?_⟩
 ·intro i ag;show(st.h.set st.aj ez).get i=none;have ag:st.aj+1<=i:=ag;rw[au.ht _ _ (by omega)];exact h.wf i (by omega)
 ·intro b cg hb;show(st.h.set st.aj ez).get b=_;have:=h.bO hb;rw[au.ht _ _ (by omega)];exact h.le b cg hb
 ·rw[List.nodup_append];refine⟨h.dr,by simp,?_⟩;intro a a2 b hb;simp at hb;subst hb;exact fun e=>s4 (e▸a2)
 ·intro b hb;simp at hb;show b<st.aj+1;rcases hb with hb|hb
  ·have:=h.lt b hb;omega
  ·omega
 ·intro k cg b ae hb;show lR _ _ _ ((st.h.set st.aj ez).get b)∧_;by_cases DI:k<own.length
  ·rw[List.getElem?_append_left DI]at ae;rw[List.getElem?_append_left (by rw[h.len,<-h.cQ];exact DI)]at hb;obtain⟨J,U⟩:=h.own k cg b ae hb;have:b≠st.aj:=fun e=>s4 (e▸List.mem_of_getElem? hb);rw[au.ht _ _ this];exact⟨wS (dZ.refl _) (dO.app _ _) J,U⟩
  ·have fJ:=(List.getElem?_eq_some_iff.1 ae).1;simp at fJ;have DI:k=own.length:=by omega
   subst DI;rw[List.getElem?_append_right (cd _)]at ae;have hl:own.length=ids.length:=by rw[h.len,h.cQ]
   rw[hl,List.getElem?_append_right (cd _)]at hb;simp at ae hb;subst ae hb;rw[au.pn];exact⟨d,fun _=>h.rB (cd _)⟩
theorem eL.add{dc:bY}{i0:List Nat}{a4:aw}{H:bY}{ids:List Nat}{st:aw}(h:eL dc i0 a4 H ids st)(ez:bL):eL dc i0 a4 H (ids++[st.aj]) ⟨st.h.set st.aj ez,st.aj+1⟩:=by
 refine⟨h.hle,h.hold,?_,by have:=h.aj;show a4.aj<=st.aj+1;omega,fun k b e=>dO.app _ _ k b (h.l0 k b e),?_⟩
 ·intro b hb hn;show(st.h.set st.aj ez).get b=_;have:=h.aj;rw[au.ht _ _ (by omega)];exact h.iB b hb hn
 ·intro b hb;simp at hb;rcases hb with hb|hb
  ·exact h.new b hb
  ·right;rw[hb];exact h.aj
theorem Fit.dQ{H:bY}{ids:List Nat}{st:aw}{own:List bJ}{n:Nat}(h:Fit H ids st own n){k b:Nat}{o cg:bJ}{ez:bL}(ae:own[k]? =some o)(hl:o.live=true)(hb:ids[k]? =some b)(d:lR H ids cg (some ez)):
 Fit H ids ⟨st.h.set b ez,st.aj⟩ (own.set k cg) n:=by
 have bO:b<st.aj:=h.lt b (List.mem_of_getElem? hb);have gT:H b=none:=(h.own k o b ae hb).2 hl;refine⟨?_,?_,by simp[h.cQ],h.len,h.dr,h.lt,?_⟩
 ·intro i ag;show(st.h.set b ez).get i=none;have ag:st.aj<=i:=ag;rw[au.ht _ _ (by omega)];exact h.wf i ag
 ·intro c q hc;show(st.h.set b ez).get c=_;rw[au.ht _ _ (fun e=>by rw[e,gT]at hc;cases hc)];exact h.le c q hc
 ·intro j q c hj hc;show lR _ _ _ ((st.h.set b ez).get c)∧_;rw[List.getElem?_set]at hj;by_cases ln:k=j
  ·subst ln;rw[hb]at hc;cases hc;rw[if_pos rfl]at hj;split at hj<;>cases hj;rw[au.pn];exact⟨d,fun _=>gT⟩
  ·rw[if_neg ln]at hj;have:c≠b:=fun e=>by
    subst e;have J:=(List.getElem?_eq_some_iff.1 hb);have U:=(List.getElem?_eq_some_iff.1 hc);exact ln ((List.getElem_inj (h₀:=J.1) (h₁:=U.1) h.dr).1 (J.2.trans U.2.symm))
   rw[au.ht _ _ this];exact h.own j q c hj hc
theorem eL.dQ{dc:bY}{i0:List Nat}{a4:aw}{H:bY}{ids:List Nat}{st:aw}(h:eL dc i0 a4 H ids st){b:Nat}(hb:b∈ids)(ez:bL):eL dc i0 a4 H ids ⟨st.h.set b ez,st.aj⟩:=by
 refine⟨h.hle,h.hold,?_,h.aj,h.l0,h.new⟩;intro c hc hn;show(st.h.set b ez).get c=_;rw[au.ht _ _ (fun e=>by
  subst e;rcases h.new _ hb with J|J
  ·exact hn J
  ·omega)]
 exact h.iB c hc hn
section
def sy(own:List bJ)(e:cf):dH->Option al
 |.l1 x=>match bN e x with
  |some (.p k o)=>match own[k]? with
   |some (.c _ cs)=>cs[o]?
   |_=>none
  |some (.gG k z j o)=>match own[k]? with
   |some (.c _ cs)=>cs[j*z+o]?
   |_=>none
  |some (.ip cs)=>cs[0]?
  |_=>none
 |.qy n x=>match bN e x with
  |some (.p k o)=>match own[k]? with
   |some (.c _ cs)=>uu cs o n fun l=>some (.agg l)
   |_=>none
  |some (.gG k z j o)=>match own[k]? with
   |some (.c _ cs)=>uu cs (j*z+o) n fun l=>some (.agg l)
   |_=>none
  |some (.ip cs)=>uu cs 0 n fun l=>some (.agg l)
  |_=>none
 |_=>none
def oQ(e:cf):dH->Option Nat
 |.l1 x|.qy _ x=>match bN e x with
  |some (.p k _)|some (.gG k _ _ _)=>some k
  |_=>none
 |_=>none
end
section
variable{call:bP}{fr:aQ}{x y i:Operand}
theorem xL{b o:Nat}{vs:List Value}{el:TypeId}{bt:Nat×Nat}{aR:Bool}{v:Value}{st:aw}(h:fr.an x= .pointer (some ⟨b,o,none⟩))(ao:st.h.get b=some (.cells vs el bt aR))(aD:vs[o]? =some v):cb call (.l1 x) fr st= .ok v fr st:=aiw h rfl ao aD
theorem I6{b o n:Nat}{vs:List Value}{el:TypeId}{bt:Nat×Nat}{aR:Bool}{st:aw}(h:fr.an x= .pointer (some ⟨b,o,none⟩))(ao:st.h.get b=some (.cells vs el bt aR))(hl:n<=(vs.drop o).length):cb call (.qy n x) fr st= .ok (.agg ⟨(vs.drop o).take n⟩) fr st:=by
 rw[aiU,h];show st.load ⟨b,o,none⟩ n _ _=_;unfold aw.load aw.gI;rw[Sym.h3,ao,kG,q8 hl]
theorem amd{α:Type}{l:List α}{o n:Nat}{v:α}(h:((l.drop o).take n)[0]? =some v):l[o]? =some v:=by
 have:=(List.getElem?_eq_some_iff.1 h).1;rw[List.getElem?_take]at h;split at h
 ·simpa using h
 ·cases h
theorem GK{H:bY}{ids:List Nat}{e:cf}{own:List bJ}{st:aw}(af:dk fr H ids e)(pw:own.length<=ids.length)(aA:∀(k:Nat) (o:bJ) (b:Nat),own[k]? =some o->o.live=true->ids[k]? =some b->lR H ids o (st.h.get b)){o:dH}{r:al}(h:sy own e o=some r):
 ∃v,den H r ids v∧∀cS:aw,((∀b o,H b=some o->cS.h.get b=some o)∨∃k,oQ e o=some k)->(∀k b,oQ e o=some k->ids[k]? =some b->cS.h.get b=st.h.get b)->cb call o fr cS= .ok v fr cS:=by
 have obj:∀{k:Nat} {el:TypeId} {cs:List al},own[k]? =some (.c el cs)->∃b vs,ids[k]? =some b∧st.h.get b=some (.cells vs el (0,0) false)∧ei H cs ids vs:=fun{k el cs} ae=>by
  have bO:=(List.getElem?_eq_some_iff.1 ae).1;have ag:k<ids.length:=by omega
  obtain⟨vs,J,U⟩:=aA k _ _ ae rfl (cA ag);exact⟨_,vs,cA ag,J,U⟩
 cases o<;>simp only[sy]at h
 case l1 x=>
  split at h<;>try cases h
  ·rename_i k o aa;split at h<;>try cases h
   rename_i el cs ae;obtain⟨b,vs,hb,gC,ax⟩:=obj ae;obtain⟨v,aD,ax⟩:=sI ax h;obtain⟨fF,J,U⟩:=af.an aa;rw[hb]at J;cases J;exact⟨v,ax,fun cS _ ah=>xL U ((ah k b (by simp[oQ,aa]) hb).trans gC) aD⟩
  ·rename_i k z j o aa;split at h<;>try cases h
   rename_i el cs ae;obtain⟨b,vs,hb,gC,ax⟩:=obj ae;obtain⟨v,aD,ax⟩:=sI ax h;obtain⟨fF,J,U⟩:=af.an aa;rw[hb]at J;cases J;exact⟨v,ax,fun cS _ ah=>xL U ((ah k b (by simp[oQ,aa]) hb).trans gC) aD⟩
  ·rename_i cs aa;obtain⟨b,o,vs,el,bt,aR,J,U,ax⟩:=af.an aa;obtain⟨v,aD,ax⟩:=sI ax h;refine⟨v,ux (dZ.refl _) _ (dO.nil _) ax,fun cS ah _=> ?_⟩;rcases ah with ah|⟨k,ah⟩
   ·exact xL J (ah _ _ U) (amd aD)
   ·simp[oQ,aa]at ah
 case qy m x=>
  split at h<;>try cases h
  ·rename_i k o aa;split at h<;>try cases h
   rename_i el cs ae;obtain⟨b,vs,hb,gC,ax⟩:=obj ae;obtain⟨m4,jr⟩:=zy h;cases jr;obtain⟨fF,J,U⟩:=af.an aa;rw[hb]at J;cases J;have hl:=hH (nx o ax);exact⟨_,⟨_,rfl,sJ m (nx o ax)⟩,fun cS _ ah=>I6 U ((ah k b (by simp[oQ,aa]) hb).trans gC) (by omega)⟩
  ·rename_i k z j o aa;split at h<;>try cases h
   rename_i el cs ae;obtain⟨b,vs,hb,gC,ax⟩:=obj ae;obtain⟨m4,jr⟩:=zy h;cases jr;obtain⟨fF,J,U⟩:=af.an aa;rw[hb]at J;cases J;have hl:=hH (nx (j*z+o) ax);exact⟨_,⟨_,rfl,sJ m (nx (j*z+o) ax)⟩,fun cS _ ah=>I6 U ((ah k b (by simp[oQ,aa]) hb).trans gC) (by omega)⟩
  ·rename_i cs aa;obtain⟨b,o,vs,el,bt,aR,J,U,ax⟩:=af.an aa;obtain⟨m4,jr⟩:=zy h;cases jr;have hl:=hH ax;rw[List.drop_zero]at m4;have hX:=sJ m ax;rw[List.take_take,Nat.min_eq_left m4]at hX;refine⟨.agg ⟨(vs.drop o).take m⟩,⟨_,rfl,?_⟩,fun cS ah _=> ?_⟩
   ·rw[List.drop_zero];exact mn (dZ.refl _) _ (dO.nil _) hX
   rcases ah with ah|⟨k,ah⟩
   ·exact I6 J (ah _ _ U) (by rw[List.length_take]at hl;omega)
   ·simp[oQ,aa]at ah
 all_goals cases h
theorem ahE{own:List bJ}{e:cf}{o:dH}{r:al}{k:Nat}(h:sy own e o=some r)(ae:oQ e o=some k):∃cg,own[k]? =some cg∧cg.live=true:=by
 cases o<;>simp only[oQ]at ae
 case l1 x=>
  simp only[sy]at h;split at ae<;>cases ae
  ·rename_i aa;rw[aa]at h;simp only at h;split at h<;>try cases h
   exact⟨_,by assumption,rfl⟩
  ·rename_i aa;rw[aa]at h;simp only at h;split at h<;>try cases h
   exact⟨_,by assumption,rfl⟩
 case qy n x=>
  simp only[sy]at h;split at ae<;>cases ae
  ·rename_i aa;rw[aa]at h;simp only at h;split at h<;>try cases h
   exact⟨_,by assumption,rfl⟩
  ·rename_i aa;rw[aa]at h;simp only at h;split at h<;>try cases h
   exact⟨_,by assumption,rfl⟩
 all_goals cases ae
end
section
variable{β:Type _}
def Jy(v:Value)(K:al->Option β):Option β:=
 match v with
 |.int k n=>K (.i k n)
 |.bool t=>K (.b t)
 |.string ⟨⟨l⟩⟩=>K (.s l)
 |.slice none 0 0=>K .nl
 |x=>K (.v x)
def x6:List Value->(List al->Option β)->Option β
 |[],K=>K []
 |v::vs,K=>Jy v fun a=>x6 vs fun r=>K (a::r)
def sF:al->Option (List al)
 |.agg cs=>some cs
 |a=>match q5 a with
  |true=>some [a]
  |false=>none
def vM:List al->Nat->List al->(List al->Option β)->Option β
 |cs,0,[],K=>K cs
 |_::cs,0,d::ds,K=>vM cs 0 ds fun r=>K (d::r)
 |c::cs,n+1,ds,K=>vM cs n ds fun r=>K (c::r)
 |[],_,_,_=>none
def w4(e:cf):List (Nat×Nat×Operand)->List al->(List al->Option β)->Option β
 |[],cs,K=>K cs
 |(o,bj,x)::ps,cs,K=>match bN e x with
  |some a=>match sF a with
   |some ds=>match AV ds bj with
    |true=>vM cs o ds fun cs'=>w4 e ps cs' K
    |false=>none
   |none=>none
  |none=>none
def pV:List bJ->bJ->(List bJ->Option β)->Option β
 |[],o,K=>K [o]
 |a::as,o,K=>pV as o fun r=>K (a::r)
def kb:List bJ->Nat->bJ->(List bJ->Option β)->Option β
 |[],_,_,_=>none
 |_::as,0,o,K=>K (o::as)
 |a::as,n+1,o,K=>kb as n o fun r=>K (a::r)
def ais:List Nat:=[1,2,3,4,5,6,7,8,9,10,11,12,13,14,15,16,17,18,19,20,21,22,23,24,25,26,27,28,29,30,31,32]
def QE:List Nat->Nat->Option Nat
 |[],_=>none
 |a::_,0=>some a
 |_::as,n+1=>QE as n
def nV(n:Nat)(K:Nat->Option β):Option β:=
 match QE ais n with
 |some m=>match Nat.beq m (n+1)with
  |true=>K m
  |false=>K (n+1)
 |none=>K (n+1)
def ai9:List (Nat×Nat×Operand)->Nat
 |(_,bj,_)::_=>bj
 |[]=>1
def F9(own:List bJ)(a3:Nat)(e:cf)(k o n:Nat)(x:Operand)(K:al->List bJ->Nat->Option β):Option β:=
 match own[k]? with
 |some (.c el cs)=>match bN e x with
  |some a=>match sF a with
   |some ds=>match AV ds n with
    |true=>match p8 ds with
     |true=>vM cs o ds fun cs'=>kb own k (.c el cs') fun bZ=>K (.b5 []) bZ a3
     |false=>none
    |false=>none
   |none=>none
  |none=>none
 |_=>none
def Ce(own:List bJ)(a3:Nat)(e:cf)(K:al->List bJ->Nat->Option β):dH->Option β
 |.alloc z el=>x6 z fun cs=>pV own (.c el cs) fun bZ=>nV a3 fun cI=>K (.p a3 0) bZ cI
 |.box el x=>match bN e x with
  |some a=>match sF a with
   |some ds=>pV own (.c el ds) fun bZ=>nV a3 fun cI=>K (.p a3 0) bZ cI
   |none=>none
  |none=>none
 |.p6 el len z ps=>x6 z fun cs=>w4 e ps cs fun cs'=>pV own (.c el cs') fun bZ=>nV a3 fun cI=>K (.bH a3 (ai9 ps) 0 len len) bZ cI
 |.build z ps=>x6 z fun cs=>w4 e ps cs fun cs'=>K (.agg cs') own a3
 |.store n a x=>match bN e a with
  |some (.p k o)=>F9 own a3 e k o n x K
  |some (.gG k z j o)=>F9 own a3 e k (j*z+o) n x K
  |_=>none
 |_=>none
def zb(e:cf):dH->Option al
 |.build z ps=>x6 z fun cs=>w4 e ps cs fun cs'=>some (.agg cs')
 |o=>GN e o
def j3(e:cf):dH->Option Nat
 |.store _ a _=>match bN e a with
  |some (.p k _)|some (.gG k _ _ _)=>some k
  |_=>none
 |.app _ _ _ x _|.q7 _ x _=>match bN e x with
  |some (.bH k _ _ _ _)=>some k
  |_=>none
 |.tT _ x _=>match bN e x with
  |some (.p k _)=>some k
  |_=>none
 |_=>none
end
section
variable{β:Type _}{r:β}
theorem aiA{v:Value}{K:al->Option β}(h:Jy v K=some r):K (Ba v)=some r:=by
 unfold Jy at h;unfold Ba;split at h<;>first|exact h|(split<;>first|exact h|(exfalso;simp_all))
theorem Bb:∀{vs:List Value} {K:List al->Option β},x6 vs K=some r->K (x5 vs)=some r
 |[],_,h=>h
 |_::vs,_,h=>Bb (vs:=vs) (aiA h)
theorem CB{H:bY}{ids:List Nat}{a:al}{ds:List al}{v:Value}(h:sF a=some ds)(d:den H a ids v):rO v=false∧ei H ds ids (hT v):=by
 unfold sF at h;split at h
 ·cases h;obtain⟨vs,rfl,d⟩:=d;exact⟨rfl,d⟩
 ·split at h<;>cases h;rename_i hc;have:=M7 hc d;refine⟨?_,?_⟩
  ·cases v<;>first|rfl|cases this
  ·rw[V5 this];exact⟨v,[],rfl,d,rfl⟩
theorem E2:∀{cs:List al} {n:Nat} {ds:List al} {K:List al->Option β},vM cs n ds K=some r->n+ds.length<=cs.length∧K (cs.take n++(ds++cs.drop (n+ds.length)))=some r
 |cs,0,[],K,h=>by
  have h:K cs=some r:=by cases cs<;>exact h
  exact⟨by simp,by simpa using h⟩
 |[],0,d::ds,K,h=>by cases h
 |c::cs,0,d::ds,K,h=>by
  have h:vM cs 0 ds (fun r=>K (d::r))=some r:=h;obtain⟨J,U⟩:=E2 h;refine⟨by simp at J ⊢;omega,?_⟩;simp at U;simpa using U
 |[],n+1,ds,K,h=>by cases ds<;>cases h
 |c::cs,n+1,ds,K,h=>by
  have h:vM cs n ds (fun r=>K (c::r))=some r:=by cases ds<;>exact h
  obtain⟨J,U⟩:=E2 h;refine⟨by simp;omega,?_⟩;rw[show n+1+ds.length=(n+ds.length)+1 by omega];simpa using U
theorem Hl{H:bY}{ids:List Nat}{cs ds:List al}{vs ws:List Value}(n:Nat)(d:ei H cs ids vs)(lh:ei H ds ids ws):
 ei H (cs.take n++(ds++cs.drop (n+ds.length))) ids (vs.take n++(ws++vs.drop (n+ws.length))):=by
 rw[hH lh];exact CU (sJ n d) (CU lh (nx _ d))
theorem qN:∀{own:List bJ} {o:bJ} {K:List bJ->Option β},pV own o K=some r->K (own++[o])=some r
 |[],_,_,h=>h
 |_::as,_,_,h=>qN (own:=as) h
theorem lJ:∀{own:List bJ} {k:Nat} {o:bJ} {K:List bJ->Option β},kb own k o K=some r->K (own.set k o)=some r
 |[],_,_,_,h=>by cases h
 |_::_,0,_,_,h=>h
 |_::as,k+1,_,_,h=>lJ (own:=as) (k:=k) h
theorem pI{n:Nat}{K:Nat->Option β}(h:nV n K=some r):K (n+1)=some r:=by
 unfold nV at h;split at h
 ·split at h
  ·rename_i hb;rw[<-dY hb];exact h
  ·exact h
 ·exact h
def zO(e:cf):List (Nat×Nat×Operand)->List al->Option (List al)
 |[],cs=>some cs
 |(o,bj,x)::ps,cs=>match bN e x with
  |some a=>match sF a with
   |some ds=>if ds.length=bj∧o+ds.length<=cs.length then zO e ps (cs.take o++(ds++cs.drop (o+ds.length)))else none
   |none=>none
  |none=>none
theorem C8{e:cf}:∀{ps:List (Nat×Nat×Operand)} {cs:List al} {K:List al->Option β},w4 e ps cs K=some r->∃cs',zO e ps cs=some cs'∧K cs'=some r
 |[],cs,K,h=>⟨cs,rfl,h⟩
 |(o,bj,x)::ps,cs,K,h=>by
  unfold w4 at h;unfold zO;split at h<;>try cases h
  split at h<;>try cases h
  split at h<;>try cases h
  rename_i hl;obtain⟨J,U⟩:=E2 h;rw[if_pos ⟨Eg hl,J⟩];exact C8 U
theorem C9{fr:aQ}{H:bY}{ids:List Nat}{e:cf}(af:dk fr H ids e):∀{ps:List (Nat×Nat×Operand)} {cs cs':List al} {vs:List Value},zO e ps cs=some cs'->ei H cs ids vs->
 ∃fQ,ei H cs' ids fQ∧∀c,mX fr ps vs c=c fQ
 |[],cs,_,vs,h,d=>by cases h;exact⟨vs,d,fun _=>rfl⟩
 |(o,bj,x)::ps,cs,cs',vs,h,d=>by
  unfold zO at h;split at h<;>try cases h
  rename_i a aa;split at h<;>try cases h
  rename_i ds iQ;split at h<;>try cases h
  rename_i hl;obtain⟨hl,J⟩:=hl;obtain⟨hp,d2⟩:=CB iQ (af.an aa);have pv:=hH d2;have Ic:=hH d;obtain⟨fQ,a0,bx⟩:=C9 af h (Hl o d d2);refine⟨fQ,a0,fun c=> ?_⟩;have hu:mX fr ((o,bj,x)::ps) vs c=cond (rO (fr.an x)) .no (ea (ef (hT (fr.an x))) bj (ey (o+bj) (ef vs) (oX vs o (hT (fr.an x)) (fun cs'=>mX fr ps cs' c) .no) .no) .no):=rfl;rw[hu,hp,cond_false,fx,fx,jE (by omega),gj (by omega),pM,if_pos (by omega),bx]
end
theorem GO{call:bP}{fr:aQ}{H:bY}{ids:List Nat}{e:cf}(af:dk fr H ids e){o:dH}{r:al}(h:zb e o=some r):∃v,den H r ids v∧∀st,cb call o fr st= .ok v fr st:=by
 unfold zb at h;split at h
 ·rename_i z ps;obtain⟨cs',aW,a0⟩:=C8 (Bb h);cases a0;obtain⟨fQ,d,bx⟩:=C9 af aW (uy H ids z);refine⟨.agg ⟨fQ⟩,⟨_,rfl,d⟩,fun st=> ?_⟩;have:cb call (.build z ps) fr st=mX fr ps z fun cs=>.ok (.agg ⟨cs⟩) fr st:=rfl;rw[this,bx]
 ·exact Vf af h
def fT(call:bP)(o:dH)(s:di)(a:al)(bZ:List bJ)(cI:Nat):Prop:=
 ∀(H:bY) (ids:List Nat) (st:aw) (fr:aQ),Fit H ids st s.own s.n->dk fr H ids s.env->
  ∃v st' dA cc,cb call o fr st= .ok v fr st'∧Fit cc dA st' bZ cI∧den cc a dA v∧dZ H cc∧dO ids dA∧(∀dc i0 a4,eL dc i0 a4 H ids st->eL dc i0 a4 cc dA st')∧
   st.aj<=st'.aj∧∀b,b<st.aj->(∀k,j3 s.env o=some k->ids[k]? ≠some b)->st'.h.get b=st.h.get b
def yX(dc:bY)(call:bP)(o:dH)(s:di)(a:al)(bZ:List bJ)(cI:Nat):Prop:=
 ∀(H:bY) (ids:List Nat) (st:aw) (fr:aQ),dZ dc H->Fit H ids st s.own s.n->dk fr H ids s.env->
  ∃v st' dA cc,cb call o fr st= .ok v fr st'∧Fit cc dA st' bZ cI∧den cc a dA v∧dZ H cc∧dO ids dA∧(∀dc i0 a4,eL dc i0 a4 H ids st->eL dc i0 a4 cc dA st')∧
   st.aj<=st'.aj∧∀b,b<st.aj->(∀k,j3 s.env o=some k->ids[k]? ≠some b)->st'.h.get b=st.h.get b
theorem fT.g{dc:bY}{call:bP}{o:dH}{s:di}{a:al}{bZ:List bJ}{cI:Nat}(h:fT call o s a bZ cI):yX dc call o s a bZ cI:=fun H ids st fr _ aA af=>h H ids st fr aA af
def yY(call:bP)(o:dH)(s:di)(a:al)(bZ:List bJ)(cI:Nat):Prop:=
 ∀(H:bY) (ids:List Nat) (st:aw) (fr:aQ),Fit H ids st s.own s.n->dk fr H ids s.env->
  ∃v st' dA,cb call o fr st= .ok v fr st'∧Fit H dA st' bZ cI∧den H a dA v∧dO ids dA∧(∀dc i0 a4,eL dc i0 a4 H ids st->eL dc i0 a4 H dA st')∧
   st.aj<=st'.aj∧∀b,b<st.aj->(∀k,j3 s.env o=some k->ids[k]? ≠some b)->st'.h.get b=st.h.get b
theorem yY.to{call:bP}{o:dH}{s:di}{a:al}{bZ:List bJ}{cI:Nat}(h:yY call o s a bZ cI):fT call o s a bZ cI:=fun H ids st fr aA af=>
 let⟨v,st',dA,J,U,ah,aC,a5,ch,cV⟩:=h H ids st fr aA af
 ⟨v,st',dA,H,J,U,ah,dZ.refl _,aC,a5,ch,cV⟩
section
variable{call:bP}{β:Type _}{r:β}
theorem Ju{H:bY}{ids:List Nat}{st:aw}{own:List bJ}{n:Nat}(aA:Fit H ids st own n){el:TypeId}{cs:List al}{vs:List Value}(d:ei H cs ids vs):
 Fit H (ids++[st.aj]) ⟨st.h.set st.aj (.cells vs el (0,0) false),st.aj+1⟩ (own++[.c el cs]) (n+1)∧(ids++[st.aj])[n]? =some st.aj:=by
 refine⟨aA.add ⟨vs,rfl,mn (dZ.refl _) _ (dO.app _ _) d⟩,?_⟩;rw[<-aA.len,List.getElem?_append_right (cd _)];simp
theorem ya{st:aw}{ez:bL}{b:Nat}(hb:b<st.aj):(au.set st.h st.aj ez).get b=st.h.get b:=au.ht _ _ (by omega)
theorem S1{s:di}{k o m:Nat}{a x:Operand}{K:al->List bJ->Nat->Option β}(h:F9 s.own s.n s.env k o m x K=some r)(hm:j3 s.env (.store m a x)=some k)
 (a2:∀{H:bY} {ids:List Nat} {fr:aQ},dk fr H ids s.env->∃b,ids[k]? =some b∧fr.an a= .pointer (some ⟨b,o,none⟩)):∃a' bZ cI,K a' bZ cI=some r∧yY call (.store m a x) s a' bZ cI:=by
 unfold F9 at h;split at h<;>try cases h
 rename_i el cs ae;split at h<;>try cases h
 rename_i c aa;split at h<;>try cases h
 rename_i ds iQ;split at h<;>try cases h
 rename_i hl;split at h<;>try cases h
 rename_i hc;obtain⟨J,U⟩:=E2 h;have ah:=lJ U;refine⟨_,_,_,ah,?_⟩;intro H ids st fr aA af;obtain⟨b,hb,aD⟩:=a2 af;obtain⟨⟨vs,gC,d⟩,_⟩:=aA.own k _ b ae hb;obtain⟨hp,d2⟩:=CB iQ (af.an aa);have hl:=Eg hl;have pv:=hH d2;have Ic:=hH d;refine⟨undef,_,ids,?_,aA.dQ ae rfl hb ⟨_,rfl,Hl o d d2⟩,⟨[],rfl,rfl⟩,dO.refl _,fun _ _ _ B=>B.dQ (List.mem_of_getElem? hb) _,cd _,?_⟩
 ·have:cb call (.store m a x) fr st=hP (fr.an a) (fun p=>bo p (fun a=>ea (ef (hT (fr.an x))) m (cond (gS (hT (fr.an x))) (st.store a (hT (fr.an x)) (fun st=>aY.ok undef fr st) .no) .no) .no) .no) .no:=rfl;rw[this,aD,pZ,Sym.eU,fx,jE (by omega),zs hc d2,cond_true];unfold aw.store aw.gI;rw[Sym.h3,gC,kG,gj (cd _),pM,if_pos (by show o+_<=_;omega),jy]
 ·intro fF _ cx;show(st.h.set b _).get fF=_;exact au.ht _ _ (fun e=>cx k hm (e▸hb))
theorem LU{s:di}{K:al->List bJ->Nat->Option β}{o:dH}(h:Ce s.own s.n s.env K o=some r):∃a bZ cI,K a bZ cI=some r∧yY call o s a bZ cI:=by
 cases o<;>simp only[Ce]at h
 case alloc z el=>
  refine⟨_,_,_,pI (qN (Bb h)),?_⟩;intro H ids st fr aA af;obtain⟨J,U⟩:=Ju aA (el:=el) (uy H ids z);refine⟨_,_,_,?_,J,⟨_,U,rfl⟩,dO.app _ _,fun _ _ _ B=>B.add _,Nat.le_succ _,fun b hb _=>ya hb⟩;have:cb call (.alloc z el) fr st=st.iS (.cells z el (0,0) false) fun id st=>.ok (.pointer (some ⟨id,0,none⟩)) fr st:=rfl;rw[this,gF]
 case box el x=>
  split at h<;>try cases h
  rename_i a aa;split at h<;>try cases h
  rename_i ds iQ;refine⟨_,_,_,pI (qN h),?_⟩;intro H ids st fr aA af;obtain⟨hp,d⟩:=CB iQ (af.an aa);obtain⟨J,U⟩:=Ju aA (el:=el) d;refine⟨_,_,_,?_,J,⟨_,U,rfl⟩,dO.app _ _,fun _ _ _ B=>B.add _,Nat.le_succ _,fun b hb _=>ya hb⟩;have:cb call (.box el x) fr st=cond (rO (fr.an x)) .no (st.iS (.cells (hT (fr.an x)) el (0,0) false) fun id st=>.ok (.pointer (some ⟨id,0,none⟩)) fr st):=rfl;rw[this,hp,cond_false,gF]
 case p6 el len z ps=>
  obtain⟨cs',aW,a0⟩:=C8 (Bb h);refine⟨_,_,_,pI (qN a0),?_⟩;intro H ids st fr aA af;obtain⟨fQ,d,bx⟩:=C9 af aW (uy H ids z);obtain⟨J,U⟩:=Ju aA (el:=el) d;refine⟨_,_,_,?_,J,⟨_,U,rfl⟩,dO.app _ _,fun _ _ _ B=>B.add _,Nat.le_succ _,fun b hb _=>ya hb⟩;have:cb call (.p6 el len z ps) fr st=mX fr ps z fun cs=>st.iS (.cells cs el (0,0) false) fun id st=>.ok (.slice (some ⟨id,0,none⟩) len len) fr st:=rfl;rw[this,bx,gF,Nat.zero_mul]
 case build z ps=>
  obtain⟨cs',aW,a0⟩:=C8 (Bb h);refine⟨_,_,_,a0,?_⟩;intro H ids st fr aA af;obtain⟨fQ,d,bx⟩:=C9 af aW (uy H ids z);refine⟨.agg ⟨fQ⟩,st,ids,?_,aA,⟨_,rfl,d⟩,dO.refl _,fun _ _ _ B=>B,cd _,fun b hb _=>rfl⟩;have:cb call (.build z ps) fr st=mX fr ps z fun cs=>.ok (.agg ⟨cs⟩) fr st:=rfl;rw[this,bx]
 case store m a x=>
  split at h<;>try cases h
  ·rename_i k o a2;exact S1 h (by simp[j3,a2]) fun af=>by obtain⟨b,J,U⟩:=af.an a2;exact⟨b,J,U⟩
  ·rename_i k z j o a2;exact S1 h (by simp[j3,a2]) fun af=>by obtain⟨b,J,U⟩:=af.an a2;exact⟨b,J,U⟩
 all_goals cases h
end
structure hR where
 call:bP
 a9:Nat
 fn:FuncId
 dc:bY
 i0:List Nat
 a4:aw
 Q:ee->di->Prop
inductive gg where
 |seq (c:du)
 |cU (i:Nat)
 |b3 (LG:di->Prop)
inductive bc where
 |c (c:du)
 |o (l:List bB)
 |x (e:ee)
 |d (l:List (bB×c0)) (b9:List bJ) (bR:cf) (bw cJ:Nat)
variable(aP:hR)
def sv(Q:ee->di->Prop):ee->aQ->aw->Prop:=fun x fr st=>∃H ids s,eL aP.dc aP.i0 aP.a4 H ids st∧Fit H ids st s.own s.n∧dk fr H ids s.env∧Q x s
def LJ(Q:ee->di->Prop)(c:du)(s:di):Prop:=∀H ids st fr,eL aP.dc aP.i0 aP.a4 H ids st->Fit H ids st s.own s.n->dk fr H ids s.env->W (dD aP.call aP.a9 aP.fn c fr st) (sv aP Q)
def US(Q:ee->di->Prop)(l:List bB)(s:di):Prop:=∀H ids st fr,eL aP.dc aP.i0 aP.a4 H ids st->Fit H ids st s.own s.n->dk fr H ids s.env->W (hJ aP.call l fr st) (sv aP Q)
structure UT(fS H:bY)(ids:List Nat)(st:aw)(b9:List bJ)(bR:cf)(bw cJ:Nat)(ak:List (au bL))(fr:aQ):Prop where
 len:ak.length=bw
 hle:dZ fS H
 gq:∀j a,fc bR j=some a->den fS a ids (fr.tmp j)
 pJ:b9.length<=ids.length
 vD:cJ<=ids.length
 b9:∀(k:Nat) (o:bJ) (b:Nat),b9[k]? =some o->o.live=true->ids[k]? =some b->lR fS ids o (st.h.get b)∧∀h∈ak,h.get b=st.h.get b
 old:∀h∈ak,∀b o,fS b=some o->h.get b=some o
 top:∀h,ak.head?=some h->(∀b o,H b=some o->h.get b=some o)∧∀k b:Nat,k<cJ->ids[k]? =some b->h.get b=st.h.get b
def UR(Q:ee->di->Prop)(l:List (bB×c0))(b9:List bJ)(bR:cf)(bw cJ:Nat)(s:di):Prop:=∀H ids st fr fS ak,eL aP.dc aP.i0 aP.a4 H ids st->Fit H ids st s.own s.n->dk fr H ids s.env->UT fS H ids st b9 bR bw cJ ak fr->W (hI aP.call l ak fr st) (sv aP Q)
def Sem:List gg->ee->di->Prop
 |[]=>aP.Q
 |.seq c::K=>fun x s=>match x with
  |.norm=>LJ aP (Sem K) c s
  |x=>Sem K x s
 |.cU i::K=>fun x s=>match x with
  |.exit j=>if j=i then Sem K .norm s else Sem K (.exit j) s
  |x=>Sem K x s
 |.b3 LG::K=>fun x s=>match x with
  |.norm=>LG s
  |x=>Sem K x s
def R(K:List gg)(c:bc)(s:di):Prop:=
 match c with
 |.c c=>LJ aP (Sem aP K) c s
 |.o l=>US aP (Sem aP K) l s
 |.x e=>Sem aP K e s
 |.d l b9 bR bw cJ=>UR aP (Sem aP K) l b9 bR bw cJ s
structure bl where
 K:List gg
 c:bc
 s:di
def bl.ok(g:bl):Prop:=R aP g.K g.c g.s
def gv(d:Option Tmp)(a:al)(e:cf):cf:=
 match d with
 |none=>e
 |some d=>(d,a)::e
section
def zf(own:List bJ)(n:Nat)(e:cf)(o:dH)(K:al->List bJ->Nat->Option bl):Option bl:=
 match zb e o with
 |some a=>K a own n
 |none=>match sy own e o with
  |some a=>K a own n
  |none=>Ce own n e K o
def sL(d:Option Tmp)(e:cf):cf:=
 match d with
 |none=>e
 |some d=>ot d e
def Hs:List Nat->cf->cf
 |[],e=>e
 |d::ds,e=>Hs ds (ot d e)
def Bh{β:Type _}(b9:List bJ)(m:Option Nat)(K:List bJ->Option β):Option β:=
 match m with
 |none=>K b9
 |some k=>match b9[k]? with
  |some _=>kb b9 k .x K
  |none=>K b9
def Mx(b9:List bJ)(e:cf)(o:dH):Option al:=
 match zb e o with
 |some a=>some a
 |none=>sy b9 e o
def wW{β:Type _}(d:Nat):cf->(cf->Option β)->Option β
 |[],K=>K []
 |p::l,K=>match Nat.beq p.1 d with
  |true=>wW d l K
  |false=>wW d l fun r=>K (p::r)
def om(K:List gg)(d:Option Tmp)(l:List (bB×c0))(b9:List bJ)(bR:cf)(bw cJ:Nat)(own:List bJ)(n:Nat)(a:al)(e:cf)(oa:Option al):Option bl:=
 match d with
 |none=>some ⟨K,.d l b9 bR bw cJ,⟨own,n,e⟩⟩
 |some d=>match oa with
  |some oa=>some ⟨K,.d l b9 ((d,oa)::bR) bw cJ,⟨own,n,(d,a)::e⟩⟩
  |none=>wW d bR fun YE=>some ⟨K,.d l b9 YE bw cJ,⟨own,n,(d,a)::e⟩⟩
def Hu(K:List gg)(d:Option Tmp)(o:dH)(c:c0)(l:List (bB×c0))(b9:List bJ)(bR:cf)(bw cJ:Nat)(own:List bJ)(n:Nat)(e:cf):Option bl:=
 match c with
 |.fe=>zf own n e o fun a bZ cI=>Bh b9 (j3 e o) fun ig=>nV bw fun Hg=>om K d l ig bR Hg cI bZ cI a e none
 |.ba ts=>Ce own n (fg ts e) (fun a bZ cI=>match j3 (fg ts e) o with
  |none=>om K d l b9 bR bw cJ bZ cI a e none
  |some _=>none) o
 |.read back ts=>match Nat.ble (back+1) bw with
  |true=>match Mx b9 (fg ts bR) o with
   |some oa=>om K d l b9 bR bw cJ own n oa e (some oa)
   |none=>match zb (fg ts e) o with
    |some a=>om K d l b9 bR bw cJ own n a e none
    |none=>match back with
     |0=>match sy own (fg ts e) o with
      |some a=>match oQ (fg ts e) o with
       |none=>om K d l b9 bR bw cJ own n a e none
       |some k=>match Nat.ble (k+1) cJ with
        |true=>om K d l b9 bR bw cJ own n a e none
        |false=>none
      |none=>none
     |_=>none
  |false=>none
def CG(c:c0)(e:cf):cf:=
 match c with
 |.fe=>e
 |.ba ts=>fg ts e
 |.read _ ts=>fg ts e
def zE(K:List gg)(d:Option Tmp)(c:c0)(l:List (bB×c0))(b9:List bJ)(bR:cf)(bw cJ:Nat)(own:List bJ)(n:Nat)(e:cf):Option bl:=
 match c with
 |.fe=>nV bw fun Hg=>om K d l b9 bR Hg n own n (.b5 []) e none
 |_=>om K d l b9 bR bw cJ own n (.b5 []) e none
def A9(K:List gg)(l:List bB)(d:Option Tmp)(own:List bJ)(n:Nat)(e:cf):Option bl:=
 match d with
 |none=>some ⟨K,.o l,⟨own,n,e⟩⟩
 |some d=>some ⟨K,.o l,⟨own,n,(d,.b5 [])::e⟩⟩
def Ht{β:Type _}:List Nat->cf->(cf->Option β)->Option β
 |[],e,K=>K e
 |d::ds,e,K=>wW d e fun cj=>Ht ds cj K
def Ge:bl->Option bl
 |⟨K,.c .skip,s⟩=>some ⟨K,.x .norm,s⟩
 |⟨K,.c (.r9 l),s⟩=>some ⟨K,.o l,s⟩
 |⟨K,.c (.seq a b),s⟩=>some ⟨.seq b::K,.c a,s⟩
 |⟨K,.c (.block i a),s⟩=>some ⟨.cU i::K,.c a,s⟩
 |⟨K,.c (.exit i),s⟩=>some ⟨K,.x (.exit i),s⟩
 |⟨K,.c .ret,s⟩=>some ⟨K,.x .ret,s⟩
 |⟨K,.c (.scope a),s⟩=>some ⟨K,.c a,s⟩
 |⟨K,.c (.cond c a b),s⟩=>match bN s.env c with
  |some (.b true)=>some ⟨K,.c a,s⟩
  |some (.b false)=>some ⟨K,.c b,s⟩
  |_=>none
 |⟨K,.o [],s⟩=>some ⟨K,.x .norm,s⟩
 |⟨K,.o (⟨some d,o,none⟩::l),⟨own,n,e⟩⟩=>zf own n e o fun a bZ cI=>some ⟨K,.o l,⟨bZ,cI,(d,a)::e⟩⟩
 |⟨K,.o (⟨none,o,none⟩::l),⟨own,n,e⟩⟩=>zf own n e o fun _ bZ cI=>some ⟨K,.o l,⟨bZ,cI,e⟩⟩
 |⟨K,.o (⟨d,o,some (t,b)⟩::l),⟨own,n,e⟩⟩=>match fc e t with
  |some (.b true)=>match b with
   |true=>some ⟨K,.o (⟨d,o,none⟩::l),⟨own,n,e⟩⟩
   |false=>A9 K l d own n e
  |some (.b false)=>match b with
   |false=>some ⟨K,.o (⟨d,o,none⟩::l),⟨own,n,e⟩⟩
   |true=>A9 K l d own n e
  |some (.b5 _)=>A9 K l d own n e
  |_=>none
 |⟨K,.c (.dJ l _ ec _),⟨own,n,e⟩⟩=>Ht ec e fun cj=>some ⟨K,.d l own cj 1 n,⟨own,n,cj⟩⟩
 |⟨K,.d [] _ _ _ _,s⟩=>some ⟨K,.x .norm,s⟩
 |⟨K,.d ((⟨d,o,none⟩,c)::l) b9 bR bw cJ,⟨own,n,e⟩⟩=>Hu K d o c l b9 bR bw cJ own n e
 |⟨K,.d ((⟨d,o,some (t,b)⟩,c)::l) b9 bR bw cJ,⟨own,n,e⟩⟩=>match fc (CG c e) t with
  |some (.b true)=>match b with
   |true=>some ⟨K,.d ((⟨d,o,none⟩,c)::l) b9 bR bw cJ,⟨own,n,e⟩⟩
   |false=>zE K d c l b9 bR bw cJ own n e
  |some (.b false)=>match b with
   |false=>some ⟨K,.d ((⟨d,o,none⟩,c)::l) b9 bR bw cJ,⟨own,n,e⟩⟩
   |true=>zE K d c l b9 bR bw cJ own n e
  |some (.b5 _)=>zE K d c l b9 bR bw cJ own n e
  |_=>none
 |⟨.seq c::K,.x .norm,s⟩=>some ⟨K,.c c,s⟩
 |⟨.seq _::K,.x (.exit i),s⟩=>some ⟨K,.x (.exit i),s⟩
 |⟨.seq _::K,.x .ret,s⟩=>some ⟨K,.x .ret,s⟩
 |⟨.cU _::K,.x .norm,s⟩=>some ⟨K,.x .norm,s⟩
 |⟨.cU i::K,.x (.exit j),s⟩=>match Nat.beq j i with
  |true=>some ⟨K,.x .norm,s⟩
  |false=>some ⟨K,.x (.exit j),s⟩
 |⟨.cU _::K,.x .ret,s⟩=>some ⟨K,.x .ret,s⟩
 |⟨.b3 _::K,.x (.exit i),s⟩=>some ⟨K,.x (.exit i),s⟩
 |⟨.b3 _::K,.x .ret,s⟩=>some ⟨K,.x .ret,s⟩
 |_=>none
end
section
variable{aP:hR}{K:List gg}{s:di}
theorem dk.gv{fr:aQ}{H:bY}{ids:List Nat}{e:cf}(h:dk fr H ids e)(d:Option Tmp){v:Value}{a:al}(aD:den H a ids v):dk (fr.put d v) H ids (Go.az.gv d a e):=by
 cases d with
 |none=>exact h
 |some d=>exact h.put d aD
theorem GW{call:bP}{o:dH}{C:al->List bJ->Nat->Option bl}{r:bl}(h:zf s.own s.n s.env o C=some r):∃a bZ cI,C a bZ cI=some r∧fT call o s a bZ cI:=by
 unfold zf at h;split at h
 ·rename_i a a2;refine⟨a,_,_,h,fun H ids st fr aA af=> ?_⟩;obtain⟨v,ax,he⟩:=GO (call:=call) af a2;exact⟨v,st,ids,H,he st,aA,ax,dZ.refl _,dO.refl _,fun _ _ _ B=>B,cd _,fun _ _ _=>rfl⟩
 ·split at h
  ·rename_i a a2;refine⟨a,_,_,h,fun H ids st fr aA af=> ?_⟩;obtain⟨v,ax,he⟩:=GK (call:=call) af (by rw[aA.len,aA.cQ];exact cd _) (fun k o b ae _ hb=>(aA.own k o b ae hb).1) a2;exact⟨v,st,ids,H,he st (.inl aA.le) (fun _ _ _ _=>rfl),aA,ax,dZ.refl _,dO.refl _,fun _ _ _ B=>B,cd _,fun _ _ _=>rfl⟩
  ·obtain⟨a,bZ,cI,J,U⟩:=LU (call:=call) h;exact⟨a,bZ,cI,J,U.to⟩
theorem KA{d:Option Tmp}{o:dH}{l:List bB}{bZ:List bJ}{cI:Nat}{a:al}(h:yX aP.dc aP.call o s a bZ cI)(k:R aP K (.o l) ⟨bZ,cI,gv d a s.env⟩):R aP K (.o (⟨d,o,none⟩::l)) s:=by
 intro H ids st fr bC aA af;obtain⟨v,st',dA,cc,J,U,ah,ch,aC,a5,_⟩:=h H ids st fr bC.hle aA af;exact Gr J (k cc dA st' _ (a5 _ _ _ bC) U ((af.mono ch aC).gv d ah))
theorem FQ{d:Option Tmp}{o:dH}{l:List bB}{bZ:List bJ}{cI:Nat}{a:al}(h:fT aP.call o s a bZ cI)(k:R aP K (.o l) ⟨bZ,cI,gv d a s.env⟩):R aP K (.o (⟨d,o,none⟩::l)) s:=KA h.g k
theorem wT{fr:aQ}{fS:bY}{ids:List Nat}{bR:cf}(h:∀j a,fc bR j=some a->den fS a ids (fr.tmp j))(d:Option Tmp)(v:Value):∀j a,fc (sL d bR) j=some a->den fS a ids ((fr.put d v).tmp j):=by
 cases d with
 |none=>exact h
 |some d=>
  intro j a hj;obtain⟨J,U⟩:=Ei d bR j a hj;rw[yN,if_neg J];exact h j a U
theorem Yl{fr:aQ}{fS:bY}{ids:List Nat}{bR:cf}(h:∀j a,fc bR j=some a->den fS a ids (fr.tmp j))(d:Option Tmp){v:Value}{b:al}(aD:den fS b ids v):∀j a,fc (gv d b bR) j=some a->den fS a ids ((fr.put d v).tmp j):=by
 cases d with
 |none=>exact h
 |some d=>
  intro j a hj;have hj:cond (Nat.beq d j) (some b) (fc bR j)=some a:=hj;rw[yN];cases hb:Nat.beq d j with
  |true=>
   rw[hb]at hj;rw[if_pos (dY hb).symm];cases hj;exact aD
  |false=>
   rw[hb]at hj;rw[if_neg (fun e=>by rw[e,Nat.beq_refl]at hb;cases hb)];exact h j a hj
theorem C0{β:Type _}{r:β}{d:Nat}:∀{e:cf} {C:cf->Option β},wW d e C=some r->C (ot d e)=some r
 |[],_,h=>h
 |p::l,C,h=>by
  unfold wW at h;unfold ot;cases hb:Nat.beq p.1 d with
  |true=>rw[hb]at h;exact C0 (e:=l) h
  |false=>rw[hb]at h;exact C0 (e:=l) h
theorem NH{β:Type _}{r:β}:∀{ds:List Nat} {e:cf} {C:cf->Option β},Ht ds e C=some r->C (Hs ds e)=some r
 |[],_,_,h=>h
 |_::ds,_,_,h=>NH (ds:=ds) (C0 h)
theorem uv{d:Option Tmp}{l:List (bB×c0)}{b9:List bJ}{bR:cf}{bw cJ:Nat}{own:List bJ}{n:Nat}{a:al}{e:cf}{g:bl}(h:om K d l b9 bR bw cJ own n a e none=some g)(k:g.ok aP):R aP K (.d l b9 (sL d bR) bw cJ) ⟨own,n,gv d a e⟩:=by
 unfold om at h;split at h
 ·cases h;exact k
 ·have:=C0 h;cases this;exact k
theorem Ye{d:Option Tmp}{l:List (bB×c0)}{b9:List bJ}{bR:cf}{bw cJ:Nat}{own:List bJ}{n:Nat}{a:al}{e:cf}{g:bl}(h:om K d l b9 bR bw cJ own n a e (some a)=some g)(k:g.ok aP):R aP K (.d l b9 (gv d a bR) bw cJ) ⟨own,n,gv d a e⟩:=by
 unfold om at h;split at h
 ·cases h;exact k
 ·cases h;exact k
theorem Jx{d:Option Tmp}{l:List bB}{own:List bJ}{n:Nat}{e:cf}{g:bl}(h:A9 K l d own n e=some g)(k:g.ok aP):R aP K (.o l) ⟨own,n,gv d (.b5 []) e⟩:=by
 unfold A9 at h;split at h
 ·cases h;exact k
 ·cases h;exact k
theorem JP{β:Type _}{r:β}{b9:List bJ}{m:Option Nat}{C:List bJ->Option β}(h:Bh b9 m C=some r):∃ig,C ig=some r∧ig.length=b9.length∧∀(k:Nat) (o:bJ),ig[k]? =some o->o.live=true->b9[k]? =some o∧m≠some k:=by
 unfold Bh at h;split at h
 ·exact⟨_,h,rfl,fun k o ae _=>⟨ae,by simp⟩⟩
 ·rename_i m;split at h
  ·refine⟨_,lJ h,by simp,fun k o ae hl=> ?_⟩;rw[List.getElem?_set]at ae;by_cases Ib:m=k
   ·rw[if_pos Ib]at ae;split at ae<;>cases ae;cases hl
   ·rw[if_neg Ib]at ae;exact⟨ae,by simpa using Ib⟩
  ·rename_i hn;refine⟨_,h,rfl,fun k o ae hl=>⟨ae,fun e=> ?_⟩⟩;cases e;rw[hn]at ae;cases ae
theorem Nq{d:Option Tmp}{o:dH}{l:List (bB×c0)}{b9 ig:List bJ}{bR:cf}{bw cJ cI:Nat}{bZ:List bJ}{a:al}(h:yX aP.dc aP.call o s a bZ cI)(hl:ig.length=b9.length)(J:∀(k:Nat) (cg:bJ),ig[k]? =some cg->cg.live=true->b9[k]? =some cg∧j3 s.env o≠some k)
 (k:R aP K (.d l ig (sL d bR) (bw+1) cI) ⟨bZ,cI,gv d a s.env⟩):R aP K (.d ((⟨d,o,none⟩,.fe)::l) b9 bR bw cJ) s:=by
 intro H ids st fr fS ak bC aA af cP;obtain⟨v,st',dA,cc,aW,a0,bx,cK,dn,eR,g9,nE⟩:=h H ids st fr bC.hle aA af;have xp:∀(k:Nat) (b:Nat),k<ids.length->dA[k]? =some b->ids[k]? =some b:=fun k b ae hb=>by
  have:=dn k _ (cA ae);rw[hb]at this;rw[cA ae,this]
 have DG:∀(k:Nat) (b:Nat),j3 s.env o≠some k->ids[k]? =some b->st'.h.get b=st.h.get b:=fun k b ae hb=>by
  refine nE b (aA.lt b (List.mem_of_getElem? hb)) fun k' fJ cX=> ?_;have aG:=List.getElem?_eq_some_iff.1 hb;have e2:=List.getElem?_eq_some_iff.1 cX;have:=(List.getElem_inj (h₀:=aG.1) (h₁:=e2.1) aA.dr).1 (aG.2.trans e2.2.symm);exact ae (this▸fJ)
 have gr:=k cc dA st' (fr.put d v) fS (st'.h::ak) (eR _ _ _ bC) a0 ((af.mono cK dn).gv d bx) ⟨by simp[cP.len],cP.hle.trans cK,wT (fun j a hj=>ux (dZ.refl _) _ dn (cP.gq j a hj)) d v,?_,by rw[a0.len];exact cd _,?_,?_,?_⟩
 ·refine W.of_eq ?_ gr;show aY.rec (motive:=fun _=>cC) (fun v aE st'=>ey st.aj st'.aj (hI aP.call l (st'.h::ak) (aQ.put ⟨fr.t,aE.c8,aE.bh,aE.cL,aE.b3⟩ d v) st') .no) (fun v st'=>cond o.mT (I3 l (.out (.bh v) fr st') .no) .no) .no (cb aP.call o fr st)=_;rw[aW];show ey st.aj st'.aj _ _=_;rw[gj g9]
 ·rw[hl];have:ids.length<=dA.length:=by
   rcases Nat.lt_or_ge dA.length ids.length with bO|kQ
   ·have:=dn dA.length _ (cA bO);simp at this
   ·exact kQ
  exact Nat.le_trans cP.pJ this
 ·intro k cg b ae xw hb;obtain⟨U,ah⟩:=J k cg ae xw;have Ia:k<ids.length:=gf (List.getElem?_eq_some_iff.1 U).1 cP.pJ;have hb:=xp k b Ia hb;obtain⟨aC,a5⟩:=cP.b9 k cg b U xw hb;have e:=DG k b ah hb;rw[e];refine⟨wS (dZ.refl _) dn aC,fun h hm=> ?_⟩;rcases List.mem_cons.1 hm with rfl|hm
  ·exact e
  ·exact a5 h hm
 ·intro h hm b cg hb;rcases List.mem_cons.1 hm with rfl|hm
  ·exact a0.le _ _ (cK _ _ (cP.hle _ _ hb))
  ·exact cP.old h hm b cg hb
 ·intro h hm;simp at hm;subst hm;exact⟨a0.le,fun _ _ _ _=>rfl⟩
theorem Hk{d:Option Tmp}{o:dH}{l:List (bB×c0)}{b9 ig:List bJ}{bR:cf}{bw cJ cI:Nat}{bZ:List bJ}{a:al}(h:fT aP.call o s a bZ cI)(hl:ig.length=b9.length)(J:∀(k:Nat) (cg:bJ),ig[k]? =some cg->cg.live=true->b9[k]? =some cg∧j3 s.env o≠some k)
 (k:R aP K (.d l ig (sL d bR) (bw+1) cI) ⟨bZ,cI,gv d a s.env⟩):R aP K (.d ((⟨d,o,none⟩,.fe)::l) b9 bR bw cJ) s:=Nq h.g hl J k
theorem Pt{i j:List Nat}(h:dO i j):i.length<=j.length:=by
 rcases Nat.lt_or_ge j.length i.length with bO|kQ
 ·have:=h j.length _ (cA bO);simp at this
 ·exact kQ
theorem X4{d:Option Tmp}{o:dH}{ts:List Tmp}{l:List (bB×c0)}{b9:List bJ}{bR:cf}{bw cJ cI:Nat}{bZ:List bJ}{a:al}(h:yY aP.call o ⟨s.own,s.n,fg ts s.env⟩ a bZ cI)(hm:j3 (fg ts s.env) o=none)
 (k:R aP K (.d l b9 (sL d bR) bw cJ) ⟨bZ,cI,gv d a s.env⟩):R aP K (.d ((⟨d,o,none⟩,.ba ts)::l) b9 bR bw cJ) s:=by
 intro H ids st fr fS ak bC aA af cP;obtain⟨v,st',dA,aW,a0,bx,dn,eR,g9,nE⟩:=h H ids st (fr.only ts) aA (af.only ts);have xp:∀(k:Nat) (b:Nat),k<ids.length->dA[k]? =some b->ids[k]? =some b:=fun k b ae hb=>by
  have:=dn k _ (cA ae);rw[hb]at this;rw[cA ae,this]
 have DG:∀(k:Nat) (b:Nat),ids[k]? =some b->st'.h.get b=st.h.get b:=fun k b hb=>nE b (aA.lt b (List.mem_of_getElem? hb)) fun k' fJ=>by rw[hm]at fJ;cases fJ
 have gr:=k H dA st' (fr.put d v) fS ak (eR _ _ _ bC) a0 ((af.mono (dZ.refl _) dn).gv d bx) ⟨cP.len,cP.hle,wT (fun j a hj=>ux (dZ.refl _) _ dn (cP.gq j a hj)) d v,Nat.le_trans cP.pJ (Pt dn),Nat.le_trans cP.vD (Pt dn),?_,cP.old,?_⟩
 ·refine W.of_eq ?_ gr;show ng fr.t ts (fun t=>aY.rec (motive:=fun _=>cC) (fun v _ st'=>hI aP.call l ak (fr.put d v) st') (fun _ _=>.no) .no (cb aP.call o ⟨t,[],none,false,none⟩ st))=_;rw[qD];have e:cb aP.call o ⟨Bd fr.t ts,[],none,false,none⟩ st= .ok v (fr.only ts) st':=aW;rw[e]
 ·intro k cg b ae xw hb;have Ia:k<ids.length:=gf (List.getElem?_eq_some_iff.1 ae).1 cP.pJ;have hb:=xp k b Ia hb;obtain⟨aC,a5⟩:=cP.b9 k cg b ae xw hb;rw[DG k b hb];exact⟨wS (dZ.refl _) dn aC,a5⟩
 ·intro h kU;obtain⟨J,U⟩:=cP.top h kU;refine⟨J,fun k b ae hb=> ?_⟩;have hb:=xp k b (gf ae cP.vD) hb;rw[DG k b hb];exact U k b ae hb
theorem KE{o:dH}{d:Option Tmp}{ts:List Tmp}{back:Nat}{l:List (bB×c0)}{ak:List (au bL)}{fr:aQ}{st:aw}{v:Value}{Q:ee->aQ->aw->Prop}(J:cb aP.call o (fr.only ts) st= .ok v (fr.only ts) st)(U:∀h∈ak.take (back+1),cb aP.call o (fr.only ts) ⟨h,st.aj⟩= .ok v (fr.only ts) ⟨h,st.aj⟩)(hl:back<ak.length)
 (k:W (hI aP.call l ak (fr.put d v) st) Q):W (hI aP.call ((⟨d,o,none⟩,.read back ts)::l) ak fr st) Q:=by
 refine amH (fun h hm=> ?_) hl k;rcases List.mem_cons.1 hm with rfl|hm
 ·exact J
 ·exact U h hm
theorem ph{d:Option Tmp}{o:dH}{ts:List Tmp}{back:Nat}{l:List (bB×c0)}{b9:List bJ}{bR:cf}{bw cJ:Nat}{a:al}(hb:back<bw)
 (h:∀(H:bY) (ids:List Nat) (st:aw) (fr:aQ),dk fr H ids (fg ts bR)->b9.length<=ids.length->(∀(k:Nat) (o:bJ) (b:Nat),b9[k]? =some o->o.live=true->ids[k]? =some b->lR H ids o (st.h.get b))->
  ∃v,den H a ids v∧∀cS:aw,(∀b o,H b=some o->cS.h.get b=some o)->(∀(k:Nat) (o:bJ) (b:Nat),b9[k]? =some o->o.live=true->ids[k]? =some b->cS.h.get b=st.h.get b)->cb aP.call o fr cS= .ok v fr cS)
 (k:R aP K (.d l b9 (gv d a bR) bw cJ) ⟨s.own,s.n,gv d a s.env⟩):R aP K (.d ((⟨d,o,none⟩,.read back ts)::l) b9 bR bw cJ) s:=by
 intro H ids st fr fS ak bC aA af cP;have Aa:dk fr fS ids bR:=⟨af.pl,cP.gq⟩;obtain⟨v,J,U⟩:=h fS ids st (fr.only ts) (Aa.only ts) cP.pJ (fun k o b ae hl hb=>(cP.b9 k o b ae hl hb).1);have gr:=k H ids st (fr.put d v) fS ak bC aA (af.gv d (ux cP.hle _ (dO.refl _) J)) ⟨cP.len,cP.hle,Yl cP.gq d J,cP.pJ,cP.vD,cP.b9,cP.old,cP.top⟩;refine KE (U st (fun b o aau=>aA.le _ _ (cP.hle _ _ aau)) (fun _ _ _ _ _ _=>rfl)) (fun h hm=> ?_) (by rw[cP.len];exact hb) gr;have hm:=List.mem_of_mem_take hm;exact U ⟨h,st.aj⟩ (cP.old h hm) (fun k o b ae hl hb=>(cP.b9 k o b ae hl hb).2 h hm)
theorem X8{d:Option Tmp}{o:dH}{ts:List Tmp}{back:Nat}{l:List (bB×c0)}{b9:List bJ}{bR:cf}{bw cJ:Nat}{a:al}(hb:back<bw)
 (h:∀(H:bY) (ids:List Nat) (fr:aQ),dk fr H ids (fg ts s.env)->∃v,den H a ids v∧∀st,cb aP.call o fr st= .ok v fr st)
 (k:R aP K (.d l b9 (sL d bR) bw cJ) ⟨s.own,s.n,gv d a s.env⟩):R aP K (.d ((⟨d,o,none⟩,.read back ts)::l) b9 bR bw cJ) s:=by
 intro H ids st fr fS ak bC aA af cP;obtain⟨v,J,U⟩:=h H ids (fr.only ts) (af.only ts);have gr:=k H ids st (fr.put d v) fS ak bC aA (af.gv d J) ⟨cP.len,cP.hle,wT cP.gq d v,cP.pJ,cP.vD,cP.b9,cP.old,cP.top⟩;exact KE (U st) (fun h hm=>U _) (by rw[cP.len];exact hb) gr
theorem X7{d:Option Tmp}{o:dH}{ts:List Tmp}{l:List (bB×c0)}{b9:List bJ}{bR:cf}{bw cJ:Nat}{a:al}(hb:0<bw)
 (h:∀(H:bY) (ids:List Nat) (st:aw) (fr:aQ),Fit H ids st s.own s.n->dk fr H ids (fg ts s.env)->∃v,den H a ids v∧∀cS:aw,(∀b o,H b=some o->cS.h.get b=some o)->(∀k b:Nat,k<cJ->ids[k]? =some b->cS.h.get b=st.h.get b)->cb aP.call o fr cS= .ok v fr cS)
 (k:R aP K (.d l b9 (sL d bR) bw cJ) ⟨s.own,s.n,gv d a s.env⟩):R aP K (.d ((⟨d,o,none⟩,.read 0 ts)::l) b9 bR bw cJ) s:=by
 intro H ids st fr fS ak bC aA af cP;obtain⟨v,J,U⟩:=h H ids st (fr.only ts) aA (af.only ts);have gr:=k H ids st (fr.put d v) fS ak bC aA (af.gv d J) ⟨cP.len,cP.hle,wT cP.gq d v,cP.pJ,cP.vD,cP.b9,cP.old,cP.top⟩;refine KE (U st aA.le (fun _ _ _ _=>rfl)) (fun h hm=> ?_) (by rw[cP.len];exact hb) gr;have hl:=cP.len
 match ak,hl,hm with
 |[],hl,_=>simp at hl;omega
 |h0::ak,_,hm=>
  simp at hm;subst hm;obtain⟨aW,a0⟩:=cP.top h rfl;exact U ⟨h,st.aj⟩ aW a0
theorem YC{d:Option Tmp}{o:dH}{c:c0}{l:List (bB×c0)}{b9:List bJ}{bR:cf}{bw cJ:Nat}{g:bl}(h:Hu K d o c l b9 bR bw cJ s.own s.n s.env=some g)(k:g.ok aP):R aP K (.d ((⟨d,o,none⟩,c)::l) b9 bR bw cJ) s:=by
 unfold Hu at h;split at h
 ·obtain⟨a,bZ,cI,J,U⟩:=GW (call:=aP.call) h;obtain⟨ig,ah,aC,a5⟩:=JP J;exact Hk U aC a5 (uv (pI ah) k)
 ·rename_i ts;obtain⟨a,bZ,cI,J,U⟩:=LU (call:=aP.call) (s:=⟨s.own,s.n,fg ts s.env⟩) h;split at J
  ·rename_i hm;exact X4 U hm (uv J k)
  ·cases J
 ·rename_i back ts;split at h<;>try cases h
  rename_i hb;have hb:back<bw:=jk hb;split at h
  ·rename_i oa a2;refine ph hb (fun H ids st fr af hl ao=> ?_) (Ye h k);unfold Mx at a2;split at a2
   ·rename_i aa;cases a2;obtain⟨v,J,U⟩:=GO (call:=aP.call) af aa;exact⟨v,J,fun cS _ _=>U cS⟩
   ·obtain⟨v,J,U⟩:=GK (call:=aP.call) af hl ao a2;refine⟨v,J,fun cS aW a0=>U cS (.inl aW) fun k b ae hb=> ?_⟩;obtain⟨cg,fJ,cy⟩:=ahE a2 ae;exact a0 k cg b fJ cy hb
  ·split at h
   ·rename_i a a2;exact X8 hb (fun H ids fr af=>GO af a2) (uv h k)
   ·split at h<;>try cases h
    split at h<;>try cases h
    rename_i a a2;have key:(∀k,oQ (fg ts s.env) o=some k->k<cJ)->bl.ok aP ⟨K,.d l b9 (sL d bR) bw cJ,⟨s.own,s.n,gv d a s.env⟩⟩->R aP K (.d ((⟨d,o,none⟩,.read 0 ts)::l) b9 bR bw cJ) s:=fun ae k=>by
     refine X7 hb (fun H ids st fr aA af=> ?_) k;obtain⟨v,J,U⟩:=GK (call:=aP.call) af (by rw[aA.len,aA.cQ];exact cd _) (fun k o b ae _ hb=>(aA.own k o b ae hb).1) a2;exact⟨v,J,fun cS aW a0=>U cS (.inl aW) fun k b fJ cX=>a0 k b (ae k fJ) cX⟩
    split at h
    ·rename_i hn;exact key (fun k ae=>by rw[hn]at ae;cases ae) (uv h k)
    ·rename_i bu hn;split at h
     ·rename_i bO;exact key (fun k ae=>by rw[hn]at ae;cases ae;exact jk bO) (uv h k)
     ·cases h
theorem Hq{d:Option Tmp}{o:dH}{t:Tmp}{b:Bool}{c:c0}{l:List (bB×c0)}{b9:List bJ}{bR:cf}{bw cJ:Nat}{g:bl}(aZ:fc (CG c s.env) t=some (.b (!b))∨∃vs,fc (CG c s.env) t=some (.b5 vs))(h:zE K d c l b9 bR bw cJ s.own s.n s.env=some g)(k:g.ok aP):R aP K (.d ((⟨d,o,some (t,b)⟩,c)::l) b9 bR bw cJ) s:=by
 have want:∀{fr:aQ} {H:bY} {ids:List Nat} {e:cf} {y n z:cC},dk fr H ids e->(fc e t=some (.b (!b))∨∃vs,fc e t=some (.b5 vs))->hF fr (some (t,b)) y n z=n:=fun{fr H ids e y n z} af aZ=>by
  rcases aZ with aZ|⟨vs,aZ⟩
  ·exact am0 (af.get _ _ aZ)
  ·obtain⟨ws,aD,_⟩:=af.get _ _ aZ;show ky (fr.tmp t) (fun c=>cond c (cond b y n) (cond b n y)) (o7 (fr.tmp t) (fun _=>n) z)=_;rw[aD];rfl
 unfold zE at h;intro H ids st fr fS ak bC aA af cP;split at h
 ·have k:=uv (pI h) k;have gr:=k H ids st (fr.put d undef) fS (st.h::ak) bC aA (af.gv d ⟨[],rfl,rfl⟩) ⟨by simp[cP.len],cP.hle,wT cP.gq d _,cP.pJ,by rw[aA.len];exact cd _,fun k o b ae hl hb=> ?_,fun h hm=> ?_,fun h hm=> ?_⟩
  ·refine W.of_eq ?_ gr;show hF fr (some (t,b)) _ (hI aP.call l (st.h::ak) (fr.put d undef) st) _=_;exact want af aZ
  ·obtain⟨J,U⟩:=cP.b9 k o b ae hl hb;refine⟨J,fun h hm=> ?_⟩;rcases List.mem_cons.1 hm with rfl|hm
   ·rfl
   ·exact U h hm
  ·rcases List.mem_cons.1 hm with rfl|hm
   ·exact fun b o hb=>aA.le _ _ (cP.hle _ _ hb)
   ·exact cP.old h hm
  ·simp at hm;subst hm;exact⟨aA.le,fun _ _ _ _=>rfl⟩
 ·rename_i cx;have k:=uv h k;have gr:=k H ids st (fr.put d undef) fS ak bC aA (af.gv d ⟨[],rfl,rfl⟩) ⟨cP.len,cP.hle,wT cP.gq d _,cP.pJ,cP.vD,cP.b9,cP.old,cP.top⟩;refine W.of_eq ?_ gr;cases c with
  |fe=>exact absurd rfl cx
  |ba ts=>
   show ng fr.t ts (fun gO=>hF ⟨gO,[],none,false,none⟩ (some (t,b)) _ _ _)=_;rw[qD];exact want (af.only ts) aZ
  |read back ts=>
   show ng fr.t ts (fun gO=>hF ⟨gO,[],none,false,none⟩ (some (t,b)) _ _ _)=_;rw[qD];exact want (af.only ts) aZ
theorem NG{d:Option Tmp}{o:dH}{t:Tmp}{b:Bool}{c:c0}{l:List (bB×c0)}{b9:List bJ}{bR:cf}{bw cJ:Nat}(aZ:fc (CG c s.env) t=some (.b b))(k:R aP K (.d ((⟨d,o,none⟩,c)::l) b9 bR bw cJ) s):R aP K (.d ((⟨d,o,some (t,b)⟩,c)::l) b9 bR bw cJ) s:=by
 intro H ids st fr fS ak bC aA af cP;refine W.of_eq ?_ (k H ids st fr fS ak bC aA af cP);cases c with
 |fe=>
  show hF fr (some (t,b)) _ _ _=hF fr none _ _ _;exact Ll (af.get _ _ aZ)
 |ba ts=>
  show ng fr.t ts (fun gO=>hF ⟨gO,[],none,false,none⟩ (some (t,b)) _ _ _)=ng fr.t ts (fun gO=>hF ⟨gO,[],none,false,none⟩ none _ _ _);rw[qD,qD];exact Ll ((af.only ts).get _ _ aZ)
 |read back ts=>
  show ng fr.t ts (fun gO=>hF ⟨gO,[],none,false,none⟩ (some (t,b)) _ _ _)=ng fr.t ts (fun gO=>hF ⟨gO,[],none,false,none⟩ none _ _ _);rw[qD,qD];exact Ll ((af.only ts).get _ _ aZ)
theorem dk.Ru{H:bY}{ids:List Nat}:∀(ec:List Tmp) {fr:aQ} {e:cf},dk fr H ids e->dk (nY fr ec) H ids (Hs ec e)
 |[],_,_,h=>h
 |d::ec,_,_,h=>dk.Ru ec (h.YB d jf)
theorem ab{g kK:bl}(h:Ge g=some kK)(k:kK.ok aP):g.ok aP:=by
 unfold Ge at h;split at h
 ·cases h;exact fun H ids st fr bC aA af=>amW ⟨H,ids,_,bC,aA,af,k⟩
 ·cases h;exact fun H ids st fr bC aA af=>amR (k H ids st fr bC aA af)
 ·cases h;intro H ids st fr bC aA af;refine amV ((k H ids st fr bC aA af).mono ?_);rintro x aE st' ⟨cc,dA,br,fl,eC,eD,hq⟩;cases x with
  |norm=>exact hq cc dA st' aE fl eC eD
  |exit i=>exact⟨cc,dA,br,fl,eC,eD,hq⟩
  |ret=>exact⟨cc,dA,br,fl,eC,eD,hq⟩
  |bh v=>exact⟨cc,dA,br,fl,eC,eD,hq⟩
 ·cases h;rename_i i a s;intro H ids st fr bC aA af;refine amF ((k H ids st fr bC aA af).mono ?_);rintro x aE st' ⟨cc,dA,br,fl,eC,eD,hq⟩;cases x with
  |norm=>exact⟨cc,dA,br,fl,eC,eD,hq⟩
  |exit j=>
   show(if j=i then _ else _);have hq:(if j=i then _ else _):=hq;split at hq
   ·rw[if_pos (by assumption)];exact⟨cc,dA,br,fl,eC,eD,hq⟩
   ·rw[if_neg (by assumption)];exact⟨cc,dA,br,fl,eC,eD,hq⟩
  |ret=>exact⟨cc,dA,br,fl,eC,eD,hq⟩
  |bh v=>exact⟨cc,dA,br,fl,eC,eD,hq⟩
 ·cases h;exact fun H ids st fr bC aA af=>amK ⟨H,ids,_,bC,aA,af,k⟩
 ·cases h;exact fun H ids st fr bC aA af=>amS ⟨H,ids,_,bC,aA,af,k⟩
 ·cases h;exact fun H ids st fr bC aA af=>amU (k H ids st fr bC aA af)
 ·split at h<;>cases h
  ·rename_i hc;exact fun H ids st fr bC aA af=>amX (af.an hc) rfl (k H ids st fr bC aA af)
  ·rename_i hc;exact fun H ids st fr bC aA af=>amJ (af.an hc) rfl (k H ids st fr bC aA af)
 ·cases h;exact fun H ids st fr bC aA af=>amN ⟨H,ids,_,bC,aA,af,k⟩
 ·rename_i K d o l own n e;obtain⟨a,bZ,cI,J,U⟩:=GW (call:=aP.call) (s:=⟨own,n,e⟩) h;cases J;exact FQ (s:=⟨own,n,e⟩) (d:=some d) U k
 ·rename_i K o l own n e;obtain⟨a,bZ,cI,J,U⟩:=GW (call:=aP.call) (s:=⟨own,n,e⟩) h;cases J;exact FQ (s:=⟨own,n,e⟩) (d:=none) U k
 ·rename_i K d o t b l own n e;have on:∀{b:Bool},fc e t=some (.b b)->R aP K (.o (⟨d,o,none⟩::l)) ⟨own,n,e⟩->R aP K (.o (⟨d,o,some (t,b)⟩::l)) ⟨own,n,e⟩:=fun aZ k H ids st fr bC aA af=>amQ (af.get _ _ aZ) rfl (k H ids st fr bC aA af);have off:∀{b:Bool},fc e t=some (.b (!b))->R aP K (.o l) ⟨own,n,gv d (.b5 []) e⟩->R aP K (.o (⟨d,o,some (t,b)⟩::l)) ⟨own,n,e⟩:=fun aZ k H ids st fr bC aA af=>amO (af.get _ _ aZ) rfl (k H ids st _ bC aA (af.gv d ⟨[],rfl,rfl⟩));split at h
  ·rename_i aZ;cases b
   ·exact off aZ (Jx h k)
   ·cases h;exact on aZ k
  ·rename_i aZ;cases b
   ·cases h;exact on aZ k
   ·exact off aZ (Jx h k)
  ·rename_i aZ;have k:=Jx h k;intro H ids st fr bC aA af;obtain⟨vs,aD,_⟩:=af.get _ _ aZ;exact amP aD (k H ids st _ bC aA (af.gv d ⟨[],rfl,rfl⟩))
  ·cases h
 ·rename_i K l cm ec ms own n e;have h:=NH h;cases h;intro H ids st fr bC aA af;have af:=af.Ru ec;exact amI (k H ids st _ H [st.h] bC aA af ⟨rfl,dZ.refl _,af.get,by rw[aA.len,<-aA.cQ];exact cd _,by rw[aA.len];exact cd _,fun k o b ae hl hb=>⟨(aA.own k o b ae hb).1,fun h hm=>by simp at hm;rw[hm]⟩,fun h hm=>by simp at hm;subst hm;exact aA.le,fun h hm=>by simp at hm;subst hm;exact⟨aA.le,fun _ _ _ _=>rfl⟩⟩)
 ·cases h;exact fun H ids st fr fS ak bC aA af cP=>amG ⟨H,ids,_,bC,aA,af,k⟩
 ·exact YC (s:=⟨_,_,_⟩) h k
 ·split at h
  ·rename_i aZ;split at h
   ·cases h;exact NG (s:=⟨_,_,_⟩) aZ k
   ·exact Hq (s:=⟨_,_,_⟩) (.inl aZ) h k
  ·rename_i aZ;split at h
   ·cases h;exact NG (s:=⟨_,_,_⟩) aZ k
   ·exact Hq (s:=⟨_,_,_⟩) (.inl aZ) h k
  ·rename_i aZ;exact Hq (s:=⟨_,_,_⟩) (.inr ⟨_,aZ⟩) h k
  ·cases h
 ·cases h;exact k
 ·cases h;exact k
 ·cases h;exact k
 ·cases h;exact k
 ·split at h<;>cases h
  ·rename_i hb;show(if _ then _ else _);rw[if_pos (dY hb)];exact k
  ·rename_i hb;show(if _ then _ else _);rw[if_neg (fun e=>by rw[e,Nat.beq_refl]at hb;cases hb)];exact k
 ·cases h;exact k
 ·cases h;exact k
 ·cases h;exact k
 ·cases h
theorem vU{c:Operand}{a b:du}{t:Bool}(hc:bN s.env c=some (.b t))(a2:t=true->bl.ok aP ⟨K,.c a,s⟩)(hb:t=false->bl.ok aP ⟨K,.c b,s⟩):bl.ok aP ⟨K,.c (.cond c a b),s⟩:=fun H ids st fr bC aA af=>
 amL (af.an hc) (fun h=>a2 h H ids st fr bC aA af) (fun h=>hb h H ids st fr bC aA af)
theorem Sf{c:Operand}{a b:du}{t:Bool}(hc:bN s.env c=some (.b t))(aX:t=true)(a2:bl.ok aP ⟨K,.c a,s⟩):bl.ok aP ⟨K,.c (.cond c a b),s⟩:=vU hc (fun _=>a2) (fun h=>by rw[aX]at h;cases h)
theorem ajL{c:Operand}{a b:du}{t:Bool}(hc:bN s.env c=some (.b t))(aX:t=false)(hb:bl.ok aP ⟨K,.c b,s⟩):bl.ok aP ⟨K,.c (.cond c a b),s⟩:=vU hc (fun h=>by rw[aX]at h;cases h) (fun _=>hb)
theorem ajQ{L:Type _}{b:du}(aq:L->di->Prop)(dB:L->Nat)(j2:L)(h0:aq j2 s)(hm:dB j2<aP.a9)(h:∀l br,aq l br->bl.ok aP ⟨.b3 (fun t=>∃l',dB l'<dB l∧aq l' t)::K,.c b,br⟩):bl.ok aP ⟨K,.c (.loop b),s⟩:=by
 intro H ids st fr bC aA af;refine amM (fun m fr st=>∃l H ids s,dB l=m∧aq l s∧eL aP.dc aP.i0 aP.a4 H ids st∧Fit H ids st s.own s.n∧dk fr H ids s.env) (dB j2) hm ⟨j2,H,ids,s,rfl,h0,bC,aA,af⟩ ?_;rintro m fr st ⟨l,H,ids,br,rfl,ag,bC,aA,af⟩;refine(h l br ag H ids st fr bC aA af).mono ?_;rintro x aE st' ⟨cc,dA,br,fl,eC,eD,hq⟩;cases x with
 |norm=>obtain⟨l',J,U⟩:=hq;exact⟨_,J,l',cc,dA,br,rfl,U,fl,eC,eD⟩
 |exit i=>exact⟨cc,dA,br,fl,eC,eD,hq⟩
 |ret=>exact⟨cc,dA,br,fl,eC,eD,hq⟩
 |bh v=>exact⟨cc,dA,br,fl,eC,eD,hq⟩
end
end Go.az
namespace Go.az
open Sym
def pb(f:List Nat):cf->cf->Prop
 |[],_=>True
 |p::l,e=>fc e p.1=some (mN f p.2)∧pb f l e
theorem pb.get{f:List Nat}:∀{l e:cf},pb f l e->∀{j:Nat} {a:al},fc l j=some a->fc e j=some (mN f a)
 |[],_,_,_,_,h=>by cases h
 |p::l,e,ak,j,v,h=>by
  rw[qx]at h;cases hb:Nat.beq p.1 j with
  |true=>rw[hb]at h;cases h;rw[<-dY hb];exact ak.1
  |false=>rw[hb]at h;exact pb.get ak.2 h
def me(f:List Nat):bJ->bJ->Prop
 |.c el cs,o=>o= .c el (pT f cs)
 |.a el aR z α R l,o=>o= .a el aR z α R l∧∀x,jL (R x)=true
 |.x,_=>True
def sw(f:List Nat)(own:List bJ):List Nat->List bJ->Prop
 |[],[]=>True
 |m::ms,o::os=>(∃cg,own[m]? =some cg∧me f o cg)∧sw f own ms os
 |_,_=>False
theorem sw.len{f:List Nat}{own:List bJ}:∀{ms:List Nat} {os:List bJ},sw f own ms os->os.length=ms.length
 |[],[],_=>rfl
 |[],_::_,h=>h.elim
 |_::_,[],h=>h.elim
 |_::ms,_::os,h=>by simp[sw.len h.2]
theorem sw.get{f:List Nat}{own:List bJ}:∀{ms:List Nat} {os:List bJ},sw f own ms os->∀{k:Nat} {o:bJ},os[k]? =some o->∃m cg,ms[k]? =some m∧own[m]? =some cg∧me f o cg
 |[],[],_,_,_,h=>by simp at h
 |[],_::_,h,_,_,_=>h.elim
 |_::_,[],h,_,_,_=>h.elim
 |m::ms,o::os,⟨⟨cg,J,U⟩,ah⟩,0,q,h=>by simp at h;subst h;exact⟨m,cg,rfl,J,U⟩
 |m::ms,o::os,⟨_,ah⟩,k+1,q,h=>sw.get ah (by simpa using h)
def pinned:Nat->List Nat->Nat->Bool
 |0,_,_=>true
 |n+1,m::f,k=>Nat.beq m k&&pinned n f (k+1)
 |_+1,[],_=>false
theorem JU:∀{n:Nat} {f:List Nat} {k:Nat},pinned n f k=true->∀i,i<n->f[i]? =some (k+i)
 |0,_,_,_,i,h=>by omega
 |n+1,[],k,h,_,_=>by cases h
 |n+1,m::f,k,h,i,ag=>by
  have h:(Nat.beq m k&&pinned n f (k+1))=true:=h;rw[b2]at h;cases i with
  |zero=>simp[dY h.1]
  |succ i=>rw[show k+(i+1)=(k+1)+i by omega];simpa using JU h.2 i (by omega)
structure Sub(p:Nat)(f:List Nat)(s t:di):Prop where
 dr:f.Nodup
 n:t.n=f.length
 own:sw f s.own f t.own
 env:pb f t.env s.env
 EV:pinned p f 0=true
section
variable{H:bY}{ids:List Nat}{st:aw}{fr:aQ}{s t:di}{f:List Nat}
theorem Yj{o cg:bJ}{ez:Option bL}(h:me f o cg)(d:lR H ids cg ez):lR H (pick f ids) o ez:=by
 cases o with
 |c el cs=>cases h;obtain⟨vs,e,d⟩:=d;exact⟨vs,e,uz f cs d⟩
 |a el aR z α R l=>
  obtain⟨h,hp⟩:=h;cases h;obtain⟨vs,aG,e2,d⟩:=d;exact⟨vs,aG,e2,fun i x aa=>qa _ (hp x) (d i x aa) _⟩
 |x=>trivial
theorem me.live{o cg:bJ}(h:me f o cg)(hl:o.live=true):cg.live=true:=by
 cases o with
 |c el cs=>cases h;rfl
 |a el aR z α R l=>cases h.1;rfl
 |x=>cases hl
theorem Sub.fit{p:Nat}(h:Sub p f s t)(aA:Fit H ids st s.own s.n):Fit H (pick f ids) st t.own t.n:=by
 have aZ:∀{k m:Nat},f[k]? =some m->(∃o,s.own[m]? =some o)->∃b,ids[m]? =some b∧(pick f ids)[k]? =some b:=fun{k m} ae ⟨o,ao⟩=>by
  have bO:=(List.getElem?_eq_some_iff.1 ao).1;have ag:m<ids.length:=by rw[aA.len,<-aA.cQ];exact bO
  exact⟨_,cA ag,vI ae (cA ag)⟩
 have dV:∀k m:Nat,f[k]? =some m->∃o,s.own[m]? =some o:=fun k m ae=>by
  have hl:=h.own.len;have bO:=(List.getElem?_eq_some_iff.1 ae).1;obtain⟨fL,cg,J,U,_⟩:=h.own.get (cA (show k<t.own.length by omega));rw[ae]at J;cases J;exact⟨cg,U⟩
 have hK:(pick f ids).length=f.length:=by simp[pick]
 refine⟨aA.wf,aA.le,by rw[h.n,h.own.len],by rw[h.n,hK],?_,?_,?_⟩
 ·rw[List.Nodup,List.pairwise_iff_getElem];intro i j ag hj kR;rw[hK]at ag hj;obtain⟨b,J,U⟩:=aZ (cA ag) (dV _ _ (cA ag));obtain⟨c,ah,aC⟩:=aZ (cA hj) (dV _ _ (cA hj));have aG:=(List.getElem?_eq_some_iff.1 U).2;have e2:=(List.getElem?_eq_some_iff.1 aC).2;rw[aG,e2];intro e;subst e;have aW:=List.getElem?_eq_some_iff.1 J;have a0:=List.getElem?_eq_some_iff.1 ah;have:=(List.getElem_inj (h₀:=aW.1) (h₁:=a0.1) aA.dr).1 (aW.2.trans a0.2.symm);have:=(List.getElem_inj (h₀:=ag) (h₁:=hj) h.dr).1 this;omega
 ·intro b hb;obtain⟨k,ae⟩:=List.mem_iff_getElem?.1 hb;have bO:=(List.getElem?_eq_some_iff.1 ae).1;rw[hK]at bO;obtain⟨c,J,U⟩:=aZ (cA bO) (dV _ _ (cA bO));rw[ae]at U;cases U;exact aA.lt _ (List.mem_of_getElem? J)
 ·intro k o b ae hb;obtain⟨m,cg,J,U,ah⟩:=h.own.get ae;obtain⟨c,aC,a5⟩:=aZ J ⟨cg,U⟩;rw[hb]at a5;cases a5;obtain⟨aW,a0⟩:=aA.own m cg b U aC;exact⟨Yj ah aW,fun hl=>a0 (ah.live hl)⟩
theorem Sub.N3{p:Nat}(h:Sub p f s t)(af:dk fr H ids s.env):dk fr H (pick f ids) t.env:=⟨af.pl,fun j a hj=>Nz f a (af.get j _ (h.env.get hj))⟩
theorem Sub.bn{dc:bY}{i0:List Nat}{a4:aw}(h:Sub i0.length f s t)(aA:Fit H ids st s.own s.n)(bC:eL dc i0 a4 H ids st):eL dc i0 a4 H (pick f ids) st:=by
 refine⟨bC.hle,bC.hold,bC.iB,bC.aj,?_,?_⟩
 ·intro k b ae;have bO:=(List.getElem?_eq_some_iff.1 ae).1;have:=JU h.EV k bO;rw[Nat.zero_add]at this;exact vI this (bC.l0 k b ae)
 ·intro b hb;obtain⟨k,ae⟩:=List.mem_iff_getElem?.1 hb;unfold pick at ae;rw[List.getElem?_map]at ae;cases Dz:f[k]? with
  |none=>rw[Dz]at ae;cases ae
  |some m=>
   rw[Dz]at ae;have ae:some ((ids[m]?).getD 0)=some b:=ae;have hl:=h.own.len;have bO:=(List.getElem?_eq_some_iff.1 Dz).1;obtain⟨fL,cg,J,U,_⟩:=h.own.get (cA (show k<t.own.length by omega));rw[Dz]at J;cases J;have ag:m<ids.length:=by rw[aA.len,<-aA.cQ];exact(List.getElem?_eq_some_iff.1 U).1
   rw[cA ag]at ae;cases ae;exact bC.new _ (ew ag)
end
section
variable{aP:hR}{K:List gg}{s t:di}{f:List Nat}
theorem sv.sub{Q y2:ee->di->Prop}{x:ee}{fr:aQ}{st:aw}(hq:∀s,Q x s->∃f t,Sub aP.i0.length f s t∧y2 x t)(h:sv aP Q x fr st):sv aP y2 x fr st:=by
 obtain⟨H,ids,s,bC,aA,af,h⟩:=h;obtain⟨f,t,ak,aL⟩:=hq s h;exact⟨H,_,t,ak.bn aA bC,ak.fit aA,ak.N3 af,aL⟩
theorem KB{c:du}(f:List Nat)(t:di)(h:Sub aP.i0.length f s t)(k:bl.ok aP ⟨K,.c c,t⟩):bl.ok aP ⟨K,.c c,s⟩:=fun H ids st fr bC aA af=>k H _ st fr (h.bn aA bC) (h.fit aA) (h.N3 af)
def tY(p:Nat){L:Type _}(P:L->Prop)(T:L->di)(s:di):Prop:=∃f l,P l∧Sub p f s (T l)
theorem e3{L:Type _}{b:du}(P:L->Prop)(T:L->di)(dB:L->Nat)(f0:List Nat)(j2:L)(iP:P j2)(hm:dB j2<aP.a9)(h0:Sub aP.i0.length f0 s (T j2))
 (h:∀l,P l->bl.ok aP ⟨.b3 (tY aP.i0.length (fun l'=>dB l'<dB l∧P l') T)::K,.c b,T l⟩):bl.ok aP ⟨K,.c (.loop b),s⟩:=
 ajQ (fun l s=>P l∧∃f,Sub aP.i0.length f s (T l)) dB j2 ⟨iP,f0,h0⟩ hm fun l br ⟨hp,f,ak⟩=>KB f _ ak (by
  refine fun H ids st fr bC aA af=>(h l hp H ids st fr bC aA af).mono ?_;rintro x aE st' ⟨cc,dA,br,fl,eC,eD,hq⟩;refine⟨cc,dA,br,fl,eC,eD,?_⟩;cases x with
  |norm=>obtain⟨nC,l',⟨J,U⟩,ah⟩:=hq;exact⟨l',J,U,nC,ah⟩
  |exit i=>exact hq
  |ret=>exact hq
  |bh v=>exact hq)
theorem b0{L:Type _}{P:L->Prop}{T:L->di}{p:Nat}(f:List Nat)(l:L)(iP:P l)(h:Sub p f s (T l)):bl.ok aP ⟨.b3 (tY p P T)::K,.x .norm,s⟩:=⟨f,l,iP,h⟩
theorem a1{e:ee}(h:aP.Q e s):bl.ok aP ⟨[],.x e,s⟩:=h
theorem nP{fr:aQ}{H:bY}{ids:List Nat}{e:cf}{t:Nat}{a b:al}(h:fc e t=some a)(hn:∀H ids v,den H a ids v->den H b ids v)(af:dk fr H ids e):dk fr H ids ((t,b)::e):=⟨af.pl,fun j c hj=>by
 rw[qx]at hj;cases hb:Nat.beq t j with
 |true=>rw[hb]at hj;cases hj;rw[<-dY hb];exact hn _ _ _ (af.get t _ h)
 |false=>rw[hb]at hj;exact af.get j c hj⟩
def bc.Px:bc->Bool
 |.x _=>true
 |_=>false
theorem aH(t:Nat){a:al}(b:al){own:List bJ}{a3:Nat}{e:cf}{c:bc}(h:fc e t=some a)(hW:a=b)(cH:bl.ok aP ⟨K,c,⟨own,a3,(t,b)::e⟩⟩)(hc:c.Px=false:=by rfl):bl.ok aP ⟨K,c,⟨own,a3,e⟩⟩:=by
 subst hW;cases c with
 |c c=>exact fun H ids st fr bC aA aL=>cH H ids st fr bC aA (nP h (fun _ _ _ d=>d) aL)
 |o l=>exact fun H ids st fr bC aA aL=>cH H ids st fr bC aA (nP h (fun _ _ _ d=>d) aL)
 |x e=>cases hc
 |d l b9 bR bw cJ=>exact fun H ids st fr fS ak bC aA aL cP=>cH H ids st fr fS ak bC aA (nP h (fun _ _ _ d=>d) aL) cP
theorem Kz(t:Nat){a:al}(b:al){own:List bJ}{a3:Nat}{e:cf}{c:bc}(h:fc e t=some a)(hW:c5 a b)(cH:bl.ok aP ⟨K,c,⟨own,a3,(t,b)::e⟩⟩)(hc:c.Px=false:=by rfl):bl.ok aP ⟨K,c,⟨own,a3,e⟩⟩:=by
 cases c with
 |c c=>exact fun H ids st fr bC aA aL=>cH H ids st fr bC aA (nP h hW aL)
 |o l=>exact fun H ids st fr bC aA aL=>cH H ids st fr bC aA (nP h hW aL)
 |x e=>cases hc
 |d l b9 bR bw cJ=>exact fun H ids st fr fS ak bC aA aL cP=>cH H ids st fr fS ak bC aA (nP h hW aL) cP
theorem eg(t:Nat){a:al}(b:al){own b9:List bJ}{a3 bw cJ:Nat}{e bR:cf}{l:List (bB×c0)}(h:fc e t=some a)(h0:fc bR t=some a)(hW:a=b)(cH:bl.ok aP ⟨K,.d l b9 ((t,b)::bR) bw cJ,⟨own,a3,(t,b)::e⟩⟩):bl.ok aP ⟨K,.d l b9 bR bw cJ,⟨own,a3,e⟩⟩:=by
 subst hW;exact fun H ids st fr fS ak bC aA aL cP=>cH H ids st fr fS ak bC aA (nP h (fun _ _ _ d=>d) aL) ⟨cP.len,cP.hle,(nP (fr:=fr) h0 (fun _ _ _ d=>d) ⟨aL.pl,cP.gq⟩).get,cP.pJ,cP.vD,cP.b9,cP.old,cP.top⟩
theorem dF{own:List bJ}{n p:Nat}{e cj:cf}(h:pb [] cj e)(hp:pinned p [] 0=true:=by rfl):Sub p [] ⟨own,n,e⟩ ⟨[],0,cj⟩:=⟨List.nodup_nil,rfl,trivial,h,hp⟩
end
section
variable{aP:hR}{K:List gg}{own bZ:List bJ}{a3 cI:Nat}{e:cf}
theorem gH{d:Tmp}{o:dH}{l:List bB}{a:al}(h:fT aP.call o ⟨own,a3,e⟩ a bZ cI)(k:bl.ok aP ⟨K,.o l,⟨bZ,cI,(d,a)::e⟩⟩):bl.ok aP ⟨K,.o (⟨some d,o,none⟩::l),⟨own,a3,e⟩⟩:=FQ (d:=some d) h k
theorem ajR{o:dH}{l:List bB}{a:al}(h:fT aP.call o ⟨own,a3,e⟩ a bZ cI)(k:bl.ok aP ⟨K,.o l,⟨bZ,cI,e⟩⟩):bl.ok aP ⟨K,.o (⟨none,o,none⟩::l),⟨own,a3,e⟩⟩:=FQ (d:=none) h k
end
section
variable{call:bP}{s:di}{x y i:Operand}{a b:al}
theorem j6{o:dH}(h:∀H ids st fr,Fit H ids st s.own s.n->dk fr H ids s.env->∃v,den H a ids v∧cb call o fr st= .ok v fr st):fT call o s a s.own s.n:=fun H ids st fr aA af=>
 let⟨v,J,U⟩:=h H ids st fr aA af
 ⟨v,st,ids,H,U,aA,J,dZ.refl _,dO.refl _,fun _ _ _ B=>B,cd _,fun _ _ _=>rfl⟩
theorem Po{k z o n c j:Nat}{cH:IntKind}(aa:bN s.env x=some (.bH k z o n c))(ag:bN s.env i=some (.i cH (j:Int)))(hj:j<n):fT call (.lZ z x i) s (.gG k z (o+j) 0) s.own s.n:=j6 fun H ids st fr aA af=>by
 obtain⟨b,J,U⟩:=af.an aa;have ah:fr.an i= .int cH (j:Int):=af.an ag;exact⟨_,⟨b,J,by rw[Nat.add_mul,Nat.add_zero]⟩,ED U ah hj⟩
theorem IL{z j:Nat}{α:Type}{R:α->List al}{l:List α}{q:α}{cH:IntKind}(aa:bN s.env x=some (.gE z α R l))(ag:bN s.env i=some (.i cH (j:Int)))(hj:l[j]? =some q):fT call (.lZ z x i) s (.ip (R q)) s.own s.n:=j6 fun H ids st fr aA af=>by
 have ah:fr.an i= .int cH (j:Int):=af.an ag;have bO:=(List.getElem?_eq_some_iff.1 hj).1;rcases af.an aa with⟨hl,_⟩|⟨b,o,c,vs,el,bt,aR,J,U,aC,a5⟩
 ·subst hl;simp at bO
 ·refine⟨_,⟨b,o+j*z,vs,el,bt,aR,rfl,aC,?_⟩,ED J ah bO⟩;have ax:=a5 j q hj;have hl:=hH ax;rw[<-hl];rw[show(vs.drop (o+j*z)).take ((vs.drop (o+j*z)).take z).length=(vs.drop (o+j*z)).take z by rw[List.length_take,<-List.take_eq_take_min]];exact ax
theorem pg{H:bY}{ids:List Nat}{st:aw}{k:Nat}{el:TypeId}{aR:Bool}{z:Nat}{α:Type}{R:α->List al}{l:List α}(aA:Fit H ids st s.own s.n)(ae:s.own[k]? =some (.a el aR z α R l)){b:Nat}(hb:ids[k]? =some b):∃vs,st.h.get b=some (.cells vs el (0,0) aR)∧vs.length=l.length*z∧∀i x,l[i]? =some x->ei H (R x) ids ((vs.drop (i*z)).take z):=(aA.own k _ b ae hb).1
theorem ahD{k z j q:Nat}{el:TypeId}{aR:Bool}{α:Type}{R:α->List al}{l:List α}{w:α}(aa:bN s.env x=some (.gG k z j q))(ae:s.own[k]? =some (.a el aR z α R l))(hj:l[j]? =some w)(hq:(R w)[q]? =some a):fT call (.l1 x) s a s.own s.n:=j6 fun H ids st fr aA af=>by
 obtain⟨b,J,U⟩:=af.an aa;obtain⟨vs,ah,aC,a5⟩:=pg aA ae J;obtain⟨v,aD,ax⟩:=sI (a5 j w hj) hq;refine⟨v,ax,xL U ah ?_⟩;rw[List.getElem?_take]at aD;split at aD
 ·rw[List.getElem?_drop]at aD;exact aD
 ·cases aD
theorem V7{H:bY}{ids:List Nat}{a:al}{ds:List al}{v:Value}(h:sF a=some ds)(hc:p8 ds=true)(d:den H a ids v):ei H ds ids (hT v)∧gS (hT v)=true:=by
 obtain⟨_,d2⟩:=CB h d;exact⟨d2,zs hc d2⟩
theorem V9{z j q:Nat}{vs ws:List Value}(i:Nat)(aD:(j+1)*z<=vs.length)(hq:q+ws.length<=z):
 ((vs.take (j*z+q)++(ws++vs.drop (j*z+q+ws.length))).drop (i*z)).take z=if i=j then((vs.drop (j*z)).take z).take q++(ws++((vs.drop (j*z)).take z).drop (q+ws.length))else(vs.drop (i*z)).take z:=by
 rw[Nat.add_mul,Nat.one_mul]at aD;apply List.ext_getElem?;intro p;rw[List.getElem?_take,List.getElem?_drop];by_cases hp:p<z
 ·rw[if_pos hp];have get:∀m,(vs.take (j*z+q)++(ws++vs.drop (j*z+q+ws.length)))[m]? =if m<j*z+q then vs[m]? else if m<j*z+q+ws.length then ws[m-(j*z+q)]? else vs[m]? :=by
   intro m;by_cases J:m<j*z+q
   ·rw[if_pos J,List.getElem?_append_left (by simp;omega),List.getElem?_take,if_pos J]
   ·rw[if_neg J,List.getElem?_append_right (by simp;omega),List.length_take,Nat.min_eq_left (by omega)];by_cases U:m<j*z+q+ws.length
    ·rw[if_pos U,List.getElem?_append_left (by omega)]
    ·rw[if_neg U,List.getElem?_append_right (by omega),List.getElem?_drop];congr 1;omega
  rw[get];by_cases kR:i=j
  ·subst kR;rw[if_pos rfl];by_cases J:p<q
   ·rw[if_pos (by omega),List.getElem?_append_left (by simp;omega),List.getElem?_take,if_pos J,List.getElem?_take,if_pos hp,List.getElem?_drop]
   ·rw[if_neg (by omega),List.getElem?_append_right (by simp;omega)];have e:(((vs.drop (i*z)).take z).take q).length=q:=by simp;omega
    rw[e];by_cases U:p<q+ws.length
    ·rw[if_pos (by omega),List.getElem?_append_left (by omega)];congr 1;omega
    ·rw[if_neg (by omega),List.getElem?_append_right (by omega),List.getElem?_drop,List.getElem?_take,if_pos (by omega),List.getElem?_drop];congr 1;omega
  ·rw[if_neg kR,List.getElem?_take,if_pos hp,List.getElem?_drop];have:i*z+p<j*z∨j*z+z<=i*z+p:=by
    rcases Nat.lt_or_gt_of_ne kR with h|h
    ·left;have:(i+1)*z<=j*z:=g5 z h;rw[Nat.add_mul,Nat.one_mul]at this;omega
    ·right;have:(j+1)*z<=i*z:=g5 z h;rw[Nat.add_mul,Nat.one_mul]at this;omega
   rcases this with h|h
   ·rw[if_pos (by omega)]
   ·rw[if_neg (by omega),if_neg (by omega)]
 ·rw[if_neg hp]
  symm
  rw[List.getElem?_eq_none_iff];split
  ·simp;omega
  ·simp;omega
theorem al4{k z j q m:Nat}{el:TypeId}{aR:Bool}{α:Type}{R:α->List al}{l:List α}{w:α}(w':α){ds:List al}(aa:bN s.env x=some (.gG k z j q))(aJ:bN s.env y=some a)(hc:sF a=some ds)(hl:ds.length=m)(ej:p8 ds=true)
 (ae:s.own[k]? =some (.a el aR z α R l)) (hj:l[j]? =some w) (c9:R w'=(R w).take q++(ds++(R w).drop (q+ds.length))) (a8:q+m<=z):
 fT call (.store m x y) s (.b5 []) (s.own.set k (.a el aR z α R (l.set j w'))) s.n:=fun H ids st fr aA af=>by
 obtain⟨b,J,U⟩:=af.an aa;obtain⟨vs,ah,aC,a5⟩:=pg aA ae J;obtain⟨d2,bM⟩:=V7 hc ej (af.an aJ);have pv:=hH d2;have bO:=(List.getElem?_eq_some_iff.1 hj).1;have Pf:(j+1)*z<=vs.length:=by rw[aC];exact g5 z bO
 have ab2:=Pf;rw[Nat.add_mul,Nat.one_mul]at ab2;refine⟨undef,⟨st.h.set b (.cells (vs.take (j*z+q)++(hT (fr.an y)++vs.drop (j*z+q+(hT (fr.an y)).length))) el (0,0) aR),st.aj⟩,ids,H,?_,aA.dQ ae rfl J ⟨_,rfl,?_,?_⟩,⟨[],rfl,rfl⟩,dZ.refl _,dO.refl _,fun _ _ _ B=>B.dQ (List.mem_of_getElem? J) _,cd _,?_⟩
 ·have:cb call (.store m x y) fr st=hP (fr.an x) (fun p=>bo p (fun a=>ea (ef (hT (fr.an y))) m (cond (gS (hT (fr.an y))) (st.store a (hT (fr.an y)) (fun st=>aY.ok undef fr st) .no) .no) .no) .no) .no:=rfl;rw[this,U,pZ,Sym.eU,fx,jE (by omega),bM,cond_true];unfold aw.store aw.gI;rw[Sym.h3,ah,kG,gj (cd _),pM,if_pos (by show j*z+q+_<=_;omega),jy]
 ·simp only[List.length_append,List.length_take,List.length_drop,List.length_set];rw[<-aC];omega
 ·intro i p hp;rw[V9 i Pf (by omega)];rw[List.getElem?_set]at hp;by_cases kR:j=i
  ·subst kR;rw[if_pos rfl,if_pos bO]at hp;cases hp;rw[if_pos rfl,c9];exact Hl q (a5 j w hj) d2
  ·rw[if_neg kR]at hp;rw[if_neg (Ne.symm kR)];exact a5 i p hp
 ·intro fF _ cx;exact au.ht _ _ (fun e=>cx k (by simp[j3,aa]) (e▸J))
theorem Th{k j:Nat}{el:TypeId}{aR:Bool}{α:Type}{R:α->List al}{l:List α}(w':α)(aa:bN s.env x=some (.gG k 1 j 0))(aJ:bN s.env y=some a)(ae:s.own[k]? =some (.a el aR 1 α R l))(c9:R w'=[a])(hj:j<l.length)(hc:q5 a=true)(J:∀w,(R w).length=1):
 fT call (.store 1 x y) s (.b5 []) (s.own.set k (.a el aR 1 α R (l.set j w'))) s.n:=by
 refine al4 (w:=l[j]) w' aa aJ (ds:=[a]) ?_ rfl ?_ ae (cA hj) ?_ (by decide)
 ·cases a<;>first|rfl|cases hc|(show(match q5 _ with|true=>_|false=>_)=_;rw[hc])
 ·show(q5 a&&true)=true;rw[hc];rfl
 ·rw[c9];have:=J l[j];rw[show(R l[j]).drop (0+[a].length)=[] by apply List.drop_of_length_le;simp;omega];rfl
end
set_option maxRecDepth 10000
section
variable{call:bP}{s:di}{x y i:Operand}{a b:al}
def iH(H:bY)(ids:List Nat){α:Type}(R:α->List al)(z:Nat)(l:List α)(vs:List Value):Prop:=vs.length=l.length*z∧∀i x,l[i]? =some x->ei H (R x) ids ((vs.drop (i*z)).take z)
theorem zt(H:bY)(ids:List Nat){α:Type}(R:α->List al)(z:Nat):iH H ids R z [] []:=⟨by simp,fun i x h=>by simp at h⟩
theorem q6{H:bY}{ids:List Nat}{α:Type}{R:α->List al}{z:Nat}{l m:List α}{vs ws:List Value}(h:iH H ids R z l vs)(aL:iH H ids R z m ws):iH H ids R z (l++m) (vs++ws):=by
 refine⟨by rw[List.length_append,List.length_append,h.1,aL.1,Nat.add_mul],fun i x aa=> ?_⟩;by_cases ag:i<l.length
 ·rw[List.getElem?_append_left ag]at aa;have J:=h.2 i x aa;have hle:(i+1)*z<=vs.length:=by rw[h.1];exact g5 z ag
  rw[Nat.add_mul,Nat.one_mul]at hle;rw[List.drop_append_of_le_length (by omega),List.take_append_of_le_length (by simp;omega)];exact J
 ·rw[List.getElem?_append_right (by omega)]at aa;have J:=aL.2 _ x aa;have e:i*z=vs.length+(i-l.length)*z:=by rw[h.1,<-Nat.add_mul];congr 1;omega
  rw[e,<-List.drop_drop,List.drop_left];exact J
theorem CE{H:bY}{ids:List Nat}{α:Type}{R:α->List al}{z:Nat}{l:List α}{vs:List Value}(h:iH H ids R z l vs)(n:Nat)(hn:n<=l.length):iH H ids R z (l.take n) (vs.take (n*z)):=by
 have As:n*z<=l.length*z:=g5 z hn;refine⟨by rw[List.length_take,List.length_take,h.1,Nat.min_eq_left As,Nat.min_eq_left hn],fun i x aa=> ?_⟩;rw[List.getElem?_take]at aa;split at aa
 ·rename_i ag;have hle:(i+1)*z<=n*z:=g5 z ag;rw[Nat.add_mul,Nat.one_mul]at hle;rw[List.drop_take,List.take_take,Nat.min_eq_left (by omega)];exact h.2 i x aa
 ·cases aa
theorem wJ{H:bY}{ids:List Nat}{α:Type}{R:α->List al}{z:Nat}{l:List α}{vs:List Value}(h:iH H ids R z l vs)(n:Nat):iH H ids R z (l.drop n) (vs.drop (n*z)):=by
 refine⟨by rw[List.length_drop,List.length_drop,h.1,Nat.sub_mul],fun i x aa=> ?_⟩;rw[List.getElem?_drop]at aa;rw[List.drop_drop,<-Nat.add_mul];exact h.2 _ x aa
theorem CD{H:bY}{ids:List Nat}{α:Type}{R:α->List al}{z:Nat}{w:α}{vs:List Value}(h:ei H (R w) ids vs)(a8:(R w).length=z):iH H ids R z [w] vs:=by
 have hl:=hH h;refine⟨by simp;omega,fun i x aa=> ?_⟩;cases i with
 |zero=>simp at aa;subst aa;rw[Nat.zero_mul,List.drop_zero,List.take_of_length_le (by omega)];exact h
 |succ i=>simp at aa
theorem M9{H:bY}{ids:List Nat}{α:Type}{R:α->List al}{w:α}{hQ:List Value}(h:ei H (R w) ids hQ):∀n,iH H ids R hQ.length (List.replicate n w) (ml hQ n)
 |0=>zt _ _ _ _
 |n+1=>by
  have e:ml hQ (n+1)=hQ++ml hQ n:=by show gL hQ (ml hQ n)=_;rw[pf]
  rw[e,List.replicate_succ,<-List.singleton_append];exact q6 (CD h (by rw[hH h])) (M9 h n)
theorem Hf{H:bY}{ids:List Nat}{α:Type}{R:α->List al}{z:Nat}(a8:∀w,(R w).length=z):∀{l:List α} {vs:List Value},ei H (l.flatMap R) ids vs->iH H ids R z l vs
 |[],vs,d=>by cases d;exact zt _ _ _ _
 |w::l,vs,d=>by
  rw[List.flatMap_cons]at d;have J:=sJ z d;have U:=nx z d;rw[List.take_left' (a8 w)]at J;rw[List.drop_left' (a8 w)]at U;rw[<-List.take_append_drop z vs];exact q6 (l:=[w]) (CD J (a8 w)) (Hf a8 U)
theorem mk{el:TypeId}{dw z n c:Nat}{hQ:List Value}{k k':IntKind}{α:Type}(R:α->List al)(w:α)(aa:bN s.env x=some (.i k (n:Int)))(aJ:bN s.env y=some (.i k' (c:Int)))(a8:hQ.length=z)(c9:x5 hQ=R w)(hn:n<=c)(hc:c*(dw+1)<=1099511627776):
 fT call (.tj el dw hQ x y) s (.bH s.n z 0 n c) (s.own++[.a el false z α R (List.replicate c w)]) (s.n+1):=fun H ids st fr aA af=>by
 have J:fr.an x= .int k (n:Int):=af.an aa;have U:fr.an y= .int k' (c:Int):=af.an aJ;subst a8;have ax:=uy H (ids++[st.aj]) hQ;rw[c9]at ax;have iw:=M9 ax c;refine⟨_,_,_,H,?_,aA.add (ez:=.cells (ml hQ c) el (0,0) false) ⟨_,rfl,iw.1,iw.2⟩,⟨st.aj,by rw[<-aA.len,List.getElem?_append_right (cd _)];simp,rfl⟩,dZ.refl _,dO.app _ _,fun _ _ _ B=>B.add _,Nat.le_succ _,fun b hb _=>ya hb⟩;show tv el dw hQ x y call fr st=_;unfold tv;rw[J,U,mb,mb,nU,nU,gj hn,gj (show Nat.mul c (Nat.succ dw)<=2^40 from hc),gF,Nat.zero_mul]
def pa(s:di)(x:Operand){α:Type}(R:α->List al)(z:Nat)(l:List α):Prop:=∀(H:bY) (ids:List Nat) (st:aw) (fr:aQ),Fit H ids st s.own s.n->dk fr H ids s.env->
 (l=[]∧∃c,fr.an x= .slice none 0 c)∨∃b o c vs el bt aR,fr.an x= .slice (some ⟨b,o,none⟩) l.length c∧st.h.get b=some (.cells vs el bt aR)∧l.length*z<=(vs.drop o).length∧iH H ids R z l ((vs.drop o).take (l.length*z))∧gS ((vs.drop o).take (l.length*z))=true
theorem LY:∀(vs:List Value) (n:Nat),gS vs=true->gS (vs.take n)=true
 |[],n,_=>by simp[gS]
 |v::vs,0,_=>rfl
 |v::vs,n+1,h=>by
  have h:cond (lQ v) (gS vs) false=true:=h;show cond (lQ v) (gS (vs.take n)) false=true;cases aD:lQ v with
  |false=>rw[aD]at h;cases h
  |true=>rw[aD]at h;exact LY vs n h
theorem LX:∀(vs ws:List Value),gS vs=true->gS ws=true->gS (vs++ws)=true
 |[],ws,_,h=>h
 |v::vs,ws,h,aL=>by
  have h:cond (lQ v) (gS vs) false=true:=h;show cond (lQ v) (gS (vs++ws)) false=true;cases aD:lQ v with
  |false=>rw[aD]at h;cases h
  |true=>rw[aD]at h;exact LX vs ws h aL
theorem alO{k z o n c:Nat}{el:TypeId}{cs:List al}{α:Type}{R:α->List al}(l:List α)(aa:bN s.env x=some (.bH k z o l.length c))(ao:o=0)(ae:s.own[k]? =some (.c el cs))(ej:cs=l.flatMap R)(a8:∀w,(R w).length=z)(hc:p8 cs=true)(hn:l.length=n):pa s x R z l:=by
 intro H ids st fr aA af;subst ao;obtain⟨b,J,U⟩:=af.an aa;obtain⟨⟨vs,ah,d⟩,_⟩:=aA.own k _ b ae J;rw[ej]at d;have iw:=Hf a8 d;have bM:=zs (ej▸hc) d;rw[Nat.zero_mul]at U;refine .inr ⟨b,0,c,vs,el,_,_,U,ah,by simp[iw.1],?_,LY _ _ (by simpa using bM)⟩;rw[List.drop_zero,List.take_of_length_le (by rw[iw.1];exact cd _)];exact iw
theorem acr{H:bY}{α:Type}{R:α->List al}{z:Nat}(a8:∀w,(R w).length=z){vs:List Value}{o:Nat}:∀{l:List α},(∀i x,l[i]? =some x->ei H (R x) [] ((vs.drop (o+i*z)).take z))->∀n,n<=l.length->n*z<=(vs.drop o).length∧iH H [] R z (l.take n) ((vs.drop o).take (n*z)):=by
 intro l h n
 induction n with
 |zero=>intro _;exact⟨by simp,by simpa using zt _ _ _ _⟩
 |succ n bb=>
  intro hn;obtain⟨J,U⟩:=bb (by omega);have aZ:l[n]? =some l[n]:=cA (by omega);have ah:=h n _ aZ;have hl:=hH ah;rw[a8,List.length_take]at hl;rw[<-List.drop_drop,List.length_drop]at hl;have hle:(n+1)*z<=(vs.drop o).length:=by
   rw[Nat.add_mul,Nat.one_mul];rcases Nat.eq_zero_or_pos z with h0|h0
   ·subst h0;simp
   ·omega
  refine⟨hle,?_⟩;rw[List.take_succ_eq_append_getElem (by omega)];have e:(vs.drop o).take ((n+1)*z)=(vs.drop o).take (n*z)++(vs.drop (o+n*z)).take z:=by
   rw[Nat.add_mul,Nat.one_mul,List.take_add,List.drop_drop]
  rw[e];exact q6 U (CD ah (a8 _))
theorem CC{H cc:bY}{i j:List Nat}(hh:dZ H cc)(ag:dO i j){α:Type}{R:α->List al}{z:Nat}{l:List α}{vs:List Value}(h:iH H i R z l vs):iH cc j R z l vs:=⟨h.1,fun k x aa=>mn hh _ ag (h.2 k x aa)⟩
theorem Na{H:bY}{ids:List Nat}{α:Type}{R:α->List al}{z:Nat}(a8:∀w,(R w).length=z)(hc:∀w,p8 (R w)=true):∀{l:List α} {vs:List Value},iH H ids R z l vs->gS vs=true
 |[],vs,h=>by
  have:vs=[]:=List.eq_nil_of_length_eq_zero (by rw[h.1];simp);subst this;rfl
 |w::l,vs,h=>by
  rw[<-List.take_append_drop z vs];have J:=h.2 0 w (by simp);rw[Nat.zero_mul,List.drop_zero]at J;have U:=wJ h 1;rw[Nat.one_mul]at U;exact LX _ _ (zs (hc w) J) (Na a8 hc (l:=l) U)
theorem K0{z:Nat}{α:Type}{R:α->List al}{l:List α}(aa:bN s.env x=some (.gE z α R l))(a8:∀w,(R w).length=z)(hc:∀w,p8 (R w)=true):pa s x R z l:=by
 intro H ids st fr aA af;rcases af.an aa with⟨hl,J⟩|⟨b,o,c,vs,el,bt,aR,J,U,aC,a5⟩
 ·exact .inl ⟨hl,0,J⟩
 ·obtain⟨aW,a0⟩:=acr a8 a5 l.length (cd _);rw[List.take_length]at a0;exact .inr ⟨b,o,c,vs,el,bt,aR,J,aA.le _ _ aC,aW,CC (dZ.refl _) (dO.nil _) a0,Na a8 hc a0⟩
def uc(call:bP)(el:TypeId)(dw:Nat)(s:di)(y:Operand){α:Type}(R:α->List al)(z:Nat)(l:List α):Prop:=∀(H:bY) (ids:List Nat) (st:aw) (fr:aQ),Fit H ids st s.own s.n->dk fr H ids s.env->∀(x:Operand) (p:Option Addr) (n c:Nat),fr.an x= .slice p n c->
 ∃new,iH H ids R z l new∧gS new=true∧cb call (.app el z dw x y) fr st=ki fr st el z dw p n c l.length new
theorem za{bj dw:Nat}{el:TypeId}{α:Type}{R:α->List al}{l:List α}(ak:pa s y R bj l):uc call el dw s y R bj l:=fun H ids st fr aA af x p n c aa=>by
 have e:cb call (.app el bj dw x y) fr st=jh (fr.an x) (fun base len cap=>jh (fr.an y) (fun b n _=>bo b (fun b=>st.load b (Nat.mul n bj) (fun new=>cond (gS new) (ki fr st el bj dw base len cap n new) .no) .no) (ea n 0 (ki fr st el bj dw base len cap 0 []) .no)) (ik (fr.an y) (fun s=>ea bj 1 (ki fr st el bj dw base len cap (ef s.data.toList) (kx s.data.toList)) .no) .no)) .no:=rfl;rw[e,aa,o6];rcases ak H ids st fr aA af with⟨rfl,bE,J⟩|⟨b,o,bE,vs,YQ,bt,aR,J,U,ah,aC,a5⟩
 ·refine⟨[],zt _ _ _ _,rfl,?_⟩;rw[J,o6,Sym.h3,jE rfl];rfl
 ·refine⟨_,aC,a5,?_⟩;rw[J,o6,Sym.eU];show st.load ⟨b,o,none⟩ (l.length*bj) _ _=_;unfold aw.load aw.gI;rw[Sym.h3,U,kG,q8 ah,a5];rfl
theorem L2{bj dw:Nat}{el:TypeId}{α:Type}{R:α->List al}{l:List α}(aa:bN s.env x=some .nl)(ak:uc call el dw s y R bj l)(h0:l≠[])(hb:(2*l.length+768)*(dw+1)<=1099511627776):
 fT call (.app el bj dw x y) s (.bH s.n bj 0 l.length l.length) (s.own++[.a el true bj α R l]) (s.n+1):=fun H ids st fr aA af=>by
 obtain⟨new,J,U,ah⟩:=ak H ids st fr aA af x _ _ _ (show fr.an x= .slice none 0 0 from af.an aa);have jY:=CC (dZ.refl H) (dO.app ids [st.aj]) J;have hl:0<l.length:=List.length_pos_iff.2 h0;refine⟨_,_,_,H,?_,aA.add (ez:=.cells new el (0,0) true) ⟨_,rfl,jY.1,jY.2⟩,⟨st.aj,by rw[<-aA.len,List.getElem?_append_right (cd _)];simp,rfl⟩,dZ.refl _,dO.app _ _,fun _ _ _ B=>B.add _,Nat.le_succ _,fun b hb _=>ya hb⟩;rw[ah];unfold ki;simp only[Nat.add_eq,Nat.mul_eq,Nat.zero_add];rw[gj (show(2*l.length+768)*Nat.succ dw<=2^40 from hb),Sym.h3,jE rfl,jE rfl,ri (by omega),gF,Nat.zero_mul]
theorem L1{bj dw k n c:Nat}{el:TypeId}{α:Type}{R:α->List al}{l m:List α}(aa:bN s.env x=some (.bH k bj 0 n c))(ae:s.own[k]? =some (.a el true bj α R l))(ak:uc call el dw s y R bj m)(h0:m≠[])(hn:n<=l.length)(ko:n<=c)(hc:c<=l.length)(hb:(2*(n+m.length)+768)*(dw+1)<=1099511627776):
 fT call (.app el bj dw x y) s (.bH s.n bj 0 (n+m.length) (n+m.length)) (s.own.set k .x++[.a el true bj α R (l.take n++m)]) (s.n+1):=fun H ids st fr aA af=>by
 obtain⟨b,aW,a0⟩:=af.an aa;obtain⟨vs,bx,cK,dn⟩:=pg aA ae aW;obtain⟨new,J,U,ah⟩:=ak H ids st fr aA af x _ _ _ a0;have hl:0<m.length:=List.length_pos_iff.2 h0;have ox:Fit H ids ⟨st.h.set b .dead,st.aj⟩ (s.own.set k .x) s.n:=aA.dQ ae rfl aW trivial;have iw:=q6 (CE ⟨cK,dn⟩ n hn) J;have jY:=CC (dZ.refl H) (dO.app ids [st.aj]) iw;have Dw:c*bj<=l.length*bj:=g5 bj hc;have As:n*bj<=l.length*bj:=g5 bj hn;have anC:b<st.aj:=aA.lt b (List.mem_of_getElem? aW);refine⟨.slice (some ⟨st.aj,0,none⟩) (n+m.length) (n+m.length),_,_,H,?_,ox.add (ez:=.cells (vs.take (n*bj)++new) el (0,0) true) ⟨_,rfl,jY.1,jY.2⟩,⟨st.aj,by rw[<-aA.len,List.getElem?_append_right (cd _)];simp,by rw[Nat.zero_mul]⟩,dZ.refl _,dO.app _ _,fun _ _ _ B=>(B.dQ (List.mem_of_getElem? aW) .dead).add _,Nat.le_succ _,?_⟩
 ·rw[ah];unfold ki aw.gI;simp only[Nat.add_eq,Nat.mul_eq,Sym.eU,Sym.h3,bx,kG,Nat.zero_mul];rw[gj (show(2*(n+m.length)+768)*Nat.succ dw<=2^40 from hb),gj (cd _),gj ko,gj (by rw[fx,cK];show 0+c*bj<=_;omega),jE rfl,ri (by omega),cond_true,q8 (by simp;omega),jy,gF,pf,List.drop_zero]
 ·intro fF cX cx;show((st.h.set b .dead).set st.aj _).get fF=_;rw[au.ht _ _ (by omega)];exact au.ht _ _ (fun e=>cx k (by simp[j3,aa]) (e▸aW))
theorem Vb{bj dw k n c:Nat}{el:TypeId}{α:Type}{R:α->List al}{l m:List α}(aa:bN s.env x=some (.bH k bj 0 n c))(ae:s.own[k]? =some (.a el false bj α R l))(ak:uc call el dw s y R bj m)(h0:m≠[])(hn:n+m.length<=c)(hc:c<=l.length)(hb:(2*(n+m.length)+768)*(dw+1)<=1099511627776):
 fT call (.app el bj dw x y) s (.bH k bj 0 (n+m.length) c) (s.own.set k (.a el false bj α R (l.take n++(m++l.drop (n+m.length))))) s.n:=fun H ids st fr aA af=>by
 obtain⟨b,aW,a0⟩:=af.an aa;obtain⟨vs,bx,cK,dn⟩:=pg aA ae aW;obtain⟨new,J,U,ah⟩:=ak H ids st fr aA af x _ _ _ a0;have hl:0<m.length:=List.length_pos_iff.2 h0;have iw:=q6 (CE ⟨cK,dn⟩ n (by omega)) (q6 J (wJ ⟨cK,dn⟩ (n+m.length)));have Dw:c*bj<=l.length*bj:=g5 bj hc;have As:(n+m.length)*bj<=l.length*bj:=g5 bj (by omega);have e:n*bj+new.length=(n+m.length)*bj:=by rw[J.1,Nat.add_mul]
 refine⟨.slice (some ⟨b,0,none⟩) (n+m.length) c,_,ids,H,?_,aA.dQ ae rfl aW (ez:=.cells (vs.take (n*bj)++(new++vs.drop (n*bj+new.length))) el (0,0) false) ⟨_,rfl,by rw[e];exact iw.1,by rw[e];exact iw.2⟩,⟨b,aW,by rw[Nat.zero_mul]⟩,dZ.refl _,dO.refl _,fun _ _ _ B=>B.dQ (List.mem_of_getElem? aW) _,cd _,?_⟩
 ·rw[ah];unfold ki aw.gI;simp only[Nat.add_eq,Nat.mul_eq,Sym.eU,Sym.h3,bx,kG,Nat.zero_mul,Nat.zero_add];rw[gj (show(2*(n+m.length)+768)*Nat.succ dw<=2^40 from hb),gj (cd _),gj (by omega),gj (by rw[fx,cK];exact Dw),jE rfl,ri (by omega),cond_false,gj hn,pM,if_pos (by rw[e,cK];exact As),jy]
 ·intro fF _ cx;exact au.ht _ _ (fun e=>cx k (by simp[j3,aa]) (e▸aW))
end
section
variable{call:bP}{s:di}{x y i:Operand}{a b:al}
def fD(s:di)(x:Option Operand)(dflt n:Nat):Prop:=
 match x with
 |none=>n=dflt
 |some x=>∃cH,bN s.env x=some (.i cH (n:Int))
theorem fD.an{H:bY}{ids:List Nat}{fr:aQ}{x:Option Operand}{dflt n y:Nat}(h:fD s x dflt n)(af:dk fr H ids s.env)(aJ:n<=y)(k:Nat->aY):e4 fr x dflt y k=k n:=by
 cases x with
 |none=>cases h;rfl
 |some x=>
  obtain⟨cH,h⟩:=h;have h:fr.an x= .int cH (n:Int):=af.an h;show gd (fr.an x) (fun _ n=>gW n (fun n=>ey n y (k n) .no) .no) .no=_;rw[h,mb,nU,gj aJ]
theorem Cy(fr:aQ)(d y:Nat)(k:Nat->aY):e4 fr none d y k=k d:=rfl
theorem SS{z p q:Nat}{α:Type}{R:α->List al}{l:List α}{bD ag:Option Operand}(aa:bN s.env x=some (.gE z α R l))(hg:fD s bD 0 p)(hY:fD s ag l.length q)(hp:p<=q)(hq:q<=l.length){H:bY}{ids:List Nat}{fr:aQ}(af:dk fr H ids s.env):
 ∃v,den H (.gE z α R ((l.drop p).take (q-p))) ids v∧∀st:aw,(∀b o,H b=some o->st.h.get b=some o)->cb call (.n3 z x bD ag none) fr st= .ok v fr st:=by
 have hl:((l.drop p).take (q-p)).length=q-p:=by simp;omega
 have e:∀st:aw,cb call (.n3 z x bD ag none) fr st=jh (fr.an x) (fun b len cap=>bo b (fun a=>st.gI a (fun _ _ _ aR=>cond aR (ey len cap (e4 fr ag len len fun h=>e4 fr bD 0 h fun l=>.ok (.slice (some (a.add (l*z))) (h-l) (cap-l)) fr st) .no) (e4 fr none cap cap fun m=>e4 fr ag len m fun h=>e4 fr bD 0 h fun l=>.ok (.slice (some (ea m l a (a.add (l*z)))) (h-l) (m-l)) fr st)) .no) (e4 fr none cap cap fun m=>e4 fr ag len m fun h=>e4 fr bD 0 h fun l=>.ok (.slice none (h-l) (m-l)) fr st)) .no:=fun st=>rfl;rcases af.an aa with⟨hn,J⟩|⟨b,o,c,vs,el,bt,aR,J,U,aC,a5⟩
 ·subst hn;simp at hq;subst hq;have:p=0:=by omega
  subst this;refine⟨.slice none 0 0,.inl ⟨by simp,rfl⟩,fun st _=> ?_⟩;rw[e,J,o6,Sym.h3];rw[Cy,fD.an (dflt:=0) hY af (cd _),fD.an hg af (cd _)]
 ·have e2:∀st:aw,(∀b o,H b=some o->st.h.get b=some o)->cb call (.n3 z x bD ag none) fr st=cond aR (ey l.length c (e4 fr ag l.length l.length fun h=>e4 fr bD 0 h fun l=>.ok (.slice (some ((⟨b,o,none⟩:Addr).add (l*z))) (h-l) (c-l)) fr st) .no) (e4 fr none c c fun m=>e4 fr ag l.length m fun h=>e4 fr bD 0 h fun l=>.ok (.slice (some (ea m l ⟨b,o,none⟩ ((⟨b,o,none⟩:Addr).add (l*z)))) (h-l) (m-l)) fr st):=fun st hle=>by
   rw[e,J,o6,Sym.eU];unfold aw.gI;rw[Sym.h3,hle _ _ aC,kG]
  have chunk:∀i x,((l.drop p).take (q-p))[i]? =some x->ei H (R x) [] ((vs.drop (o+p*z+i*z)).take z):=fun i x aa=>by
   rw[List.getElem?_take]at aa;split at aa
   ·rw[List.getElem?_drop]at aa;have:=a5 _ x aa;rw[Nat.add_mul]at this;rw[Nat.add_assoc];exact this
   ·cases aa
  cases aR with
  |true=>
   exact⟨_,.inr ⟨b,o+p*z,c-p,vs,el,bt,true,by rw[hl],by rw[hl];omega,aC,chunk⟩,fun st hle=>by rw[e2 st hle,cond_true,gj U,fD.an hY af hq,fD.an hg af hp,qW]⟩
  |false=>
   have cw:∀st:aw,(∀b o,H b=some o->st.h.get b=some o)->cb call (.n3 z x bD ag none) fr st= .ok (.slice (some (ea c p ⟨b,o,none⟩ ((⟨b,o,none⟩:Addr).add (p*z)))) (q-p) (c-p)) fr st:=fun st hle=>by
    rw[e2 st hle,cond_false,Cy,fD.an hY af (by omega),fD.an hg af hp]
   by_cases hc:c=p
   ·have Iw:q=p:=by omega
    refine⟨_,.inr ⟨b,o,c-p,vs,el,bt,false,by rw[hl],by rw[hl];omega,aC,fun i x aa=> ?_⟩,fun st hle=>by rw[cw st hle,jE hc]⟩;rw[Iw]at aa;simp at aa
   ·exact⟨_,.inr ⟨b,o+p*z,c-p,vs,el,bt,false,by rw[hl],by rw[hl];omega,aC,chunk⟩,fun st hle=>by rw[cw st hle,ri hc,qW]⟩
theorem SR{z p q:Nat}{α:Type}{R:α->List al}{l:List α}{bD ag:Option Operand}(aa:bN s.env x=some (.gE z α R l))(hg:fD s bD 0 p)(hY:fD s ag l.length q)(hp:p<=q)(hq:q<=l.length):
 fT call (.n3 z x bD ag none) s (.gE z α R ((l.drop p).take (q-p))) s.own s.n:=j6 fun H ids st fr aA af=>
 let⟨v,J,U⟩:=SS aa hg hY hp hq af
 ⟨v,J,U st aA.le⟩
theorem alJ{k z o n c p q:Nat}{el:TypeId}{aR:Bool}{α:Type}{R:α->List al}{l:List α}{bD ag:Option Operand}(aa:bN s.env x=some (.bH k z o n c))(ae:s.own[k]? =some (.a el aR z α R l))(hg:fD s bD 0 p)(hY:fD s ag n q)(hp:p<=q)(hq:q<=n)(hn:n<=c)(hc:p<c∨p=0):
 fT call (.n3 z x bD ag none) s (.bH k z (o+p) (q-p) (c-p)) s.own s.n:=j6 fun H ids st fr aA af=>by
 have e:cb call (.n3 z x bD ag none) fr st=jh (fr.an x) (fun b len cap=>bo b (fun a=>st.gI a (fun _ _ _ aR=>cond aR (ey len cap (e4 fr ag len len fun h=>e4 fr bD 0 h fun l=>.ok (.slice (some (a.add (l*z))) (h-l) (cap-l)) fr st) .no) (e4 fr none cap cap fun m=>e4 fr ag len m fun h=>e4 fr bD 0 h fun l=>.ok (.slice (some (ea m l a (a.add (l*z)))) (h-l) (m-l)) fr st)) .no) (e4 fr none cap cap fun m=>e4 fr ag len m fun h=>e4 fr bD 0 h fun l=>.ok (.slice none (h-l) (m-l)) fr st)) .no:=rfl;obtain⟨b,aW,a0⟩:=af.an aa;obtain⟨vs,bx,cK,dn⟩:=pg aA ae aW;refine⟨_,⟨b,aW,rfl⟩,?_⟩;rw[e,a0,o6,Sym.eU];unfold aw.gI;rw[Sym.h3,bx,kG];cases aR with
 |true=>rw[cond_true,gj hn,fD.an hY af hq,fD.an hg af hp,qW,Nat.add_mul]
 |false=>
  rw[cond_false];rw[Cy,fD.an hY af (by omega),fD.an hg af hp];by_cases fH:c=p
  ·rw[jE fH];have:p=0:=by omega
   subst this;rw[Nat.add_zero]
  ·rw[ri fH,qW,Nat.add_mul]
theorem acK{l:List UInt8}{j:Nat}{cH:IntKind}{kH:UInt8}(aa:bN s.env x=some (.s l))(ag:bN s.env i=some (.i cH (j:Int)))(hj:l[j]? =some kH):fT call (.vl x i) s (.i .u8 (kH.toNat:Int)) s.own s.n:=j6 fun H ids st fr aA af=>by
 have J:fr.an x= .string ⟨⟨l⟩⟩:=af.an aa;have U:fr.an i= .int cH (j:Int):=af.an ag;refine⟨_,rfl,?_⟩;have e:cb call (.vl x i) fr st=ik (fr.an x) (fun s=>gd (fr.an i) (fun _ j=>gW j (fun j=>hV s.data.toList j 1 (fun bn=>one bn (fun b=>.ok (.int .u8 (.ofNat b.toNat)) fr st) .no) .no) .no) .no) .no:=rfl;obtain⟨bO,aD⟩:=List.getElem?_eq_some_iff.1 hj;rw[e,J,yQ,U,mb,nU];show hV l j 1 _ _=_;rw[wR (by omega),iG bO,aD];rfl
theorem alL{l:List UInt8}{p q:Nat}{bD ag:Option Operand}(aa:bN s.env x=some (.s l))(hg:fD s bD 0 p)(hY:fD s ag l.length q)(hp:p<=q)(hq:q<=l.length):fT call (.sf x bD ag) s (.s ((l.drop p).take (q-p))) s.own s.n:=j6 fun H ids st fr aA af=>by
 have J:fr.an x= .string ⟨⟨l⟩⟩:=af.an aa;refine⟨_,rfl,?_⟩;have e:cb call (.sf x bD ag) fr st=ik (fr.an x) (fun s=>e4 fr ag (ef s.data.toList) (ef s.data.toList) fun h=>e4 fr bD 0 h fun l=>hV s.data.toList l (h-l) (fun bn=>.ok (.string ⟨⟨bn⟩⟩) fr st) .no) .no:=rfl;rw[e,J,yQ];show e4 fr ag (ef l) (ef l) _=_;rw[fx,fD.an hY af hq,fD.an hg af hp,wR (by show p+(q-p)<=l.length;omega)]
theorem V3{l m:List UInt8}(aa:bN s.env x=some (.s l))(aJ:bN s.env y=some (.s m))(hl:l.length+m.length<=1099511627776):fT call (.bin .add x y) s (.s (l++m)) s.own s.n:=j6 fun H ids st fr aA af=>by
 have J:fr.an x= .string ⟨⟨l⟩⟩:=af.an aa;have U:fr.an y= .string ⟨⟨m⟩⟩:=af.an aJ;refine⟨_,rfl,?_⟩;rw[Be,J,U,NR];show ey (ef l+ef m) (2^40) _ _=_;rw[fx,fx,gj (show _<=2^40 from hl),pf]
theorem ajA{k:IntKind}{m n:Int}(aa:bN s.env x=some (.i k m))(aJ:bN s.env y=some (.i k n))(hn:n≠0):fT call (.bin .quo x y) s (.i k (k.wrap (m.tdiv n))) s.own s.n:=j6 fun H ids st fr aA af=>
 ⟨_,rfl,x3 (by decide) (by decide) (af.an aa) (af.an aJ) (by show(if n=0 then none else _)=_;rw[if_neg hn])⟩
theorem aj4{k:IntKind}{m n:Int}(aa:bN s.env x=some (.i k m))(aJ:bN s.env y=some (.i k n))(hn:n≠0):fT call (.bin .rem x y) s (.i k (m.tmod n)) s.own s.n:=j6 fun H ids st fr aA af=>
 ⟨_,rfl,x3 (by decide) (by decide) (af.an aa) (af.an aJ) (by show(if n=0 then none else _)=_;rw[if_neg hn])⟩
theorem akO{k k':IntKind}{m n:Nat}(aa:bN s.env x=some (.i k (m:Int)))(aJ:bN s.env y=some (.i k' (n:Int)))(hn:n<=k.bits):fT call (.bin .shr x y) s (.i k ((m/2^n:Nat):Int)) s.own s.n:=j6 fun H ids st fr aA af=>by
 obtain⟨v,J,U⟩:=MB (call:=call) (k:=k) (a:=(m:Int)) (b:=(n:Int)) (r:=.i k ((m/2^n:Nat):Int)) (by show(match Nat.ble n k.bits with|true=>_|false=>_)=_;rw[Nat.ble_eq_true_of_le hn]) (af.an aa) (af.an aJ);exact⟨v,J _ _,U st⟩
end
def lk(H:bY)(st:aw)(b:Nat):bY:=fun c=>open Classical in if c=b then st.h.get b else H c
section
variable{H:bY}{ids:List Nat}{st:aw}{own:List bJ}{n:Nat}
theorem Dc{k b:Nat}{o:bJ}(aA:Fit H ids st own n)(ae:own[k]? =some o)(hl:o.live=true)(hb:ids[k]? =some b):dZ H (lk H st b):=fun c q hc=>by
 unfold lk;rw[if_neg]
 ·exact hc
 ·intro e;rw[e,(aA.own k o b ae hb).2 hl]at hc;cases hc
theorem Fit.lk{k b:Nat}{o:bJ}(aA:Fit H ids st own n)(ae:own[k]? =some o)(hl:o.live=true)(hb:ids[k]? =some b):Fit (Go.az.lk H st b) ids st (own.set k .x) n:=by
 refine⟨aA.wf,?_,by simp[aA.cQ],aA.len,aA.dr,aA.lt,?_⟩
 ·intro c q hc;unfold Go.az.lk at hc;split at hc
  ·rename_i e;rw[e];exact hc
  ·exact aA.le c q hc
 ·intro j q c hj hc;rw[List.getElem?_set]at hj;by_cases ln:k=j
  ·rw[if_pos ln]at hj;split at hj<;>cases hj;exact⟨trivial,fun h=>by cases h⟩
  ·rw[if_neg ln]at hj;obtain⟨J,U⟩:=aA.own j q c hj hc;refine⟨wS (Dc aA ae hl hb) (dO.refl _) J,fun hq=> ?_⟩;unfold Go.az.lk;rw[if_neg]
   ·exact U hq
   ·intro e;subst e;have aW:=List.getElem?_eq_some_iff.1 hb;have a0:=List.getElem?_eq_some_iff.1 hc;exact ln ((List.getElem_inj (h₀:=aW.1) (h₁:=a0.1) aA.dr).1 (aW.2.trans a0.2.symm))
theorem eL.lk{dc:bY}{i0:List Nat}{a4:aw}{k b:Nat}{o:bJ}(bC:eL dc i0 a4 H ids st)(aA:Fit H ids st own n)(ae:own[k]? =some o)(hl:o.live=true)(hb:ids[k]? =some b):eL dc i0 a4 (Go.az.lk H st b) ids st:=by
 refine⟨bC.hle.trans (Dc aA ae hl hb),?_,bC.iB,bC.aj,bC.l0,bC.new⟩;intro c hc hn;unfold Go.az.lk;rw[if_neg]
 ·exact bC.hold c hc hn
 ·intro e;subst e;rcases bC.new _ (List.mem_of_getElem? hb)with h|h
  ·exact hn h
  ·omega
end
section
variable{aP:hR}{K:List gg}{own:List bJ}{a3:Nat}{e:cf}
theorem N4{k t z o n c:Nat}{el:TypeId}{aR:Bool}{α:Type}{R:α->List al}{l:List α}(l':List α)(aX:fc e t=some (.bH k z o n c))(ae:own[k]? =some (.a el aR z α R l))(hl:(l.drop o).take n=l')(hn:l'.length=n)(hc:n<=c)(hp:∀x,jL (R x)=true)
 {H:bY} {ids:List Nat} {st:aw} {fr:aQ} (bC:eL aP.dc aP.i0 aP.a4 H ids st) (aA:Fit H ids st own a3) (af:dk fr H ids e):
 ∃cc,eL aP.dc aP.i0 aP.a4 cc ids st∧Fit cc ids st (own.set k .x) a3∧dk fr cc ids ((t,.gE z α R l')::e):=by
 obtain⟨b,aW,a0⟩:=af.get t _ aX;obtain⟨⟨vs,bx,cK,dn⟩,_⟩:=aA.own k _ b ae aW;have hle:=Dc aA ae rfl aW;refine⟨lk H st b,bC.lk aA ae rfl aW,aA.lk ae rfl aW,(af.mono hle (dO.refl _)).pl,fun j q hj=> ?_⟩;rw[qx]at hj;cases hb:Nat.beq t j with
 |false=>rw[hb]at hj;exact(af.mono hle (dO.refl _)).get j q hj
 |true=>
  rw[hb]at hj;cases hj;rw[<-dY hb];refine .inr ⟨b,o*z,c,vs,el,(0,0),aR,by rw[hn];exact a0,by rw[hn];exact hc,by unfold lk;rw[if_pos rfl];exact bx,fun i x aa=> ?_⟩;rw[<-hl,List.getElem?_take]at aa;split at aa
  ·rw[List.getElem?_drop]at aa;rw[<-Nat.add_mul];exact mn hle _ (dO.refl _) (qa _ (hp x) (dn _ x aa) [])
  ·cases aa
theorem ajM{k z o n c:Nat}(t:Nat){el:TypeId}{aR:Bool}{α:Type}{R:α->List al}{l:List α}(l':List α){p:du}(aX:fc e t=some (.bH k z o n c))(ae:own[k]? =some (.a el aR z α R l))(hl:(l.drop o).take n=l')(hn:l'.length=n)(hc:n<=c)(hp:∀x,jL (R x)=true)
 (cH:bl.ok aP ⟨K,.c p,⟨own.set k .x,a3,(t,.gE z α R l')::e⟩⟩):bl.ok aP ⟨K,.c p,⟨own,a3,e⟩⟩:=fun H ids st fr bC aA af=>by
 obtain⟨cc,J,U,ah⟩:=N4 l' aX ae hl hn hc hp bC aA af;exact cH cc ids st fr J U ah
theorem Sd{k z o n c:Nat}(t:Nat){el:TypeId}{aR:Bool}{α:Type}{R:α->List al}{l:List α}(l':List α){p:List bB}(aX:fc e t=some (.bH k z o n c))(ae:own[k]? =some (.a el aR z α R l))(hl:(l.drop o).take n=l')(hn:l'.length=n)(hc:n<=c)(hp:∀x,jL (R x)=true)
 (cH:bl.ok aP ⟨K,.o p,⟨own.set k .x,a3,(t,.gE z α R l')::e⟩⟩):bl.ok aP ⟨K,.o p,⟨own,a3,e⟩⟩:=fun H ids st fr bC aA af=>by
 obtain⟨cc,J,U,ah⟩:=N4 l' aX ae hl hn hc hp bC aA af;exact cH cc ids st fr J U ah
theorem VA{k z:Nat}{el:TypeId}{cs:List al}{α:Type}{R:α->List al}(l:List α)(ae:own[k]? =some (.c el cs))(ej:cs=l.flatMap R)(a8:∀w,(R w).length=z){H:bY}{ids:List Nat}{st:aw}(aA:Fit H ids st own a3):Fit H ids st (own.set k (.a el false z α R l)) a3:=by
 refine⟨aA.wf,aA.le,by simp[aA.cQ],aA.len,aA.dr,aA.lt,?_⟩;intro j q c hj hc;rw[List.getElem?_set]at hj;by_cases ln:k=j
 ·subst ln;rw[if_pos rfl]at hj;split at hj<;>cases hj;obtain⟨⟨vs,ah,d⟩,aC⟩:=aA.own k _ c ae hc;rw[ej]at d;have:=Hf a8 d;exact⟨⟨vs,ah,this.1,this.2⟩,fun _=>aC rfl⟩
 ·rw[if_neg ln]at hj;exact aA.own j q c hj hc
theorem Sb(k:Nat){z:Nat}{el:TypeId}{cs:List al}{α:Type}{R:α->List al}(l:List α){p:List bB}(ae:own[k]? =some (.c el cs))(ej:cs=l.flatMap R)(a8:∀w,(R w).length=z)(cH:bl.ok aP ⟨K,.o p,⟨own.set k (.a el false z α R l),a3,e⟩⟩):bl.ok aP ⟨K,.o p,⟨own,a3,e⟩⟩:=fun H ids st fr bC aA af=>
 cH H ids st fr bC (VA l ae ej a8 aA) af
end
structure cn where
 L:Type
 args:L->List al
 pre:L->Prop
 res:L->al
 hp:bY->Prop:=fun _=>True
 hm:∀{H cc:bY},dZ H cc->hp H->hp cc:=by exact fun _ _=>trivial
def cn.spec(S:cn):Spec where
 L:=S.L×bY
 pre:=fun l vs st=>S.pre l.1∧S.hp l.2∧Fit l.2 [] st [] 0∧ei l.2 (S.args l.1) [] vs
 post:=fun l vs st v st'=>∃cc,Fit cc [] st' [] 0∧eL l.2 [] st cc [] st'∧den cc (S.res l.1) [] v
def Fin(S:cn)(l:S.L)(res:List iu)(x:ee)(s:di):Prop:=(x= .norm∨x= .ret)∧∃r,vZ s res=some r∧pL r=true∧c5 r (S.res l)
where
 KL (s:di):iu->Option al
  |.tmp t=>fc s.env t
  |.cell a g0 n=>match fc s.env a with
   |some (.p k o)=>match s.own[k]? with
    |some (.c _ cs)=>uu cs o n (ET g0)
    |_=>none
   |_=>none
 F0 (s:di):List iu->Option (List al)
  |[]=>some []
  |r::rs=>match KL s r with
   |some a=>match F0 s rs with
    |some as=>some (a::as)
    |none=>none
   |none=>none
 vZ (s:di) (l:List iu):Option al:=match F0 s l with
  |some [a]=>some a
  |some as=>some (.b5 as)
  |none=>none
theorem Fit.less{H:bY}{ids:List Nat}{st:aw}{own:List bJ}{n:Nat}(h:Fit H ids st own n):Fit H [] st [] 0:=⟨h.wf,h.le,rfl,rfl,List.nodup_nil,fun b hb=>by simp at hb,fun k o b ae=>by simp at ae⟩
theorem eL.refl(H:bY)(i:List Nat)(st:aw):eL H i st H i st:=⟨dZ.refl _,fun _ _ _=>rfl,fun _ _ _=>rfl,cd _,dO.refl _,fun b hb=>.inl hb⟩
theorem eL.less{dc:bY}{a4:aw}{H:bY}{ids:List Nat}{st:aw}(h:eL dc [] a4 H ids st):eL dc [] a4 H [] st:=⟨h.hle,h.hold,h.iB,h.aj,dO.refl _,fun b hb=>.inl hb⟩
theorem akk{s:di}{H:bY}{ids:List Nat}{st:aw}{fr:aQ}(aA:Fit H ids st s.own s.n)(af:dk fr H ids s.env){r:iu}{a:al}(h:Fin.KL s r=some a):
 ∃v,den H a ids v∧∀vs:List Value,(iu.rec (motive:=fun _=>Option (List Value)) (fun t=>some (fr.tmp t::vs)) (fun a agg n=>hP (fr.tmp a) (fun p=>bo p (fun ad=>st.load ad n (fun cs=>cond agg (some (.agg ⟨cs⟩::vs)) (one cs (fun v=>some (v::vs)) none)) none) none) none) r:Option (List Value))=some (v::vs):=by
 cases r with
 |tmp t=>exact⟨_,af.get t a h,fun vs=>rfl⟩
 |cell t g0 n=>
  simp only[Fin.KL]at h;split at h<;>try cases h
  rename_i k o aX;split at h<;>try cases h
  rename_i el cs ae;obtain⟨b,aW,a0⟩:=af.get t _ aX;obtain⟨⟨ws,bx,d⟩,_⟩:=aA.own k _ b ae aW;obtain⟨J,U⟩:=zy h;have ax:=sJ n (nx o d);have hl:=hH (nx o d);have e:∀vs:List Value,hP (fr.tmp t) (fun p=>bo p (fun ad=>st.load ad n (fun cs=>cond g0 (some (.agg ⟨cs⟩::vs)) (one cs (fun v=>some (v::vs)) none)) none) none) none=cond g0 (some (.agg ⟨(ws.drop o).take n⟩::vs)) (one ((ws.drop o).take n) (fun v=>some (v::vs)) none):=fun vs=>by
   rw[a0,pZ,Sym.eU];unfold aw.load aw.gI;rw[Sym.h3,bx,kG,q8 (by show n<=(ws.drop o).length;omega)]
  rcases Ro U with⟨rfl,rfl⟩|⟨rfl,ah⟩
  ·exact⟨_,⟨_,rfl,ax⟩,fun vs=>e vs⟩
  ·rw[ah]at ax;obtain⟨v,us,aD,ax,hn⟩:=ax;cases hn;refine⟨v,ax,fun vs=>(e vs).trans ?_⟩;rw[aD];rfl
theorem KM{s:di}{H:bY}{ids:List Nat}{st:aw}{fr:aQ}(aA:Fit H ids st s.own s.n)(af:dk fr H ids s.env):∀{rs:List iu} {as:List al},Fin.F0 s rs=some as->∃vs,ei H as ids vs∧pk fr st rs=some vs
 |[],as,h=>by cases h;exact⟨[],rfl,rfl⟩
 |r::rs,as,h=>by
  unfold Fin.F0 at h;split at h<;>try cases h
  rename_i a J;split at h<;>try cases h
  rename_i as' U;obtain⟨v,aW,a0⟩:=akk aA af J;obtain⟨vs,bx,cK⟩:=KM aA af U;refine⟨v::vs,⟨v,vs,rfl,aW,bx⟩,?_⟩;show bo (pk fr st rs) _ none=_;rw[cK];exact a0 vs
theorem FZ{s:di}{H:bY}{ids:List Nat}{st:aw}{fr:aQ}{call:bP}(aA:Fit H ids st s.own s.n)(af:dk fr H ids s.env){rs:List iu}{r:al}(h:Fin.vZ s rs=some r):∃v,den H r ids v∧lj call rs none fr st= .ret v st false:=by
 have e:∀vs,pk fr st rs=some vs->lj call rs none fr st=one vs (fun v=>.ret v st false) (.ret (.tuple ⟨vs⟩) st false):=fun vs aD=>by
  unfold lj;rw[af.pl.c8,af.pl.cL];simp only[jg];show bo (pk fr st rs) _ _=_;rw[aD];rfl
 unfold Fin.vZ at h;split at h
 ·rename_i a a2;cases h;obtain⟨vs,⟨v,ws,rfl,J,U⟩,ah⟩:=KM aA af a2;cases U;exact⟨v,J,(e _ ah).trans rfl⟩
 ·rename_i as hn a2;cases h;obtain⟨vs,J,ah⟩:=KM aA af a2;refine⟨_,⟨vs,rfl,J⟩,(e _ ah).trans ?_⟩;have hl:=hH J
  match vs,as,hl with
  |[],_,_=>rfl
  |[v],[a],_=>exact absurd a2 (by intro _;exact hn a rfl)
  |_::_::_,_,_=>rfl
 ·cases h
def nB:Nat->List al->cf
 |_,[]=>[]
 |i,a::as=>(i,a)::nB (i+1) as
theorem NN:∀(as:List al) (i j:Nat) (a:al),fc (nB i as) j=some a->i<=j∧as[j-i]? =some a
 |[],_,_,_,h=>by cases h
 |w::as,i,j,a,h=>by
  rw[nB,qx]at h;cases hb:Nat.beq i j with
  |true=>
   rw[hb]at h;have:=dY hb;subst this;cases h;exact⟨cd _,by simp⟩
  |false=>
   rw[hb]at h;obtain⟨J,U⟩:=NN as (i+1) j a h;refine⟨by omega,?_⟩;have:j-i=(j-(i+1))+1:=by omega
   rw[this];simpa using U
theorem dk.zero{H:bY}{ids:List Nat}{as:List al}{vs:List Value}(d:ei H as ids vs):dk (gq vs) H ids (nB 0 as):=by
 refine⟨tZ.zero _,fun j a h=> ?_⟩;obtain⟨_,U⟩:=NN as 0 j a h;obtain⟨v,ah,aC⟩:=sI d U;have hj:=(List.getElem?_eq_some_iff.1 ah).1;have:(gq vs).tmp j=v:=by
  show Option.rec (motive:=fun _=>Value) _ _ ((lP vs 0 .nil).get j)=v;rw[My,if_pos (by omega),ah]
 rw[this];exact aC
variable{X:Ctx}
theorem Hi{a7:au aK}(dE:Good X)(hA:mi X a7)(eh:FuncId->List Value->aw->Value->aw->Prop){f:FuncId}{xf:aK}(aa:a7.get f=some xf){S:cn}(hl:∀l,(S.args l).length<=xf.ay)
 (h:∀l,S.pre l->∀H a4,S.hp H->bl.ok ⟨dx a7 (en X eh) (cp+1),cp+1,f,H,[],a4,Fin S l xf.res⟩ ⟨[],.c xf.body,⟨[],0,nB 0 (S.args l)⟩⟩):ca X f S.spec:=by
 refine Nm dE hA eh aa (fun l vs st ⟨_,_,_,d⟩=>by rw[hH d];exact hl l.1) ?_;rintro⟨l,H⟩ vs st ⟨hp,hh,aA,d⟩;refine(h l hp H st hh H [] st (gq vs) (eL.refl _ _ _) aA (dk.zero d)).mono ?_;rintro x fr st' ⟨cc,ids,s,bC,eC,af,aa,r,J,U,hle⟩;obtain⟨v,ah,aC⟩:=FZ (call:=dx a7 (en X eh) (cp+1)) eC af J;exact⟨aa,v,aC,cc,eC.less,bC.less,hle _ _ _ (CT _ U ah _)⟩
theorem XW{a7:au aK}(dE:Good X)(hA:mi X a7)(eh:FuncId->List Value->aw->Value->aw->Prop){f:FuncId}{xf:aK}(aa:a7.get f=some xf){S:cn}(hl:∀l,(S.args l).length<=xf.ay)
 (h:∀l,S.pre l->∀H a4,bl.ok ⟨dx a7 (en X eh) (cp+1),cp+1,f,H,[],a4,Fin S l xf.res⟩ ⟨[],.c xf.body,⟨[],0,nB 0 (S.args l)⟩⟩):ca X f S.spec:=Hi dE hA eh aa hl fun l hp H a4 _=>h l hp H a4
theorem M4{a7:au aK}{eh:FuncId->List Value->aw->Value->aw->Prop}{g:FuncId}{S:cn}(hc:ca X g S.spec)(eZ:eh g=S.spec.K){s:di}{fZ:List Operand}{as:List al}{n:Nat}(l:S.L)(a2:nR s.env fZ=some as)(Aw:jL as=true)(he:mc as (S.args l))(hp:S.pre l){dc:bY}(hh:S.hp dc):
 yX dc (dx a7 (en X eh) (n+1)) (.call (.func g) fZ) s (S.res l) s.own s.n:=fun H ids st fr gT aA af=>by
 have ax:=he.den (qa _ Aw (af.fv a2) []);obtain⟨v,st',J,U⟩:=hc _ st ⟨(l,H),hp,S.hm gT hh,aA.less,ax⟩;obtain⟨v1,cR,aW,a0⟩:=Rj (X:=X) (K:=eh) (f:=g) ⟨v,st',by rw[eZ];exact J,U⟩;rw[eZ]at a0;obtain⟨cc,eC,fl,hX⟩:=a0 (l,H) ⟨hp,S.hm gT hh,aA.less,ax⟩;have bx:dx a7 (en X eh) (n+1) (.func (.func g) #[] #[]) (fv fr fZ) none st= .ret v1 cR false:=by
  rw[zp];have e:gL (#[]:Array Value).toList (gL (fv fr fZ) (#[]:Array Value).toList)=fv fr fZ:=by simp
  rw[e,aW];rfl
 have hle:dZ H cc:=fl.hle;refine⟨v1,cR,ids,cc,?_,?_,ux (dZ.refl _) _ (dO.nil _) hX,hle,dO.refl _,?_,fl.aj,fun b hb _=>fl.iB b hb (by simp)⟩
 ·rw[Bf];show uH (dx a7 (en X eh) (n+1) (.func (.func g) #[] #[]) (fv fr fZ) none st) _ _=_;rw[bx];rfl
 ·refine⟨eC.wf,eC.le,aA.cQ,aA.len,aA.dr,fun b hb=>gf (aA.lt b hb) fl.aj,fun k o b ae hb=> ?_⟩;obtain⟨ah,aC⟩:=aA.own k o b ae hb;have bO:=aA.lt b (List.mem_of_getElem? hb);rw[fl.iB b bO (by simp)];exact⟨wS hle (dO.refl _) ah,fun hl=>by rw[fl.hold b bO (by simp)];exact aC hl⟩
 ·intro dc i0 a4 B;refine⟨B.hle.trans hle,fun b hb hn=> ?_,fun b hb hn=> ?_,Nat.le_trans B.aj fl.aj,B.l0,B.new⟩
  ·rw[fl.hold b (gf hb B.aj) (by simp)];exact B.hold b hb hn
  ·rw[fl.iB b (gf hb B.aj) (by simp)];exact B.iB b hb hn
section
variable{a7:au aK}{eh:FuncId->List Value->aw->Value->aw->Prop}{a9 n:Nat}{fn:FuncId}{dc:bY}{i0:List Nat}{a4:aw}{Q:ee->di->Prop}{K:List gg}{own:List bJ}{a3:Nat}{e:cf}
theorem bm{g:FuncId}{S:cn}(hc:ca X g S.spec){fZ:List Operand}{as:List al}{d:Tmp}{xs:List bB}(l:S.L)(hp:S.pre l)(k:bl.ok ⟨dx a7 (en X eh) (n+1),a9,fn,dc,i0,a4,Q⟩ ⟨K,.o xs,⟨own,a3,(d,S.res l)::e⟩⟩)
 (a2:nR e fZ=some as:=by rfl) (he:mc as (S.args l):=by exact mc.refl _) (Aw:jL as=true:=by rfl) (eZ:eh g=S.spec.K:=by rfl) (hh:S.hp dc:=by exact trivial):
 bl.ok ⟨dx a7 (en X eh) (n+1),a9,fn,dc,i0,a4,Q⟩ ⟨K,.o (⟨some d,.call (.func g) fZ,none⟩::xs),⟨own,a3,e⟩⟩:=KA (d:=some d) (s:=⟨own,a3,e⟩) (M4 hc eZ l a2 Aw he hp hh) k
theorem cZ{g:FuncId}{S:cn}(hc:ca X g S.spec){fZ:List Operand}{as:List al}{d:Tmp}{xs:List (bB×c0)}{b9:List bJ}{bR:cf}{bw cJ:Nat}(l:S.L)(hp:S.pre l)(k:bl.ok ⟨dx a7 (en X eh) (n+1),a9,fn,dc,i0,a4,Q⟩ ⟨K,.d xs b9 (ot d bR) (bw+1) a3,⟨own,a3,(d,S.res l)::e⟩⟩)
 (a2:nR e fZ=some as:=by rfl) (he:mc as (S.args l):=by exact mc.refl _) (Aw:jL as=true:=by rfl) (eZ:eh g=S.spec.K:=by rfl) (hh:S.hp dc:=by exact trivial):
 bl.ok ⟨dx a7 (en X eh) (n+1),a9,fn,dc,i0,a4,Q⟩ ⟨K,.d ((⟨some d,.call (.func g) fZ,none⟩,.fe)::xs) b9 bR bw cJ,⟨own,a3,e⟩⟩:=
 Nq (d:=some d) (s:=⟨own,a3,e⟩) (M4 hc eZ l a2 Aw he hp hh) rfl (fun _ _ ae _=>⟨ae,by simp[j3]⟩) k
end
def cH:List (Nat×Spec)->FuncId->List Value->aw->Value->aw->Prop
 |[],_=>fun _ _ _ _=>False
 |p::l,g=>cond (Nat.beq p.1 g) p.2.K (cH l g)
theorem a6{S:cn}{l:S.L}{res:List iu}{s:di}{r:al}{e:ee}(J:Fin.vZ s res=some r)(U:pL r=true)(ah:c5 r (S.res l))(he:e= .ret∨e= .norm:=by first|exact .inl rfl|exact .inr rfl):Fin S l res e s:=⟨he.symm,r,J,U,ah⟩
end Go.az
namespace Go.az
open Sym
section
variable{aP:hR}{K:List gg}{own bZ:List bJ}{a3 cI:Nat}{e:cf}{d:Tmp}{xs:List bB}{x y i:Operand}
theorem gY{z j:Nat}{α:Type}{R:α->List al}{l:List α}(q:α){cH:IntKind}(hj:l[j]? =some q)(k:bl.ok aP ⟨K,.o xs,⟨own,a3,(d,.ip (R q))::e⟩⟩)(aa:bN e x=some (.gE z α R l):=by rfl)(ag:bN e i=some (.i cH (j:Int)):=by rfl):bl.ok aP ⟨K,.o (⟨some d,.lZ z x i,none⟩::xs),⟨own,a3,e⟩⟩:=
 gH (IL aa ag hj) k
theorem tI{bu z o n c j:Nat}{cH:IntKind}(k:bl.ok aP ⟨K,.o xs,⟨own,a3,(d,.gG bu z (o+j) 0)::e⟩⟩)(aa:bN e x=some (.bH bu z o n c):=by rfl)(ag:bN e i=some (.i cH (j:Int)):=by rfl)(hj:j<n:=by omega):bl.ok aP ⟨K,.o (⟨some d,.lZ z x i,none⟩::xs),⟨own,a3,e⟩⟩:=
 gH (Po aa ag hj) k
theorem lH{bu z n c j:Nat}{cH:IntKind}(k:bl.ok aP ⟨K,.o xs,⟨own,a3,(d,.gG bu z j 0)::e⟩⟩)(aa:bN e x=some (.bH bu z 0 n c):=by rfl)(ag:bN e i=some (.i cH (j:Int)):=by rfl)(hj:j<n:=by omega):bl.ok aP ⟨K,.o (⟨some d,.lZ z x i,none⟩::xs),⟨own,a3,e⟩⟩:=
 gH (Po aa ag hj) (by rw[Nat.zero_add];exact k)
theorem yy{bu z j q:Nat}{el:TypeId}{aR:Bool}{α:Type}{R:α->List al}{l:List α}(w:α){a:al}(hj:l[j]? =some w)(k:bl.ok aP ⟨K,.o xs,⟨own,a3,(d,a)::e⟩⟩)(aa:bN e x=some (.gG bu z j q):=by rfl)(ae:own[bu]? =some (.a el aR z α R l):=by rfl)(hq:(R w)[q]? =some a:=by rfl):bl.ok aP ⟨K,.o (⟨some d,.l1 x,none⟩::xs),⟨own,a3,e⟩⟩:=
 gH (ahD aa ae hj hq) k
theorem j9{bu j:Nat}{el:TypeId}{aR:Bool}{α:Type}{R:α->List al}{l:List α}{a:al}(w':α)(k:bl.ok aP ⟨K,.o xs,⟨bZ,a3,e⟩⟩)(aa:bN e x=some (.gG bu 1 j 0):=by rfl)(aJ:bN e y=some a:=by rfl)(ae:own[bu]? =some (.a el aR 1 α R l):=by rfl)(c9:R w'=[a]:=by rfl)(hc:q5 a=true:=by rfl)(J:∀w,(R w).length=1:=by exact fun _=>rfl)
 (ao:kb own bu (.a el aR 1 α R (l.set j w')) some=some bZ:=by rfl) (hj:j<l.length:=by first|omega|(simp;done)|(simp;omega)):bl.ok aP ⟨K,.o (⟨none,.store 1 x y,none⟩::xs),⟨own,a3,e⟩⟩:=by
 have:=lJ ao;cases this;exact ajR (Th (s:=⟨own,a3,e⟩) w' aa aJ ae c9 hj hc J) k
def I8:List Value->Option Nat
 |[]=>some 0
 |[_]=>some 1
 |[_,_]=>some 2
 |[_,_,_]=>some 3
 |[_,_,_,_]=>some 4
 |[_,_,_,_,_]=>some 5
 |[_,_,_,_,_,_]=>some 6
 |[_,_,_,_,_,_,_]=>some 7
 |l=>some l.length
theorem ahM{l:List Value}{n:Nat}(h:I8 l=some n):l.length=n:=by
 unfold I8 at h;split at h<;>cases h<;>rfl
theorem n0{el:TypeId}{dw z n c:Nat}{hQ:List Value}{bu k':IntKind}{α:Type}(R:α->List al)(w:α)(k:bl.ok aP ⟨K,.o xs,⟨bZ,cI,(d,.bH a3 z 0 n c)::e⟩⟩)(aa:bN e x=some (.i bu (n:Int)):=by rfl)(aJ:bN e y=some (.i k' (c:Int)):=by rfl)(a8:I8 hQ=some z:=by rfl)(c9:x5 hQ=R w:=by rfl)
 (ao:pV own (.a el false z α R (List.replicate c w)) some=some bZ:=by rfl) (lp:nV a3 some=some cI:=by rfl) (hn:n<=c:=by omega) (hc:c*(dw+1)<=1099511627776:=by omega):bl.ok aP ⟨K,.o (⟨some d,.tj el dw hQ x y,none⟩::xs),⟨own,a3,e⟩⟩:=by
 have J:=qN ao;have U:=pI lp;cases J;cases U;exact gH (mk (s:=⟨own,a3,e⟩) R w aa aJ (ahM a8) c9 hn hc) k
theorem Kx{bu z o n c:Nat}(t:Nat){el:TypeId}{aR:Bool}{α:Type}{R:α->List al}{l:List α}(l':List α)(k:bl.ok aP ⟨K,.o xs,⟨bZ,a3,(t,.gE z α R l')::e⟩⟩)(aX:fc e t=some (.bH bu z o n c):=by rfl)(ae:own[bu]? =some (.a el aR z α R l):=by rfl)(hp:∀x,jL (R x)=true:=by exact fun _=>rfl)
 (ao:kb own bu .x some=some bZ:=by rfl) (hl:(l.drop o).take n=l':=by first|rfl|simp) (hn:l'.length=n:=by first|omega|(simp;done)|(simp;omega)) (hc:n<=c:=by omega):bl.ok aP ⟨K,.o xs,⟨own,a3,e⟩⟩:=by
 have J:=lJ ao;cases J;exact Sd t l' aX ae hl hn hc hp k
theorem l7{bu z n c:Nat}(t:Nat){el:TypeId}{aR:Bool}{α:Type}{R:α->List al}{l:List α}(k:bl.ok aP ⟨K,.o xs,⟨bZ,a3,(t,.gE z α R l)::e⟩⟩)(aX:fc e t=some (.bH bu z 0 n c):=by rfl)(ae:own[bu]? =some (.a el aR z α R l):=by rfl)(hp:∀x,jL (R x)=true:=by exact fun _=>rfl)
 (ao:kb own bu .x some=some bZ:=by rfl) (hn:l.length=n:=by first|omega|(simp;done)|(simp;omega)) (hc:n<=c:=by omega):bl.ok aP ⟨K,.o xs,⟨own,a3,e⟩⟩:=
 Kx t (l:=l) l k aX ae hp ao (by rw[List.drop_zero,List.take_of_length_le (by omega)]) hn hc
theorem tH(bu:Nat){z:Nat}{el:TypeId}{cs:List al}{α:Type}(R:α->List al)(l:List α)(k:bl.ok aP ⟨K,.o xs,⟨bZ,a3,e⟩⟩)(ae:own[bu]? =some (.c el cs):=by rfl)(a8:∀w,(R w).length=z:=by exact fun _=>rfl)
 (ao:kb own bu (.a el false z α R l) some=some bZ:=by rfl) (ej:cs=l.flatMap R:=by rfl):bl.ok aP ⟨K,.o xs,⟨own,a3,e⟩⟩:=by
 have J:=lJ ao;cases J;exact Sb bu l ae ej a8 k
theorem ajU{bu z o n c p q:Nat}{el:TypeId}{aR:Bool}{α:Type}{R:α->List al}{l:List α}{bD ag:Option Operand}(k:bl.ok aP ⟨K,.o xs,⟨own,a3,(d,.bH bu z (o+p) (q-p) (c-p))::e⟩⟩)(aa:bN e x=some (.bH bu z o n c):=by rfl)(ae:own[bu]? =some (.a el aR z α R l):=by rfl)(hg:fD ⟨own,a3,e⟩ bD 0 p:=by first|exact rfl|exact⟨_,rfl⟩)(hY:fD ⟨own,a3,e⟩ ag n q:=by first|exact rfl|exact⟨_,rfl⟩)(hp:p<=q:=by omega)(hq:q<=n:=by omega)(hn:n<=c:=by omega)(hc:p<c∨p=0:=by omega):bl.ok aP ⟨K,.o (⟨some d,.n3 z x bD ag none,none⟩::xs),⟨own,a3,e⟩⟩:=
 gH (alJ aa ae hg hY hp hq hn hc) k
theorem Se{bu z n c p q:Nat}{el:TypeId}{aR:Bool}{α:Type}{R:α->List al}{l:List α}{bD ag:Option Operand}(k:bl.ok aP ⟨K,.o xs,⟨own,a3,(d,.bH bu z p (q-p) (c-p))::e⟩⟩)(aa:bN e x=some (.bH bu z 0 n c):=by rfl)(ae:own[bu]? =some (.a el aR z α R l):=by rfl)(hg:fD ⟨own,a3,e⟩ bD 0 p:=by first|exact rfl|exact⟨_,rfl⟩)(hY:fD ⟨own,a3,e⟩ ag n q:=by first|exact rfl|exact⟨_,rfl⟩)(hp:p<=q:=by omega)(hq:q<=n:=by omega)(hn:n<=c:=by omega)(hc:p<c∨p=0:=by omega):bl.ok aP ⟨K,.o (⟨some d,.n3 z x bD ag none,none⟩::xs),⟨own,a3,e⟩⟩:=
 ajU (by rw[Nat.zero_add];exact k) aa ae hg hY hp hq hn hc
theorem Kv{bj dw:Nat}{el:TypeId}{α:Type}(R:α->List al)(l:List α)(ak:pa ⟨own,a3,e⟩ y R bj l)(k:bl.ok aP ⟨K,.o xs,⟨bZ,cI,(d,.bH a3 bj 0 l.length l.length)::e⟩⟩)(aa:bN e x=some .nl:=by rfl)
 (ao:pV own (.a el true bj α R l) some=some bZ:=by rfl) (lp:nV a3 some=some cI:=by rfl) (h0:l≠[]:=by first|rfl|simp) (hb:(2*l.length+768)*(dw+1)<=1099511627776:=by first|omega|(simp;done)|(simp;omega)):bl.ok aP ⟨K,.o (⟨some d,.app el bj dw x y,none⟩::xs),⟨own,a3,e⟩⟩:=by
 have J:=qN ao;have U:=pI lp;cases J;cases U;exact gH (L2 (s:=⟨own,a3,e⟩) aa (za ak) h0 hb) k
theorem Ku{bj dw bu n c:Nat}{el:TypeId}{α:Type}{R:α->List al}{l:List α}{ig:List bJ}(m:List α)(ak:pa ⟨own,a3,e⟩ y R bj m)(k:bl.ok aP ⟨K,.o xs,⟨bZ,cI,(d,.bH a3 bj 0 (n+m.length) (n+m.length))::e⟩⟩)(aa:bN e x=some (.bH bu bj 0 n c):=by rfl)(ae:own[bu]? =some (.a el true bj α R l):=by rfl)
 (uZ:kb own bu .x some=some ig:=by rfl) (ao:pV ig (.a el true bj α R (l++m)) some=some bZ:=by rfl) (lp:nV a3 some=some cI:=by rfl) (h0:m≠[]:=by first|rfl|simp) (hn:n=l.length:=by first|omega|(simp;done)|(simp;omega)) (ko:n=c:=by omega) (hb:(2*(n+m.length)+768)*(dw+1)<=1099511627776:=by first|omega|(simp;done)|(simp;omega)):bl.ok aP ⟨K,.o (⟨some d,.app el bj dw x y,none⟩::xs),⟨own,a3,e⟩⟩:=by
 have jo:=lJ uZ;cases jo;have J:=qN ao;have U:=pI lp;cases J;cases U;have:=L1 (call:=aP.call) (s:=⟨own,a3,e⟩) (dw:=dw) aa ae (za ak) h0 (by omega) (by omega) (by omega) hb;rw[hn,List.take_length]at this;rw[hn]at k;exact gH this k
theorem Sa{bj dw bu n c:Nat}{el:TypeId}{α:Type}{R:α->List al}{l:List α}(m:List α)(ak:pa ⟨own,a3,e⟩ y R bj m)(l':List α)(k:bl.ok aP ⟨K,.o xs,⟨bZ,a3,(d,.bH bu bj 0 (n+m.length) c)::e⟩⟩)(aa:bN e x=some (.bH bu bj 0 n c):=by rfl)(ae:own[bu]? =some (.a el false bj α R l):=by rfl)
 (ao:kb own bu (.a el false bj α R l') some=some bZ:=by rfl) (h0:m≠[]:=by first|rfl|simp) (hn:n+m.length<=c:=by first|omega|(simp;done)|(simp;omega)) (hc:c<=l.length:=by first|omega|(simp;done)|(simp;omega)) (hb:(2*(n+m.length)+768)*(dw+1)<=1099511627776:=by first|omega|(simp;done)|(simp;omega)) (hl:l.take n++(m++l.drop (n+m.length))=l':=by first|rfl|simp):bl.ok aP ⟨K,.o (⟨some d,.app el bj dw x y,none⟩::xs),⟨own,a3,e⟩⟩:=by
 subst hl;have J:=lJ ao;cases J;exact gH (Vb (s:=⟨own,a3,e⟩) aa ae (za ak) h0 hn hc hb) k
theorem bk{bu z c:Nat}{el:TypeId}{cs:List al}{α:Type}{R:α->List al}(l:List α)(ej:cs=l.flatMap R)(aa:bN e x=some (.bH bu z 0 l.length c):=by rfl)(ae:own[bu]? =some (.c el cs):=by rfl)(a8:∀w,(R w).length=z:=by exact fun _=>rfl)(hc:p8 cs=true:=by rfl):pa ⟨own,a3,e⟩ x R z l:=alO l aa rfl ae ej a8 hc rfl
theorem lI{l:List UInt8}{j:Nat}{cH:IntKind}(kH:UInt8)(hj:l[j]? =some kH)(k:bl.ok aP ⟨K,.o xs,⟨own,a3,(d,.i .u8 (kH.toNat:Int))::e⟩⟩)(aa:bN e x=some (.s l):=by rfl)(ag:bN e i=some (.i cH (j:Int)):=by rfl):bl.ok aP ⟨K,.o (⟨some d,.vl x i,none⟩::xs),⟨own,a3,e⟩⟩:=gH (acK aa ag hj) k
theorem pS{l:List UInt8}{p q:Nat}{bD ag:Option Operand}(l':List UInt8)(k:bl.ok aP ⟨K,.o xs,⟨own,a3,(d,.s l')::e⟩⟩)(aa:bN e x=some (.s l):=by rfl)(hg:fD ⟨own,a3,e⟩ bD 0 p:=by first|exact rfl|exact⟨_,rfl⟩)(hY:fD ⟨own,a3,e⟩ ag l.length q:=by first|exact rfl|exact⟨_,rfl⟩)(hl:(l.drop p).take (q-p)=l':=by first|rfl|simp)(hp:p<=q:=by omega)(hq:q<=l.length:=by first|omega|(simp;done)|(simp;omega)):bl.ok aP ⟨K,.o (⟨some d,.sf x bD ag,none⟩::xs),⟨own,a3,e⟩⟩:=by
 subst hl;exact gH (alL aa hg hY hp hq) k
theorem qM{l m:List UInt8}(k:bl.ok aP ⟨K,.o xs,⟨own,a3,(d,.s (l++m))::e⟩⟩)(aa:bN e x=some (.s l):=by rfl)(aJ:bN e y=some (.s m):=by rfl)(hl:l.length+m.length<=1099511627776:=by first|omega|(simp;done)|(simp;omega)):bl.ok aP ⟨K,.o (⟨some d,.bin .add x y,none⟩::xs),⟨own,a3,e⟩⟩:=gH (V3 aa aJ hl) k
end
section
variable{aP:hR}{K:List gg}{own:List bJ}{a3:Nat}{e:cf}{d:Tmp}{xs:List bB}{x y:Operand}
theorem ajS{m n:Nat}(k:bl.ok aP ⟨K,.o xs,⟨own,a3,(d,.i .u64 ((m/n:Nat):Int))::e⟩⟩)(aa:bN e x=some (.i .u64 (m:Int)):=by rfl)(aJ:bN e y=some (.i .u64 (n:Int)):=by rfl)(hn:n≠0:=by omega)(hm:m<18446744073709551616:=by omega):bl.ok aP ⟨K,.o (⟨some d,.bin .quo x y,none⟩::xs),⟨own,a3,e⟩⟩:=by
 have h:=ajA (call:=aP.call) (s:=⟨own,a3,e⟩) aa aJ (by omega);have aG:IntKind.u64.wrap ((m:Int).tdiv n)=((m/n:Nat):Int):=by
  show IntKind.u64.wrap ((m/n:Nat):Int)=_;have:=Nat.div_le_self m n;generalize m/n=q at *;exact Uu (by omega) (by omega)
 rw[aG]at h;exact gH h k
theorem ajT{bu:IntKind}{m n:Nat}(k:bl.ok aP ⟨K,.o xs,⟨own,a3,(d,.i bu ((m%n:Nat):Int))::e⟩⟩)(aa:bN e x=some (.i bu (m:Int)):=by rfl)(aJ:bN e y=some (.i bu (n:Int)):=by rfl)(hn:n≠0:=by omega):bl.ok aP ⟨K,.o (⟨some d,.bin .rem x y,none⟩::xs),⟨own,a3,e⟩⟩:=
 gH (aj4 (s:=⟨own,a3,e⟩) aa aJ (by omega)) k
theorem ajV{bu bg:IntKind}{m n:Nat}(k:bl.ok aP ⟨K,.o xs,⟨own,a3,(d,.i bu ((m/2^n:Nat):Int))::e⟩⟩)(aa:bN e x=some (.i bu (m:Int)):=by rfl)(aJ:bN e y=some (.i bg (n:Int)):=by rfl)(hn:n<=bu.bits:=by first|decide|(show _<=64;omega)):bl.ok aP ⟨K,.o (⟨some d,.bin .shr x y,none⟩::xs),⟨own,a3,e⟩⟩:=
 gH (akO (s:=⟨own,a3,e⟩) aa aJ hn) k
end
def Tj(d:Nat):bl->Option bl
 |⟨K,c,⟨own,n,(t,a)::e⟩⟩=>match Nat.beq t d with
  |true=>none
  |false=>Ge ⟨K,c,⟨own,n,(t,a)::e⟩⟩
 |g=>Ge g
theorem bd{aP:hR}(d:Nat){g kK:bl}(h:Tj d g=some kK)(k:kK.ok aP):g.ok aP:=by
 unfold Tj at h;split at h
 ·split at h
  ·cases h
  ·exact ab h k
 ·exact ab h k
theorem R.mono{aP:hR}{K yT:List gg}{c:bc}{s:di}(h:∀x s,Sem aP K x s->Sem aP yT x s)(k:R aP K c s):R aP yT c s:=by
 have up:∀x fr st,sv aP (Sem aP K) x fr st->sv aP (Sem aP yT) x fr st:=fun x fr st ⟨H,ids,s,J,U,ah,aC⟩=>⟨H,ids,s,J,U,ah,h x s aC⟩;cases c with
 |c c=>exact fun H ids st fr bC aA af=>(k H ids st fr bC aA af).mono up
 |o l=>exact fun H ids st fr bC aA af=>(k H ids st fr bC aA af).mono up
 |x e=>exact h e s k
 |d l b9 bR bw cJ=>exact fun H ids st fr fS ak bC aA af cP=>(k H ids st fr fS ak bC aA af cP).mono up
theorem cu{aP:hR}{K:List gg}{s:di}{c:Operand}{a b:du}{P:Prop}[ax:Decidable P](a2:P->bl.ok aP ⟨K,.c a,s⟩)(hb:¬P->bl.ok aP ⟨K,.c b,s⟩)(hc:bN s.env c=some (.b (decide P)):=by rfl):bl.ok aP ⟨K,.c (.cond c a b),s⟩:=vU hc (fun h=>a2 (of_decide_eq_true h)) (fun h=>hb (of_decide_eq_false h))
theorem yx{aP:hR}{K:List gg}{s:di}{c:Operand}{a b:du}{P:Prop}[ax:Decidable P](a2:¬P->bl.ok aP ⟨K,.c a,s⟩)(hb:P->bl.ok aP ⟨K,.c b,s⟩)(hc:bN s.env c=some (.b (!decide P)):=by rfl):bl.ok aP ⟨K,.c (.cond c a b),s⟩:=vU hc (fun h=>a2 (by simpa using h)) (fun h=>hb (by simpa using h))
theorem hk{aP:hR}{K:List gg}{c:bc}{s:di}{b:du}{L:Type _}(P:L->Prop)(T:L->di)(J:bl.ok aP ⟨.b3 (tY aP.i0.length P T)::K,c,s⟩)(U:∀l,P l->bl.ok aP ⟨K,.c b,T l⟩):bl.ok aP ⟨.seq b::K,c,s⟩:=by
 refine R.mono (fun x s aa=> ?_) J;cases x with
 |norm=>obtain⟨f,l,hp,ak⟩:=aa;exact KB f _ ak (U l hp)
 |exit i=>exact aa
 |ret=>exact aa
 |bh v=>exact aa
theorem eS{n m:Int}(h:n=m:=by omega)(J: -9223372036854775808<=n:=by omega)(U:n<9223372036854775808:=by omega):some (al.i .i64 (IntKind.i64.wrap n))=some (al.i .i64 m):=by rw[gD J U,h]
theorem cB{n m:Int}(h:n=m:=by omega)(J: -9223372036854775808<=n:=by omega)(U:n<9223372036854775808:=by omega):al.i .i64 (IntKind.i64.wrap n)=al.i .i64 m:=by rw[gD J U,h]
theorem kZ{k:IntKind}{n m:Int}(h:n=m:=by omega):some (al.i k n)=some (al.i k m):=by rw[h]
theorem ff{k:IntKind}{n m:Int}(h:n=m:=by omega):al.i k n=al.i k m:=by rw[h]
theorem cT{own:List bJ}{n p:Nat}{e cj:cf}{o:bJ}(h:pb [0] cj e)(ao:∃cg,own[0]? =some cg∧me [0] o cg)(hp:pinned p [0] 0=true:=by rfl):Sub p [0] ⟨own,n,e⟩ ⟨[o],1,cj⟩:=⟨by simp,rfl,⟨ao,trivial⟩,h,hp⟩
theorem kc{own:List bJ}{n p:Nat}{e cj:cf}{o q:bJ}(h:pb [0,1] cj e)(ao:∃cg,own[0]? =some cg∧me [0,1] o cg)(hq:∃cg,own[1]? =some cg∧me [0,1] q cg)(hp:pinned p [0,1] 0=true:=by rfl):Sub p [0,1] ⟨own,n,e⟩ ⟨[o,q],2,cj⟩:=⟨by simp,rfl,⟨ao,hq,trivial⟩,h,hp⟩
section
variable{call:bP}{fr:aQ}{H:bY}{ids:List Nat}{e:cf}{x y i:Operand}
theorem acm{z j:Nat}{α:Type}{R:α->List al}{l:List α}{q:α}{cH:IntKind}(af:dk fr H ids e)(aa:bN e x=some (.gE z α R l))(ag:bN e i=some (.i cH (j:Int)))(hj:l[j]? =some q):∃v,den H (.ip (R q)) ids v∧∀st,cb call (.lZ z x i) fr st= .ok v fr st:=by
 have ah:fr.an i= .int cH (j:Int):=af.an ag;have bO:=(List.getElem?_eq_some_iff.1 hj).1;rcases af.an aa with⟨hl,_⟩|⟨b,o,c,vs,el,bt,aR,J,U,aC,a5⟩
 ·subst hl;simp at bO
 ·refine⟨_,⟨b,o+j*z,vs,el,bt,aR,rfl,aC,?_⟩,fun st=>ED J ah bO⟩;have ax:=a5 j q hj;have hl:=hH ax;rw[<-hl];rw[show(vs.drop (o+j*z)).take ((vs.drop (o+j*z)).take z).length=(vs.drop (o+j*z)).take z by rw[List.length_take,<-List.take_eq_take_min]];exact ax
theorem acn{k z o n c j:Nat}{cH:IntKind}(af:dk fr H ids e)(aa:bN e x=some (.bH k z o n c))(ag:bN e i=some (.i cH (j:Int)))(hj:j<n):∃v,den H (.gG k z (o+j) 0) ids v∧∀st,cb call (.lZ z x i) fr st= .ok v fr st:=by
 obtain⟨b,J,U⟩:=af.an aa;have ah:fr.an i= .int cH (j:Int):=af.an ag;exact⟨_,⟨b,J,by rw[Nat.add_mul,Nat.add_zero]⟩,fun st=>ED U ah hj⟩
end
section
variable{aP:hR}{K:List gg}{own b9:List bJ}{a3 bw cJ back:Nat}{e bR:cf}{d:Tmp}{ts:List Tmp}{xs:List (bB×c0)}{x y i:Operand}
theorem mm{z j:Nat}{α:Type}{R:α->List al}{l:List α}(q:α){cH:IntKind}(hj:l[j]? =some q)(k:bl.ok aP ⟨K,.d xs b9 ((d,.ip (R q))::bR) bw cJ,⟨own,a3,(d,.ip (R q))::e⟩⟩)(aa:bN (fg ts bR) x=some (.gE z α R l):=by rfl)(ag:bN (fg ts bR) i=some (.i cH (j:Int)):=by rfl)(hb:back<bw:=by decide):bl.ok aP ⟨K,.d ((⟨some d,.lZ z x i,none⟩,.read back ts)::xs) b9 bR bw cJ,⟨own,a3,e⟩⟩:=
 ph (d:=some d) hb (fun H ids st fr af _ _=>let⟨v,J,U⟩:=acm af aa ag hj;⟨v,J,fun cS _ _=>U cS⟩) k
theorem X5{bu z o n c j:Nat}{cH:IntKind}(k:bl.ok aP ⟨K,.d xs b9 ((d,.gG bu z (o+j) 0)::bR) bw cJ,⟨own,a3,(d,.gG bu z (o+j) 0)::e⟩⟩)(aa:bN (fg ts bR) x=some (.bH bu z o n c):=by rfl)(ag:bN (fg ts bR) i=some (.i cH (j:Int)):=by rfl)(hj:j<n:=by omega)(hb:back<bw:=by decide):bl.ok aP ⟨K,.d ((⟨some d,.lZ z x i,none⟩,.read back ts)::xs) b9 bR bw cJ,⟨own,a3,e⟩⟩:=
 ph (d:=some d) hb (fun H ids st fr af _ _=>let⟨v,J,U⟩:=acn af aa ag hj;⟨v,J,fun cS _ _=>U cS⟩) k
theorem kI{bu z n c j:Nat}{cH:IntKind}(k:bl.ok aP ⟨K,.d xs b9 ((d,.gG bu z j 0)::bR) bw cJ,⟨own,a3,(d,.gG bu z j 0)::e⟩⟩)(aa:bN (fg ts bR) x=some (.bH bu z 0 n c):=by rfl)(ag:bN (fg ts bR) i=some (.i cH (j:Int)):=by rfl)(hj:j<n:=by omega)(hb:back<bw:=by decide):bl.ok aP ⟨K,.d ((⟨some d,.lZ z x i,none⟩,.read back ts)::xs) b9 bR bw cJ,⟨own,a3,e⟩⟩:=
 X5 (by rw[Nat.zero_add];exact k) aa ag hj hb
theorem CP{bu z j q:Nat}{el:TypeId}{aR:Bool}{α:Type}{R:α->List al}{l:List α}(w:α){a:al}(hj:l[j]? =some w)(k:bl.ok aP ⟨K,.d xs b9 ((d,a)::bR) bw cJ,⟨own,a3,(d,a)::e⟩⟩)(aa:bN (fg ts bR) x=some (.gG bu z j q):=by rfl)(ae:b9[bu]? =some (.a el aR z α R l):=by rfl)(hq:(R w)[q]? =some a:=by rfl)(hb:back<bw:=by decide):bl.ok aP ⟨K,.d ((⟨some d,.l1 x,none⟩,.read back ts)::xs) b9 bR bw cJ,⟨own,a3,e⟩⟩:=
 ph (d:=some d) hb (fun H ids st fr af hl ao=>by
  obtain⟨b,J,U⟩:=af.an aa;obtain⟨vs,ah,aC,a5⟩:=ao bu _ b ae rfl J;obtain⟨v,aD,ax⟩:=sI (a5 j w hj) hq;refine⟨v,ax,fun cS _ ak=>xL U ((ak bu _ b ae rfl J).trans ah) ?_⟩;rw[List.getElem?_take]at aD;split at aD
  ·rw[List.getElem?_drop]at aD;exact aD
  ·cases aD) k
theorem mV{bu j:Nat}{el:TypeId}{aR:Bool}{α:Type}{R:α->List al}{l:List α}{a:al}{bZ ig:List bJ}(w':α)(k:bl.ok aP ⟨K,.d xs ig bR (bw+1) a3,⟨bZ,a3,e⟩⟩)(aa:bN e x=some (.gG bu 1 j 0):=by rfl)(aJ:bN e y=some a:=by rfl)(ae:own[bu]? =some (.a el aR 1 α R l):=by rfl)(c9:R w'=[a]:=by rfl)(hc:q5 a=true:=by rfl)(J:∀w,(R w).length=1:=by exact fun _=>rfl)
 (ao:kb own bu (.a el aR 1 α R (l.set j w')) some=some bZ:=by rfl) (uZ:Bh b9 (some bu) some=some ig:=by rfl) (hj:j<l.length:=by first|omega|(simp;done)|(simp;omega)):bl.ok aP ⟨K,.d ((⟨none,.store 1 x y,none⟩,.fe)::xs) b9 bR bw cJ,⟨own,a3,e⟩⟩:=by
 have h:=lJ ao;cases h;obtain⟨ai2,aW,a0,bx⟩:=JP uZ;cases aW;exact Hk (d:=none) (s:=⟨own,a3,e⟩) (Th (s:=⟨own,a3,e⟩) w' aa aJ ae c9 hj hc J) a0 (fun k o fJ hl=>by
  have:=bx k o fJ hl;simp only[j3,aa];exact this) k
end
structure jO where
 L:Type
 own:L->List bJ
 args:L->List al
 pre:L->Prop
 bZ:L->List bJ
 res:L->al
def jO.spec(S:jO):Spec where
 L:=S.L×bY×List Nat
 pre:=fun l vs st=>S.pre l.1∧Fit l.2.1 l.2.2 st (S.own l.1) (S.own l.1).length∧ei l.2.1 (S.args l.1) l.2.2 vs
 post:=fun l vs st v st'=>∃cc,Fit cc l.2.2 st' (S.bZ l.1) (S.own l.1).length∧eL l.2.1 l.2.2 st cc l.2.2 st'∧den cc (S.res l.1) l.2.2 v
def LD(S:jO)(l:S.L)(res:List iu)(x:ee)(s:di):Prop:=(x= .norm∨x= .ret)∧(∃r,Fin.vZ s res=some r∧pL r=true∧c5 r (S.res l))∧∃f,f.length=(S.own l).length∧Sub (S.own l).length f s ⟨S.bZ l,(S.own l).length,[]⟩
theorem JT{f ids i0:List Nat}(af:f.length=i0.length)(hp:pinned i0.length f 0=true)(ag:dO i0 ids):pick f ids=i0:=by
 apply List.ext_getElem?;intro k;by_cases ae:k<i0.length
 ·have J:=JU hp k ae;rw[Nat.zero_add]at J;have U:=ag k _ (cA ae);rw[vI J U,cA ae]
 ·rw[List.getElem?_eq_none (by simp[pick];omega),List.getElem?_eq_none (by omega)]
variable{X:Ctx}
theorem XV{a7:au aK}(dE:Good X)(hA:mi X a7)(eh:FuncId->List Value->aw->Value->aw->Prop){f:FuncId}{xf:aK}(aa:a7.get f=some xf){S:jO}(hl:∀l,(S.args l).length<=xf.ay)
 (h:∀l,S.pre l->∀H i0 a4,i0.length=(S.own l).length->bl.ok ⟨dx a7 (en X eh) (cp+1),cp+1,f,H,i0,a4,LD S l xf.res⟩ ⟨[],.c xf.body,⟨S.own l,(S.own l).length,nB 0 (S.args l)⟩⟩):ca X f S.spec:=by
 refine Nm dE hA eh aa (fun l vs st ⟨_,_,d⟩=>by rw[hH d];exact hl l.1) ?_;rintro⟨l,H,i0⟩ vs st ⟨hp,aA,d⟩;simp only at hp aA d;refine(h l hp H i0 st aA.len H i0 st (gq vs) (eL.refl _ _ _) aA (dk.zero d)).mono ?_;rintro x fr st' ⟨cc,ids,s,bC,eC,af,aa,⟨r,J,U,hle⟩,g,aZ,ak⟩;obtain⟨v,ah,aC⟩:=FZ (call:=dx a7 (en X eh) (cp+1)) eC af J;have Ah:i0.length=(S.own l).length:=aA.len;have e9:Sub i0.length g s ⟨S.bZ l,(S.own l).length,[]⟩:=by rw[Ah];exact ak
 have Av:=JT (by omega) e9.EV bC.l0;have uK:=e9.fit eC;have Oj:=e9.bn eC bC;rw[Av]at uK Oj;exact⟨aa,v,aC,cc,uK,Oj,hle _ _ _ (CT _ U ah _)⟩
mutual
theorem NA{H:bY}{f ids:List Nat}(af:∀k m:Nat,f[k]? =some m->m<ids.length):∀(a:al) {v:Value},den H a (pick f ids) v->den H (mN f a) ids v
 |.i _ _,_,d=>d
 |.b _,_,d=>d
 |.s _,_,d=>d
 |.nl,_,d=>d
 |.v _,_,d=>d
 |.p k o,v,⟨b,e,d⟩=>by
  obtain⟨m,J,U⟩:=Bj af e;unfold mN;rw[J];exact⟨b,U,d⟩
 |.gG k z j o,v,⟨b,e,d⟩=>by
  obtain⟨m,J,U⟩:=Bj af e;unfold mN;rw[J];exact⟨b,U,d⟩
 |.bH k z o n c,v,⟨b,e,d⟩=>by
  obtain⟨m,J,U⟩:=Bj af e;unfold mN;rw[J];exact⟨b,U,d⟩
 |.gE _ _ _ _,_,d=>d
 |.jJ _ _ _ _,_,d=>d
 |.ip _,_,d=>d
 |.fn _ dd cs,_,⟨vs,ws,e,d1,d2⟩=>⟨vs,ws,e,wU af dd d1,wU af cs d2⟩
 |.agg cs,_,⟨vs,e,d⟩=>⟨vs,e,wU af cs d⟩
 |.b5 cs,_,⟨vs,e,d⟩=>⟨vs,e,wU af cs d⟩
 |.bad,_,d=>d.elim
theorem wU{H:bY}{f ids:List Nat}(af:∀k m:Nat,f[k]? =some m->m<ids.length):∀(a:List al) {v:List Value},ei H a (pick f ids) v->ei H (pT f a) ids v
 |[],_,d=>d
 |a::as,_,⟨v,ws,e,d1,d2⟩=>⟨v,ws,e,NA af a d1,wU af as d2⟩
theorem Bj{f ids:List Nat}(af:∀k m:Nat,f[k]? =some m->m<ids.length){k b:Nat}(h:(pick f ids)[k]? =some b):∃m,f[k]? =some m∧ids[m]? =some b:=by
 unfold pick at h;rw[List.getElem?_map]at h;cases ae:f[k]? with
 |none=>rw[ae]at h;cases h
 |some m=>
  rw[ae]at h;have hm:=af k m ae;have h:some ((ids[m]?).getD 0)=some b:=h;rw[cA hm]at h;exact⟨m,rfl,by rw[cA hm];exact h⟩
end
def yW(f:List Nat):bJ->bJ->Prop
 |.c el cs,o=>o= .c el (pT f cs)
 |.a el aR z α R l,o=>o= .a el aR z α R l∧∀x,jL (R x)=true
 |.x,o=>o= .x
theorem yW.den{H:bY}{f ids:List Nat}(af:∀k m:Nat,f[k]? =some m->m<ids.length){o cg:bJ}{ez:Option bL}(h:yW f o cg)(d:lR H (pick f ids) o ez):lR H ids cg ez∧cg.live=o.live:=by
 cases o with
 |c el cs=>cases h;obtain⟨vs,e,d⟩:=d;exact⟨⟨vs,e,wU af cs d⟩,rfl⟩
 |a el aR z α R l=>
  obtain⟨h,hp⟩:=h;cases h;obtain⟨vs,aG,e2,d⟩:=d;exact⟨⟨vs,aG,e2,fun i x aa=>qa _ (hp x) (d i x aa) _⟩,rfl⟩
 |x=>cases h;exact⟨trivial,rfl⟩
def Lz(f:List Nat)(own bZ:List bJ)(os:List bJ):Prop:=bZ.length=own.length∧(∀j:Nat,j∉f->bZ[j]? =own[j]?)∧∀(i k:Nat) (cg:bJ),f[i]? =some k->bZ[k]? =some cg->∃o,os[i]? =some o∧yW f o cg
theorem VI{k:Nat}{own bZ:List bJ}{o cg:bJ}(h:kb own k cg some=some bZ)(hb:yW [k] o cg):Lz [k] own bZ [o]:=by
 have:=lJ h;cases this;refine⟨by simp,fun j hj=>List.getElem?_set_ne (by simpa using fun e=>hj (by simp[e])),fun i k' q ae hq=> ?_⟩;cases i with
 |zero=>
  simp at ae;subst ae;rw[List.getElem?_set]at hq;rw[if_pos rfl]at hq;split at hq<;>cases hq;exact⟨o,rfl,hb⟩
 |succ i=>simp at ae
theorem V0{a7:au aK}{eh:FuncId->List Value->aw->Value->aw->Prop}{a9 n:Nat}{fn:FuncId}{dc:bY}{i0:List Nat}{a4:aw}{Q:ee->di->Prop}{K:List gg}{own bZ:List bJ}{a3:Nat}{e:cf}{g:FuncId}{S:jO}(hc:ca X g S.spec){fZ:List Operand}{as:List al}{d:Option Tmp}{xs:List bB}(f:List Nat)(l:S.L)(hp:S.pre l)
 (ak:Sub 0 f ⟨own,a3,e⟩ ⟨S.own l,(S.own l).length,[]⟩) (hb:Lz f own bZ (S.bZ l)) (k:bl.ok ⟨dx a7 (en X eh) (n+1),a9,fn,dc,i0,a4,Q⟩ ⟨K,.o xs,⟨bZ,a3,gv d (mN f (S.res l)) e⟩⟩)
 (a2:nR e fZ=some as) (he:as=pT f (S.args l)) (eZ:eh g=S.spec.K):
 bl.ok ⟨dx a7 (en X eh) (n+1),a9,fn,dc,i0,a4,Q⟩ ⟨K,.o (⟨d,.call (.func g) fZ,none⟩::xs),⟨own,a3,e⟩⟩:=by
 intro H ids st fr bC aA af;subst he;have ox:=ak.fit aA;have ax:=uz f _ (af.fv a2);obtain⟨v,st',J,U⟩:=hc _ st ⟨(l,H,pick f ids),hp,ox,ax⟩;obtain⟨v1,cR,aW,a0⟩:=Rj (X:=X) (K:=eh) (f:=g) ⟨v,st',by rw[eZ];exact J,U⟩;rw[eZ]at a0;obtain⟨cc,eC,fl,hX⟩:=a0 (l,H,pick f ids) ⟨hp,ox,ax⟩;simp only at eC fl hX;have bO:∀k m:Nat,f[k]? =some m->m<ids.length:=fun k m ae=>by
  have hl:(S.own l).length=f.length:=ak.own.len;have J:=(List.getElem?_eq_some_iff.1 ae).1;obtain⟨fL,cg,U,ah,_⟩:=ak.own.get (cA (show k<(S.own l).length by omega));rw[ae]at U;cases U;rw[aA.len,<-aA.cQ];exact(List.getElem?_eq_some_iff.1 ah).1
 have Ar:∀(j b:Nat),j∉f->ids[j]? =some b->b∉pick f ids:=fun j b hj hb hm=>by
  obtain⟨k,ae⟩:=List.mem_iff_getElem?.1 hm;obtain⟨m,ah,aC⟩:=Bj bO ae;have aG:=List.getElem?_eq_some_iff.1 hb;have e2:=List.getElem?_eq_some_iff.1 aC;have:=(List.getElem_inj (h₀:=aG.1) (h₁:=e2.1) aA.dr).1 (aG.2.trans e2.2.symm);exact hj (this▸List.mem_of_getElem? ah)
 have bx:dx a7 (en X eh) (n+1) (.func (.func g) #[] #[]) (fv fr fZ) none st= .ret v1 cR false:=by
  rw[zp];have e:gL (#[]:Array Value).toList (gL (fv fr fZ) (#[]:Array Value).toList)=fv fr fZ:=by simp
  rw[e,aW];rfl
 have hle:dZ H cc:=fl.hle;refine Gr (v:=v1) (st':=cR) ?_ (k cc ids cR _ ?_ ?_ ((af.mono hle (dO.refl _)).gv d (NA bO _ hX)))
 ·rw[Bf];show uH (dx a7 (en X eh) (n+1) (.func (.func g) #[] #[]) (fv fr fZ) none st) _ _=_;rw[bx];rfl
 ·have xp:∀b,b∈pick f ids->b∈ids:=fun b hb=>by
   obtain⟨k,ae⟩:=List.mem_iff_getElem?.1 hb;obtain⟨m,_,aC⟩:=Bj bO ae;exact List.mem_of_getElem? aC
  have oE:∀b,b<a4.aj->b∉i0->b∉pick f ids:=fun b hb hn hm=>by
   rcases bC.new b (xp b hm)with h|h
   ·exact hn h
   ·have h:a4.aj<=b:=h;omega
  refine⟨bC.hle.trans hle,fun b hb hn=> ?_,fun b hb hn=> ?_,Nat.le_trans bC.aj fl.aj,bC.l0,bC.new⟩
  ·rw[fl.hold b (gf hb bC.aj) (oE b hb hn)];exact bC.hold b hb hn
  ·rw[fl.iB b (gf hb bC.aj) (oE b hb hn)];exact bC.iB b hb hn
 ·obtain⟨hv,nK,aas⟩:=hb;refine⟨eC.wf,eC.le,by rw[hv];exact aA.cQ,aA.len,aA.dr,fun b hb=>gf (aA.lt b hb) fl.aj,fun j o b hj oz=> ?_⟩;by_cases H9:j∈f
  ·obtain⟨i,ag⟩:=List.mem_iff_getElem?.1 H9;obtain⟨vE,abj,rC⟩:=aas i j o ag hj;have Iv:=vI ag oz;obtain⟨ah,aC⟩:=eC.own i vE b abj Iv;obtain⟨a5,ch⟩:=rC.den bO ah;exact⟨a5,fun hl=>aC (by rw[<-ch];exact hl)⟩
  ·have hj:bZ[j]? =some o:=hj;rw[nK j H9]at hj;obtain⟨ah,aC⟩:=aA.own j o b hj oz;have OU:=aA.lt b (List.mem_of_getElem? oz);have DQ:=Ar j b H9 oz;rw[fl.iB b OU DQ];exact⟨wS hle (dO.refl _) ah,fun hl=>by rw[fl.hold b OU DQ];exact aC hl⟩
theorem Sc{a7:au aK}{eh:FuncId->List Value->aw->Value->aw->Prop}{a9 n:Nat}{fn:FuncId}{dc:bY}{i0:List Nat}{a4:aw}{Q:ee->di->Prop}{K:List gg}{own bZ:List bJ}{a3:Nat}{e:cf}{g:FuncId}{S:jO}(hc:ca X g S.spec){fZ:List Operand}{as:List al}{d:Option Tmp}{xs:List bB}{o cg:bJ}(bu:Nat)(l:S.L)(hp:S.pre l)
 (k:bl.ok ⟨dx a7 (en X eh) (n+1),a9,fn,dc,i0,a4,Q⟩ ⟨K,.o xs,⟨bZ,a3,gv d (mN [bu] (S.res l)) e⟩⟩) (ao:S.own l=[o]:=by rfl) (lq:S.bZ l=[cg]:=by rfl)
 (ae:∃tn,own[bu]? =some tn∧me [bu] o tn:=by exact⟨_,rfl,rfl,fun _=>rfl⟩) (ak:kb own bu cg some=some bZ:=by rfl) (hb:yW [bu] cg cg:=by exact⟨rfl,fun _=>rfl⟩)
 (a2:nR e fZ=some as:=by rfl) (he:as=pT [bu] (S.args l):=by rfl) (eZ:eh g=S.spec.K:=by rfl):
 bl.ok ⟨dx a7 (en X eh) (n+1),a9,fn,dc,i0,a4,Q⟩ ⟨K,.o (⟨d,.call (.func g) fZ,none⟩::xs),⟨own,a3,e⟩⟩:=
 V0 hc [bu] l hp ⟨by simp,by rw[ao];rfl,by rw[ao];exact⟨ae,trivial⟩,trivial,rfl⟩ (by rw[lq];exact VI ak hb) k a2 he eZ
end Go.az
namespace Go.az
open Sym
set_option maxRecDepth 10000
section
variable{aP:hR}{K:List gg}{own bZ:List bJ}{a3:Nat}{e:cf}
theorem Ky{bu z n c:Nat}(t:Nat){el:TypeId}{aR:Bool}{α:Type}{R:α->List al}{l:List α}{p:du}(k:bl.ok aP ⟨K,.c p,⟨bZ,a3,(t,.gE z α R l)::e⟩⟩)(aX:fc e t=some (.bH bu z 0 n c):=by rfl)(ae:own[bu]? =some (.a el aR z α R l):=by rfl)(hp:∀x,jL (R x)=true:=by exact fun _=>rfl)
 (ao:kb own bu .x some=some bZ:=by rfl) (hn:l.length=n:=by first|omega|(simp;done)|(simp;omega)) (hc:n<=c:=by omega):bl.ok aP ⟨K,.c p,⟨own,a3,e⟩⟩:=by
 have J:=lJ ao;cases J;exact ajM t l aX ae (by rw[List.drop_zero,List.take_of_length_le (by omega)]) hn hc hp k
end
section
variable{call:bP}{s:di}{x y:Operand}
theorem Wh{k z n c:Nat}{el:TypeId}{aR:Bool}{α:Type}{R:α->List al}{l m:List α}(aa:bN s.env x=some (.bH k z 0 n c))(ae:s.own[k]? =some (.a el aR z α R l))(ak:pa s y R z m)(J:m.length<=n)(U:n<=l.length)(a8:0<z):
 fT call (.q7 z x y) s (.i .i64 (m.length:Nat)) (s.own.set k (.a el aR z α R (m++l.drop m.length))) s.n:=fun H ids st fr aA af=>by
 obtain⟨b,aW,a0⟩:=af.an aa;obtain⟨vs,bx,cK,dn⟩:=pg aA ae aW;have e:cb call (.q7 z x y) fr st=jh (fr.an x) (fun a dl _=>jh (fr.an y) (fun b bH _=>bo a (fun a=>bo b (fun b=>st.load b (Nat.mul (ey bH dl bH dl) z) (fun vs=>cond (gS vs) (st.store a vs (fun st=>.ok (.int .i64 (.ofNat (ey bH dl bH dl))) fr st) .no) .no) .no) (ea bH 0 (.ok (.int .i64 0) fr st) .no)) (ea dl 0 (.ok (.int .i64 0) fr st) .no)) .no) .no:=rfl;rw[e,a0,o6,Nat.zero_mul];rcases ak H ids st fr aA af with⟨rfl,bE,dW⟩|⟨fF,o,bE,ws,YQ,bt,rn,dW,dM,eT,ih,oY⟩
 ·refine⟨.int .i64 0,st,ids,H,by rw[dW,o6,Sym.eU,Sym.h3,jE rfl],?_,rfl,dZ.refl _,dO.refl _,fun _ _ _ B=>B,cd _,fun _ _ _=>rfl⟩;rw[show([]++l.drop ([]:List α).length)=l by simp,show s.own.set k (.a el aR z α R l)=s.own from ?_]
  ·exact aA
  ·apply List.ext_getElem?;intro i;rw[List.getElem?_set];split
   ·rename_i h;subst h;rw[ae];simp[(List.getElem?_eq_some_iff.1 ae).1]
   ·rfl
 ·have DO:((ws.drop o).take (m.length*z)).length=m.length*z:=by simp at eT ⊢;omega
  have anO:m.length*z<=l.length*z:=g5 z (by omega);have iw:=q6 ih (wJ (n:=m.length) ⟨cK,dn⟩);have ax:vs.take 0++((ws.drop o).take (m.length*z)++vs.drop (0+((ws.drop o).take (m.length*z)).length))=(ws.drop o).take (m.length*z)++vs.drop (m.length*z):=by rw[DO];simp
  refine⟨_,_,ids,H,?_,aA.dQ ae rfl aW (ez:=.cells ((ws.drop o).take (m.length*z)++vs.drop (m.length*z)) el (0,0) aR) ⟨_,rfl,iw.1,iw.2⟩,rfl,dZ.refl _,dO.refl _,fun _ _ _ B=>B.dQ (List.mem_of_getElem? aW) _,cd _,fun anj _ cx=>au.ht _ _ (fun e=>cx k (by simp[j3,aa]) (e▸aW))⟩;rw[dW,o6,Sym.eU,Sym.eU,gj J];show aw.load st ⟨fF,o,none⟩ (m.length*z) _ _=_;unfold aw.load aw.gI;rw[Sym.h3,dM,kG,q8 eT,oY,cond_true];unfold aw.store aw.gI;rw[Sym.h3,bx,kG,gj (cd _),pM,if_pos (by show 0+_<=_;rw[DO,cK];omega),jy,ax];rfl
end
section
variable{aP:hR}{K:List gg}{own bZ:List bJ}{a3:Nat}{e:cf}{d:Tmp}{xs:List bB}{x y:Operand}
theorem ajK{bu z n c:Nat}{el:TypeId}{aR:Bool}{α:Type}{R:α->List al}{l:List α}(m:List α)(ak:pa ⟨own,a3,e⟩ y R z m)(k:bl.ok aP ⟨K,.o xs,⟨bZ,a3,(d,.i .i64 (m.length:Nat))::e⟩⟩)(aa:bN e x=some (.bH bu z 0 n c):=by rfl)(ae:own[bu]? =some (.a el aR z α R l):=by rfl)
 (ao:kb own bu (.a el aR z α R (m++l.drop m.length)) some=some bZ:=by rfl) (J:m.length<=n:=by omega) (U:n<=l.length:=by first|omega|(simp;done)|(simp;omega)) (a8:0<z:=by decide):bl.ok aP ⟨K,.o (⟨some d,.q7 z x y,none⟩::xs),⟨own,a3,e⟩⟩:=by
 have h:=lJ ao;cases h;exact gH (Wh (s:=⟨own,a3,e⟩) aa ae ak J U a8) k
end
section
variable{aP:hR}{K:List gg}{own b9:List bJ}{a3 bw cJ back:Nat}{e bR:cf}{d:Tmp}{ts:List Tmp}{xs:List (bB×c0)}{x y i:Operand}
theorem X6{m n:Nat}(k:bl.ok aP ⟨K,.d xs b9 ((d,.i .u64 ((m/n:Nat):Int))::bR) bw cJ,⟨own,a3,(d,.i .u64 ((m/n:Nat):Int))::e⟩⟩)(aa:bN (fg ts bR) x=some (.i .u64 (m:Int)):=by rfl)(aJ:bN (fg ts bR) y=some (.i .u64 (n:Int)):=by rfl)(hb:back<bw:=by decide)(hn:n≠0:=by omega)(hm:m<18446744073709551616:=by omega):bl.ok aP ⟨K,.d ((⟨some d,.bin .quo x y,none⟩,.read back ts)::xs) b9 bR bw cJ,⟨own,a3,e⟩⟩:=
 ph (d:=some d) (a:=.i .u64 ((m/n:Nat):Int)) hb (fun H ids st fr af _ _=>⟨.int .u64 ((m/n:Nat):Int),rfl,fun cS _ _=>by
  rw[QO (af.an aa) (af.an aJ) hn];have:=Nat.div_le_self m n;generalize m/n=q at *;rw[Uu (by omega) (by omega)]⟩) k
theorem X9{bu:IntKind}{m n:Nat}(k:bl.ok aP ⟨K,.d xs b9 ((d,.i bu ((m%n:Nat):Int))::bR) bw cJ,⟨own,a3,(d,.i bu ((m%n:Nat):Int))::e⟩⟩)(aa:bN (fg ts bR) x=some (.i bu (m:Int)):=by rfl)(aJ:bN (fg ts bR) y=some (.i bu (n:Int)):=by rfl)(hb:back<bw:=by decide)(hn:n≠0:=by omega):bl.ok aP ⟨K,.d ((⟨some d,.bin .rem x y,none⟩,.read back ts)::xs) b9 bR bw cJ,⟨own,a3,e⟩⟩:=
 ph (d:=some d) (a:=.i bu ((m%n:Nat):Int)) hb (fun H ids st fr af _ _=>⟨.int bu ((m%n:Nat):Int),rfl,fun cS _ _=>aiz (af.an aa) (af.an aJ) hn⟩) k
theorem Yb{z p q:Nat}{α:Type}{R:α->List al}{l:List α}{bD ag:Option Operand}(l':List α)(k:bl.ok aP ⟨K,.d xs b9 ((d,.gE z α R l')::bR) bw cJ,⟨own,a3,(d,.gE z α R l')::e⟩⟩)(aa:bN (fg ts bR) x=some (.gE z α R l):=by rfl)(hg:fD ⟨[],0,fg ts bR⟩ bD 0 p:=by first|exact rfl|exact⟨_,rfl⟩)(hY:fD ⟨[],0,fg ts bR⟩ ag l.length q:=by first|exact rfl|exact⟨_,rfl⟩)(hb:back<bw:=by decide)(hl:(l.drop p).take (q-p)=l':=by first|rfl|simp)(hp:p<=q:=by omega)(hq:q<=l.length:=by first|omega|(simp;done)|(simp;omega)):bl.ok aP ⟨K,.d ((⟨some d,.n3 z x bD ag none,none⟩,.read back ts)::xs) b9 bR bw cJ,⟨own,a3,e⟩⟩:=by
 subst hl;refine ph (d:=some d) hb (fun H ids st fr af _ _=> ?_) k;obtain⟨v,J,U⟩:=SS (call:=aP.call) (s:=⟨[],0,fg ts bR⟩) aa hg hY hp hq af;exact⟨v,J,fun cS hle _=>U cS hle⟩
end
section
variable{call:bP}{s:di}{x y:Operand}
theorem Va{bj dw k n c:Nat}{el:TypeId}{aR:Bool}{α:Type}{R:α->List al}{l:List α}(aa:bN s.env x=some (.bH k bj 0 n c))(ae:s.own[k]? =some (.a el aR bj α R l))(ak:uc call el dw s y R bj [])(ko:n<=c)(hc:c<=l.length)(hb:(2*n+768)*(dw+1)<=1099511627776):
 fT call (.app el bj dw x y) s (.bH k bj 0 n c) s.own s.n:=fun H ids st fr aA af=>by
 obtain⟨b,aW,a0⟩:=af.an aa;obtain⟨vs,bx,cK,dn⟩:=pg aA ae aW;obtain⟨new,J,U,ah⟩:=ak H ids st fr aA af x _ _ _ a0;have Dw:c*bj<=l.length*bj:=g5 bj hc;refine⟨_,st,ids,H,?_,aA,⟨b,aW,rfl⟩,dZ.refl _,dO.refl _,fun _ _ _ B=>B,cd _,fun _ _ _=>rfl⟩;rw[ah];unfold ki aw.gI;simp only[Nat.add_eq,Nat.mul_eq,Sym.eU,Sym.h3,bx,kG,Nat.zero_mul,List.length_nil,Nat.add_zero];rw[gj (show(2*n+768)*Nat.succ dw<=2^40 from hb),gj (cd _),gj ko,gj (by rw[fx,cK];show 0+c*bj<=_;omega),jE rfl,jE rfl]
theorem Vc{bj dw k n c:Nat}{el:TypeId}{α:Type}{R:α->List al}{l m:List α}(aa:bN s.env x=some (.bH k bj 0 n c))(ae:s.own[k]? =some (.a el false bj α R l))(ak:uc call el dw s y R bj m)(h0:m≠[])(ko:n<=c)(O2:c<n+m.length)(hc:c<=l.length)(hb:(2*(n+m.length)+768)*(dw+1)<=1099511627776):
 fT call (.app el bj dw x y) s (.bH s.n bj 0 (n+m.length) (n+m.length)) (s.own++[.a el true bj α R (l.take n++m)]) (s.n+1):=fun H ids st fr aA af=>by
 obtain⟨b,aW,a0⟩:=af.an aa;obtain⟨vs,bx,cK,dn⟩:=pg aA ae aW;obtain⟨new,J,U,ah⟩:=ak H ids st fr aA af x _ _ _ a0;have hl:0<m.length:=List.length_pos_iff.2 h0;have iw:=q6 (CE ⟨cK,dn⟩ n (by omega)) J;have jY:=CC (dZ.refl H) (dO.app ids [st.aj]) iw;have Dw:c*bj<=l.length*bj:=g5 bj hc;have As:n*bj<=l.length*bj:=g5 bj (by omega);refine⟨.slice (some ⟨st.aj,0,none⟩) (n+m.length) (n+m.length),_,_,H,?_,aA.add (ez:=.cells (vs.take (n*bj)++new) el (0,0) true) ⟨_,rfl,jY.1,jY.2⟩,⟨st.aj,by rw[<-aA.len,List.getElem?_append_right (cd _)];simp,by rw[Nat.zero_mul]⟩,dZ.refl _,dO.app _ _,fun _ _ _ B=>B.add _,Nat.le_succ _,fun b hb _=>ya hb⟩;rw[ah];unfold ki aw.gI;simp only[Nat.add_eq,Nat.mul_eq,Sym.eU,Sym.h3,bx,kG,Nat.zero_mul];rw[gj (show(2*(n+m.length)+768)*Nat.succ dw<=2^40 from hb),gj (cd _),gj ko,gj (by rw[fx,cK];show 0+c*bj<=_;omega),jE rfl,ri (by omega),cond_false,ahG (by omega),q8 (by simp;omega),gF,pf,List.drop_zero]
end
section
variable{aP:hR}{K:List gg}{own bZ:List bJ}{a3 cI:Nat}{e:cf}{d:Tmp}{xs:List bB}{x y:Operand}
theorem ajE{bj dw bu n c:Nat}{el:TypeId}{aR:Bool}{α:Type}{R:α->List al}{l:List α}(ak:pa ⟨own,a3,e⟩ y R bj ([]:List α))(k:bl.ok aP ⟨K,.o xs,⟨own,a3,(d,.bH bu bj 0 n c)::e⟩⟩)(aa:bN e x=some (.bH bu bj 0 n c):=by rfl)(ae:own[bu]? =some (.a el aR bj α R l):=by rfl)
 (ko:n<=c:=by omega) (hc:c<=l.length:=by first|omega|(simp;done)|(simp;omega)) (hb:(2*n+768)*(dw+1)<=1099511627776:=by omega):bl.ok aP ⟨K,.o (⟨some d,.app el bj dw x y,none⟩::xs),⟨own,a3,e⟩⟩:=gH (Va (s:=⟨own,a3,e⟩) aa ae (za ak) ko hc hb) k
theorem ajH{bj dw bu n c:Nat}{el:TypeId}{α:Type}{R:α->List al}{l:List α}(m:List α)(ak:pa ⟨own,a3,e⟩ y R bj m)(l':List α)(k:bl.ok aP ⟨K,.o xs,⟨bZ,cI,(d,.bH a3 bj 0 (n+m.length) (n+m.length))::e⟩⟩)(aa:bN e x=some (.bH bu bj 0 n c):=by rfl)(ae:own[bu]? =some (.a el false bj α R l):=by rfl)
 (ao:pV own (.a el true bj α R l') some=some bZ:=by rfl) (lp:nV a3 some=some cI:=by rfl) (h0:m≠[]:=by first|rfl|simp) (ko:n<=c:=by omega) (O2:c<n+m.length:=by first|omega|(simp;done)|(simp;omega)) (hc:c<=l.length:=by first|omega|(simp;done)|(simp;omega))
 (hb:(2*(n+m.length)+768)*(dw+1)<=1099511627776:=by first|omega|(simp;done)|(simp;omega)) (hl:l.take n++m=l':=by first|rfl|simp):bl.ok aP ⟨K,.o (⟨some d,.app el bj dw x y,none⟩::xs),⟨own,a3,e⟩⟩:=by
 subst hl;have J:=qN ao;have U:=pI lp;cases J;cases U;exact gH (Vc (s:=⟨own,a3,e⟩) aa ae (za ak) h0 ko O2 hc hb) k
end
section
variable{aP:hR}{K:List gg}{own b9:List bJ}{a3 bw cJ back:Nat}{e bR:cf}{d:Tmp}{ts:List Tmp}{xs:List (bB×c0)}{x y:Operand}
theorem Nr{m n:Nat}(k:bl.ok aP ⟨K,.d xs b9 ((d,.i .i64 ((m/n:Nat):Int))::bR) bw cJ,⟨own,a3,(d,.i .i64 ((m/n:Nat):Int))::e⟩⟩)(aa:bN (fg ts bR) x=some (.i .i64 (m:Int)):=by rfl)(aJ:bN (fg ts bR) y=some (.i .i64 (n:Int)):=by rfl)(hb:back<bw:=by decide)(hn:n≠0:=by omega)(hm:m<9223372036854775808:=by omega):bl.ok aP ⟨K,.d ((⟨some d,.bin .quo x y,none⟩,.read back ts)::xs) b9 bR bw cJ,⟨own,a3,e⟩⟩:=
 ph (d:=some d) (a:=.i .i64 ((m/n:Nat):Int)) hb (fun H ids st fr af _ _=>⟨.int .i64 ((m/n:Nat):Int),rfl,fun cS _ _=>by
  rw[QO (af.an aa) (af.an aJ) hn];have:=Nat.div_le_self m n;generalize m/n=q at *;rw[gD (by omega) (by omega)]⟩) k
end
theorem o1{aP:hR}{K:List gg}{i:Nat}{c:bc}{s:di}{b:du}{L:Type _}(P:L->Prop)(T:L->di)(J:bl.ok aP ⟨.cU i:: .b3 (tY aP.i0.length P T)::K,c,s⟩)(U:∀l,P l->bl.ok aP ⟨K,.c b,T l⟩):bl.ok aP ⟨.cU i:: .seq b::K,c,s⟩:=by
 have up:∀s,tY aP.i0.length P T s->Sem aP (.seq b::K) .norm s:=fun s aa=>by
  obtain⟨f,l,hp,ak⟩:=aa;exact KB f _ ak (U l hp)
 refine R.mono (fun x s aa=> ?_) J;cases x with
 |norm=>exact up s aa
 |exit j=>
  show if j=i then Sem aP (.seq b::K) .norm s else Sem aP (.seq b::K) (.exit j) s;have aa:if j=i then Sem aP (.b3 (tY aP.i0.length P T)::K) .norm s else Sem aP (.b3 (tY aP.i0.length P T)::K) (.exit j) s:=aa;split
  ·rename_i h;rw[if_pos h]at aa;exact up s aa
  ·rename_i h;rw[if_neg h]at aa;exact aa
 |ret=>exact aa
 |bh v=>exact aa
theorem BP{own:List bJ}{n p:Nat}{e cj:cf}{o q r:bJ}(h:pb [0,1,2] cj e)(ao:∃cg,own[0]? =some cg∧me [0,1,2] o cg)(hq:∃cg,own[1]? =some cg∧me [0,1,2] q cg)(aF:∃cg,own[2]? =some cg∧me [0,1,2] r cg)(hp:pinned p [0,1,2] 0=true:=by rfl):Sub p [0,1,2] ⟨own,n,e⟩ ⟨[o,q,r],3,cj⟩:=⟨by simp,rfl,⟨ao,hq,aF,trivial⟩,h,hp⟩
def jP(c:UInt8):List al:=[.i .u8 (c.toNat:Int)]
theorem Hd{H:bY}{ids:List Nat}:∀{l:List UInt8} {vs:List Value},iH H ids jP 1 l vs->bytesOf vs=some l
 |[],vs,h=>by
  have:vs=[]:=List.eq_nil_of_length_eq_zero (by rw[h.1];simp);subst this;rfl
 |c::l,vs,h=>by
  have J:=h.2 0 c (by simp);rw[Nat.zero_mul,List.drop_zero]at J;have U:=wJ h 1;obtain⟨v,ws,aG,e2,cw⟩:=J;have e2:v= .int .u8 (c.toNat:Int):=e2;have cw:ws=[]:=cw;subst e2 cw;have aD:vs= .int .u8 (c.toNat:Int)::vs.drop 1:=by
   conv=>lhs;rw[<-List.take_append_drop 1 vs,aG]
   rfl
  have bb:=Hd (l:=l) (vs:=vs.drop 1) (by simpa using U);rw[aD];show bo (bytesOf (vs.drop 1)) (fun bn=>some (UInt8.ofNat ((c.toNat:Int)).toNat::bn)) none=_;rw[bb];show some (UInt8.ofNat ((c.toNat:Int)).toNat::l)=_;rw[Int.toNat_natCast,UInt8.ofNat_toNat]
theorem Nb(H:bY)(ids:List Nat):∀l:List UInt8,iH H ids jP 1 l (kx l)∧gS (kx l)=true
 |[]=>⟨zt _ _ _ _,rfl⟩
 |c::l=>by
  obtain⟨J,U⟩:=Nb H ids l;exact⟨q6 (l:=[c]) (m:=l) (vs:=[.int .u8 (c.toNat:Int)]) (CD ⟨_,[],rfl,rfl,rfl⟩ rfl) J,U⟩
section
variable{call:bP}{s:di}{x y:Operand}
theorem V4{k o n c:Nat}{el:TypeId}{aR:Bool}{l:List UInt8}(aa:bN s.env x=some (.bH k 1 o n c))(ae:s.own[k]? =some (.a el aR 1 UInt8 jP l))(hn:o+n<=l.length):fT call (.zq x) s (.s ((l.drop o).take n)) s.own s.n:=j6 fun H ids st fr aA af=>by
 obtain⟨b,aW,a0⟩:=af.an aa;obtain⟨vs,bx,cK,dn⟩:=pg aA ae aW;have iw:iH H ids jP 1 ((l.drop o).take n) ((vs.drop o).take n):=by
  have:=CE (wJ (⟨cK,dn⟩:iH H ids jP 1 l vs) o) n (by simp;omega)
  rwa [Nat.mul_one,Nat.mul_one]at this
 refine⟨_,rfl,?_⟩;show EG x call fr st=_;unfold EG;rw[a0,o6,Nat.mul_one,Sym.eU];unfold aw.load aw.gI;rw[Sym.h3,bx,kG,q8 (by show n<=(vs.drop o).length;rw[List.length_drop,cK];omega)];show bo (bytesOf ((vs.drop o).take n)) _ _=_;rw[Hd iw];rfl
end
section
variable{aP:hR}{K:List gg}{own:List bJ}{a3:Nat}{e:cf}{d:Tmp}{xs:List bB}{x y:Operand}
theorem Kw{bu n c:Nat}{el:TypeId}{aR:Bool}{l:List UInt8}(l':List UInt8)(k:bl.ok aP ⟨K,.o xs,⟨own,a3,(d,.s l')::e⟩⟩)(aa:bN e x=some (.bH bu 1 0 n c):=by rfl)(ae:own[bu]? =some (.a el aR 1 UInt8 jP l):=by rfl)(hn:n<=l.length:=by first|omega|(simp;done)|(simp;omega))(hl:l.take n=l':=by first|rfl|simp):bl.ok aP ⟨K,.o (⟨some d,.zq x,none⟩::xs),⟨own,a3,e⟩⟩:=by
 have:=V4 (call:=aP.call) (s:=⟨own,a3,e⟩) aa ae (by omega);rw[List.drop_zero,hl]at this;exact gH this k
end
section
variable{aP:hR}{K:List gg}{own b9:List bJ}{a3 bw cJ back:Nat}{e bR:cf}{d:Tmp}{ts:List Tmp}{xs:List (bB×c0)}{x y:Operand}
theorem alK{call:bP}{s:di}{l:List UInt8}{p q:Nat}{bD ag:Option Operand}{H:bY}{ids:List Nat}{fr:aQ}{st:aw}(af:dk fr H ids s.env)(aa:bN s.env x=some (.s l))(hg:fD s bD 0 p)(hY:fD s ag l.length q)(hp:p<=q)(hq:q<=l.length):cb call (.sf x bD ag) fr st= .ok (.string ⟨⟨(l.drop p).take (q-p)⟩⟩) fr st:=by
 have J:fr.an x= .string ⟨⟨l⟩⟩:=af.an aa;have e:cb call (.sf x bD ag) fr st=ik (fr.an x) (fun s=>e4 fr ag (ef s.data.toList) (ef s.data.toList) fun h=>e4 fr bD 0 h fun l=>hV s.data.toList l (h-l) (fun bn=>.ok (.string ⟨⟨bn⟩⟩) fr st) .no) .no:=rfl;rw[e,J,yQ];show e4 fr ag (ef l) (ef l) _=_;rw[fx,fD.an hY af hq,fD.an hg af hp,wR (by show p+(q-p)<=l.length;omega)]
theorem CQ{l:List UInt8}{p q:Nat}{bD ag:Option Operand}(l':List UInt8)(k:bl.ok aP ⟨K,.d xs b9 ((d,.s l')::bR) bw cJ,⟨own,a3,(d,.s l')::e⟩⟩)(aa:bN (fg ts bR) x=some (.s l):=by rfl)(hg:fD ⟨[],0,fg ts bR⟩ bD 0 p:=by first|exact rfl|exact⟨_,rfl⟩)(hY:fD ⟨[],0,fg ts bR⟩ ag l.length q:=by first|exact rfl|exact⟨_,rfl⟩)(hb:back<bw:=by decide)(hl:(l.drop p).take (q-p)=l':=by first|rfl|simp)(hp:p<=q:=by omega)(hq:q<=l.length:=by first|omega|(simp;done)|(simp;omega)):bl.ok aP ⟨K,.d ((⟨some d,.sf x bD ag,none⟩,.read back ts)::xs) b9 bR bw cJ,⟨own,a3,e⟩⟩:=by
 subst hl;exact ph (d:=some d) (a:=.s ((l.drop p).take (q-p))) hb (fun H ids st fr af _ _=>⟨_,rfl,fun cS _ _=>alK (s:=⟨[],0,fg ts bR⟩) af aa hg hY hp hq⟩) k
end
theorem ahH{k z j q o:Nat}(h:o=j*z+q):c5 (.p k o) (.gG k z j q):=fun _ _ _ d=>by subst h;exact d
section
variable{call:bP}{s:di}{x y i:Operand}
theorem ack{n z k o j:Nat}{cH:IntKind}(aa:bN s.env x=some (.p k o))(ag:bN s.env i=some (.i cH (j:Int)))(hj:j<n):fT call (.tc n z x i) s (.p k (o+j*z)) s.own s.n:=j6 fun H ids st fr aA af=>by
 obtain⟨b,J,U⟩:=af.an aa;have ah:fr.an i= .int cH (j:Int):=af.an ag;refine⟨_,⟨b,J,rfl⟩,?_⟩;show tu n z x i call fr st=_;unfold tu;rw[U,pZ,Sym.eU,ah,mb,nU,gj (by omega),qW];rfl
theorem acj{n z j:Nat}{cs:List al}{cH:IntKind}(aa:bN s.env x=some (.ip cs))(ag:bN s.env i=some (.i cH (j:Int)))(hj:j<n):fT call (.tc n z x i) s (.ip (cs.drop (j*z))) s.own s.n:=j6 fun H ids st fr aA af=>by
 obtain⟨b,o,vs,el,bt,aR,J,U,d⟩:=af.an aa;have ah:fr.an i= .int cH (j:Int):=af.an ag;refine⟨.pointer (some ⟨b,o+j*z,none⟩),⟨b,o+j*z,vs,el,bt,aR,rfl,U,?_⟩,?_⟩
 ·have:=nx (j*z) d;rw[List.drop_take,List.drop_drop,<-List.length_drop]at this;exact this
 ·show tu n z x i call fr st=_;unfold tu;rw[J,pZ,Sym.eU,ah,mb,nU,gj (by omega),qW];rfl
theorem aci{dc:bY}{n z j g:Nat}{vs:List Value}{el:TypeId}{bt:Nat×Nat}{aR:Bool}{cs:List al}{cH:IntKind}(aa:bN s.env x=some (.v (.pointer (some ⟨g,0,none⟩))))(aZ:dc g=some (.cells vs el bt aR))(ax:∀H,ei H cs [] vs)(ag:bN s.env i=some (.i cH (j:Int)))(hj:j<n):yX dc call (.tc n z x i) s (.ip (cs.drop (j*z))) s.own s.n:=fun H ids st fr gT aA af=>by
 have J:fr.an x= .pointer (some ⟨g,0,none⟩):=af.an aa;have ah:fr.an i= .int cH (j:Int):=af.an ag;refine⟨.pointer (some ⟨g,0+j*z,none⟩),st,ids,H,?_,aA,⟨g,0+j*z,vs,el,bt,aR,rfl,gT _ _ aZ,?_⟩,dZ.refl _,dO.refl _,fun _ _ _ B=>B,cd _,fun _ _ _=>rfl⟩
 ·show tu n z x i call fr st=_;unfold tu;rw[J,pZ,Sym.eU,ah,mb,nU,gj (by omega),qW];rfl
 ·have:=nx (j*z) (ax H);have hl:=hH this;rw[Nat.zero_add,<-hl,List.take_length];exact this
theorem Wg{k o:Nat}{el:TypeId}{cs:List al}(aa:bN s.env x=some (.p k o))(ae:s.own[k]? =some (.c el cs))(ao:o<cs.length):fT call (.CL x) s (.p k o) s.own s.n:=j6 fun H ids st fr aA af=>by
 obtain⟨b,J,U⟩:=af.an aa;obtain⟨⟨vs,ah,d⟩,_⟩:=aA.own k _ b ae J;refine⟨_,⟨b,J,rfl⟩,?_⟩;show EH x call fr st=_;unfold EH aw.gI;rw[U,pZ,Sym.eU,Sym.h3,ah,kG,gj (by rw[fx,hH d];exact ao)]
theorem XX{k n:Nat}{el:TypeId}{cs:List al}(aa:bN s.env x=some (.p k 0))(ae:s.own[k]? =some (.c el cs))(hn:cs.length=n):fT call (.CM el n x) s (.p k 0) s.own s.n:=j6 fun H ids st fr aA af=>by
 obtain⟨b,J,U⟩:=af.an aa;obtain⟨⟨vs,ah,d⟩,_⟩:=aA.own k _ b ae J;refine⟨_,⟨b,J,rfl⟩,?_⟩;show EI el n x call fr st=_;unfold EI aw.gI;rw[U,pZ,Sym.eU,Sym.h3,ah,kG,cond_false,jE rfl,jE rfl,jE (by rw[fx,hH d];exact hn)]
theorem KW{k z n p q:Nat}{el:TypeId}{α:Type}{R:α->List al}{l:List α}{bD ag:Option Operand}(aa:bN s.env x=some (.p k 0))(ae:s.own[k]? =some (.a el false z α R l))(hg:fD s bD 0 p)(hY:fD s ag n q)(hp:p<=q)(hq:q<=n)(h0:p<n∨p=0):fT call (.F8 n z x bD ag none) s (.bH k z p (q-p) (n-p)) s.own s.n:=j6 fun H ids st fr aA af=>by
 obtain⟨b,J,U⟩:=af.an aa;obtain⟨vs,bx,cK,dn⟩:=pg aA ae J;refine⟨_,⟨b,J,rfl⟩,?_⟩;show EN n z x bD ag none call fr st=_;unfold EN aw.gI;rw[U,pZ,Sym.eU,Sym.h3,bx,kG,cond_false,Cy,fD.an hY af hq,fD.an hg af hp];congr 2;by_cases px:n=p
 ·subst px;rcases h0 with h0|h0
  ·omega
  ·subst h0;rw[jE rfl];simp
 ·rw[ri px,qW,Nat.zero_add];rfl
theorem amx{k n:Nat}{el:TypeId}{aR:Bool}{l:List UInt8}{cH:IntKind}(aa:bN s.env x=some (.p k 0))(aJ:bN s.env y=some (.i cH (n:Int)))(ae:s.own[k]? =some (.a el aR 1 UInt8 jP l))(hn:n=l.length)(h0:n≠0)(hb:n<=1099511627776):fT call (.tT el x y) s (.s l) (s.own.set k .x) s.n:=fun H ids st fr aA af=>by
 obtain⟨b,J,U⟩:=af.an aa;have ah:fr.an y= .int cH (n:Int):=af.an aJ;obtain⟨vs,bx,cK,dn⟩:=pg aA ae J;have cX:=Hd (⟨cK,dn⟩:iH H ids jP 1 l vs);refine⟨_,_,ids,H,?_,aA.dQ ae rfl J (ez:=.cells vs el (0,0+n) aR) trivial,rfl,dZ.refl _,dO.refl _,fun _ _ _ B=>B.dQ (List.mem_of_getElem? J) _,cd _,?_⟩
 ·show EO el x y call fr st=_;unfold EO aw.gI;rw[U,pZ,ah,mb,nU,ri h0,Sym.eU,gj (show n<=2^40 from hb),Sym.h3,bx,kG,gj (cd _),jE rfl,q8 (by show n<=(vs.drop 0).length;rw[List.drop_zero,cK];omega)];show bo (bytesOf ((vs.drop 0).take n)) _ _=_;rw[List.drop_zero,List.take_of_length_le (by rw[cK];omega),cX,Sym.eU,jy];rfl
 ·intro fF _ cx;exact au.ht _ _ (fun e=>cx k (by simp[j3,aa]) (e▸J))
def rK(c:UInt8)(l:List UInt8):Int:=match oN c l with
 |some i=>i
 |none=> -1
theorem acp{l:List UInt8}{c:UInt8}(aa:bN s.env x=some (.s l))(aJ:bN s.env y=some (.i .u8 (c.toNat:Int))):fT call (.kq x y) s (.i .i64 (rK c l)) s.own s.n:=j6 fun H ids st fr aA af=>by
 have J:fr.an x= .string ⟨⟨l⟩⟩:=af.an aa;have U:fr.an y= .int .u8 (c.toNat:Int):=af.an aJ;refine⟨_,rfl,?_⟩;show EJ x y call fr st=_;unfold EJ;rw[J,yQ,U,mb,show jd .u8 .u8=true from rfl,cond_true,nU,UInt8.ofNat_toNat];unfold rK;show aY.ok (.int .i64 (bo (oN c l) (fun i=>.ofNat i) (.negSucc 0))) fr st=_;cases oN c l<;>rfl
end
