/- Rules for what a function computes on abstract states (part 1); no condition. -/
import Derived.Test.YthdlbilidpgknaaGreatDoorPtM1
import Derived.Test.YthdlbilidpgknaaGreatDoorPtM3
noncomputable section
set_option linter.all false
namespace Go.ak
namespace Sym
section
variable{α β:Type}
variable{a b:Nat}
def AW(r:aX)(k:be->aR->ay->cZ)(p:be->ay->cZ):cZ:=aX.rec (motive:=fun _=>cZ) k p .no r
def NY(v:be)(fr:aR)(st:ay)(k:be->aR->ay->cZ)(p:be->ay->cZ):AW (.ok v fr st) k p=k v fr st:=rfl
def aoC(v:be)(st:ay)(k:be->aR->ay->cZ)(p:be->ay->cZ):AW (.bk v st) k p=p v st:=rfl
def aoB(k:be->aR->ay->cZ)(p:be->ay->cZ):AW .no k p= .no:=rfl
def xw(r:dM)(k:be->ay->aX)(p:be->ay->aX):aX:=dM.rec (motive:=fun _=>aX) (fun v st _=>k v st) (fun v st _=>p v st) .no r
def ag2(v:be)(st:ay)(t:Bool)(k p:be->ay->aX):xw (.ret v st t) k p=k v st:=rfl
def ag1(v:be)(st:ay)(t:Bool)(k p:be->ay->aX):xw (.bk v st t) k p=p v st:=rfl
def abY(fr:aR)(st:ay)(k:aR->ay->cZ):pC (.out .norm fr st) k=k fr st:=rfl
def ad6(id i:Nat)(fr:aR)(st:ay):FH id (.out (.exit i) fr st)=if i=id then .out .norm fr st else .out (.exit i) fr st:=by
 show dV i id _ _=_;rw[o1]
@[congr] theorem avq {v v':be} (h:v=v') (k:f5->β) (z:β):hE v k z=hE v' k z:=by rw[h]
@[congr] theorem avp {v v':be} (h:v=v') (k:am Addr->Nat->Nat->β) (z:β):hD v k z=hD v' k z:=by rw[h]
def nf(a:d7)(n:Int)(k:d7->Int->β)(z:β):gj (.int a n) k z=k a n:=rfl
def BG(s:f5)(k:f5->β)(z:β):hE (.string s) k z=k s:=rfl
def qC(a:am Addr)(k:am Addr->β)(z:β):il (.pointer a) k z=k a:=rfl
def nY(a:am Addr)(n c:Nat)(k:am Addr->Nat->Nat->β)(z:β):hD (.slice a n c) k z=k a n c:=rfl
def ate(x:ap be)(k:ap be->β)(z:β):rR (.agg x) k z=k x:=rfl
def atf(x:ap be)(k:ap be->β)(z:β):qD (.tuple x) k z=k x:=rfl
@[congr] theorem avd {o br:am α} (h:o=br) (k:α->β) (z:β):bm o k z=bm br k z:=by rw[h]
def eJ(a:α)(k:α->β)(z:β):bm (some a) k z=k a:=rfl
def hR(k:α->β)(z:β):bm (none:am α) k z=z:=rfl
@[congr] theorem ava {a a' b fU:Nat} (h:a=a') (aB:b=fU) (x y:β):ed a b x y=ed a' fU x y:=by rw[h,aB]
def gv(h:a<=b)(x y:β):ed a b x y=x:=by rw[qi,zab h]
def ant(h:¬a<=b)(x y:β):ed a b x y=y:=by rw[qi,zaa h]
def jC(h:a=b)(x y:β):dV a b x y=x:=by rw[o1,zab h]
def r5(h:¬a=b)(x y:β):dV a b x y=y:=by rw[o1,zaa h]
def pn(n:Nat)(k:Nat->β)(z:β):g9 (n:Int) k z=k n:=rfl
def anZ{n:Int}(h:0<=n)(k:Nat->β)(z:β):g9 n k z=k n.toNat:=by
 obtain⟨m,rfl⟩:=Int.eq_ofNat_of_zero_le h;rfl
def zC{l:ac α}{o n:Nat}(h:o+n<=l.length)(k:ac α->β)(z:β):iw l o n k z=k ((l.drop o).take n):=by
 unfold iw;rw[zI,EU,zab (by simp;omega)];rfl
end
def Gh(fr:aR)(t:Tmp):fr.aj (.tmp t)=fr.tmp t:=rfl
def BB(fr:aR)(d:Tmp)(v:be)(j:Nat):(fr.put (some d) v).tmp j=if j=d then v else fr.tmp j:=by
 rw[rP];by_cases h:j=d
 ·subst h;simp
 ·rw[zaa h,zaa (by simpa using fun e=>h e.symm)]
section
variable(call:bO)(cB:Nat)(fn:ci)(fr:aR)(st:ay)
variable{β:Type}
def Gg(d:am Tmp)(o:dg)(xs:ac bK):iL call (⟨d,o,none⟩::xs) fr st=
 AW (bR call o fr st) (fun v fr st=>iL call xs (fr.put d v) st) (fun v st=>cond o.nq (.out (.bk v) fr st) .no):=rfl
def vx(v:be)(b:Bool)(yes ht z:β):β:=nd v (fun c=>cond c (cond b yes ht) (cond b ht yes)) (qD v (fun _=>ht) z)
def ajR(x y z:β):vx (.bool true) true x y z=x:=rfl
def ajQ(x y z:β):vx (.bool true) false x y z=y:=rfl
def ajP(x y z:β):vx (.bool false) true x y z=y:=rfl
def ajO(x y z:β):vx (.bool false) false x y z=x:=rfl
def ajS(b:Bool)(x y z:β)(a:ap be):vx (.tuple a) b x y z=y:=rfl
def Lu(d:am Tmp)(o:dg)(t:Tmp)(b:Bool)(xs:ac bK):iL call (⟨d,o,some (t,b)⟩::xs) fr st=
 vx (fr.tmp t) b (AW (bR call o fr st) (fun v fr st=>iL call xs (fr.put d v) st) (fun v st=>cond o.nq (.out (.bk v) fr st) .no)) (iL call xs (fr.put d undef) st) .no:=rfl
def Ls(a b:dq):dD call cB fn (.seq a b) fr st=pC (dD call cB fn a fr st) (dD call cB fn b):=rfl
def Lr(c:bi)(a b:dq):dD call cB fn (.cond c a b) fr st=Rv (fr.aj c) (dD call cB fn a fr st) (dD call cB fn b fr st):=rfl
def Sd(i:Nat)(a:dq):dD call cB fn (.block i a) fr st=FH i (dD call cB fn a fr st):=rfl
def Lt(b:dq)(n:Nat)(fr:aR)(st:ay):cZ:=
 Nat.rec (motive:=fun _=>aR->ay->cZ) (fun _ _=>.no) (fun _ a8 fr st=>pC (dD call cB fn b fr st) a8) n fr st
def agE(b:dq)(n:Nat):Lt call cB fn b (n+1) fr st=pC (dD call cB fn b fr st) (Lt call cB fn b n):=rfl
end
section
variable(call:bO)(fr:aR)(st:ay)
def Zd(c a b:bi):bR call (.pick c a b) fr st=nd (fr.aj c) (fun t=>.ok (cond t (fr.aj a) (fr.aj b)) fr st) .no:=rfl
def Y4(x:bi):bR call (.ot x) fr st=hD (fr.aj x) (fun _ n _=>.ok (.int .i64 (n:Int)) fr st) (s3 (fr.aj x) (.ok (.int .i64 (.ofNat 0)) fr st) .no):=rfl
def aoN(x:bi):bR call (.ug x) fr st=hE (fr.aj x) (fun s=>.ok (.int .i64 (s.data.toList.length:Int)) fr st) .no:=by
 show hE (fr.aj x) (fun s=>fX (dk s.data.toList) fun n=>aX.ok (.int .i64 (.ofNat n)) fr st) aX.no=_;simp only[zT,fo];rfl
def AZ(f:bi)(args:ac bi):bR call (.call f args) fr st=xw (call (fr.aj f) (eA fr args) none st) (fun v st=>.ok v fr st) (fun v st=>.bk v st):=rfl
def aoK(a9:Nat)(x i:bi):bR call (.lL a9 x i) fr st=
 hD (fr.aj x) (fun b len _=>bm b (fun a=>gj (fr.aj i) (fun _ j=>g9 j (fun j=>ed (j+1) len (.ok (.pointer (some (a.add (j*a9)))) fr st) .no) .no) .no) .no) .no:=rfl
def aoO(x:bi):bR call (.lP x) fr st=il (fr.aj x) (fun p=>bm p (fun a=>st.load a 1 (fun vs=>one vs (fun v=>.ok v fr st) .no) .no) .no) .no:=rfl
def aoP(n:Nat)(x:bi):bR call (.qj n x) fr st=il (fr.aj x) (fun p=>bm p (fun a=>st.load a n (fun vs=>.ok (.agg ⟨vs⟩) fr st) .no) .no) .no:=rfl
def aoG(k:d7)(x:bi):bR call (.tn k x) fr st=gj (fr.aj x) (fun _ n=>.ok (.int k (k.wrap n)) fr st) .no:=by
 show gj (fr.aj x) (fun _ n=>hP k (n0 k n) fun v=>aX.ok v fr st) aX.no=_;simp only[h3,ki]
def Ea(op:BinOp)(x y:bi):bR call (.bin op x y) fr st=CD op (fr.aj x) (fr.aj y) (fun v=>.ok v fr st):=rfl
def Lq(op:BinOp)(k wX:d7)(a b:Int)(c:be->aX):CD op (.int k a) (.int wX b) c=zO op k a wX b c:=rfl
def Sc(op:BinOp)(a b:f5)(c:be->aX):CD op (.string a) (.string b) c=B8 op a b c:=rfl
def am8(k:d7):jr k k=true:=by cases k<;>rfl
end
end Sym
end Go.ak
namespace Go.ak
open Sym
def W(r:cZ)(Q:dT->aR->ay->Prop):Prop:=∃e fr st,r= .out e fr st∧Q e fr st
variable{Q:dT->aR->ay->Prop}{r:cZ}
def W.mk{e:dT}{fr:aR}{st:ay}(h:Q e fr st):W (.out e fr st) Q:=⟨e,fr,st,rfl,h⟩
def W.of_eq{dJ:cZ}(e:r=dJ)(h:W dJ Q):W r Q:=by rw[e];exact h
def W.mono{BR:dT->aR->ay->Prop}(h:W r Q)(hq:∀e fr st,Q e fr st->BR e fr st):W r BR:=
 let⟨e,fr,st,J,U⟩:=h;⟨e,fr,st,J,hq _ _ _ U⟩
def adi(call:bO)(cB:Nat)(fn:ci)(b:dq)(Q:dT->aR->ay->Prop):dT->aR->ay->Prop
 |.norm,fr,st=>W (dD call cB fn b fr st) Q
 |e,fr,st=>Q e fr st
def acY(id:Nat)(Q:dT->aR->ay->Prop):dT->aR->ay->Prop
 |.exit i,fr,st=>if i=id then Q .norm fr st else Q (.exit i) fr st
 |e,fr,st=>Q e fr st
def Round(eu:Nat->aR->ay->Prop)(m:Nat)(Q:dT->aR->ay->Prop):dT->aR->ay->Prop
 |.norm,fr,st=>∃fi,fi<m∧eu fi fr st
 |e,fr,st=>Q e fr st
section
variable{call:bO}{cB:Nat}{fn:ci}{fr:aR}{st:ay}{Q:dT->aR->ay->Prop}
variable{a b:dq}{c:bi}{t:Bool}{v:be}{i:Nat}{d:Tmp}
def atF(h:W (dD call cB fn a fr st) (adi call cB fn b Q)):W (dD call cB fn (.seq a b) fr st) Q:=by
 obtain⟨e,aK,st',J,U⟩:=h;rw[Ls,J];cases e with
 |norm=>exact U
 |exit i=>exact .mk U
 |ret=>exact .mk U
 |bk v=>exact .mk U
def atK(h:Q .norm fr st):W (dD call cB fn .skip fr st) Q:=.mk h
def ats(h:Q (.exit i) fr st):W (dD call cB fn (.exit i) fr st) Q:=.mk h
def atC(h:Q .ret fr st):W (dD call cB fn .ret fr st) Q:=.mk h
def atE(h:W (dD call cB fn a fr st) Q):W (dD call cB fn (.scope a) fr st) Q:=h
def ato(h:W (dD call cB fn a fr st) (acY i Q)):W (dD call cB fn (.block i a) fr st) Q:=by
 obtain⟨e,aK,st',J,U⟩:=h;rw[Sd,J];cases e with
 |norm=>exact .mk U
 |exit j=>
  rw[ad6];have af:(if j=i then Q .norm aK st' else Q (.exit j) aK st'):=U;split at af
  ·rw[zab (by assumption)];exact .mk af
  ·rw[zaa (by assumption)];exact .mk af
 |ret=>exact .mk U
 |bk v=>exact .mk U
def atB{ops:ac bK}(h:W (iL call ops fr st) Q):W (dD call cB fn (.yN ops) fr st) Q:=h
def atw(h:Q .norm fr st):W (iL call [] fr st) Q:=.mk h
def att(hc:fr.aj c= .bool t)(aY:t=true->W (dD call cB fn a fr st) Q)(hb:t=false->W (dD call cB fn b fr st) Q):W (dD call cB fn (.cond c a b) fr st) Q:=by
 rw[Lr,hc];cases t
 ·exact hb rfl
 ·exact aY rfl
def atL(hc:fr.aj c= .bool t)(aV:t=true)(aY:W (dD call cB fn a fr st) Q):W (dD call cB fn (.cond c a b) fr st) Q:=by
 rw[Lr,hc,aV];exact aY
def atr(hc:fr.aj c= .bool t)(aV:t=false)(hb:W (dD call cB fn b fr st) Q):W (dD call cB fn (.cond c a b) fr st) Q:=by
 rw[Lr,hc,aV];exact hb
theorem acD{b:dq}(eu:Nat->aR->ay->Prop)
 (b8:∀m fr st,eu m fr st->W (dD call cB fn b fr st) (Round eu m Q)):∀(n m:Nat) (fr:aR) (st:ay),m<n->eu m fr st->W (Lt call cB fn b n fr st) Q
 |0,m,_,_,h,_=>by omega
 |n+1,m,fr,st,h,hi=>by
  obtain⟨e,aK,st',J,U⟩:=b8 m fr st hi;rw[agE,J];cases e with
  |norm=>
   obtain⟨fi,hm,af⟩:=U;exact acD eu b8 n fi aK st' (by omega) af
  |exit i=>exact .mk U
  |ret=>exact .mk U
  |bk v=>exact .mk U
def atu(eu:Nat->aR->ay->Prop)(m:Nat)(hm:m<cB)(h0:eu m fr st)
 (b8:∀m fr st,eu m fr st->W (dD call cB fn b fr st) (Round eu m Q)):W (dD call cB fn (.loop b) fr st) Q:=
 acD eu b8 cB m fr st hm h0
def E:(fr.put (some d) v).aj (.tmp d)=v:=by rw[Gh,BB,zab rfl]
def N{j:Tmp}{x:be}(h:fr.aj (.tmp j)=x)(cx:Nat.beq j d=false:=by rfl):(fr.put (some d) v).aj (.tmp j)=x:=by
 rw[Gh,BB,zaa];exact h;intro e;subst e;simp at cx
def C:fr.aj (.const v)=v:=rfl
section
variable{xs:ac bK}{d:am Tmp}{o:dg}{x y i:bi}
def uY{st':ay}(h:bR call o fr st= .ok v fr st')(k:W (iL call xs (fr.put d v) st') Q):W (iL call (⟨d,o,none⟩::xs) fr st) Q:=by
 rw[Gg,h,NY];exact k
def atz{t:Tmp}{b c:Bool}(aO:fr.aj (.tmp t)= .bool c)(hc:c=b)(k:W (iL call (⟨d,o,none⟩::xs) fr st) Q):W (iL call (⟨d,o,some (t,b)⟩::xs) fr st) Q:=by
 subst hc;rw[Lu,show fr.tmp t= .bool c from aO];rw[Gg]at k;cases c
 ·rw[ajO];exact k
 ·rw[ajR];exact k
def atx{t:Tmp}{b c:Bool}(aO:fr.aj (.tmp t)= .bool c)(hc:c= !b)(k:W (iL call xs (fr.put d undef) st) Q):W (iL call (⟨d,o,some (t,b)⟩::xs) fr st) Q:=by
 subst hc;rw[Lu,show fr.tmp t= .bool (!b)from aO];cases b
 ·rw[show vx (.bool (!false)) false _ _ cZ.no=_ from ajQ _ _ _];exact k
 ·rw[show vx (.bool (!true)) true _ _ cZ.no=_ from ajP _ _ _];exact k
def aty{t:Tmp}{b:Bool}{a:ap be}(aO:fr.aj (.tmp t)= .tuple a)(k:W (iL call xs (fr.put d undef) st) Q):W (iL call (⟨d,o,some (t,b)⟩::xs) fr st) Q:=by
 rw[Lu,show fr.tmp t= .tuple a from aO,ajS];exact k
end
section
variable{x y i c a b:bi}
variable{n m:Nat}{k:d7}{p:Addr}
def we{p:am Addr}(h:fr.aj x= .slice p n m):bR call (.ot x) fr st= .ok (.int .i64 (n:Int)) fr st:=by rw[Y4,h];rfl
def aor(h:fr.aj x= .chan none):bR call (.ot x) fr st= .ok (.int .i64 0) fr st:=by rw[Y4,h];rfl
def aop{k':d7}{n:Int}(h:fr.aj x= .int k' n):bR call (.tn k x) fr st= .ok (.int k (k.wrap n)) fr st:=by rw[aoG,h];rfl
def aoq{a9:Nat}{j:Int}(h:fr.aj x= .slice (some p) n m)(aB:fr.aj i= .int k j)(h0:0<=j)(J:j<n):
 bR call (.lL a9 x i) fr st= .ok (.pointer (some (p.add (j.toNat*a9)))) fr st:=by
 rw[aoK,h,aB];show g9 j (fun j=>ed (j+1) n _ _) _=_;rw[anZ h0,gv (by omega)]
def aos{cs:ac be}{el:ce}{bd:Nat×Nat}{a3:Bool}(h:fr.aj x= .pointer (some p))(hp:p.spot=none)(ao:st.h.get p.block=some (.cells cs el bd a3))(aI:cs[p.off]? =some v):
 bR call (.lP x) fr st= .ok v fr st:=by
 rw[aoO,h];show st.load p 1 _ _=_;unfold ay.load ay.gE;rw[hp,ao];show iw cs p.off 1 _ _=_;have a4:p.off<cs.length:=by
  rcases zao p.off cs.length with h|h
  ·exact h
  ·rw[zbK h]at aI;cases aI
 rw[zC (by omega)];have:(cs.drop p.off).take 1=[v]:=by
  rw[bV a4]at aI;cases aI;rw[hk a4];rfl
 rw[this];rfl
end
end
end Go.ak
namespace Go.ak
open Sym
variable{X:Ctx}
structure gN where
 r:ac be->ay->be->ay->Prop
 p:ac be->ay->be->ay->Prop
def gN.no:gN:=⟨fun _ _ _ _=>False,fun _ _ _ _=>False⟩
def ac8(X:Ctx)(f:ci)(as:ac be)(st:ay)(v:be)(st':ay):Prop:=
 ∀(ι:bC) (as':ac be) (w:co),bM ι as as'->bx X ι st w->
  (∀as w,(callFunc f as).run X.P w= .ok (.enter f as) w)∧
  ∀(K:CallKind) (bA:Bool->ac Frame),kF ⟨f,K,none⟩ none ι bA->jz X ι w ⟨f,K,none⟩ bA (lone (Frame.enter X.P f as'.toArray K) (bA false) w) (.bk v st' false)
def dz(X:Ctx)(K:ci->gN):n2:=fun f as st=>
 open Classical in if h:∃p:be×ay,(K f).r as st p.1 p.2∧fT X f ⟨as,st,p.1,p.2⟩then some (.ret (Classical.choose h).1 (Classical.choose h).2 false)
 else if h:∃p:be×ay,(K f).p as st p.1 p.2∧ac8 X f as st p.1 p.2 then some (.bk (Classical.choose h).1 (Classical.choose h).2 false)else none
def aoV(K:ci->gN):u6 X (dz X K):=by
 intro f as st r hr ι as' w aY hw _;unfold dz at hr;split at hr
 ·rename_i h;cases hr;exact(Classical.choose_spec h).2 ι as' w aY hw
 ·split at hr
  ·rename_i h;cases hr;exact(Classical.choose_spec h).2 ι as' w aY hw
  ·cases hr
def Oc{K:ci->gN}{f:ci}{as:ac be}{st:ay}(h:∃v st',(K f).r as st v st'∧fT X f ⟨as,st,v,st'⟩):
 ∃v st',dz X K f as st=some (.ret v st' false)∧(K f).r as st v st':=by
 obtain⟨v,st',J,U⟩:=h;have hp:∃p:be×ay,(K f).r as st p.1 p.2∧fT X f ⟨as,st,p.1,p.2⟩:=⟨(v,st'),J,U⟩;refine⟨(Classical.choose hp).1,(Classical.choose hp).2,?_,(Classical.choose_spec hp).1⟩;unfold dz;rw[dif_pos hp]
structure Spec where
 L:Type
 pre:L->ac be->ay->Prop
 post:L->ac be->ay->be->ay->Prop
def Spec.K(S:Spec):gN:=⟨fun as st v st'=>∀l,S.pre l as st->S.post l as st v st',fun _ _ _ _=>False⟩
instance:Coe Spec gN:=⟨Spec.K⟩
def a6(X:Ctx)(f:ci)(S:Spec):Prop:=∀as st,(∃l,S.pre l as st)->∃v st',S.K.r as st v st'∧fT X f ⟨as,st,v,st'⟩
def bT:Nat:=4611686018427387904
def aaW{bB:ar dv}(dE:Good X)(iQ:n4 X bB){K:ci->gN}{f:ci}{xf:dv}(aa:bB.get f=some xf){n:Nat}{as:ac be}{st:ay}{v:be}{st':ay}
 (h:pP (dc bB (dz X K) n) n f xf as none st= .ret v st' false):fT X f ⟨as,st,v,st'⟩:=by
 obtain⟨Fn,c,ok⟩:=iQ f xf aa;obtain⟨k8,kx⟩:=K2 dE iQ (aoV (X:=X) K) n;intro ι as' w aY hw;refine⟨ok.enters,fun zd bA hr=> ?_⟩;have:=Q9 dE kx k8 (fun b aQ bA _=>O8 kx b aQ bA) ok n (K:=zd) (bA:=bA) aY hw hr;rw[h]at this;exact this
structure w3(fr:aR):Prop where
 c7:fr.c7=[]
 bk:fr.bk=none
 cM:fr.cM=false
variable{f:ci}{xf:dv}
def w3.put{fr:aR}(h:w3 fr)(d:am Tmp)(v:be):w3 (fr.put d v):=by
 obtain⟨J,U,af,ax⟩:=wx fr d v;exact⟨J.trans h.c7,U.trans h.bk,af.trans h.cM⟩
def gm(as:ac be):aR:=⟨n5 as 0 .nil,[],none,false,none⟩
def w3.zero(as:ac be):w3 (gm as):=⟨rfl,rfl,rfl⟩
def FI{call:bO}{n:Nat}{as:ac be}{st:ay}{Post:be->ay->Prop}(hl:as.length<=xf.aQ)
 (h:W (dD call n f xf.body (gm as) st) (fun e fr st'=>(e= .norm∨e= .ret)∧∃v,oc call xf.res none fr st'= .ret v st' false∧Post v st')):
 ∃v st',pP call n f xf as none st= .ret v st' false∧Post v st':=by
 obtain⟨e,fr,st',J,he,v,U,af⟩:=h;refine⟨v,st',?_,af⟩;unfold pP;rw[qi,zab (by rw[fo];exact hl)];show cZ.rec (motive:=fun _=>dM) _ _ (dD call n f xf.body (gm as) st)=_;rw[J];rcases he with rfl|rfl
 ·exact U
 ·exact U
def RC{bB:ar dv}(dE:Good X)(iQ:n4 X bB)(K:ci->gN)(aa:bB.get f=some xf){S:Spec}(hl:∀l as st,S.pre l as st->as.length<=xf.aQ)
 (h:∀l as st,S.pre l as st->W (dD (dc bB (dz X K) (bT+1)) (bT+1) f xf.body (gm as) st)
  (fun e fr st'=>(e= .norm∨e= .ret)∧∃v,oc (dc bB (dz X K) (bT+1)) xf.res none fr st'= .ret v st' false∧S.post l as st v st')):a6 X f S:=by
 intro as st ⟨l,hp⟩;obtain⟨v,st',J,U⟩:=FI (Post:=S.post l as st) (hl l as st hp) (h l as st hp);refine⟨v,st',fun l' k6=> ?_,aaW dE iQ aa J⟩;obtain⟨v2,dB,aM,aN⟩:=FI (Post:=S.post l' as st) (hl l' as st k6) (h l' as st k6);rw[J]at aM;cases aM;exact aN
section
variable{call:bO}{fr:aR}{st:ay}{x y i:bi}
def kI{β:Type}(cs:ac be)(e:ce)(bd:Nat×Nat)(a3:Bool)(k:ac be->ce->Nat×Nat->Bool->β)(z:β):Cd (some (.cells cs e bd a3)) k z=k cs e bd a3:=rfl
end
def eF:ac Nat->ac Nat
 |[]=>[]
 |d::ds=>match eF ds with
  |[]=>if d=0 then[]else[d]
  |r=>d::r
end Go.ak
namespace Go.ak
open Sym
section
variable{call:bO}{fr:aR}{st:ay}{Q:dT->aR->ay->Prop}{cB:Nat}{fn:ci}
variable{ops:ac (bK×cE)}{dw:tb}{ai:ac (ar bH)}{c a b:bi}{t:Bool}{u:be}{n:Int}
def O{ts:ac Tmp}{j:Tmp}{x:be}(h:fr.aj (.tmp j)=x)(hj:ts.contains j=true:=by rfl):(fr.only ts).aj (.tmp j)=x:=by
 rw[Gh,YS,zab (by simpa using hj)];exact h
def atq{cd dU ms:ac Nat}(h:W (hX call (tp call ms (dk ops)) ops [st.h] (pq fr dU) st) Q):W (dD call cB fn (.tx ops cd dU ms) fr st) Q:=h
def acC(h:Q .norm fr st):W (hX call dw [] ai fr st) Q:=.mk h
theorem aa7{o:dg}{f:aR}{v:be}{al:Nat}:∀(n:Nat) (ai:ac (ar bH)),n<=ai.length->(∀h∈ai.take n,∃ny bz,bR call o f ⟨h,al⟩= .ok v ny bz)->sameAt call o f v al n ai=true
 |0,_,_,_=>rfl
 |n+1,[],h,_=>by simp at h
 |n+1,h::ai,hl,hh=>by
  obtain⟨ny,bz,e⟩:=hh h (by simp);show aX.rec (motive:=fun _=>Bool) (fun v' _ _=>cond (dC v v') (sameAt call o f v al n ai) false) (fun _ _=>false) false (bR call o f ⟨h,al⟩)=true;rw[e];show cond (dC v v) (sameAt call o f v al n ai) false=true;rw[BH];exact aa7 n ai (by simpa using hl) fun aB hm=>hh aB (by simp[hm])
def atp{o:dg}{d:am Tmp}{ts:ac Tmp}{back:Nat}{v:be}(dr:∀h∈st.h::ai.take (back+1),bR call o (fr.only ts) ⟨h,st.al⟩= .ok v (fr.only ts) ⟨h,st.al⟩)(hl:back<ai.length)
 (k:W (hX call dw ops ai (fr.put d v) st) Q):W (hX call dw ((⟨d,o,none⟩,.read back ts)::ops) ai fr st) Q:=by
 refine W.of_eq ?_ k;show lW fr.t ts (fun t=>hg ⟨t,[],none,false,none⟩ none
  (aX.rec (motive:=fun _=>cZ) (fun v _ _=>cond (sameAt call o ⟨t,[],none,false,none⟩ v st.al (Nat.succ back) ai) (hX call dw ops ai (fr.put d v) st) .no) (fun _ _=>.no) .no (bR call o ⟨t,[],none,false,none⟩ st))
  (hX call dw ops ai (fr.put d undef) st) .no)=_
 rw[qq];have e:=dr st.h (by simp);have e:bR call o ⟨D9 fr.t ts,[],none,false,none⟩ st= .ok v (fr.only ts) st:=e;show aX.rec (motive:=fun _=>cZ) _ _ _ (bR call o ⟨D9 fr.t ts,[],none,false,none⟩ st)=_;rw[e];show cond (sameAt call o (fr.only ts) v st.al (Nat.succ back) ai) _ _=_;rw[aa7 _ _ (by omega) fun h hm=>⟨_,_,dr h (by simp[hm])⟩];rfl
def aou(hc:fr.aj c= .bool t)(aV:t=true)(aY:fr.aj a=u):bR call (.pick c a b) fr st= .ok u fr st:=by
 rw[Zd,hc,aY,aV];rfl
def aot(hc:fr.aj c= .bool t)(aV:t=false)(hb:fr.aj b=u):bR call (.pick c a b) fr st= .ok u fr st:=by
 rw[Zd,hc,hb,aV];rfl
def Ib{x i:bi}{a9 id off n m j:Nat}{k:d7}(h:fr.aj x= .slice (some ⟨id,off,none⟩) n m)(aB:fr.aj i= .int k (j:Int))(hj:j<n):
 bR call (.lL a9 x i) fr st= .ok (.pointer (some ⟨id,off+j*a9,none⟩)) fr st:=by
 rw[aoq h aB (by omega) (by omega)];rw[zca];congr 3;unfold Addr.add;split
 ·rename_i h0;rw[h0];rfl
 ·rfl
def gd(h: -9223372036854775808<=n)(aB:n<9223372036854775808):IntKind.i64.wrap n=n:=by
 rw[<-ki];show wU 18446744073709551616 9223372036854775808 n=n;rw[wV _ _ _ (by decide)];split<;>omega
def aco(h:0<=n)(aB:n<18446744073709551616):IntKind.u64.wrap n=n:=by
 rw[<-ki];show y1 18446744073709551616 n=n;rw[rS _ _ (by decide)];omega
end
abbrev Env:=ac (Nat×be)
def h5(L:ac Nat)(e:Env):Env:=e.filter fun p=>L.any (Nat.beq p.1)
abbrev ada:=dT->Env->ay->Prop
end Go.ak
namespace Go.ak
open Sym
variable{X:Ctx}
theorem QG:∀(vs:ac be) (i:Nat) (t:ar be) (j:Nat),(n5 vs i t).get j=if i<=j∧j<i+vs.length then vs[j-i]? else t.get j
 |[],i,t,j=>by rw[zaa (by simp)];rfl
 |v::vs,i,t,j=>by
  have e:n5 (v::vs) i t=n5 vs (i+1) (t.set i v):=by
   show ar.h9 (Nat.succ i) t i v (fun t=>n5 vs (Nat.succ i) t)=_;rw[ar.yR]
  rw[e,QG vs (i+1) _ j,ar.eo];by_cases ab:j=i
  ·subst ab;rw[zaa (by omega),zab rfl,zab (by simp)];simp
  ·rw[zaa ab];by_cases J:i+1<=j∧j<i+1+vs.length
   ·rw[zab J,zab (by simp;omega)];have:j-i=(j-(i+1))+1:=by omega
    rw[this];simp
   ·rw[zaa J,zaa (by simp;omega)]
end Go.ak
namespace Go.ak
open Sym
section
variable{call:bO}{fr:aR}{st:ay}{x y i:bi}
variable{k:d7}{m n:Nat}
def AP{op:BinOp}{m n:Int}{v:be}(J:op≠.shl)(U:op≠.shr)(h:fr.aj x= .int k m)(aB:fr.aj y= .int k n)(aI:rj op k m n=some v):bR call (.bin op x y) fr st= .ok v fr st:=by
 rw[Ea,h,aB,Lq];have:zO op k m k n (fun v=>aX.ok v fr st)=cond (jr k k) (zo op k m n (fun v=>aX.ok v fr st)) .no:=by
  cases op<;>first|rfl|(exact absurd rfl J)|(exact absurd rfl U)
 rw[this,am8,KR,aI];rfl
def YQ(h:fr.aj x= .int k (m:Int))(aB:fr.aj y= .int k (n:Int))(hn:n≠0):bR call (.bin .quo x y) fr st= .ok (.int k (k.wrap ((m/n:Nat):Int))) fr st:=
 AP (by decide) (by decide) h aB (by
  show(if(n:Int)=0 then none else _)=_;rw[zaa (by omega)];rfl)
def aov(h:fr.aj x= .int k (m:Int))(aB:fr.aj y= .int k (n:Int))(hn:n≠0):bR call (.bin .rem x y) fr st= .ok (.int k ((m%n:Nat):Int)) fr st:=
 AP (by decide) (by decide) h aB (by
  show(if(n:Int)=0 then none else _)=_;rw[zaa (by omega)];rfl)
end
section
variable{call:bO}{cB:Nat}{fn:ci}{e:Env}{st:ay}{Q:ada}
variable{fr:aR}{t:Tmp}{b:Bool}{yes ht z:cZ}
def PR(h:fr.tmp t= .bool b):hg fr (some (t,b)) yes ht z=yes:=by
 show nd (fr.tmp t) (fun c=>cond c (cond b yes ht) (cond b ht yes)) _=_;rw[h];cases b<;>rfl
def atN(h:fr.tmp t= .bool (!b)):hg fr (some (t,b)) yes ht z=ht:=by
 show nd (fr.tmp t) (fun c=>cond c (cond b yes ht) (cond b ht yes)) _=_;rw[h];cases b<;>rfl
end
end Go.ak
namespace Go.ak
inductive ah:Type 1
 |i (k:IntKind) (n:Int)
 |b (t:Bool)
 |s (l:List UInt8)
 |nl
 |v (x:Value)
 |p (k o:Nat)
 |gW (k z j o:Nat)
 |bj (k z o n c:Nat)
 |c5 (z:Nat) (α:Type) (R:α->List ah) (l:List α)
 |ih (z:Nat) (α:Type) (R:α->List ah) (l:List α)
 |cw (z:Nat) (α:Type) (R:α->List ah) (l:List α)
 |ip (cs:List ah)
 |fn (f:Fn) (bG cs:List ah)
 |agg (cs:List ah)
 |bu (cs:List ah)
 |bad
abbrev bJ:=Nat->am bH
mutual
def den(H:bJ):ah->ac Nat->be->Prop
 |.i k n,_,v=>v= .int k n
 |.b t,_,v=>v= .bool t
 |.s l,_,v=>v= .string ⟨⟨l⟩⟩
 |.nl,_,v=>v= .slice none 0 0
 |.v x,_,v=>v=x
 |.p k o,ids,v=>∃b,ids[k]? =some b∧v= .pointer (some ⟨b,o,none⟩)
 |.gW k z j o,ids,v=>∃b,ids[k]? =some b∧v= .pointer (some ⟨b,j*z+o,none⟩)
 |.bj k z o n c,ids,v=>∃b,ids[k]? =some b∧v= .slice (some ⟨b,o*z,none⟩) n c
 |.c5 z _ R l,_,v=>(l=[]∧v= .slice none 0 0)∨∃b o c vs el bd a3,v= .slice (some ⟨b,o,none⟩) l.length c∧l.length<=c∧H b=some (.cells vs el bd a3)∧∀i x,l[i]? =some x->dj H (R x) [] ((vs.drop (o+i*z)).take z)
 |.ih z _ R l,_,v=>(l=[]∧v= .slice none 0 0)∨(l≠[]∧∃b o c vs el bd a3,v= .slice (some ⟨b,o,none⟩) l.length c∧l.length<=c∧H b=some (.cells vs el bd a3)∧∀i x,l[i]? =some x->dj H (R x) [] ((vs.drop (o+i*z)).take z))
 |.cw z _ R l,_,v=>(l=[]∧v= .chan none)∨(l=[]∧v= .slice none 0 0)∨∃b o c vs el bd a3,v= .slice (some ⟨b,o,none⟩) l.length c∧l.length<=c∧H b=some (.cells vs el bd a3)∧∀i x,l[i]? =some x->dj H (R x) [] ((vs.drop (o+i*z)).take z)
 |.ip cs,_,v=>∃b o vs el bd a3,v= .pointer (some ⟨b,o,none⟩)∧H b=some (.cells vs el bd a3)∧dj H cs [] ((vs.drop o).take cs.length)
 |.fn f bG cs,ids,v=>∃vs ws,v= .func f ⟨vs⟩ ⟨ws⟩∧dj H bG ids vs∧dj H cs ids ws
 |.agg cs,ids,v=>∃vs,v= .agg ⟨vs⟩∧dj H cs ids vs
 |.bu cs,ids,v=>∃vs,v= .tuple ⟨vs⟩∧dj H cs ids vs
 |.bad,_,_=>False
def dj(H:bJ):ac ah->ac Nat->ac be->Prop
 |[],_,vs=>vs=[]
 |c::cs,ids,vs=>∃v ws,vs=v::ws∧den H c ids v∧dj H cs ids ws
end
def dp(H bF:bJ):Prop:=∀b o,H b=some o->bF b=some o
def dp.refl(H:bJ):dp H H:=fun _ _ h=>h
def dp.trans{H bF Qe:bJ}(h:dp H bF)(aB:dp bF Qe):dp H Qe:=fun b o e=>aB b o (h b o e)
def di(i j:ac Nat):Prop:=∀k b:Nat,i[k]? =some b->j[k]? =some b
def di.refl(i:ac Nat):di i i:=fun _ _ h=>h
def di.nil(i:ac Nat):di [] i:=fun k b h=>by simp at h
def di.app(i j:ac Nat):di i (i++j):=fun k b h=>by
 rw[zbc (zah.1 h).1];exact h
mutual
theorem vl{H bF:bJ}(h:dp H bF):∀(a:ah) {i j:ac Nat} {v:be},di i j->den H a i v->den bF a j v
 |.i _ _,_,_,_,_,d=>d
 |.b _,_,_,_,_,d=>d
 |.s _,_,_,_,_,d=>d
 |.nl,_,_,_,_,d=>d
 |.v _,_,_,_,_,d=>d
 |.p _ _,_,_,_,hi,⟨b,e,d⟩=>⟨b,hi _ _ e,d⟩
 |.gW _ _ _ _,_,_,_,hi,⟨b,e,d⟩=>⟨b,hi _ _ e,d⟩
 |.bj _ _ _ _ _,_,_,_,hi,⟨b,e,d⟩=>⟨b,hi _ _ e,d⟩
 |.c5 _ _ _ _,_,_,_,_,.inl d=>.inl d
 |.c5 _ _ R _,_,_,_,_,.inr ⟨b,o,c,vs,el,bd,a3,aw,e2,bW,e6⟩=>.inr ⟨b,o,c,vs,el,bd,a3,aw,e2,h _ _ bW,fun i x aa=>l9 h (R x) (di.refl _) (e6 i x aa)⟩
 |.ih _ _ _ _,_,_,_,_,.inl d=>.inl d
 |.ih _ _ R _,_,_,_,_,.inr ⟨hn,b,o,c,vs,el,bd,a3,aw,e2,bW,e6⟩=>.inr ⟨hn,b,o,c,vs,el,bd,a3,aw,e2,h _ _ bW,fun i x aa=>l9 h (R x) (di.refl _) (e6 i x aa)⟩
 |.cw _ _ _ _,_,_,_,_,.inl d=>.inl d
 |.cw _ _ _ _,_,_,_,_,.inr (.inl d)=>.inr (.inl d)
 |.cw _ _ R _,_,_,_,_,.inr (.inr ⟨b,o,c,vs,el,bd,a3,aw,e2,bW,e6⟩)=>.inr (.inr ⟨b,o,c,vs,el,bd,a3,aw,e2,h _ _ bW,fun i x aa=>l9 h (R x) (di.refl _) (e6 i x aa)⟩)
 |.ip cs,_,_,_,_,⟨b,o,vs,el,bd,a3,aw,e2,bW⟩=>⟨b,o,vs,el,bd,a3,aw,h _ _ e2,l9 h cs (di.refl _) bW⟩
 |.fn _ bG cs,_,_,_,hi,⟨vs,ws,e,d1,d2⟩=>⟨vs,ws,e,l9 h bG hi d1,l9 h cs hi d2⟩
 |.agg cs,_,_,_,hi,⟨vs,e,d⟩=>⟨vs,e,l9 h cs hi d⟩
 |.bu cs,_,_,_,hi,⟨vs,e,d⟩=>⟨vs,e,l9 h cs hi d⟩
 |.bad,_,_,_,_,d=>d.elim
theorem l9{H bF:bJ}(h:dp H bF):∀(a:ac ah) {i j:ac Nat} {v:ac be},di i j->dj H a i v->dj bF a j v
 |[],_,_,_,_,d=>d
 |a::as,_,_,_,hi,⟨v,ws,e,d1,d2⟩=>⟨v,ws,e,vl h a hi d1,l9 h as hi d2⟩
end
mutual
def m7(f:ac Nat):ah->ah
 |.p k o=>match f[k]? with|some j=>.p j o|none=>.bad
 |.gW k z j o=>match f[k]? with|some m=>.gW m z j o|none=>.bad
 |.bj k z o n c=>match f[k]? with|some m=>.bj m z o n c|none=>.bad
 |.fn g bG cs=>.fn g (qy f bG) (qy f cs)
 |.agg cs=>.agg (qy f cs)
 |.bu cs=>.bu (qy f cs)
 |.i k n=>.i k n
 |.b t=>.b t
 |.s l=>.s l
 |.nl=>.nl
 |.v x=>.v x
 |.c5 z α R l=>.c5 z α R l
 |.ih z α R l=>.ih z α R l
 |.cw z α R l=>.cw z α R l
 |.ip cs=>.ip cs
 |.bad=>.bad
def qy(f:ac Nat):ac ah->ac ah
 |[]=>[]
 |a::as=>m7 f a::qy f as
end
def pick(f ids:ac Nat):ac Nat:=f.map (fun k=>(ids[k]?).getD 0)
def yy{f ids:ac Nat}{k m b:Nat}(ae:f[k]? =some m)(hb:ids[m]? =some b):(pick f ids)[k]? =some b:=by
 unfold pick;rw[zdE,ae];simp[hb]
mutual
theorem RR{H:bJ}(f:ac Nat){ids:ac Nat}:∀(a:ah) {v:be},den H (m7 f a) ids v->den H a (pick f ids) v
 |.i _ _,_,d=>d
 |.b _,_,d=>d
 |.s _,_,d=>d
 |.nl,_,d=>d
 |.v _,_,d=>d
 |.p k o,v,d=>by
  unfold m7 at d;cases h:f[k]? with
  |none=>rw[h]at d;exact d.elim
  |some j=>rw[h]at d;obtain⟨b,e,d⟩:=d;exact⟨b,yy h e,d⟩
 |.gW k z j o,v,d=>by
  unfold m7 at d;cases h:f[k]? with
  |none=>rw[h]at d;exact d.elim
  |some j=>rw[h]at d;obtain⟨b,e,d⟩:=d;exact⟨b,yy h e,d⟩
 |.bj k z o n c,v,d=>by
  unfold m7 at d;cases h:f[k]? with
  |none=>rw[h]at d;exact d.elim
  |some j=>rw[h]at d;obtain⟨b,e,d⟩:=d;exact⟨b,yy h e,d⟩
 |.c5 _ _ _ _,_,d=>d
 |.ih _ _ _ _,_,d=>d
 |.cw _ _ _ _,_,d=>d
 |.ip _,_,d=>d
 |.fn _ bG cs,_,⟨vs,ws,e,d1,d2⟩=>⟨vs,ws,e,xm f bG d1,xm f cs d2⟩
 |.agg cs,_,⟨vs,e,d⟩=>⟨vs,e,xm f cs d⟩
 |.bu cs,_,⟨vs,e,d⟩=>⟨vs,e,xm f cs d⟩
 |.bad,_,d=>d.elim
theorem xm{H:bJ}(f:ac Nat){ids:ac Nat}:∀(a:ac ah) {v:ac be},dj H (qy f a) ids v->dj H a (pick f ids) v
 |[],_,d=>d
 |a::as,_,⟨v,ws,e,d1,d2⟩=>⟨v,ws,e,RR f a d1,xm f as d2⟩
end
mutual
def qu:ah->Bool
 |.p _ _|.gW _ _ _ _|.bj _ _ _ _ _=>false
 |.fn _ bG cs=>iU bG&&iU cs
 |.agg cs=>iU cs
 |.bu cs=>iU cs
 |_=>true
def iU:ac ah->Bool
 |[]=>true
 |a::as=>qu a&&iU as
end
mutual
theorem F0{H:bJ}{ids:ac Nat}:∀(a:ah) {v:be},qu a=true->den H a ids v->∀j,den H a j v
 |.i _ _,_,_,d,_=>d
 |.b _,_,_,d,_=>d
 |.s _,_,_,d,_=>d
 |.nl,_,_,d,_=>d
 |.v _,_,_,d,_=>d
 |.p _ _,_,h,_,_=>by cases h
 |.gW _ _ _ _,_,h,_,_=>by cases h
 |.bj _ _ _ _ _,_,h,_,_=>by cases h
 |.c5 _ _ _ _,_,_,d,_=>d
 |.ih _ _ _ _,_,_,d,_=>d
 |.cw _ _ _ _,_,_,d,_=>d
 |.ip _,_,_,d,_=>d
 |.fn _ bG cs,_,h,⟨vs,ws,e,d1,d2⟩,j=>by
  have h:(iU bG&&iU cs)=true:=h;rw[b3]at h;exact⟨vs,ws,e,pV bG h.1 d1 j,pV cs h.2 d2 j⟩
 |.agg cs,_,h,⟨vs,e,d⟩,j=>⟨vs,e,pV cs h d j⟩
 |.bu cs,_,h,⟨vs,e,d⟩,j=>⟨vs,e,pV cs h d j⟩
 |.bad,_,_,d,_=>d.elim
theorem pV{H:bJ}{ids:ac Nat}:∀(a:ac ah) {v:ac be},iU a=true->dj H a ids v->∀j,dj H a j v
 |[],_,_,d,_=>d
 |a::as,_,h,⟨v,ws,e,d1,d2⟩,j=>by
  have h:(qu a&&iU as)=true:=h;rw[b3]at h;exact⟨v,ws,e,F0 a h.1 d1 j,pV as h.2 d2 j⟩
end
variable{v:be}
def tl:ah->Bool
 |.v x=>mO x
 |.agg _|.bu _|.bad=>false
 |_=>true
def rZ:ac ah->Bool
 |[]=>true
 |a::as=>tl a&&rZ as
def Ri{H:bJ}{ids:ac Nat}{a:ah}(h:tl a=true)(d:den H a ids v):mO v=true:=by
 cases a<;>first
  |(cases h;done)
  |(obtain⟨b,_,rfl⟩:=d;rfl;done)
  |(rcases d with⟨_,rfl⟩|⟨b,o,c,_,_,_,_,rfl,_⟩<;>rfl;done)
  |(rcases d with⟨_,rfl⟩|⟨_,b,o,c,_,_,_,_,rfl,_⟩<;>rfl;done)
  |(rcases d with⟨_,rfl⟩|⟨_,rfl⟩|⟨b,o,c,_,_,_,_,rfl,_⟩<;>rfl;done)
  |(obtain⟨b,o,c,_,_,_,rfl,_⟩:=d;rfl;done)
  |(obtain⟨b,_,rfl,_⟩:=d;rfl;done)
  |(have j4:=d;unfold den at j4;subst j4;first|rfl|exact h)
def ael(h:mO v=true):iu v=[v]:=by
 cases v<;>first|rfl|cases h
theorem Ce{H:bJ}{ids:ac Nat}:∀{as:ac ah} {vs:ac be},rZ as=true->dj H as ids vs->gZ vs=true
 |[],_,_,d=>by cases d;rfl
 |a::as,_,h,⟨v,ws,e,d1,d2⟩=>by
  subst e;have h:(tl a&&rZ as)=true:=h;rw[b3]at h;show cond (mO v) (gZ ws) false=true;rw[Ri h.1 d1,Ce h.2 d2];rfl
theorem hW{H:bJ}{ids:ac Nat}:∀{as:ac ah} {vs:ac be},dj H as ids vs->vs.length=as.length
 |[],_,d=>by cases d;rfl
 |a::as,_,⟨v,ws,e,d1,d2⟩=>by subst e;simp[hW d2]
theorem vm{H:bJ}{ids:ac Nat}:∀{as:ac ah} {vs:ac be} {k:Nat} {a:ah},dj H as ids vs->as[k]? =some a->∃v,vs[k]? =some v∧den H a ids v
 |[],_,_,_,_,h=>by simp at h
 |a::as,_,0,_,⟨v,ws,e,d1,d2⟩,h=>by subst e;simp at h;subst h;exact⟨v,rfl,d1⟩
 |a::as,_,k+1,c,⟨v,ws,e,d1,d2⟩,h=>by
  subst e;obtain⟨u,J,U⟩:=vm (k:=k) (a:=c) d2 (by simpa using h);exact⟨u,by simpa using J,U⟩
theorem zF{H:bJ}{ids:ac Nat}:∀{as bU:ac ah} {vs ws:ac be},dj H as ids vs->dj H bU ids ws->dj H (as++bU) ids (vs++ws)
 |[],_,_,_,d,j4=>by cases d;exact j4
 |a::as,_,_,_,⟨v,ws,e,d1,d2⟩,j4=>by subst e;exact⟨v,_,rfl,d1,zF d2 j4⟩
theorem oY{H:bJ}{ids:ac Nat}:∀{as:ac ah} {vs:ac be} (n:Nat),dj H as ids vs->dj H (as.drop n) ids (vs.drop n)
 |_,_,0,d=>d
 |[],_,n+1,d=>by cases d;exact rfl
 |a::as,_,n+1,⟨v,ws,e,d1,d2⟩=>by subst e;exact oY n d2
theorem vn{H:bJ}{ids:ac Nat}:∀{as:ac ah} {vs:ac be} (n:Nat),dj H as ids vs->dj H (as.take n) ids (vs.take n)
 |_,_,0,d=>rfl
 |[],_,n+1,d=>by cases d;exact rfl
 |a::as,_,n+1,⟨v,ws,e,d1,d2⟩=>by subst e;exact⟨v,_,rfl,d1,vn n d2⟩
def bY(a b:ah):Prop:=∀(H:bJ) (i:ac Nat) (v:be),den H a i v->den H b i v
variable{z:Nat}{α:Type}{a b:ah}{as bU:ac ah}{R:α->ac ah}{l:ac α}
def kD:ac ah->ac ah->Prop
 |[],[]=>True
 |a::as,b::bU=>bY a b∧kD as bU
 |_,_=>False
def bY.refl(a:ah):bY a a:=fun _ _ _ d=>d
def bY.of(h:a=b):bY a b:=h▸bY.refl a
def kD.refl:∀l:ac ah,kD l l
 |[]=>trivial
 |a::as=>⟨bY.refl a,kD.refl as⟩
def kD.den{H:bJ}{i:ac Nat}:∀{as bU:ac ah} {vs:ac be},kD as bU->dj H as i vs->dj H bU i vs
 |[],[],_,_,d=>d
 |[],_::_,_,h,_=>h.elim
 |_::_,[],_,h,_=>h.elim
 |_::_,_::_,_,⟨J,U⟩,⟨v,ws,e,d1,d2⟩=>⟨v,ws,e,J _ _ _ d1,kD.den U d2⟩
def bY.agg(h:kD as bU):bY (.agg as) (.agg bU):=fun _ _ _ ⟨vs,e,d⟩=>⟨vs,e,h.den d⟩
def bY.bu(h:kD as bU):bY (.bu as) (.bu bU):=fun _ _ _ ⟨vs,e,d⟩=>⟨vs,e,h.den d⟩
def bY.nl:bY .nl (.c5 z α R []):=fun _ _ _ d=>.inl ⟨rfl,d⟩
def bY.D1:bY .nl (.ih z α R []):=fun _ _ _ d=>.inl ⟨rfl,d⟩
def bY.nw(h:l≠[]):bY (.cw z α R l) (.c5 z α R l):=fun _ _ _ d=>d.elim (fun d=>absurd d.1 h) id
def bY.cw:bY (.c5 z α R l) (.cw z α R l):=fun _ _ _ d=>.inr d
def bY.aud:bY (.ih z α R l) (.c5 z α R l):=fun _ _ _ d=>d.elim .inl (fun d=>.inr d.2)
def bY.ih(h:l≠[]):bY (.c5 z α R l) (.ih z α R l):=fun _ _ _ d=>d.elim .inl (fun d=>.inr ⟨h,d⟩)
def bY.trans{c:ah}(h:bY a b)(aB:bY b c):bY a c:=fun H i v d=>aB H i v (h H i v d)
open Sym
section
abbrev bX:=ac (Nat×ah)
def dZ:bX->Nat->am ah
 |[],_=>none
 |(i,a)::l,j=>cond (Nat.beq i j) (some a) (dZ l j)
def rn(p:Nat×ah)(l:bX)(j:Nat):dZ (p::l) j=cond (Nat.beq p.1 j) (some p.2) (dZ l j):=rfl
def D6:be->ah
 |.int k n=>.i k n
 |.bool t=>.b t
 |.string ⟨⟨l⟩⟩=>.s l
 |.slice none 0 0=>.nl
 |x=>.v x
def AQ:ac be->ac ah
 |[]=>[]
 |v::vs=>D6 v::AQ vs
def afJ(H:bJ)(ids:ac Nat)(v:be):den H (D6 v) ids v:=by
 unfold D6;split<;>rfl
theorem xl(H:bJ)(ids:ac Nat):∀vs:ac be,dj H (AQ vs) ids vs
 |[]=>rfl
 |v::vs=>⟨v,vs,rfl,afJ H ids v,xl H ids vs⟩
def NT:be->am ah
 |.agg ⟨l⟩=>some (.agg (AQ l))
 |.int k n=>some (.i k n)
 |.bool t=>some (.b t)
 |.string ⟨⟨l⟩⟩=>some (.s l)
 |.slice none 0 0=>some .nl
 |.tuple ⟨[]⟩=>some (.bu [])
 |x=>some (.v x)
def aoy(h:NT v=some a)(H:bJ)(ids:ac Nat):den H a ids v:=by
 unfold NT at h;split at h<;>cases h
 ·exact⟨_,rfl,xl H ids _⟩
 all_goals first|rfl|exact⟨[],rfl,rfl⟩
def bw(e:bX):bi->am ah
 |.tmp j=>dZ e j
 |.const v=>NT v
 |.global g=>some (.v (.pointer (some ⟨g,0,none⟩)))
 |.func f=>some (.v (.func (.func f) #[] #[]))
def mr(e:bX):ac bi->am (ac ah)
 |[]=>some []
 |x::xs=>match bw e x with
  |some a=>match mr e xs with
   |some as=>some (a::as)
   |none=>none
  |none=>none
structure c9(fr:aR)(H:bJ)(ids:ac Nat)(e:bX):Prop where
 pl:w3 fr
 get:∀j a,dZ e j=some a->den H a ids (fr.tmp j)
variable{fr:aR}{H:bJ}{ids:ac Nat}{e:bX}
def c9.aj(h:c9 fr H ids e){x:bi}(aa:bw e x=some a):den H a ids (fr.aj x):=by
 cases x with
 |tmp j=>exact h.get j a aa
 |const w=>exact aoy aa H ids
 |global g=>cases aa;rfl
 |func f=>cases aa;rfl
theorem c9.eA{fr:aR}{H:bJ}{ids:ac Nat}{e:bX}(h:c9 fr H ids e):∀{xs:ac bi} {as:ac ah},mr e xs=some as->dj H as ids (eA fr xs)
 |[],_,aa=>by cases aa;rfl
 |x::xs,_,aa=>by
  unfold mr at aa;cases J:bw e x with
  |none=>rw[J]at aa;cases aa
  |some a=>
   cases U:mr e xs with
   |none=>rw[J,U]at aa;cases aa
   |some as=>
    rw[J,U]at aa;cases aa;exact⟨_,_,rfl,h.aj J,h.eA U⟩
def c9.put(h:c9 fr H ids e)(d:Tmp)(aI:den H a ids v):c9 (fr.put (some d) v) H ids ((d,a)::e):=by
 refine⟨h.pl.put _ _,fun j w hj=> ?_⟩;rw[rn]at hj;rw[BB];cases hb:Nat.beq d j with
 |true=>
  rw[hb]at hj;rw[zab (eL hb).symm];cases hj;exact aI
 |false=>
  rw[hb]at hj;rw[zaa (fun e=>by rw[e,zaP]at hb;cases hb)];exact h.get j w hj
def oZ(d:Nat):bX->bX
 |[]=>[]
 |p::l=>cond (Nat.beq p.1 d) (oZ d l) (p::oZ d l)
theorem HO(d:Nat):∀(e:bX) (j:Nat) (a:ah),dZ (oZ d e) j=some a->j≠d∧dZ e j=some a
 |[],_,_,h=>by cases h
 |p::e,j,a,h=>by
  unfold oZ at h;cases hb:Nat.beq p.1 d with
  |true=>
   rw[hb]at h;obtain⟨J,U⟩:=HO d e j a h;refine⟨J,?_⟩;rw[rn];have:Nat.beq p.1 j=false:=by
    cases hc:Nat.beq p.1 j with
    |false=>rfl
    |true=>exact absurd ((eL hc).symm.trans (eL hb)) J
   rw[this];exact U
  |false=>
   rw[hb]at h;have h:cond (Nat.beq p.1 j) (some p.2) (dZ (oZ d e) j)=some a:=h;rw[rn];cases hc:Nat.beq p.1 j with
   |true=>
    rw[hc]at h;refine⟨fun e=> ?_,h⟩;rw[<-e,hc]at hb;cases hb
   |false=>rw[hc]at h;exact HO d e j a h
def c9.af1(h:c9 fr H ids e)(d:Tmp)(v:be):c9 (fr.put (some d) v) H ids (oZ d e):=by
 refine⟨h.pl.put _ _,fun j w hj=> ?_⟩;obtain⟨J,U⟩:=HO d e j w hj;rw[BB,zaa J];exact h.get j w U
def c9.mono{bF:bJ}{dd:ac Nat}(h:c9 fr H ids e)(hh:dp H bF)(hi:di ids dd):c9 fr bF dd e:=⟨h.pl,fun j a hj=>vl hh a hi (h.get j a hj)⟩
def eV(L:ac Nat):bX->bX
 |[]=>[]
 |p::l=>cond (L.any (Nat.beq p.1)) (p::eV L l) (eV L l)
theorem No(L:ac Nat):∀(e:bX) (j:Nat) (a:ah),dZ (eV L e) j=some a->L.contains j=true∧dZ e j=some a
 |[],_,_,h=>by cases h
 |p::e,j,a,h=>by
  unfold eV at h;cases hb:L.any (Nat.beq p.1)with
  |true=>
   rw[hb]at h;have h:cond (Nat.beq p.1 j) (some p.2) (dZ (eV L e) j)=some a:=h;rw[rn];cases hc:Nat.beq p.1 j with
   |true=>
    rw[hc]at h;refine⟨?_,h⟩;obtain⟨x,aa,bS⟩:=zek.1 hb;rw[<-eL hc,eL bS];simpa using aa
   |false=>rw[hc]at h;exact No L e j a h
  |false=>
   rw[hb]at h;obtain⟨J,U⟩:=No L e j a h;refine⟨J,?_⟩;rw[rn];have:Nat.beq p.1 j=false:=by
    cases hc:Nat.beq p.1 j with
    |false=>rfl
    |true=>
     rw[eL hc]at hb;rw[List.any_eq_false]at hb;exact absurd (zaP j) (hb j (by simpa using J))
   rw[this];exact U
def c9.only(h:c9 fr H ids e)(ts:ac Tmp):c9 (fr.only ts) H ids (eV ts e):=
 ⟨⟨rfl,rfl,rfl⟩,fun j a hj=>by
   obtain⟨J,U⟩:=No ts e j a hj;have:=O (ts:=ts) (fr:=fr) (j:=j) (x:=fr.tmp j) rfl J;rw[Gh]at this;rw[this];exact h.get j a U⟩
def qK(op:BinOp)(k:d7)(a b:Int):am ah:=
 match op with
 |.add=>some (.i k (k.wrap (a+b)))
 |.sub=>some (.i k (k.wrap (a-b)))
 |.mul=>some (.i k (k.wrap (a*b)))
 |.quo=>if b=0 then none else some (.i k (k.wrap (a.tdiv b)))
 |.rem=>if b=0 then none else some (.i k (a.tmod b))
 |.and=>some (.i k (k.wrap (BitVec.ofInt k.bits a&&&BitVec.ofInt k.bits b).toNat))
 |.or=>some (.i k (k.wrap (BitVec.ofInt k.bits a|||BitVec.ofInt k.bits b).toNat))
 |.xor=>some (.i k (k.wrap (BitVec.ofInt k.bits a^^^BitVec.ofInt k.bits b).toNat))
 |.andNot=>some (.i k (k.wrap (BitVec.ofInt k.bits a&&& ~~~(BitVec.ofInt k.bits b)).toNat))
 |.eql=>some (.b (decide (a=b)))
 |.neq=>some (.b (decide (a≠b)))
 |.lss=>some (.b (decide (a<b)))
 |.leq=>some (.b (decide (a<=b)))
 |.gtr=>some (.b (decide (b<a)))
 |.geq=>some (.b (decide (b<=a)))
 |_=>none
def zi(op:BinOp)(k:d7)(M:Nat)(a b:Int):am ah:=
 match op with
 |.add=>match a,b with
  |.ofNat m,.ofNat n=>some (.i k (((m+n)%M:Nat):Int))
  |a,b=>qK .add k a b
 |.sub=>match a,b with
  |.ofNat m,.ofNat n=>some (.i k (((m+(M*n-n))%M:Nat):Int))
  |a,b=>qK .sub k a b
 |.mul=>match a,b with
  |.ofNat m,.ofNat n=>some (.i k ((m*n%M:Nat):Int))
  |a,b=>qK .mul k a b
 |.quo=>match a,b with
  |.ofNat m,.ofNat n=>if n=0 then none else some (.i k ((m/n%M:Nat):Int))
  |a,b=>qK .quo k a b
 |.rem=>match a,b with
  |.ofNat m,.ofNat n=>if n=0 then none else some (.i k ((m%n:Nat):Int))
  |a,b=>qK .rem k a b
 |.and=>match a,b with
  |.ofNat m,.ofNat n=>some (.i k (((m%M)&&&(n%M):Nat):Int))
  |a,b=>qK .and k a b
 |.or=>match a,b with
  |.ofNat m,.ofNat n=>some (.i k (((m%M)|||(n%M):Nat):Int))
  |a,b=>qK .or k a b
 |op=>qK op k a b
def Ks(op:BinOp)(k:d7)(a b:Int):am ah:=
 match k with
 |.u8=>zi op .u8 256 a b
 |.u16=>zi op .u16 65536 a b
 |.u32=>zi op .u32 4294967296 a b
 |.u64=>zi op .u64 18446744073709551616 a b
 |k=>qK op k a b
def zj(k:d7)(M:Nat)(n:Int):am ah:=
 match n with
 |.ofNat m=>some (.i k ((m%M:Nat):Int))
 |n=>some (.i k (k.wrap n))
def Kv(k:d7)(n:Int):am ah:=
 match k with
 |.u8=>zj .u8 256 n
 |.u16=>zj .u16 65536 n
 |.u32=>zj .u32 4294967296 n
 |.u64=>zj .u64 18446744073709551616 n
 |k=>some (.i k (k.wrap n))
def zn(k:d7)(M:Nat)(a b:Int):am ah:=
 match a,b with
 |.ofNat m,.ofNat n=>some (.i k ((m*2^n%M:Nat):Int))
 |_,_=>none
def KM(k:d7)(a b:Int):am ah:=
 match b with
 |.ofNat n=>match Nat.ble n k.bits with
  |true=>some (.i k (k.wrap (a*2^n)))
  |false=>none
 |_=>none
def KL(k:d7)(a b:Int):am ah:=
 match k with
 |.u8=>zn .u8 256 a b
 |.u16=>zn .u16 65536 a b
 |.u32=>zn .u32 4294967296 a b
 |.u64=>zn .u64 18446744073709551616 a b
 |k=>KM k a b
def KN(k:d7)(a b:Int):am ah:=
 match b with
 |.ofNat n=>match Nat.ble n k.bits with
  |true=>match a with
   |.ofNat m=>some (.i k ((m/2^n:Nat):Int))
   |a=>some (.i k (a.fdiv (2^n)))
  |false=>none
 |_=>none
def Qi(op:BinOp)(k k':d7)(a b:Int):am ah:=
 match op with
 |.shl=>KL k a b
 |.shr=>KN k a b
 |op=>match jr k k' with
  |true=>Ks op k a b
  |false=>none
def Kt(op:BinOp):ah->ah->am ah
 |.i k a,.i k' b=>Qi op k k' a b
 |.s x,.s y=>match op with
  |.eql=>some (.b (x==y))
  |.neq=>some (.b (!(x==y)))
  |_=>none
 |_,_=>none
def KP(op:UnOp):ah->am ah
 |.i k n=>match op with
  |.neg=>some (.i k (k.wrap (-n)))
  |.xor=>some (.i k (k.wrap (BitVec.ofInt k.bits (if k.signed then -1 else k.max)^^^BitVec.ofInt k.bits n).toNat))
  |_=>none
 |.b t=>match op with
  |.not=>some (.b (!t))
  |_=>none
 |_=>none
def j2(neg:Bool)(b:Bool):Bool:=cond neg (!b) b
def Ky(neg:Bool):oJ->ah->ah->am ah
 |.sI,.b x,.b y=>some (.b (j2 neg (x==y)))
 |.sI,.i k x,.i k' y=>match jr k k' with
  |true=>some (.b (j2 neg (decide (x=y))))
  |false=>none
 |.sI,.s x,.s y=>some (.b (j2 neg (x==y)))
 |.kA,.nl,.nl=>some (.b (j2 neg true))
 |.kA,.ih _ _ _ l,.nl=>some (.b (j2 neg l.isEmpty))
 |.kA,.bj _ _ _ _ _,.nl=>some (.b (j2 neg false))
 |.kA,.nl,.bj _ _ _ _ _=>some (.b (j2 neg false))
 |.ptr,.p _ _,.v (.pointer none)=>some (.b (j2 neg false))
 |.ptr,.gW _ _ _ _,.v (.pointer none)=>some (.b (j2 neg false))
 |.ptr,.ip _,.v (.pointer none)=>some (.b (j2 neg false))
 |.wa,.fn _ _ _,.v .nilFunc=>some (.b (j2 neg false))
 |_,_,_=>none
def Fx(e:bX)(k:d7):ac bi->Int->am ah
 |[],m=>some (.i k m)
 |x::xs,m=>match bw e x with
  |some (.i k' y)=>match jr k k' with
   |true=>Fx e k xs (max m y)
   |false=>none
  |_=>none
def Fy(e:bX)(k:d7):ac bi->Int->am ah
 |[],m=>some (.i k m)
 |x::xs,m=>match bw e x with
  |some (.i k' y)=>match jr k k' with
   |true=>Fy e k xs (min m y)
   |false=>none
  |_=>none
def JR{β:Type _}:ac ah->Nat->(ac ah->am β)->am β
 |_,0,K=>K []
 |[],_+1,_=>none
 |a::as,n+1,K=>JR as n fun r=>K (a::r)
def DM:ac ah->Nat->Bool
 |[],0=>true
 |_::as,n+1=>DM as n
 |_,_=>false
def xg{β:Type _}(cs:ac ah)(o n:Nat)(K:ac ah->am β):am β:=
 match o with
 |0=>match DM cs n with
  |true=>K cs
  |false=>JR cs n K
 |o=>JR (cs.drop o) n K
def It(hy:Bool):ac ah->am ah
 |[a]=>match hy with
  |true=>some (.agg [a])
  |false=>some a
 |cs=>match hy with
  |true=>some (.agg cs)
  |false=>none
def KB(e:bX):dg->am ah
 |.lR x=>bw e x
 |.jN x=>bw e x
 |.bin op x y=>match bw e x with
  |some a=>match bw e y with
   |some b=>Kt op a b
   |none=>none
  |none=>none
 |.eqv neg t x y=>match bw e x with
  |some a=>match bw e y with
   |some b=>Ky neg t a b
   |none=>none
  |none=>none
 |.un op x=>match bw e x with
  |some a=>KP op a
  |none=>none
 |.tn k x=>match bw e x with
  |some (.i _ n)=>Kv k n
  |_=>none
 |.xc x=>match bw e x with
  |some (.s l)=>some (.s l)
  |_=>none
 |.uk f bG cs=>match mr e bG with
  |some as=>match mr e cs with
   |some bU=>some (.fn f as bU)
   |none=>none
  |none=>none
 |.xt x i=>match bw e x with
  |some (.bu vs)=>vs[i]?
  |_=>none
 |.ot x=>match bw e x with
  |some .nl=>some (.i .i64 0)
  |some (.bj _ _ _ n _)=>some (.i .i64 (n:Int))
  |some (.c5 _ _ _ l)=>some (.i .i64 (l.length:Int))
  |some (.ih _ _ _ l)=>some (.i .i64 (l.length:Int))
  |some (.cw _ _ _ l)=>some (.i .i64 (l.length:Int))
  |_=>none
 |.ug x=>match bw e x with
  |some (.s l)=>some (.i .i64 (l.length:Int))
  |_=>none
 |.x9 n=>some (.i .i64 (n:Int))
 |.xu off x=>match bw e x with
  |some (.p k o)=>some (.p k (o+off))
  |some (.gW k z j o)=>some (.gW k z j (o+off))
  |some (.ip cs)=>some (.ip (cs.drop off))
  |_=>none
 |.o3 off a9 hy x=>match bw e x with
  |some (.agg cs)=>xg cs off a9 (It hy)
  |_=>none
 |.sC x=>match bw e x with
  |some (.p k o)=>some (.p k o)
  |some (.gW k z j o)=>some (.gW k z j o)
  |some (.ip cs)=>some (.ip cs)
  |some (.v (.func (.func g) a b))=>some (.v (.func (.func g) a b))
  |_=>none
 |.pick c x y=>match bw e c with
  |some (.b true)=>bw e x
  |some (.b false)=>bw e y
  |_=>none
 |.eR x xs=>match bw e x with
  |some (.i k n)=>Fx e k xs n
  |_=>none
 |.yk x xs=>match bw e x with
  |some (.i k n)=>Fy e k xs n
  |_=>none
 |_=>none
end
section
variable{call:bO}{fr:aR}{x y i:bi}
variable{k:d7}
def Xz{k':d7}(h:jr k k'=true):k=k':=by cases k<;>cases k'<;>first|rfl|cases h
def tf{op:BinOp}{a b:Int}{r:ah}(h:qK op k a b=some r)(J:op≠.shl)(U:op≠.shr)(aa:fr.aj x= .int k a)(aF:fr.aj y= .int k b):
 ∃v,(∀H ids,den H r ids v)∧∀st,bR call (.bin op x y) fr st= .ok v fr st:=by
 have key:∀v,rj op k a b=some v->(∀H ids,den H r ids v)->∃v,(∀H ids,den H r ids v)∧∀st,bR call (.bin op x y) fr st= .ok v fr st:=
  fun v e d=>⟨v,d,fun st=>AP J U aa aF e⟩
 cases op<;>simp only[qK]at h
 case quo=>split at h<;>cases h;rename_i hb;exact key _ (by simp only[rj,zaa hb]) fun _ _=>rfl
 case rem=>split at h<;>cases h;rename_i hb;exact key _ (by simp only[rj,zaa hb]) fun _ _=>rfl
 all_goals first
  |(cases h;done)
  |(cases h;exact key _ rfl fun _ _=>rfl)
  |(cases h;exact key _ rfl fun _ _=>by show Value.bool _=Value.bool _;congr 1;rw[zbb];simp)
def w6(k:d7)(M:Nat):Prop:=(∀n:Int,k.wrap n=n%(M:Int))∧M=2^k.bits
variable{r:ah}{k':d7}{H:bJ}{ids:ac Nat}{op:BinOp}{n M:Nat}{cs:ac ah}{o:Nat}
def PJ:w6 .u8 256:=⟨fun n=>by rw[<-ki];exact rS _ _ (by decide),rfl⟩
def PG:w6 .u16 65536:=⟨fun n=>by rw[<-ki];exact rS _ _ (by decide),rfl⟩
def PH:w6 .u32 4294967296:=⟨fun n=>by rw[<-ki];exact rS _ _ (by decide),rfl⟩
def PI:w6 .u64 18446744073709551616:=⟨fun n=>by rw[<-ki];exact rS _ _ (by decide),rfl⟩
def Fs(j8:w6 k M){a b:Int}(h:zi op k M a b=some r)(J:op≠.shl)(U:op≠.shr)(aa:fr.aj x= .int k a)(aF:fr.aj y= .int k b):
 ∃v,(∀H ids,den H r ids v)∧∀st,bR call (.bin op x y) fr st= .ok v fr st:=by
 have hp:0<M:=by rw[j8.2];exact zag _
 have key:∀v,rj op k a b=some v->(∀H ids,den H r ids v)->∃v,(∀H ids,den H r ids v)∧∀st,bR call (.bin op x y) fr st= .ok v fr st:=
  fun v e d=>⟨v,d,fun st=>AP J U aa aF e⟩
 have xq:∀{m n:Int},m=n->∀(H:bJ) (ids:ac Nat),den H (.i k n) ids (.int k m):=fun e _ _=>by rw[e];rfl
 have wn:∀n:Nat,k.wrap (n:Int)=((n%M:Nat):Int):=fun n=>by rw[j8.1];rfl
 have avc:∀n:Nat,n%M<2^k.bits:=fun n=>by rw[<-j8.2];exact zae _ hp
 unfold zi at h;split at h
 ·split at h
  ·rename_i m n;cases h;exact key _ rfl (xq (wn (m+n)))
  ·exact tf h J U aa aF
 ·split at h
  ·rename_i m n;cases h;refine key _ rfl (xq ?_);rw[j8.1];have e:((m+(M*n-n):Nat):Int)=((m:Int)-n)+M*n:=by
    have:n<=M*n:=Nat.le_mul_of_pos_left n hp;rw[zbU,Int.ofNat_sub this,zam];omega
   rw[Int.natCast_emod,e,Int.add_mul_emod_self_left];rfl
  ·exact tf h J U aa aF
 ·split at h
  ·rename_i m n;cases h;exact key _ rfl (xq (wn (m*n)))
  ·exact tf h J U aa aF
 ·split at h
  ·rename_i m n;split at h<;>cases h;rename_i hn;refine key (.int k (k.wrap ((m:Int).tdiv n))) (by show(if(n:Int)=0 then none else _)=_;rw[zaa (by omega)];rfl) (xq ?_);exact wn (m/n)
  ·exact tf h J U aa aF
 ·split at h
  ·rename_i m n;split at h<;>cases h;rename_i hn;exact key (.int k ((m:Int).tmod n)) (by show(if(n:Int)=0 then none else _)=_;rw[zaa (by omega)];rfl) (xq rfl)
  ·exact tf h J U aa aF
 ·split at h
  ·rename_i m n;cases h;refine key _ rfl (xq ?_);show k.wrap ((BitVec.ofInt k.bits (m:Int)&&&BitVec.ofInt k.bits (n:Int)).toNat:Nat)=_;rw[BitVec.toNat_and,zbI,zbI,zdF,zdF,<-j8.2,wn,dH];rw[j8.2];exact Nat.and_lt_two_pow _ (by rw[<-j8.2];exact zae _ hp)
  ·exact tf h J U aa aF
 ·split at h
  ·rename_i m n;cases h;refine key _ rfl (xq ?_);show k.wrap ((BitVec.ofInt k.bits (m:Int)|||BitVec.ofInt k.bits (n:Int)).toNat:Nat)=_;rw[BitVec.toNat_or,zbI,zbI,zdF,zdF,<-j8.2,wn,dH];rw[j8.2];exact Nat.or_lt_two_pow (by rw[<-j8.2];exact zae _ hp) (by rw[<-j8.2];exact zae _ hp)
  ·exact tf h J U aa aF
 ·exact tf h J U aa aF
def adl{a b:Int}(h:Ks op k a b=some r)(J:op≠.shl)(U:op≠.shr)(aa:fr.aj x= .int k a)(aF:fr.aj y= .int k b):
 ∃v,(∀H ids,den H r ids v)∧∀st,bR call (.bin op x y) fr st= .ok v fr st:=by
 unfold Ks at h;split at h
 ·exact Fs PJ h J U aa aF
 ·exact Fs PG h J U aa aF
 ·exact Fs PH h J U aa aF
 ·exact Fs PI h J U aa aF
 ·exact tf h J U aa aF
def adm{n:Int}(h:Kv k n=some r)(H:bJ)(ids:ac Nat):den H r ids (.int k (k.wrap n)):=by
 have u:∀{k:d7} {M:Nat},w6 k M->zj k M n=some r->den H r ids (.int k (k.wrap n)):=fun j8 h=>by
  unfold zj at h;split at h<;>cases h
  ·show Value.int _ _=Value.int _ _;rw[j8.1];rfl
  ·rfl
 unfold Kv at h;split at h
 ·exact u PJ h
 ·exact u PG h
 ·exact u PH h
 ·exact u PI h
 ·cases h;rfl
def JB{a:Int}(aa:fr.aj x= .int k a)(aF:fr.aj y= .int k' (n:Int))(st:ay):bR call (.bin .shl x y) fr st= .ok (.int k (k.wrap (a*2^(min n k.bits)))) fr st:=by
 rw[Ea,aa,aF,Lq];show g9 (n:Int) (fun n=>hP k (yS k a n) (fun v=>aX.ok v fr st)) aX.no=_;rw[pn,h3];have:yS k a n=k.wrap (a*2^(min n k.bits)):=by
  unfold yS;rw[ki,ND];simp
 rw[this]
def FE(j8:w6 k M){a b:Int}(h:zn k M a b=some r)(aa:fr.aj x= .int k a)(aF:fr.aj y= .int k' b):
 ∃v,(∀H ids,den H r ids v)∧∀st,bR call (.bin .shl x y) fr st= .ok v fr st:=by
 unfold zn at h;split at h
 ·rename_i m n;cases h;refine⟨_,fun H ids=> ?_,fun st=>JB aa aF st⟩;show Value.int _ _=Value.int _ _;congr 1;have e:((m:Int)*2^(min n k.bits))=((m*2^(min n k.bits):Nat):Int):=by simp
  show k.wrap ((m:Int)*2^(min n k.bits))=_;rw[e,j8.1,<-Int.natCast_emod];congr 1;rcases Nat.le_total n k.bits with hn|hn
  ·rw[zaB hn]
  ·rw[Nat.min_eq_right hn,<-j8.2];have:2^n=M*2^(n-k.bits):=by rw[j8.2,<-zal];congr 1;omega
   rw[this,zem,<-zat,zai m M,zat,Nat.mul_mod_right]
 ·cases h
def adN{a b:Int}(h:KM k a b=some r)(aa:fr.aj x= .int k a)(aF:fr.aj y= .int k' b):
 ∃v,(∀H ids,den H r ids v)∧∀st,bR call (.bin .shl x y) fr st= .ok v fr st:=by
 unfold KM at h;cases b with
 |negSucc n=>cases h
 |ofNat n=>
  simp only at h;split at h<;>cases h;rename_i hn;refine⟨_,fun _ _=> ?_,fun st=>JB aa aF st⟩;rw[zaB (jw hn)];rfl
def adO{a b:Int}(h:KL k a b=some r)(aa:fr.aj x= .int k a)(aF:fr.aj y= .int k' b):
 ∃v,(∀H ids,den H r ids v)∧∀st,bR call (.bin .shl x y) fr st= .ok v fr st:=by
 unfold KL at h;split at h
 ·exact FE PJ h aa aF
 ·exact FE PG h aa aF
 ·exact FE PH h aa aF
 ·exact FE PI h aa aF
 ·exact adN h aa aF
def KO{a b:Int}(h:KN k a b=some r)(aa:fr.aj x= .int k a)(aF:fr.aj y= .int k' b):
 ∃v,(∀H ids,den H r ids v)∧∀st,bR call (.bin .shr x y) fr st= .ok v fr st:=by
 unfold KN at h;cases b with
 |negSucc n=>cases h
 |ofNat n=>
  simp only at h;split at h<;>try cases h
  rename_i hn;have hn:=jw hn;have e:∀st,bR call (.bin .shr x y) fr st= .ok (.int k (uO k a n)) fr st:=fun st=>by
   rw[Ea,aa,aF,Lq];show g9 (n:Int) (fun n=>hP k (uO k a n) (fun v=>aX.ok v fr st)) aX.no=_;rw[pn,h3]
  refine⟨_,?_,e⟩;intro H ids;cases a with
  |ofNat m=>
   cases h;show Value.int _ _=Value.int _ _;congr 1;show uO k (m:Int) n=_;unfold uO;rw[pn,zaB hn];rfl
  |negSucc m=>
   cases h;show Value.int _ _=Value.int _ _;congr 1;unfold uO;rw[zaB hn];rfl
def adk(h:Kt op a b=some r)(aa:den H a ids (fr.aj x))(aF:den H b ids (fr.aj y)):
 ∃v,(∀H ids,den H r ids v)∧∀st,bR call (.bin op x y) fr st= .ok v fr st:=by
 unfold Kt at h;split at h
 ·rename_i k m k' n;have aa:fr.aj x= .int k m:=aa;have aF:fr.aj y= .int k' n:=aF;unfold Qi at h;split at h
  ·exact adO h aa aF
  ·exact KO h aa aF
  ·rename_i J U;split at h
   ·rename_i ab;cases Xz ab;exact adl h (by simpa using J) (by simpa using U) aa aF
   ·cases h
 ·rename_i l m;have aa:fr.aj x= .string ⟨⟨l⟩⟩:=aa;have aF:fr.aj y= .string ⟨⟨m⟩⟩:=aF;have e:∀st,bR call (.bin op x y) fr st=B8 op ⟨⟨l⟩⟩ ⟨⟨m⟩⟩ (fun v=>.ok v fr st):=fun st=>by rw[Ea,aa,aF,Sc]
  split at h<;>cases h
  ·exact⟨_,fun _ _=>rfl,e⟩
  ·exact⟨_,fun _ _=>rfl,e⟩
 ·cases h
def adP{op:UnOp}(h:KP op a=some r)(aa:den H a ids (fr.aj x)):
 ∃v,(∀H ids,den H r ids v)∧∀st,bR call (.un op x) fr st= .ok v fr st:=by
 unfold KP at h;split at h
 ·rename_i k n;have aa:fr.aj x= .int k n:=aa;have e:∀st,bR call (.un op x) fr st=zP op (.int k n) (fun v=>.ok v fr st):=fun st=>by
   have:bR call (.un op x) fr st=zP op (fr.aj x) (fun v=>.ok v fr st):=rfl;rw[this,aa]
  split at h<;>cases h
  ·refine⟨_,fun _ _=>rfl,fun st=> ?_⟩;rw[e];simp only[zP,nf,h3,ki,NH]
  ·refine⟨_,fun _ _=>rfl,fun st=> ?_⟩;rw[e];simp only[zP,nf,h3]
 ·rename_i t;have aa:fr.aj x= .bool t:=aa;split at h<;>cases h;refine⟨_,fun _ _=>rfl,fun st=> ?_⟩;have:bR call (.un .not x) fr st=zP .not (fr.aj x) (fun v=>.ok v fr st):=rfl;rw[this,aa];rfl
 ·cases h
def ado{neg:Bool}{t:oJ}(h:Ky neg t a b=some r)(aa:den H a ids (fr.aj x))(aF:den H b ids (fr.aj y)):
 ∃v,(∀H ids,den H r ids v)∧∀st,bR call (.eqv neg t x y) fr st= .ok v fr st:=by
 have key:∀c,kK 8 t (fr.aj x) (fr.aj y)=some c->r= .b (j2 neg c)->∃v,(∀H ids,den H r ids v)∧∀st,bR call (.eqv neg t x y) fr st= .ok v fr st:=by
  intro c hc hr;subst hr;refine⟨_,fun _ _=>rfl,fun st=> ?_⟩;show bm (kK 8 t (fr.aj x) (fr.aj y)) (fun b=>aX.ok (.bool (cond neg (!b) b)) fr st) .no=_;rw[hc];rfl
 unfold Ky at h;split at h
 ·cases h;exact key _ (by rw[show fr.aj x=_ from aa,show fr.aj y=_ from aF];simp only[kK,zN]) rfl
 ·split at h<;>cases h;rename_i ab;cases Xz ab;refine key _ ?_ rfl;rw[show fr.aj x=_ from aa,show fr.aj y=_ from aF];simp only[kK,zN];simp only[if_true];congr 1
 ·cases h;exact key _ (by rw[show fr.aj x=_ from aa,show fr.aj y=_ from aF];simp only[kK,zN]) rfl
 ·cases h;exact key true (by rw[show fr.aj x=_ from aa,show fr.aj y=_ from aF];simp[kK,o2]) rfl
 ·cases h;rcases aa with⟨rfl,aa⟩|⟨hn,b,o,c,vs,el,bd,a3,aa,_⟩
  ·exact key true (by rw[aa,show fr.aj y=_ from aF];simp[kK,o2]) rfl
  ·exact key false (by rw[aa,show fr.aj y=_ from aF];simp[kK,o2]) (by rw[zdG.2 hn])
 ·cases h;obtain⟨b,_,aa⟩:=aa;exact key false (by rw[aa,show fr.aj y=_ from aF];simp[kK,o2]) rfl
 ·cases h;obtain⟨b,_,aF⟩:=aF;exact key false (by rw[show fr.aj x=_ from aa,aF];simp[kK,o2]) rfl
 ·cases h;obtain⟨b,_,aa⟩:=aa;exact key false (by rw[aa,show fr.aj y=_ from aF];simp[kK,r6]) rfl
 ·cases h;obtain⟨b,_,aa⟩:=aa;exact key false (by rw[aa,show fr.aj y=_ from aF];simp[kK,r6]) rfl
 ·cases h;obtain⟨b,o,vs,el,bd,a3,aa,_⟩:=aa;exact key false (by rw[aa,show fr.aj y=_ from aF];simp[kK,r6]) rfl
 ·cases h;obtain⟨b,o,aa,_⟩:=aa;exact key false (by rw[aa,show fr.aj y=_ from aF];simp[kK,zM]) rfl
 ·cases h
theorem Qs{H:bJ}{ids:ac Nat}{e:bX}(ae:c9 fr H ids e){k:d7}:∀{xs:ac bi} {m:Int} {r:ah},Fx e k xs m=some r->∃n,r= .i k n∧DS k fr xs m=some n
 |[],m,r,h=>by cases h;exact⟨m,rfl,rfl⟩
 |x::xs,m,r,h=>by
  unfold Fx at h;split at h<;>try cases h
  rename_i k' z aa;split at h<;>try cases h
  rename_i ab;obtain⟨n,J,U⟩:=Qs ae h;refine⟨n,J,?_⟩;have aI:fr.aj x= .int k' z:=ae.aj aa;show gj (fr.aj x) (fun k' y=>cond (jr k k') (DS k fr xs (cond (mq y m) m y)) none) none=_;rw[aI,nf,ab,cond_true,<-U];congr 1;rw[sx];by_cases aJ:z<=m
  ·rw[zad aJ,cond_true];omega
  ·rw[zac aJ,cond_false];omega
theorem Qt{H:bJ}{ids:ac Nat}{e:bX}(ae:c9 fr H ids e){k:d7}:∀{xs:ac bi} {m:Int} {r:ah},Fy e k xs m=some r->∃n,r= .i k n∧DT k fr xs m=some n
 |[],m,r,h=>by cases h;exact⟨m,rfl,rfl⟩
 |x::xs,m,r,h=>by
  unfold Fy at h;split at h<;>try cases h
  rename_i k' z aa;split at h<;>try cases h
  rename_i ab;obtain⟨n,J,U⟩:=Qt ae h;refine⟨n,J,?_⟩;have aI:fr.aj x= .int k' z:=ae.aj aa;show gj (fr.aj x) (fun k' y=>cond (jr k k') (DT k fr xs (cond (mq m y) m y)) none) none=_;rw[aI,nf,ab,cond_true,<-U];congr 1;rw[sx];by_cases aJ:m<=z
  ·rw[zad aJ,cond_true];omega
  ·rw[zac aJ,cond_false];omega
theorem Px{β:Type _}{r:β}:∀{cs:ac ah} {n:Nat} {K:ac ah->am β},JR cs n K=some r->n<=cs.length∧K (cs.take n)=some r
 |cs,0,K,h=>by
  have h:K []=some r:=by cases cs<;>exact h
  exact⟨zaf _,by simpa using h⟩
 |[],n+1,K,h=>by cases h
 |a::as,n+1,K,h=>by
  obtain⟨J,U⟩:=Px (cs:=as) (n:=n) h;exact⟨by simpa using J,by simpa using U⟩
theorem HM:∀{cs:ac ah} {n:Nat},DM cs n=true->cs.length=n
 |[],0,_=>rfl
 |[],n+1,h=>by cases h
 |_::_,0,h=>by cases h
 |a::as,n+1,h=>by simp[HM (cs:=as) (n:=n) h]
def Cm{β:Type _}{r:β}{K:ac ah->am β}(h:xg cs o n K=some r):n<=(cs.drop o).length∧K ((cs.drop o).take n)=some r:=by
 unfold xg at h;split at h
 ·split at h
  ·rename_i hl;have:=HM hl;refine⟨by simp;omega,?_⟩;rw[zap,zaF (by omega)];exact h
  ·exact Px h
 ·exact Px h
def r1{β:Type}(h:n<=(l.drop o).length)(k:ac α->β)(z:β):iw l o n k z=k ((l.drop o).take n):=by
 unfold iw;rw[zI,EU,zab h];rfl
def Zq{hy:Bool}(h:It hy cs=some r):(hy=true∧r= .agg cs)∨(hy=false∧cs=[r]):=by
 unfold It at h;split at h<;>split at h<;>cases h
 ·exact .inl ⟨rfl,rfl⟩
 ·exact .inr ⟨rfl,rfl⟩
 ·exact .inl ⟨rfl,rfl⟩
def pI(b o n:Nat):(⟨b,o,none⟩:Addr).add n=⟨b,o+n,none⟩:=by
 unfold Addr.add;split
 ·rename_i h;rw[h];rfl
 ·rfl
def adC{e:bX}(ae:c9 fr H ids e){o:dg}(h:KB e o=some r):∃v,den H r ids v∧∀st,bR call o fr st= .ok v fr st:=by
 have up:∀{r:ah} {o:dg},(∃v,(∀H ids,den H r ids v)∧∀st,bR call o fr st= .ok v fr st)->∃v,den H r ids v∧∀st,bR call o fr st= .ok v fr st:=fun⟨v,J,U⟩=>⟨v,J _ _,U⟩;cases o<;>simp only[KB]at h
 case lR x=>exact⟨_,ae.aj h,fun st=>rfl⟩
 case jN x=>exact⟨_,ae.aj h,fun st=>rfl⟩
 case bin op x y=>
  split at h<;>try cases h
  split at h<;>try cases h
  rename_i aa _ _ aF;exact up (adk h (ae.aj aa) (ae.aj aF))
 case eqv neg t x y=>
  split at h<;>try cases h
  split at h<;>try cases h
  rename_i aa _ _ aF;exact up (ado h (ae.aj aa) (ae.aj aF))
 case un op x=>
  split at h<;>try cases h
  rename_i aa;exact up (adP h (ae.aj aa))
 case tn k x=>
  split at h<;>try (cases h;done)
  rename_i k' n aa;have aa:fr.aj x= .int k' n:=ae.aj aa;exact⟨_,adm h H ids,fun st=>aop aa⟩
 case xc x=>
  split at h<;>try cases h
  rename_i l aa;have aa:fr.aj x= .string ⟨⟨l⟩⟩:=ae.aj aa;refine⟨_,rfl,fun st=> ?_⟩;show hE (fr.aj x) _ _=_;rw[aa];rfl
 case uk f bG cs=>
  split at h<;>try cases h
  split at h<;>try cases h
  rename_i J _ _ U;exact⟨_,⟨_,_,rfl,ae.eA J,ae.eA U⟩,fun st=>rfl⟩
 case xt x i=>
  split at h<;>try cases h
  rename_i vs aa;obtain⟨ws,aa,aq⟩:=ae.aj aa;obtain⟨v,aI,aq⟩:=vm aq h;refine⟨v,aq,fun st=> ?_⟩;show qD (fr.aj x) (fun vs=>iw vs.toList i 1 (fun l=>one l (fun v=>aX.ok v fr st) .no) .no) .no=_;rw[aa,atf];obtain⟨a4,Ho⟩:=zah.1 aI;show iw ws i 1 _ _=_;rw[zC (by omega),hk a4,Ho];rfl
 case ot x=>
  split at h<;>try cases h
  ·rename_i aa;have aa:fr.aj x= .slice none 0 0:=ae.aj aa;exact⟨_,rfl,fun st=>we aa⟩
  ·rename_i aa;obtain⟨b,_,aa⟩:=ae.aj aa;exact⟨_,rfl,fun st=>we aa⟩
  ·rename_i aa;rcases ae.aj aa with⟨hl,aa⟩|⟨b,o,c,vs,el,bd,a3,aa,_⟩
   ·rw[hl];exact⟨_,rfl,fun st=>we aa⟩
   ·exact⟨_,rfl,fun st=>we aa⟩
  ·rename_i aa;rcases ae.aj aa with⟨hl,aa⟩|⟨_,b,o,c,vs,el,bd,a3,aa,_⟩
   ·rw[hl];exact⟨_,rfl,fun st=>we aa⟩
   ·exact⟨_,rfl,fun st=>we aa⟩
  ·rename_i aa;rcases ae.aj aa with⟨hl,aa⟩|⟨hl,aa⟩|⟨b,o,c,vs,el,bd,a3,aa,_⟩
   ·rw[hl];exact⟨_,rfl,fun st=>aor aa⟩
   ·rw[hl];exact⟨_,rfl,fun st=>we aa⟩
   ·exact⟨_,rfl,fun st=>we aa⟩
 case ug x=>
  split at h<;>try cases h
  rename_i l aa;have aa:fr.aj x= .string ⟨⟨l⟩⟩:=ae.aj aa;exact⟨_,rfl,fun st=>by rw[aoN,aa,BG]⟩
 case x9 n=>cases h;exact⟨_,rfl,fun st=>rfl⟩
 case xu off x=>
  have e:∀{b o:Nat},fr.aj x= .pointer (some ⟨b,o,none⟩)->∀st,bR call (.xu off x) fr st= .ok (.pointer (some ⟨b,o+off,none⟩)) fr st:=fun aa st=>by
   show il (fr.aj x) (fun p=>bm p (fun a=>aX.ok (.pointer (some (a.add off))) fr st) .no) .no=_;rw[aa,qC];show aX.ok (.pointer (some (Addr.add _ off))) fr st=_;rw[pI]
  split at h<;>try cases h
  ·rename_i aa;obtain⟨b,hb,aa⟩:=ae.aj aa;exact⟨_,⟨b,hb,rfl⟩,e aa⟩
  ·rename_i k z j o aa;obtain⟨b,hb,aa⟩:=ae.aj aa;exact⟨_,⟨b,hb,by rw[zbS]⟩,e aa⟩
  ·rename_i cs aa;obtain⟨b,o,vs,el,bd,a3,aa,hb,aq⟩:=ae.aj aa;refine⟨_,⟨b,o+off,vs,el,bd,a3,rfl,hb,?_⟩,e aa⟩;have:=oY off aq;rw[zen,zbC]at this;rw[zaH];exact this
 case o3 off a9 hy x=>
  split at h<;>try cases h
  rename_i cs aa;obtain⟨ws,aa,aq⟩:=ae.aj aa;obtain⟨J,U⟩:=Cm h;have aq:=vn a9 (oY off aq);have hl:=hW aq;have e:∀st,bR call (.o3 off a9 hy x) fr st=bm (cond hy (some (.agg ⟨(ws.drop off).take a9⟩)) (one ((ws.drop off).take a9) (fun v=>some v) none)) (fun v=>.ok v fr st) .no:=fun st=>by
   show rR (fr.aj x) (fun cs=>bm (uy off a9 hy cs.toList) (fun v=>aX.ok v fr st) .no) .no=_;rw[aa,ate];show bm (uy off a9 hy ws) _ _=_;unfold uy;rw[r1 (by rw[zay,zay,zaB J]at hl;omega)]
  rcases Zq U with⟨rfl,rfl⟩|⟨rfl,af⟩
  ·exact⟨_,⟨_,rfl,aq⟩,fun st=>by rw[e];rfl⟩
  ·rw[af]at aq;obtain⟨v,us,aI,aq,hn⟩:=aq;cases hn;rw[aI]at e;exact⟨v,aq,fun st=>by rw[e];rfl⟩
 case sC x=>
  have e:∀{a:Addr},fr.aj x= .pointer (some a)->∀st,bR call (.sC x) fr st= .ok (.pointer (some a)) fr st:=fun aa st=>by
   show il (fr.aj x) (fun p=>bm p (fun a=>aX.ok (.pointer (some a)) fr st) .no) _=_;rw[aa];rfl
  split at h<;>try cases h
  ·rename_i aa;obtain⟨b,hb,aa⟩:=ae.aj aa;exact⟨_,⟨b,hb,rfl⟩,e aa⟩
  ·rename_i aa;obtain⟨b,hb,aa⟩:=ae.aj aa;exact⟨_,⟨b,hb,rfl⟩,e aa⟩
  ·rename_i aa;obtain⟨b,o,vs,el,bd,a3,aa,aq⟩:=ae.aj aa;exact⟨_,⟨b,o,vs,el,bd,a3,rfl,aq⟩,e aa⟩
  ·rename_i g a b aa;have aa:fr.aj x= .func (.func g) a b:=ae.aj aa;refine⟨_,rfl,fun st=> ?_⟩;have:bR call (.sC x) fr st=il (fr.aj x) (fun p=>bm p (fun a=>aX.ok (.pointer (some a)) fr st) .no) (yX (fr.aj x) (fun f a b=>match f with|.func g=>.ok (.func (.func g) a b) fr st|_=>.no) .no):=rfl;rw[this,aa];rfl
 case pick c x y=>
  split at h
  ·rename_i hc;exact⟨_,ae.aj h,fun st=>aou (ae.aj hc) rfl rfl⟩
  ·rename_i hc;exact⟨_,ae.aj h,fun st=>aot (ae.aj hc) rfl rfl⟩
  ·cases h
 case eR x xs=>
  split at h<;>try cases h
  rename_i k n aa;have aa:fr.aj x= .int k n:=ae.aj aa;obtain⟨m,rfl,hm⟩:=Qs ae h;refine⟨_,rfl,fun st=> ?_⟩;show gj (fr.aj x) (fun k n=>bm (DS k fr xs n) (fun m=>hP k m fun v=>aX.ok v fr st) .no) .no=_;rw[aa,nf,hm,Sym.eJ,h3]
 case yk x xs=>
  split at h<;>try cases h
  rename_i k n aa;have aa:fr.aj x= .int k n:=ae.aj aa;obtain⟨m,rfl,hm⟩:=Qt ae h;refine⟨_,rfl,fun st=> ?_⟩;show gj (fr.aj x) (fun k n=>bm (DT k fr xs n) (fun m=>hP k m fun v=>aX.ok v fr st) .no) .no=_;rw[aa,nf,hm,Sym.eJ,h3]
 all_goals cases h
end
inductive bp:Type 1
 |c (el:TypeId) (cs:List ah)
 |a (el:TypeId) (a3:Bool) (z:Nat) (α:Type) (R:α->List ah) (l:List α)
 |x
def bp.live:bp->Bool
 |.x=>false
 |_=>true
def mR(H:bJ)(ids:ac Nat):bp->am bH->Prop
 |.c el cs,ej=>∃vs,ej=some (.cells vs el (0,0) false)∧dj H cs ids vs
 |.a el a3 z _ R l,ej=>∃vs,ej=some (.cells vs el (0,0) a3)∧vs.length=l.length*z∧∀i x,l[i]? =some x->dj H (R x) ids ((vs.drop (i*z)).take z)
 |.x,_=>True
def xk{H bF:bJ}{i j:ac Nat}(h:dp H bF)(hi:di i j):∀{o:bp} {ej:am bH},mR H i o ej->mR bF j o ej
 |.c _ _,_,⟨vs,e,d⟩=>⟨vs,e,l9 h _ hi d⟩
 |.a _ _ _ _ _ _,_,⟨vs,e,cy,d⟩=>⟨vs,e,cy,fun k x aa=>l9 h _ hi (d k x aa)⟩
 |.x,_,_=>trivial
structure cW where
 own:ac bp
 n:Nat
 env:bX
structure Fit(H:bJ)(ids:ac Nat)(st:ay)(own:ac bp)(n:Nat):Prop where
 wf:∀i,st.al<=i->st.h.get i=none
 le:∀b o,H b=some o->st.h.get b=some o
 cI:own.length=n
 len:ids.length=n
 de:ids.Nodup
 lt:∀b∈ids,b<st.al
 own:∀(k:Nat) (o:bp) (b:Nat),own[k]? =some o->ids[k]? =some b->mR H ids o (st.h.get b)∧(o.live=true->H b=none)
structure eh(cA:bJ)(i0:ac Nat)(aH:ay)(H:bJ)(ids:ac Nat)(st:ay):Prop where
 hle:dp cA H
 hold:∀b,b<aH.al->b∉i0->H b=cA b
 h5:∀b,b<aH.al->b∉i0->st.h.get b=aH.h.get b
 al:aH.al<=st.al
 mn:di i0 ids
 new:∀b∈ids,b∈i0∨aH.al<=b
variable{H:bJ}{ids:ac Nat}{st:ay}{n:Nat}{o:bp}{ej:bH}{cA:bJ}{i0:ac Nat}{aH:ay}
def Fit.a4{own:ac bp}(h:Fit H ids st own n){b:Nat}{o:bH}(hb:H b=some o):b<st.al:=by
 rcases zao b st.al with aB|aB
 ·exact aB
 ·have:=h.le b o hb;rw[h.wf b aB]at this;cases this
def Fit.si{own:ac bp}(h:Fit H ids st own n){b:Nat}(hb:st.al<=b):H b=none:=by
 cases e:H b with
 |none=>rfl
 |some o=>have:=h.a4 e;omega
def Fit.add{own:ac bp}(h:Fit H ids st own n)(d:mR H (ids++[st.al]) o (some ej)):
 Fit H (ids++[st.al]) ⟨st.h.set st.al ej,st.al+1⟩ (own++[o]) (n+1):=by
 have vI:st.al∉ids:=fun hm=>by have:=h.lt _ hm;omega
 refine⟨?_,?_,by simp[h.cI],by simp[h.len],?_,?_,?_⟩
 ·intro i hi;show(st.h.set st.al ej).get i=none;have hi:st.al+1<=i:=hi;rw[ar.hY _ _ (by omega)];exact h.wf i (by omega)
 ·intro b br hb;show(st.h.set st.al ej).get b=_;have:=h.a4 hb;rw[ar.hY _ _ (by omega)];exact h.le b br hb
 ·rw[List.nodup_append];refine⟨h.de,by simp,?_⟩;intro a aY b hb;simp at hb;subst hb;exact fun e=>vI (e▸aY)
 ·intro b hb;simp at hb;show b<st.al+1;rcases hb with hb|hb
  ·have:=h.lt b hb;omega
  ·omega
 ·intro k br b ab hb;show mR _ _ _ ((st.h.set st.al ej).get b)∧_;by_cases p7:k<own.length
  ·rw[zbc p7]at ab;rw[zbc (by rw[h.len,<-h.cI];exact p7)]at hb;obtain⟨J,U⟩:=h.own k br b ab hb;have:b≠st.al:=fun e=>vI (e▸zaA hb);rw[ar.hY _ _ this];exact⟨xk (dp.refl _) (di.app _ _) J,U⟩
  ·have fh:=(zah.1 ab).1;simp at fh;have p7:k=own.length:=by omega
   subst p7;rw[zaQ (b5 _)]at ab;have hl:own.length=ids.length:=by rw[h.len,h.cI]
   rw[hl,zaQ (b5 _)]at hb;simp at ab hb;subst ab hb;rw[ar.q0];exact⟨d,fun _=>h.si (b5 _)⟩
def eh.add(h:eh cA i0 aH H ids st)(ej:bH):eh cA i0 aH H (ids++[st.al]) ⟨st.h.set st.al ej,st.al+1⟩:=by
 refine⟨h.hle,h.hold,?_,by have:=h.al;show aH.al<=st.al+1;omega,fun k b e=>di.app _ _ k b (h.mn k b e),?_⟩
 ·intro b hb hn;show(st.h.set st.al ej).get b=_;have:=h.al;rw[ar.hY _ _ (by omega)];exact h.h5 b hb hn
 ·intro b hb;simp at hb;rcases hb with hb|hb
  ·exact h.new b hb
  ·right;rw[hb];exact h.al
def Fit.gL{own:ac bp}(h:Fit H ids st own n){k b:Nat}{br:bp}(ab:own[k]? =some o)(hl:o.live=true)(hb:ids[k]? =some b)(d:mR H ids br (some ej)):
 Fit H ids ⟨st.h.set b ej,st.al⟩ (own.set k br) n:=by
 have a4:b<st.al:=h.lt b (zaA hb);have eB:H b=none:=(h.own k o b ab hb).2 hl;refine⟨?_,?_,by simp[h.cI],h.len,h.de,h.lt,?_⟩
 ·intro i hi;show(st.h.set b ej).get i=none;have hi:st.al<=i:=hi;rw[ar.hY _ _ (by omega)];exact h.wf i hi
 ·intro c q hc;show(st.h.set b ej).get c=_;rw[ar.hY _ _ (fun e=>by rw[e,eB]at hc;cases hc)];exact h.le c q hc
 ·intro j q c hj hc;show mR _ _ _ ((st.h.set b ej).get c)∧_;rw[zbu]at hj;by_cases mi:k=j
  ·subst mi;rw[hb]at hc;cases hc;rw[zab rfl]at hj;split at hj<;>cases hj;rw[ar.q0];exact⟨d,fun _=>eB⟩
  ·rw[zaa mi]at hj;have:c≠b:=fun e=>by
    subst e;have J:=(zah.1 hb);have U:=(zah.1 hc);exact mi ((zcF (h₀:=J.1) (h₁:=U.1) h.de).1 (J.2.trans U.2.symm))
   rw[ar.hY _ _ this];exact h.own j q c hj hc
def eh.gL(h:eh cA i0 aH H ids st){b:Nat}(hb:b∈ids)(ej:bH):eh cA i0 aH H ids ⟨st.h.set b ej,st.al⟩:=by
 refine⟨h.hle,h.hold,?_,h.al,h.mn,h.new⟩;intro c hc hn;show(st.h.set b ej).get c=_;rw[ar.hY _ _ (fun e=>by
  subst e;rcases h.new _ hb with J|J
  ·exact hn J
  ·omega)]
 exact h.h5 c hc hn
section
def vd(own:ac bp)(e:bX):dg->am ah
 |.lP x=>match bw e x with
  |some (.p k o)=>match own[k]? with
   |some (.c _ cs)=>cs[o]?
   |_=>none
  |some (.gW k z j o)=>match own[k]? with
   |some (.c _ cs)=>cs[j*z+o]?
   |_=>none
  |some (.ip cs)=>cs[0]?
  |_=>none
 |.qj n x=>match bw e x with
  |some (.p k o)=>match own[k]? with
   |some (.c _ cs)=>xg cs o n fun l=>some (.agg l)
   |_=>none
  |some (.gW k z j o)=>match own[k]? with
   |some (.c _ cs)=>xg cs (j*z+o) n fun l=>some (.agg l)
   |_=>none
  |some (.ip cs)=>xg cs 0 n fun l=>some (.agg l)
  |_=>none
 |_=>none
def qh(e:bX):dg->am Nat
 |.lP x|.qj _ x=>match bw e x with
  |some (.p k _)|some (.gW k _ _ _)=>some k
  |_=>none
 |_=>none
end
section
variable{call:bO}{fr:aR}{x y i:bi}
variable{vs:ac be}{el:ce}{bd:Nat×Nat}{a3:Bool}{e:bX}{r:ah}
def Ar{b o:Nat}(h:fr.aj x= .pointer (some ⟨b,o,none⟩))(ao:st.h.get b=some (.cells vs el bd a3))(aI:vs[o]? =some v):bR call (.lP x) fr st= .ok v fr st:=aos h rfl ao aI
def Nh{b o:Nat}(h:fr.aj x= .pointer (some ⟨b,o,none⟩))(ao:st.h.get b=some (.cells vs el bd a3))(hl:n<=(vs.drop o).length):bR call (.qj n x) fr st= .ok (.agg ⟨(vs.drop o).take n⟩) fr st:=by
 rw[aoP,h];show st.load ⟨b,o,none⟩ n _ _=_;unfold ay.load ay.gE;rw[Sym.hR,ao,kI,r1 hl]
def asO{o:Nat}{v:α}(h:((l.drop o).take n)[0]? =some v):l[o]? =some v:=by
 have:=(zah.1 h).1;rw[zaK]at h;split at h
 ·simpa using h
 ·cases h
def Kz{own:ac bp}(ae:c9 fr H ids e)(q7:own.length<=ids.length)(az:∀(k:Nat) (o:bp) (b:Nat),own[k]? =some o->o.live=true->ids[k]? =some b->mR H ids o (st.h.get b)){o:dg}(h:vd own e o=some r):
 ∃v,den H r ids v∧∀dB:ay,((∀b o,H b=some o->dB.h.get b=some o)∨∃k,qh e o=some k)->(∀k b,qh e o=some k->ids[k]? =some b->dB.h.get b=st.h.get b)->bR call o fr dB= .ok v fr dB:=by
 have obj:∀{k:Nat} {el:ce} {cs:ac ah},own[k]? =some (.c el cs)->∃b vs,ids[k]? =some b∧st.h.get b=some (.cells vs el (0,0) false)∧dj H cs ids vs:=fun{k el cs} ab=>by
  have a4:=(zah.1 ab).1;have hi:k<ids.length:=by omega
  obtain⟨vs,J,U⟩:=az k _ _ ab rfl (bV hi);exact⟨_,vs,bV hi,J,U⟩
 cases o<;>simp only[vd]at h
 case lP x=>
  split at h<;>try cases h
  ·rename_i k o aa;split at h<;>try cases h
   rename_i el cs ab;obtain⟨b,vs,hb,e0,aq⟩:=obj ab;obtain⟨v,aI,aq⟩:=vm aq h;obtain⟨fU,J,U⟩:=ae.aj aa;rw[hb]at J;cases J;exact⟨v,aq,fun dB _ af=>Ar U ((af k b (by simp[qh,aa]) hb).trans e0) aI⟩
  ·rename_i k z j o aa;split at h<;>try cases h
   rename_i el cs ab;obtain⟨b,vs,hb,e0,aq⟩:=obj ab;obtain⟨v,aI,aq⟩:=vm aq h;obtain⟨fU,J,U⟩:=ae.aj aa;rw[hb]at J;cases J;exact⟨v,aq,fun dB _ af=>Ar U ((af k b (by simp[qh,aa]) hb).trans e0) aI⟩
  ·rename_i cs aa;obtain⟨b,o,vs,el,bd,a3,J,U,aq⟩:=ae.aj aa;obtain⟨v,aI,aq⟩:=vm aq h;refine⟨v,vl (dp.refl _) _ (di.nil _) aq,fun dB af _=> ?_⟩;rcases af with af|⟨k,af⟩
   ·exact Ar J (af _ _ U) (asO aI)
   ·simp[qh,aa]at af
 case qj m x=>
  split at h<;>try cases h
  ·rename_i k o aa;split at h<;>try cases h
   rename_i el cs ab;obtain⟨b,vs,hb,e0,aq⟩:=obj ab;obtain⟨sd,mg⟩:=Cm h;cases mg;obtain⟨fU,J,U⟩:=ae.aj aa;rw[hb]at J;cases J;have hl:=hW (oY o aq);exact⟨_,⟨_,rfl,vn m (oY o aq)⟩,fun dB _ af=>Nh U ((af k b (by simp[qh,aa]) hb).trans e0) (by omega)⟩
  ·rename_i k z j o aa;split at h<;>try cases h
   rename_i el cs ab;obtain⟨b,vs,hb,e0,aq⟩:=obj ab;obtain⟨sd,mg⟩:=Cm h;cases mg;obtain⟨fU,J,U⟩:=ae.aj aa;rw[hb]at J;cases J;have hl:=hW (oY (j*z+o) aq);exact⟨_,⟨_,rfl,vn m (oY (j*z+o) aq)⟩,fun dB _ af=>Nh U ((af k b (by simp[qh,aa]) hb).trans e0) (by omega)⟩
  ·rename_i cs aa;obtain⟨b,o,vs,el,bd,a3,J,U,aq⟩:=ae.aj aa;obtain⟨sd,mg⟩:=Cm h;cases mg;have hl:=hW aq;rw[zap]at sd;have g6:=vn m aq;rw[zdH,zaB sd]at g6;refine⟨.agg ⟨(vs.drop o).take m⟩,⟨_,rfl,?_⟩,fun dB af _=> ?_⟩
   ·rw[zap];exact l9 (dp.refl _) _ (di.nil _) g6
   rcases af with af|⟨k,af⟩
   ·exact Nh J (af _ _ U) (by rw[zay]at hl;omega)
   ·simp[qh,aa]at af
 all_goals cases h
def anr{own:ac bp}{o:dg}{k:Nat}(h:vd own e o=some r)(ab:qh e o=some k):∃br,own[k]? =some br∧br.live=true:=by
 cases o<;>simp only[qh]at ab
 case lP x=>
  simp only[vd]at h;split at ab<;>cases ab
  ·rename_i aa;rw[aa]at h;simp only at h;split at h<;>try cases h
   exact⟨_,by assumption,rfl⟩
  ·rename_i aa;rw[aa]at h;simp only at h;split at h<;>try cases h
   exact⟨_,by assumption,rfl⟩
 case qj n x=>
  simp only[vd]at h;split at ab<;>cases ab
  ·rename_i aa;rw[aa]at h;simp only at h;split at h<;>try cases h
   exact⟨_,by assumption,rfl⟩
  ·rename_i aa;rw[aa]at h;simp only at h;split at h<;>try cases h
   exact⟨_,by assumption,rfl⟩
 all_goals cases ab
end
section
variable{β:Type _}
def NR(v:be)(K:ah->am β):am β:=
 match v with
 |.int k n=>K (.i k n)
 |.bool t=>K (.b t)
 |.string ⟨⟨l⟩⟩=>K (.s l)
 |.slice none 0 0=>K .nl
 |x=>K (.v x)
def AR:ac be->(ac ah->am β)->am β
 |[],K=>K []
 |v::vs,K=>NR v fun a=>AR vs fun r=>K (a::r)
def vg:ah->am (ac ah)
 |.agg cs=>some cs
 |a=>match tl a with
  |true=>some [a]
  |false=>none
def yC:ac ah->Nat->ac ah->(ac ah->am β)->am β
 |cs,0,[],K=>K cs
 |_::cs,0,d::ds,K=>yC cs 0 ds fun r=>K (d::r)
 |c::cs,n+1,ds,K=>yC cs n ds fun r=>K (c::r)
 |[],_,_,_=>none
def zQ(e:bX):ac (Nat×Nat×bi)->ac ah->(ac ah->am β)->am β
 |[],cs,K=>K cs
 |(o,a9,x)::ps,cs,K=>match bw e x with
  |some a=>match vg a with
   |some ds=>match DM ds a9 with
    |true=>yC cs o ds fun cs'=>zQ e ps cs' K
    |false=>none
   |none=>none
  |none=>none
def rN:ac bp->bp->(ac bp->am β)->am β
 |[],o,K=>K [o]
 |a::as,o,K=>rN as o fun r=>K (a::r)
def kB:ac bp->Nat->bp->(ac bp->am β)->am β
 |[],_,_,_=>none
 |_::as,0,o,K=>K (o::as)
 |a::as,n+1,o,K=>kB as n o fun r=>K (a::r)
def aoo:ac Nat:=[1,2,3,4,5,6,7,8,9,10,11,12,13,14,15,16,17,18,19,20,21,22,23,24,25,26,27,28,29,30,31,32]
def YI:ac Nat->Nat->am Nat
 |[],_=>none
 |a::_,0=>some a
 |_::as,n+1=>YI as n
def ov(n:Nat)(K:Nat->am β):am β:=
 match YI aoo n with
 |some m=>match Nat.beq m (n+1)with
  |true=>K m
  |false=>K (n+1)
 |none=>K (n+1)
def ao5:ac (Nat×Nat×bi)->Nat
 |(_,a9,_)::_=>a9
 |[]=>1
def JH(own:ac bp)(aP:Nat)(e:bX)(k o n:Nat)(x:bi)(K:ah->ac bp->Nat->am β):am β:=
 match own[k]? with
 |some (.c el cs)=>match bw e x with
  |some a=>match vg a with
   |some ds=>match DM ds n with
    |true=>match rZ ds with
     |true=>yC cs o ds fun cs'=>kB own k (.c el cs') fun bP=>K (.bu []) bP aP
     |false=>none
    |false=>none
   |none=>none
  |none=>none
 |_=>none
def Fw(own:ac bp)(aP:Nat)(e:bX)(K:ah->ac bp->Nat->am β):dg->am β
 |.alloc z el=>AR z fun cs=>rN own (.c el cs) fun bP=>ov aP fun cc=>K (.p aP 0) bP cc
 |.box el x=>match bw e x with
  |some a=>match vg a with
   |some ds=>rN own (.c el ds) fun bP=>ov aP fun cc=>K (.p aP 0) bP cc
   |none=>none
  |none=>none
 |.oS el len z ps=>AR z fun cs=>zQ e ps cs fun cs'=>rN own (.c el cs') fun bP=>ov aP fun cc=>K (.bj aP (ao5 ps) 0 len len) bP cc
 |.build z ps=>AR z fun cs=>zQ e ps cs fun cs'=>K (.agg cs') own aP
 |.store n a x=>match bw e a with
  |some (.p k o)=>JH own aP e k o n x K
  |some (.gW k z j o)=>JH own aP e k (j*z+o) n x K
  |_=>none
 |_=>none
def B3(e:bX):dg->am ah
 |.build z ps=>AR z fun cs=>zQ e ps cs fun cs'=>some (.agg cs')
 |o=>KB e o
def ky(e:bX):dg->am Nat
 |.store _ a _=>match bw e a with
  |some (.p k _)|some (.gW k _ _ _)=>some k
  |_=>none
 |.app _ _ _ x _|.qR _ x _=>match bw e x with
  |some (.bj k _ _ _ _)=>some k
  |_=>none
 |.s0 _ x _=>match bw e x with
  |some (.p k _)=>some k
  |_=>none
 |_=>none
end
section
variable{β:Type _}{r:β}
variable{ds:ac ah}
def aox{K:ah->am β}(h:NR v K=some r):K (D6 v)=some r:=by
 unfold NR at h;unfold D6;split at h<;>first|exact h|(split<;>first|exact h|(exfalso;simp_all))
theorem D7:∀{vs:ac be} {K:ac ah->am β},AR vs K=some r->K (AQ vs)=some r
 |[],_,h=>h
 |_::vs,_,h=>D7 (vs:=vs) (aox h)
def FJ(h:vg a=some ds)(d:den H a ids v):ub v=false∧dj H ds ids (iu v):=by
 unfold vg at h;split at h
 ·cases h;obtain⟨vs,rfl,d⟩:=d;exact⟨rfl,d⟩
 ·split at h<;>cases h;rename_i hc;have:=Ri hc d;refine⟨?_,?_⟩
  ·cases v<;>first|rfl|(cases this;done)|(rename_i r;cases r<;>first|rfl|cases this)
  ·rw[ael this];exact⟨v,[],rfl,d,rfl⟩
theorem ID:∀{cs:ac ah} {n:Nat} {ds:ac ah} {K:ac ah->am β},yC cs n ds K=some r->n+ds.length<=cs.length∧K (cs.take n++(ds++cs.drop (n+ds.length)))=some r
 |cs,0,[],K,h=>by
  have h:K cs=some r:=by cases cs<;>exact h
  exact⟨by simp,by simpa using h⟩
 |[],0,d::ds,K,h=>by cases h
 |c::cs,0,d::ds,K,h=>by
  have h:yC cs 0 ds (fun r=>K (d::r))=some r:=h;obtain⟨J,U⟩:=ID h;refine⟨by simp at J ⊢;omega,?_⟩;simp at U;simpa using U
 |[],n+1,ds,K,h=>by cases ds<;>cases h
 |c::cs,n+1,ds,K,h=>by
  have h:yC cs n ds (fun r=>K (c::r))=some r:=by cases ds<;>exact h
  obtain⟨J,U⟩:=ID h;refine⟨by simp;omega,?_⟩;rw[show n+1+ds.length=(n+ds.length)+1 by omega];simpa using U
def Lg{cs:ac ah}{vs ws:ac be}(n:Nat)(d:dj H cs ids vs)(j4:dj H ds ids ws):
 dj H (cs.take n++(ds++cs.drop (n+ds.length))) ids (vs.take n++(ws++vs.drop (n+ws.length))):=by
 rw[hW j4];exact zF (vn n d) (zF j4 (oY _ d))
theorem sW:∀{own:ac bp} {o:bp} {K:ac bp->am β},rN own o K=some r->K (own++[o])=some r
 |[],_,_,h=>h
 |_::as,_,_,h=>sW (own:=as) h
theorem l2:∀{own:ac bp} {k:Nat} {o:bp} {K:ac bp->am β},kB own k o K=some r->K (own.set k o)=some r
 |[],_,_,_,h=>by cases h
 |_::_,0,_,_,h=>h
 |_::as,k+1,_,_,h=>l2 (own:=as) (k:=k) h
def qo{K:Nat->am β}(h:ov n K=some r):K (n+1)=some r:=by
 unfold ov at h;split at h
 ·split at h
  ·rename_i hb;rw[<-eL hb];exact h
  ·exact h
 ·exact h
def CH(e:bX):ac (Nat×Nat×bi)->ac ah->am (ac ah)
 |[],cs=>some cs
 |(o,a9,x)::ps,cs=>match bw e x with
  |some a=>match vg a with
   |some ds=>if ds.length=a9∧o+ds.length<=cs.length then CH e ps (cs.take o++(ds++cs.drop (o+ds.length)))else none
   |none=>none
  |none=>none
theorem Gj{e:bX}:∀{ps:ac (Nat×Nat×bi)} {cs:ac ah} {K:ac ah->am β},zQ e ps cs K=some r->∃cs',CH e ps cs=some cs'∧K cs'=some r
 |[],cs,K,h=>⟨cs,rfl,h⟩
 |(o,a9,x)::ps,cs,K,h=>by
  unfold zQ at h;unfold CH;split at h<;>try cases h
  split at h<;>try cases h
  split at h<;>try cases h
  rename_i hl;obtain⟨J,U⟩:=ID h;rw[zab ⟨HM hl,J⟩];exact Gj U
theorem Gk{fr:aR}{H:bJ}{ids:ac Nat}{e:bX}(ae:c9 fr H ids e):∀{ps:ac (Nat×Nat×bi)} {cs cs':ac ah} {vs:ac be},CH e ps cs=some cs'->dj H cs ids vs->
 ∃fS,dj H cs' ids fS∧∀c,ob fr ps vs c=c fS
 |[],cs,_,vs,h,d=>by cases h;exact⟨vs,d,fun _=>rfl⟩
 |(o,a9,x)::ps,cs,cs',vs,h,d=>by
  unfold CH at h;split at h<;>try cases h
  rename_i a aa;split at h<;>try cases h
  rename_i ds ga;split at h<;>try cases h
  rename_i hl;obtain⟨hl,J⟩:=hl;obtain⟨hp,d2⟩:=FJ ga (ae.aj aa);have p8:=hW d2;have Mj:=hW d;obtain⟨fS,aN,bf⟩:=Gk ae h (Lg o d d2);refine⟨fS,aN,fun c=> ?_⟩;have hu:ob fr ((o,a9,x)::ps) vs c=cond (ub (fr.aj x)) .no (dV (dk (iu (fr.aj x))) a9 (ed (o+a9) (dk vs) (qv vs o (iu (fr.aj x)) (fun cs'=>ob fr ps cs' c) .no) .no) .no):=rfl;rw[hu,hp,cond_false,fo,fo,jC (by omega),gv (by omega),rB,zab (by omega),bf]
end
def KC{call:bO}{fr:aR}{e:bX}(ae:c9 fr H ids e){o:dg}{r:ah}(h:B3 e o=some r):∃v,den H r ids v∧∀st,bR call o fr st= .ok v fr st:=by
 unfold B3 at h;split at h
 ·rename_i z ps;obtain⟨cs',aM,aN⟩:=Gj (D7 h);cases aN;obtain⟨fS,d,bf⟩:=Gk ae aM (xl H ids z);refine⟨.agg ⟨fS⟩,⟨_,rfl,d⟩,fun st=> ?_⟩;have:bR call (.build z ps) fr st=ob fr ps z fun cs=>.ok (.agg ⟨cs⟩) fr st:=rfl;rw[this,bf]
 ·exact adC ae h
def fA(call:bO)(o:dg)(s:cW)(a:ah)(bP:ac bp)(cc:Nat):Prop:=
 ∀(H:bJ) (ids:ac Nat) (st:ay) (fr:aR),Fit H ids st s.own s.n->c9 fr H ids s.env->
  ∃v st' dd bF,bR call o fr st= .ok v fr st'∧Fit bF dd st' bP cc∧den bF a dd v∧dp H bF∧di ids dd∧(∀cA i0 aH,eh cA i0 aH H ids st->eh cA i0 aH bF dd st')∧
   st.al<=st'.al∧∀b,b<st.al->(∀k,ky s.env o=some k->ids[k]? ≠some b)->st'.h.get b=st.h.get b
def zf(cA:bJ)(call:bO)(o:dg)(s:cW)(a:ah)(bP:ac bp)(cc:Nat):Prop:=
 ∀(H:bJ) (ids:ac Nat) (st:ay) (fr:aR),dp cA H->Fit H ids st s.own s.n->c9 fr H ids s.env->
  ∃v st' dd bF,bR call o fr st= .ok v fr st'∧Fit bF dd st' bP cc∧den bF a dd v∧dp H bF∧di ids dd∧(∀cA i0 aH,eh cA i0 aH H ids st->eh cA i0 aH bF dd st')∧
   st.al<=st'.al∧∀b,b<st.al->(∀k,ky s.env o=some k->ids[k]? ≠some b)->st'.h.get b=st.h.get b
def fA.g{call:bO}{o:dg}{s:cW}{bP:ac bp}{cc:Nat}(h:fA call o s a bP cc):zf cA call o s a bP cc:=fun H ids st fr _ az ae=>h H ids st fr az ae
def BP(call:bO)(o:dg)(s:cW)(a:ah)(bP:ac bp)(cc:Nat):Prop:=
 ∀(H:bJ) (ids:ac Nat) (st:ay) (fr:aR),Fit H ids st s.own s.n->c9 fr H ids s.env->
  ∃v st' dd,bR call o fr st= .ok v fr st'∧Fit H dd st' bP cc∧den H a dd v∧di ids dd∧(∀cA i0 aH,eh cA i0 aH H ids st->eh cA i0 aH H dd st')∧
   st.al<=st'.al∧∀b,b<st.al->(∀k,ky s.env o=some k->ids[k]? ≠some b)->st'.h.get b=st.h.get b
def BP.to{call:bO}{o:dg}{s:cW}{bP:ac bp}{cc:Nat}(h:BP call o s a bP cc):fA call o s a bP cc:=fun H ids st fr az ae=>
 let⟨v,st',dd,J,U,af,ax,a0,ck,dx⟩:=h H ids st fr az ae
 ⟨v,st',dd,H,J,U,af,dp.refl _,ax,a0,ck,dx⟩
section
variable{call:bO}{β:Type _}{r:β}
variable{s:cW}{K:ah->ac bp->Nat->am β}
def NI{own:ac bp}(az:Fit H ids st own n){el:ce}{cs:ac ah}{vs:ac be}(d:dj H cs ids vs):
 Fit H (ids++[st.al]) ⟨st.h.set st.al (.cells vs el (0,0) false),st.al+1⟩ (own++[.c el cs]) (n+1)∧(ids++[st.al])[n]? =some st.al:=by
 refine⟨az.add ⟨vs,rfl,l9 (dp.refl _) _ (di.app _ _) d⟩,?_⟩;rw[<-az.len,zaQ (b5 _)];simp
def AU{b:Nat}(hb:b<st.al):(ar.set st.h st.al ej).get b=st.h.get b:=ar.hY _ _ (by omega)
def abE{k o m:Nat}{a x:bi}(h:JH s.own s.n s.env k o m x K=some r)(hm:ky s.env (.store m a x)=some k)
 (aY:∀{H:bJ} {ids:ac Nat} {fr:aR},c9 fr H ids s.env->∃b,ids[k]? =some b∧fr.aj a= .pointer (some ⟨b,o,none⟩)):∃a' bP cc,K a' bP cc=some r∧BP call (.store m a x) s a' bP cc:=by
 unfold JH at h;split at h<;>try cases h
 rename_i el cs ab;split at h<;>try cases h
 rename_i c aa;split at h<;>try cases h
 rename_i ds ga;split at h<;>try cases h
 rename_i hl;split at h<;>try cases h
 rename_i hc;obtain⟨J,U⟩:=ID h;have af:=l2 U;refine⟨_,_,_,af,?_⟩;intro H ids st fr az ae;obtain⟨b,hb,aI⟩:=aY ae;obtain⟨⟨vs,e0,d⟩,_⟩:=az.own k _ b ab hb;obtain⟨hp,d2⟩:=FJ ga (ae.aj aa);have hl:=HM hl;have p8:=hW d2;have Mj:=hW d;refine⟨undef,_,ids,?_,az.gL ab rfl hb ⟨_,rfl,Lg o d d2⟩,⟨[],rfl,rfl⟩,di.refl _,fun _ _ _ B=>B.gL (zaA hb) _,b5 _,?_⟩
 ·have:bR call (.store m a x) fr st=il (fr.aj a) (fun p=>bm p (fun a=>dV (dk (iu (fr.aj x))) m (cond (gZ (iu (fr.aj x))) (st.store a (iu (fr.aj x)) (fun st=>aX.ok undef fr st) .no) .no) .no) .no) .no:=rfl;rw[this,aI,qC,Sym.eJ,fo,jC (by omega),Ce hc d2,cond_true];unfold ay.store ay.gE;rw[Sym.hR,e0,kI,gv (b5 _),rB,zab (by show o+_<=_;omega),jT]
 ·intro fU _ cx;show(st.h.set b _).get fU=_;exact ar.hY _ _ (fun e=>cx k hm (e▸hb))
def Qn{o:dg}(h:Fw s.own s.n s.env K o=some r):∃a bP cc,K a bP cc=some r∧BP call o s a bP cc:=by
 cases o<;>simp only[Fw]at h
 case alloc z el=>
  refine⟨_,_,_,qo (sW (D7 h)),?_⟩;intro H ids st fr az ae;obtain⟨J,U⟩:=NI az (el:=el) (xl H ids z);refine⟨_,_,_,?_,J,⟨_,U,rfl⟩,di.app _ _,fun _ _ _ B=>B.add _,zbo _,fun b hb _=>AU hb⟩;have:bR call (.alloc z el) fr st=st.iT (.cells z el (0,0) false) fun id st=>.ok (.pointer (some ⟨id,0,none⟩)) fr st:=rfl;rw[this,gw]
 case box el x=>
  split at h<;>try cases h
  rename_i a aa;split at h<;>try cases h
  rename_i ds ga;refine⟨_,_,_,qo (sW h),?_⟩;intro H ids st fr az ae;obtain⟨hp,d⟩:=FJ ga (ae.aj aa);obtain⟨J,U⟩:=NI az (el:=el) d;refine⟨_,_,_,?_,J,⟨_,U,rfl⟩,di.app _ _,fun _ _ _ B=>B.add _,zbo _,fun b hb _=>AU hb⟩;have:bR call (.box el x) fr st=cond (ub (fr.aj x)) .no (st.iT (.cells (iu (fr.aj x)) el (0,0) false) fun id st=>.ok (.pointer (some ⟨id,0,none⟩)) fr st):=rfl;rw[this,hp,cond_false,gw]
 case oS el len z ps=>
  obtain⟨cs',aM,aN⟩:=Gj (D7 h);refine⟨_,_,_,qo (sW aN),?_⟩;intro H ids st fr az ae;obtain⟨fS,d,bf⟩:=Gk ae aM (xl H ids z);obtain⟨J,U⟩:=NI az (el:=el) d;refine⟨_,_,_,?_,J,⟨_,U,rfl⟩,di.app _ _,fun _ _ _ B=>B.add _,zbo _,fun b hb _=>AU hb⟩;have:bR call (.oS el len z ps) fr st=ob fr ps z fun cs=>st.iT (.cells cs el (0,0) false) fun id st=>.ok (.slice (some ⟨id,0,none⟩) len len) fr st:=rfl;rw[this,bf,gw,zas]
 case build z ps=>
  obtain⟨cs',aM,aN⟩:=Gj (D7 h);refine⟨_,_,_,aN,?_⟩;intro H ids st fr az ae;obtain⟨fS,d,bf⟩:=Gk ae aM (xl H ids z);refine⟨.agg ⟨fS⟩,st,ids,?_,az,⟨_,rfl,d⟩,di.refl _,fun _ _ _ B=>B,b5 _,fun b hb _=>rfl⟩;have:bR call (.build z ps) fr st=ob fr ps z fun cs=>.ok (.agg ⟨cs⟩) fr st:=rfl;rw[this,bf]
 case store m a x=>
  split at h<;>try cases h
  ·rename_i k o aY;exact abE h (by simp[ky,aY]) fun ae=>by obtain⟨b,J,U⟩:=ae.aj aY;exact⟨b,J,U⟩
  ·rename_i k z j o aY;exact abE h (by simp[ky,aY]) fun ae=>by obtain⟨b,J,U⟩:=ae.aj aY;exact⟨b,J,U⟩
 all_goals cases h
end
structure fL where
 call:bO
 cB:Nat
 fn:ci
 cA:bJ
 i0:ac Nat
 aH:ay
 Q:dT->cW->Prop
inductive e4 where
 |seq (c:dq)
 |cG (i:Nat)
 |b7 (Qf:cW->Prop)
 |Cw (ms:List Nat) (n:Nat)
inductive bA where
 |c (c:dq)
 |o (l:List bK)
 |x (e:dT)
 |d (l:List (bK×cE)) (bZ:List bp) (a7:bX) (bn cj:Nat)
variable(aE:fL)
def u5(Q:dT->cW->Prop):dT->aR->ay->Prop:=fun x fr st=>∃H ids s,eh aE.cA aE.i0 aE.aH H ids st∧Fit H ids st s.own s.n∧c9 fr H ids s.env∧Q x s
def Qh(Q:dT->cW->Prop)(c:dq)(s:cW):Prop:=∀H ids st fr,eh aE.cA aE.i0 aE.aH H ids st->Fit H ids st s.own s.n->c9 fr H ids s.env->W (dD aE.call aE.cB aE.fn c fr st) (u5 aE Q)
def adf(Q:dT->cW->Prop)(l:ac bK)(s:cW):Prop:=∀H ids st fr,eh aE.cA aE.i0 aE.aH H ids st->Fit H ids st s.own s.n->c9 fr H ids s.env->W (iL aE.call l fr st) (u5 aE Q)
structure adh(fM H:bJ)(ids:ac Nat)(st:ay)(bZ:ac bp)(a7:bX)(bn cj:Nat)(ai:ac (ar bH))(fr:aR):Prop where
 len:ai.length=bn
 hle:dp fM H
 gm:∀j a,dZ a7 j=some a->den fM a ids (fr.tmp j)
 ry:bZ.length<=ids.length
 yr:cj<=ids.length
 bZ:∀(k:Nat) (o:bp) (b:Nat),bZ[k]? =some o->o.live=true->ids[k]? =some b->mR fM ids o (st.h.get b)∧∀h∈ai,h.get b=st.h.get b
 old:∀h∈ai,∀b o,fM b=some o->h.get b=some o
 top:∀h,ai.head?=some h->(∀b o,H b=some o->h.get b=some o)∧∀k b:Nat,k<cj->ids[k]? =some b->h.get b=st.h.get b
def Ka(K:ac e4)(dw:tb):Prop:=
 match K with
 |.Cw ms n::_=>dw=tp aE.call ms n
 |_=>True
def ade(C:tb->Prop)(Q:dT->cW->Prop)(l:ac (bK×cE))(bZ:ac bp)(a7:bX)(bn cj:Nat)(s:cW):Prop:=∀dw,C dw->∀H ids st fr fM ai,eh aE.cA aE.i0 aE.aH H ids st->Fit H ids st s.own s.n->c9 fr H ids s.env->adh fM H ids st bZ a7 bn cj ai fr->W (hX aE.call dw l ai fr st) (u5 aE Q)
def Sem:ac e4->dT->cW->Prop
 |[]=>aE.Q
 |.seq c::K=>fun x s=>match x with
  |.norm=>Qh aE (Sem K) c s
  |x=>Sem K x s
 |.cG i::K=>fun x s=>match x with
  |.exit j=>if j=i then Sem K .norm s else Sem K (.exit j) s
  |x=>Sem K x s
 |.b7 Qf::K=>fun x s=>match x with
  |.norm=>Qf s
  |x=>Sem K x s
 |.Cw _ _::K=>Sem K
def hx(K:ac e4)(c:bA)(s:cW):Prop:=
 match c with
 |.c c=>Qh aE (Sem aE K) c s
 |.o l=>adf aE (Sem aE K) l s
 |.x e=>Sem aE K e s
 |.d l bZ a7 bn cj=>ade aE (Ka aE K) (Sem aE K) l bZ a7 bn cj s
structure a1 where
 K:ac e4
 c:bA
 s:cW
def a1.ok(g:a1):Prop:=hx aE g.K g.c g.s
def fI(d:am Tmp)(a:ah)(e:bX):bX:=
 match d with
 |none=>e
 |some d=>(d,a)::e
section
def B4(own:ac bp)(n:Nat)(e:bX)(o:dg)(K:ah->ac bp->Nat->am a1):am a1:=
 match B3 e o with
 |some a=>K a own n
 |none=>match vd own e o with
  |some a=>K a own n
  |none=>Fw own n e K o
def vo(d:am Tmp)(e:bX):bX:=
 match d with
 |none=>e
 |some d=>oZ d e
def Lk:ac Nat->bX->bX
 |[],e=>e
 |d::ds,e=>Lk ds (oZ d e)
def Eb{β:Type _}(bZ:ac bp)(m:am Nat)(K:ac bp->am β):am β:=
 match m with
 |none=>K bZ
 |some k=>match bZ[k]? with
  |some _=>kB bZ k .x K
  |none=>K bZ
def QF(bZ:ac bp)(e:bX)(o:dg):am ah:=
 match B3 e o with
 |some a=>some a
 |none=>vd bZ e o
def zJ{β:Type _}(d:Nat):bX->(bX->am β)->am β
 |[],K=>K []
 |p::l,K=>match Nat.beq p.1 d with
  |true=>zJ d l K
  |false=>zJ d l fun r=>K (p::r)
def pU(K:ac e4)(d:am Tmp)(l:ac (bK×cE))(bZ:ac bp)(a7:bX)(bn cj:Nat)(own:ac bp)(n:Nat)(a:ah)(e:bX)(pH:am ah):am a1:=
 match d with
 |none=>some ⟨K,.d l bZ a7 bn cj,⟨own,n,e⟩⟩
 |some d=>match pH with
  |some pH=>some ⟨K,.d l bZ ((d,pH)::a7) bn cj,⟨own,n,(d,a)::e⟩⟩
  |none=>zJ d a7 fun af3=>some ⟨K,.d l bZ af3 bn cj,⟨own,n,(d,a)::e⟩⟩
def Lm(K:ac e4)(d:am Tmp)(o:dg)(c:cE)(l:ac (bK×cE))(bZ:ac bp)(a7:bX)(bn cj:Nat)(own:ac bp)(n:Nat)(e:bX):am a1:=
 match c with
 |.eH=>B4 own n e o fun a bP cc=>Eb bZ (ky e o) fun ij=>ov bn fun K8=>pU K d l ij a7 K8 cc bP cc a e none
 |.hI ts=>Fw own n (eV ts e) (fun a bP cc=>match ky (eV ts e) o with
  |none=>pU K d l bZ a7 bn cj bP cc a e none
  |some _=>none) o
 |.read back ts=>match Nat.ble (back+1) bn with
  |true=>match QF bZ (eV ts a7) o with
   |some pH=>pU K d l bZ a7 bn cj own n pH e (some pH)
   |none=>match B3 (eV ts e) o with
    |some a=>pU K d l bZ a7 bn cj own n a e none
    |none=>match back with
     |0=>match vd own (eV ts e) o with
      |some a=>match qh (eV ts e) o with
       |none=>pU K d l bZ a7 bn cj own n a e none
       |some k=>match Nat.ble (k+1) cj with
        |true=>pU K d l bZ a7 bn cj own n a e none
        |false=>none
      |none=>none
     |_=>none
  |false=>none
def FP(c:cE)(e:bX):bX:=
 match c with
 |.eH=>e
 |.hI ts=>eV ts e
 |.read _ ts=>eV ts e
def Cv(K:ac e4)(d:am Tmp)(c:cE)(l:ac (bK×cE))(bZ:ac bp)(a7:bX)(bn cj:Nat)(own:ac bp)(n:Nat)(e:bX):am a1:=
 match c with
 |.eH=>ov bn fun K8=>pU K d l bZ a7 K8 n own n (.bu []) e none
 |_=>pU K d l bZ a7 bn cj own n (.bu []) e none
def D5(K:ac e4)(l:ac bK)(d:am Tmp)(own:ac bp)(n:Nat)(e:bX):am a1:=
 match d with
 |none=>some ⟨K,.o l,⟨own,n,e⟩⟩
 |some d=>some ⟨K,.o l,⟨own,n,(d,.bu [])::e⟩⟩
def Nl{β:Type _}:ac (bK×cE)->Nat->(Nat->am β)->am β
 |[],n,K=>K n
 |_::l,n,K=>ov n fun n=>Nl l n K
def Ll{β:Type _}:ac Nat->bX->(bX->am β)->am β
 |[],e,K=>K e
 |d::ds,e,K=>zJ d e fun cy=>Ll ds cy K
def By:a1->am a1
 |⟨K,.c .skip,s⟩=>some ⟨K,.x .norm,s⟩
 |⟨K,.c (.yN l),s⟩=>some ⟨K,.o l,s⟩
 |⟨K,.c (.seq a b),s⟩=>some ⟨.seq b::K,.c a,s⟩
 |⟨K,.c (.block i a),s⟩=>some ⟨.cG i::K,.c a,s⟩
 |⟨K,.c (.exit i),s⟩=>some ⟨K,.x (.exit i),s⟩
 |⟨K,.c .ret,s⟩=>some ⟨K,.x .ret,s⟩
 |⟨K,.c (.scope a),s⟩=>some ⟨K,.c a,s⟩
 |⟨K,.c (.cond c a b),s⟩=>match bw s.env c with
  |some (.b true)=>some ⟨K,.c a,s⟩
  |some (.b false)=>some ⟨K,.c b,s⟩
  |_=>none
 |⟨K,.o [],s⟩=>some ⟨K,.x .norm,s⟩
 |⟨K,.o (⟨some d,o,none⟩::l),⟨own,n,e⟩⟩=>B4 own n e o fun a bP cc=>some ⟨K,.o l,⟨bP,cc,(d,a)::e⟩⟩
 |⟨K,.o (⟨none,o,none⟩::l),⟨own,n,e⟩⟩=>B4 own n e o fun _ bP cc=>some ⟨K,.o l,⟨bP,cc,e⟩⟩
 |⟨K,.o (⟨d,o,some (t,b)⟩::l),⟨own,n,e⟩⟩=>match dZ e t with
  |some (.b true)=>match b with
   |true=>some ⟨K,.o (⟨d,o,none⟩::l),⟨own,n,e⟩⟩
   |false=>D5 K l d own n e
  |some (.b false)=>match b with
   |false=>some ⟨K,.o (⟨d,o,none⟩::l),⟨own,n,e⟩⟩
   |true=>D5 K l d own n e
  |some (.bu _)=>D5 K l d own n e
  |_=>none
 |⟨K,.c (.tx l _ dU ms),⟨own,n,e⟩⟩=>Ll dU e fun cy=>Nl l 0 fun m=>some ⟨.Cw ms m::K,.d l own cy 1 n,⟨own,n,cy⟩⟩
 |⟨.Cw _ _::K,.d [] _ _ _ _,s⟩=>some ⟨K,.x .norm,s⟩
 |⟨K,.d [] _ _ _ _,s⟩=>some ⟨K,.x .norm,s⟩
 |⟨K,.d ((⟨d,o,none⟩,c)::l) bZ a7 bn cj,⟨own,n,e⟩⟩=>Lm K d o c l bZ a7 bn cj own n e
 |⟨K,.d ((⟨d,o,some (t,b)⟩,c)::l) bZ a7 bn cj,⟨own,n,e⟩⟩=>match dZ (FP c e) t with
  |some (.b true)=>match b with
   |true=>some ⟨K,.d ((⟨d,o,none⟩,c)::l) bZ a7 bn cj,⟨own,n,e⟩⟩
   |false=>Cv K d c l bZ a7 bn cj own n e
  |some (.b false)=>match b with
   |false=>some ⟨K,.d ((⟨d,o,none⟩,c)::l) bZ a7 bn cj,⟨own,n,e⟩⟩
   |true=>Cv K d c l bZ a7 bn cj own n e
  |some (.bu _)=>Cv K d c l bZ a7 bn cj own n e
  |_=>none
 |⟨.seq c::K,.x .norm,s⟩=>some ⟨K,.c c,s⟩
 |⟨.seq _::K,.x (.exit i),s⟩=>some ⟨K,.x (.exit i),s⟩
 |⟨.seq _::K,.x .ret,s⟩=>some ⟨K,.x .ret,s⟩
 |⟨.cG _::K,.x .norm,s⟩=>some ⟨K,.x .norm,s⟩
 |⟨.cG i::K,.x (.exit j),s⟩=>match Nat.beq j i with
  |true=>some ⟨K,.x .norm,s⟩
  |false=>some ⟨K,.x (.exit j),s⟩
 |⟨.cG _::K,.x .ret,s⟩=>some ⟨K,.x .ret,s⟩
 |⟨.b7 _::K,.x (.exit i),s⟩=>some ⟨K,.x (.exit i),s⟩
 |⟨.b7 _::K,.x .ret,s⟩=>some ⟨K,.x .ret,s⟩
 |⟨.seq _::K,.x (.bk v),s⟩=>some ⟨K,.x (.bk v),s⟩
 |⟨.cG _::K,.x (.bk v),s⟩=>some ⟨K,.x (.bk v),s⟩
 |⟨.b7 _::K,.x (.bk v),s⟩=>some ⟨K,.x (.bk v),s⟩
 |⟨.Cw _ _::K,.x e,s⟩=>some ⟨K,.x e,s⟩
 |_=>none
end
section
variable{aE:fL}{K:ac e4}{s:cW}
variable{d:am Tmp}{a7:bX}{bZ:ac bp}{cj:Nat}{g:a1}{bP:ac bp}{cc:Nat}{fr:aR}{e:bX}{back:Nat}{c:cE}{t:Bool}{fM:bJ}{ij:ac bp}
def c9.fI(h:c9 fr H ids e)(d:am Tmp)(aI:den H a ids v):c9 (fr.put d v) H ids (Go.ak.fI d a e):=by
 cases d with
 |none=>exact h
 |some d=>exact h.put d aI
def KJ{call:bO}{o:dg}{C:ah->ac bp->Nat->am a1}{r:a1}(h:B4 s.own s.n s.env o C=some r):∃a bP cc,C a bP cc=some r∧fA call o s a bP cc:=by
 unfold B4 at h;split at h
 ·rename_i a aY;refine⟨a,_,_,h,fun H ids st fr az ae=> ?_⟩;obtain⟨v,aq,he⟩:=KC (call:=call) ae aY;exact⟨v,st,ids,H,he st,az,aq,dp.refl _,di.refl _,fun _ _ _ B=>B,b5 _,fun _ _ _=>rfl⟩
 ·split at h
  ·rename_i a aY;refine⟨a,_,_,h,fun H ids st fr az ae=> ?_⟩;obtain⟨v,aq,he⟩:=Kz (call:=call) ae (by rw[az.len,az.cI];exact b5 _) (fun k o b ab _ hb=>(az.own k o b ab hb).1) aY;exact⟨v,st,ids,H,he st (.inl az.le) (fun _ _ _ _=>rfl),az,aq,dp.refl _,di.refl _,fun _ _ _ B=>B,b5 _,fun _ _ _=>rfl⟩
  ·obtain⟨a,bP,cc,J,U⟩:=Qn (call:=call) h;exact⟨a,bP,cc,J,U.to⟩
def EC{o:dg}{l:ac bK}(h:zf aE.cA aE.call o s a bP cc)(k:hx aE K (.o l) ⟨bP,cc,fI d a s.env⟩):hx aE K (.o (⟨d,o,none⟩::l)) s:=by
 intro H ids st fr bb az ae;obtain⟨v,st',dd,bF,J,U,af,ck,ax,a0,_⟩:=h H ids st fr bb.hle az ae;exact uY J (k bF dd st' _ (a0 _ _ _ bb) U ((ae.mono ck ax).fI d af))
def Jl{o:dg}{l:ac bK}(h:fA aE.call o s a bP cc)(k:hx aE K (.o l) ⟨bP,cc,fI d a s.env⟩):hx aE K (.o (⟨d,o,none⟩::l)) s:=EC h.g k
def zE(h:∀j a,dZ a7 j=some a->den fM a ids (fr.tmp j))(d:am Tmp)(v:be):∀j a,dZ (vo d a7) j=some a->den fM a ids ((fr.put d v).tmp j):=by
 cases d with
 |none=>exact h
 |some d=>
  intro j a hj;obtain⟨J,U⟩:=HO d a7 j a hj;rw[BB,zaa J];exact h j a U
def afK(h:∀j a,dZ a7 j=some a->den fM a ids (fr.tmp j))(d:am Tmp)(aI:den fM b ids v):∀j a,dZ (fI d b a7) j=some a->den fM a ids ((fr.put d v).tmp j):=by
 cases d with
 |none=>exact h
 |some d=>
  intro j a hj;have hj:cond (Nat.beq d j) (some b) (dZ a7 j)=some a:=hj;rw[BB];cases hb:Nat.beq d j with
  |true=>
   rw[hb]at hj;rw[zab (eL hb).symm];cases hj;exact aI
  |false=>
   rw[hb]at hj;rw[zaa (fun e=>by rw[e,zaP]at hb;cases hb)];exact h j a hj
theorem Ga{β:Type _}{r:β}{d:Nat}:∀{e:bX} {C:bX->am β},zJ d e C=some r->C (oZ d e)=some r
 |[],_,h=>h
 |p::l,C,h=>by
  unfold zJ at h;unfold oZ;cases hb:Nat.beq p.1 d with
  |true=>rw[hb]at h;exact Ga (e:=l) h
  |false=>rw[hb]at h;exact Ga (e:=l) h
theorem XM{β:Type _}{r:β}:∀{l:ac (bK×cE)} {n:Nat} {C:Nat->am β},Nl l n C=some r->C (n+dk l)=some r
 |[],_,_,h=>h
 |x::l,n,C,h=>by
  have h:=XM (l:=l) (qo h);have e:n+dk (x::l)=n+1+dk l:=by
   rw[fo,fo,zaD];omega
  rw[e];exact h
theorem RX{β:Type _}{r:β}:∀{ds:ac Nat} {e:bX} {C:bX->am β},Ll ds e C=some r->C (Lk ds e)=some r
 |[],_,_,h=>h
 |_::ds,_,_,h=>RX (ds:=ds) (Ga h)
def xh{l:ac (bK×cE)}{bn:Nat}{own:ac bp}(h:pU K d l bZ a7 bn cj own n a e none=some g)(k:g.ok aE):hx aE K (.d l bZ (vo d a7) bn cj) ⟨own,n,fI d a e⟩:=by
 unfold pU at h;split at h
 ·cases h;exact k
 ·have:=Ga h;cases this;exact k
def afA{l:ac (bK×cE)}{bn:Nat}{own:ac bp}(h:pU K d l bZ a7 bn cj own n a e (some a)=some g)(k:g.ok aE):hx aE K (.d l bZ (fI d a a7) bn cj) ⟨own,n,fI d a e⟩:=by
 unfold pU at h;split at h
 ·cases h;exact k
 ·cases h;exact k
def NQ{l:ac bK}{own:ac bp}(h:D5 K l d own n e=some g)(k:g.ok aE):hx aE K (.o l) ⟨own,n,fI d (.bu []) e⟩:=by
 unfold D5 at h;split at h
 ·cases h;exact k
 ·cases h;exact k
def Oe{β:Type _}{r:β}{m:am Nat}{C:ac bp->am β}(h:Eb bZ m C=some r):∃ij,C ij=some r∧ij.length=bZ.length∧∀(k:Nat) (o:bp),ij[k]? =some o->o.live=true->bZ[k]? =some o∧m≠some k:=by
 unfold Eb at h;split at h
 ·exact⟨_,h,rfl,fun k o ab _=>⟨ab,by simp⟩⟩
 ·rename_i m;split at h
  ·refine⟨_,l2 h,by simp,fun k o ab hl=> ?_⟩;rw[zbu]at ab;by_cases Mh:m=k
   ·rw[zab Mh]at ab;split at ab<;>cases ab;cases hl
   ·rw[zaa Mh]at ab;exact⟨ab,by simpa using Mh⟩
  ·rename_i hn;refine⟨_,h,rfl,fun k o ab hl=>⟨ab,fun e=> ?_⟩⟩;cases e;rw[hn]at ab;cases ab
def Ld{o:dg}{l:ac (bK×cE)}{bn:Nat}(h:zf aE.cA aE.call o s a bP cc)(hl:ij.length=bZ.length)(J:∀(k:Nat) (br:bp),ij[k]? =some br->br.live=true->bZ[k]? =some br∧ky s.env o≠some k)
 (k:hx aE K (.d l ij (vo d a7) (bn+1) cc) ⟨bP,cc,fI d a s.env⟩):hx aE K (.d ((⟨d,o,none⟩,.eH)::l) bZ a7 bn cj) s:=by
 intro dw ic H ids st fr fM ai bb az ae cr;obtain⟨v,st',dd,bF,aM,aN,bf,cb,cQ,ei,gn,od⟩:=h H ids st fr bb.hle az ae;have z6:∀(k:Nat) (b:Nat),k<ids.length->dd[k]? =some b->ids[k]? =some b:=fun k b ab hb=>by
  have:=cQ k _ (bV ab);rw[hb]at this;rw[bV ab,this]
 have G4:∀(k:Nat) (b:Nat),ky s.env o≠some k->ids[k]? =some b->st'.h.get b=st.h.get b:=fun k b ab hb=>by
  refine od b (az.lt b (zaA hb)) fun k' fh cY=> ?_;have aw:=zah.1 hb;have e2:=zah.1 cY;have:=(zcF (h₀:=aw.1) (h₁:=e2.1) az.de).1 (aw.2.trans e2.2.symm);exact ab (this▸fh)
 have gG:=k dw ic bF dd st' (fr.put d v) fM (st'.h::ai) (ei _ _ _ bb) aN ((ae.mono cb cQ).fI d bf) ⟨by simp[cr.len],cr.hle.trans cb,zE (fun j a hj=>vl (dp.refl _) _ cQ (cr.gm j a hj)) d v,?_,by rw[aN.len];exact b5 _,?_,?_,?_⟩
 ·refine W.of_eq ?_ gG;show aX.rec (motive:=fun _=>cZ) (fun v aK st'=>ed st.al st'.al (hX aE.call dw l (st'.h::ai) (aR.put ⟨fr.t,aK.c7,aK.bk,aK.cM,aK.b7⟩ d v) st') .no) (fun v st'=>cond o.nq (cond (dw l (st.h::ai) (fr.put d undef) st) (.out (.bk v) fr st') .no) .no) .no (bR aE.call o fr st)=_;rw[aM];show ed st.al st'.al _ _=_;rw[gv gn]
 ·rw[hl];have:ids.length<=dd.length:=by
   rcases zao dd.length ids.length with a4|lD
   ·have:=cQ dd.length _ (bV a4);simp at this
   ·exact lD
  exact zaj cr.ry this
 ·intro k br b ab Aa hb;obtain⟨U,af⟩:=J k br ab Aa;have Mg:k<ids.length:=fy (zah.1 U).1 cr.ry;have hb:=z6 k b Mg hb;obtain⟨ax,a0⟩:=cr.bZ k br b U Aa hb;have e:=G4 k b af hb;rw[e];refine⟨xk (dp.refl _) cQ ax,fun h hm=> ?_⟩;rcases zar.1 hm with rfl|hm
  ·exact e
  ·exact a0 h hm
 ·intro h hm b br hb;rcases zar.1 hm with rfl|hm
  ·exact aN.le _ _ (cb _ _ (cr.hle _ _ hb))
  ·exact cr.old h hm b br hb
 ·intro h hm;simp at hm;subst hm;exact⟨aN.le,fun _ _ _ _=>rfl⟩
def Lc{o:dg}{l:ac (bK×cE)}{bn:Nat}(h:fA aE.call o s a bP cc)(hl:ij.length=bZ.length)(J:∀(k:Nat) (br:bp),ij[k]? =some br->br.live=true->bZ[k]? =some br∧ky s.env o≠some k)
 (k:hx aE K (.d l ij (vo d a7) (bn+1) cc) ⟨bP,cc,fI d a s.env⟩):hx aE K (.d ((⟨d,o,none⟩,.eH)::l) bZ a7 bn cj) s:=Ld h.g hl J k
def Xl{i j:ac Nat}(h:di i j):i.length<=j.length:=by
 rcases zao j.length i.length with a4|lD
 ·have:=h j.length _ (bV a4);simp at this
 ·exact lD
def afq{o:dg}{ts:ac Tmp}{l:ac (bK×cE)}{bn:Nat}(h:BP aE.call o ⟨s.own,s.n,eV ts s.env⟩ a bP cc)(hm:ky (eV ts s.env) o=none)
 (k:hx aE K (.d l bZ (vo d a7) bn cj) ⟨bP,cc,fI d a s.env⟩):hx aE K (.d ((⟨d,o,none⟩,.hI ts)::l) bZ a7 bn cj) s:=by
 intro dw ic H ids st fr fM ai bb az ae cr;obtain⟨v,st',dd,aM,aN,bf,cQ,ei,gn,od⟩:=h H ids st (fr.only ts) az (ae.only ts);have z6:∀(k:Nat) (b:Nat),k<ids.length->dd[k]? =some b->ids[k]? =some b:=fun k b ab hb=>by
  have:=cQ k _ (bV ab);rw[hb]at this;rw[bV ab,this]
 have G4:∀(k:Nat) (b:Nat),ids[k]? =some b->st'.h.get b=st.h.get b:=fun k b hb=>od b (az.lt b (zaA hb)) fun k' fh=>by rw[hm]at fh;cases fh
 have gG:=k dw ic H dd st' (fr.put d v) fM ai (ei _ _ _ bb) aN ((ae.mono (dp.refl _) cQ).fI d bf) ⟨cr.len,cr.hle,zE (fun j a hj=>vl (dp.refl _) _ cQ (cr.gm j a hj)) d v,zaj cr.ry (Xl cQ),zaj cr.yr (Xl cQ),?_,cr.old,?_⟩
 ·refine W.of_eq ?_ gG;show lW fr.t ts (fun t=>aX.rec (motive:=fun _=>cZ) (fun v _ st'=>hX aE.call dw l ai (fr.put d v) st') (fun _ _=>.no) .no (bR aE.call o ⟨t,[],none,false,none⟩ st))=_;rw[qq];have e:bR aE.call o ⟨D9 fr.t ts,[],none,false,none⟩ st= .ok v (fr.only ts) st':=aM;rw[e]
 ·intro k br b ab Aa hb;have Mg:k<ids.length:=fy (zah.1 ab).1 cr.ry;have hb:=z6 k b Mg hb;obtain⟨ax,a0⟩:=cr.bZ k br b ab Aa hb;rw[G4 k b hb];exact⟨xk (dp.refl _) cQ ax,a0⟩
 ·intro h lH;obtain⟨J,U⟩:=cr.top h lH;refine⟨J,fun k b ab hb=> ?_⟩;have hb:=z6 k b (fy ab cr.yr) hb;rw[G4 k b hb];exact U k b ab hb
def O6{dw:tb}{o:dg}{ts:ac Tmp}{l:ac (bK×cE)}{ai:ac (ar bH)}{Q:dT->aR->ay->Prop}(J:bR aE.call o (fr.only ts) st= .ok v (fr.only ts) st)(U:∀h∈ai.take (back+1),bR aE.call o (fr.only ts) ⟨h,st.al⟩= .ok v (fr.only ts) ⟨h,st.al⟩)(hl:back<ai.length)
 (k:W (hX aE.call dw l ai (fr.put d v) st) Q):W (hX aE.call dw ((⟨d,o,none⟩,.read back ts)::l) ai fr st) Q:=by
 refine atp (fun h hm=> ?_) hl k;rcases zar.1 hm with rfl|hm
 ·exact J
 ·exact U h hm
def oX{o:dg}{ts:ac Tmp}{l:ac (bK×cE)}{bn:Nat}(hb:back<bn)
 (h:∀(H:bJ) (ids:ac Nat) (st:ay) (fr:aR),c9 fr H ids (eV ts a7)->bZ.length<=ids.length->(∀(k:Nat) (o:bp) (b:Nat),bZ[k]? =some o->o.live=true->ids[k]? =some b->mR H ids o (st.h.get b))->
  ∃v,den H a ids v∧∀dB:ay,(∀b o,H b=some o->dB.h.get b=some o)->(∀(k:Nat) (o:bp) (b:Nat),bZ[k]? =some o->o.live=true->ids[k]? =some b->dB.h.get b=st.h.get b)->bR aE.call o fr dB= .ok v fr dB)
 (k:hx aE K (.d l bZ (fI d a a7) bn cj) ⟨s.own,s.n,fI d a s.env⟩):hx aE K (.d ((⟨d,o,none⟩,.read back ts)::l) bZ a7 bn cj) s:=by
 intro dw ic H ids st fr fM ai bb az ae cr;have mY:c9 fr fM ids a7:=⟨ae.pl,cr.gm⟩;obtain⟨v,J,U⟩:=h fM ids st (fr.only ts) (mY.only ts) cr.ry (fun k o b ab hl hb=>(cr.bZ k o b ab hl hb).1);have gG:=k dw ic H ids st (fr.put d v) fM ai bb az (ae.fI d (vl cr.hle _ (di.refl _) J)) ⟨cr.len,cr.hle,afK cr.gm d J,cr.ry,cr.yr,cr.bZ,cr.old,cr.top⟩;refine O6 (U st (fun b o akr=>az.le _ _ (cr.hle _ _ akr)) (fun _ _ _ _ _ _=>rfl)) (fun h hm=> ?_) (by rw[cr.len];exact hb) gG;have hm:=zbL hm;exact U ⟨h,st.al⟩ (cr.old h hm) (fun k o b ab hl hb=>(cr.bZ k o b ab hl hb).2 h hm)
def afu{o:dg}{ts:ac Tmp}{l:ac (bK×cE)}{bn:Nat}(hb:back<bn)
 (h:∀(H:bJ) (ids:ac Nat) (fr:aR),c9 fr H ids (eV ts s.env)->∃v,den H a ids v∧∀st,bR aE.call o fr st= .ok v fr st)
 (k:hx aE K (.d l bZ (vo d a7) bn cj) ⟨s.own,s.n,fI d a s.env⟩):hx aE K (.d ((⟨d,o,none⟩,.read back ts)::l) bZ a7 bn cj) s:=by
 intro dw ic H ids st fr fM ai bb az ae cr;obtain⟨v,J,U⟩:=h H ids (fr.only ts) (ae.only ts);have gG:=k dw ic H ids st (fr.put d v) fM ai bb az (ae.fI d J) ⟨cr.len,cr.hle,zE cr.gm d v,cr.ry,cr.yr,cr.bZ,cr.old,cr.top⟩;exact O6 (U st) (fun h hm=>U _) (by rw[cr.len];exact hb) gG
def aft{o:dg}{ts:ac Tmp}{l:ac (bK×cE)}{bn:Nat}(hb:0<bn)
 (h:∀(H:bJ) (ids:ac Nat) (st:ay) (fr:aR),Fit H ids st s.own s.n->c9 fr H ids (eV ts s.env)->∃v,den H a ids v∧∀dB:ay,(∀b o,H b=some o->dB.h.get b=some o)->(∀k b:Nat,k<cj->ids[k]? =some b->dB.h.get b=st.h.get b)->bR aE.call o fr dB= .ok v fr dB)
 (k:hx aE K (.d l bZ (vo d a7) bn cj) ⟨s.own,s.n,fI d a s.env⟩):hx aE K (.d ((⟨d,o,none⟩,.read 0 ts)::l) bZ a7 bn cj) s:=by
 intro dw ic H ids st fr fM ai bb az ae cr;obtain⟨v,J,U⟩:=h H ids st (fr.only ts) az (ae.only ts);have gG:=k dw ic H ids st (fr.put d v) fM ai bb az (ae.fI d J) ⟨cr.len,cr.hle,zE cr.gm d v,cr.ry,cr.yr,cr.bZ,cr.old,cr.top⟩;refine O6 (U st az.le (fun _ _ _ _=>rfl)) (fun h hm=> ?_) (by rw[cr.len];exact hb) gG;have hl:=cr.len
 match ai,hl,hm with
 |[],hl,_=>simp at hl;omega
 |h0::ai,_,hm=>
  simp at hm;subst hm;obtain⟨aM,aN⟩:=cr.top h rfl;exact U ⟨h,st.al⟩ aM aN
def af2{o:dg}{l:ac (bK×cE)}{bn:Nat}(h:Lm K d o c l bZ a7 bn cj s.own s.n s.env=some g)(k:g.ok aE):hx aE K (.d ((⟨d,o,none⟩,c)::l) bZ a7 bn cj) s:=by
 unfold Lm at h;split at h
 ·obtain⟨a,bP,cc,J,U⟩:=KJ (call:=aE.call) h;obtain⟨ij,af,ax,a0⟩:=Oe J;exact Lc U ax a0 (xh (qo af) k)
 ·rename_i ts;obtain⟨a,bP,cc,J,U⟩:=Qn (call:=aE.call) (s:=⟨s.own,s.n,eV ts s.env⟩) h;split at J
  ·rename_i hm;exact afq U hm (xh J k)
  ·cases J
 ·rename_i back ts;split at h<;>try cases h
  rename_i hb;have hb:back<bn:=jw hb;split at h
  ·rename_i pH aY;refine oX hb (fun H ids st fr ae hl ao=> ?_) (afA h k);unfold QF at aY;split at aY
   ·rename_i aa;cases aY;obtain⟨v,J,U⟩:=KC (call:=aE.call) ae aa;exact⟨v,J,fun dB _ _=>U dB⟩
   ·obtain⟨v,J,U⟩:=Kz (call:=aE.call) ae hl ao aY;refine⟨v,J,fun dB aM aN=>U dB (.inl aM) fun k b ab hb=> ?_⟩;obtain⟨br,fh,cn⟩:=anr aY ab;exact aN k br b fh cn hb
  ·split at h
   ·rename_i a aY;exact afu hb (fun H ids fr ae=>KC ae aY) (xh h k)
   ·split at h<;>try cases h
    split at h<;>try cases h
    rename_i a aY;have key:(∀k,qh (eV ts s.env) o=some k->k<cj)->a1.ok aE ⟨K,.d l bZ (vo d a7) bn cj,⟨s.own,s.n,fI d a s.env⟩⟩->hx aE K (.d ((⟨d,o,none⟩,.read 0 ts)::l) bZ a7 bn cj) s:=fun ab k=>by
     refine aft hb (fun H ids st fr az ae=> ?_) k;obtain⟨v,J,U⟩:=Kz (call:=aE.call) ae (by rw[az.len,az.cI];exact b5 _) (fun k o b ab _ hb=>(az.own k o b ab hb).1) aY;exact⟨v,J,fun dB aM aN=>U dB (.inl aM) fun k b fh cY=>aN k b (ab k fh) cY⟩
    split at h
    ·rename_i hn;exact key (fun k ab=>by rw[hn]at ab;cases ab) (xh h k)
    ·rename_i bL hn;split at h
     ·rename_i a4;exact key (fun k ab=>by rw[hn]at ab;cases ab;exact jw a4) (xh h k)
     ·cases h
def Lj{o:dg}{t:Tmp}{b:Bool}{l:ac (bK×cE)}{bn:Nat}(aO:dZ (FP c s.env) t=some (.b (!b))∨∃vs,dZ (FP c s.env) t=some (.bu vs))(h:Cv K d c l bZ a7 bn cj s.own s.n s.env=some g)(k:g.ok aE):hx aE K (.d ((⟨d,o,some (t,b)⟩,c)::l) bZ a7 bn cj) s:=by
 have want:∀{fr:aR} {H:bJ} {ids:ac Nat} {e:bX} {y n z:cZ},c9 fr H ids e->(dZ e t=some (.b (!b))∨∃vs,dZ e t=some (.bu vs))->hg fr (some (t,b)) y n z=n:=fun{fr H ids e y n z} ae aO=>by
  rcases aO with aO|⟨vs,aO⟩
  ·exact atN (ae.get _ _ aO)
  ·obtain⟨ws,aI,_⟩:=ae.get _ _ aO;show nd (fr.tmp t) (fun c=>cond c (cond b y n) (cond b n y)) (qD (fr.tmp t) (fun _=>n) z)=_;rw[aI];rfl
 unfold Cv at h;intro dw ic H ids st fr fM ai bb az ae cr;split at h
 ·have k:=xh (qo h) k;have gG:=k dw ic H ids st (fr.put d undef) fM (st.h::ai) bb az (ae.fI d ⟨[],rfl,rfl⟩) ⟨by simp[cr.len],cr.hle,zE cr.gm d _,cr.ry,by rw[az.len];exact b5 _,fun k o b ab hl hb=> ?_,fun h hm=> ?_,fun h hm=> ?_⟩
  ·refine W.of_eq ?_ gG;show hg fr (some (t,b)) _ (hX aE.call dw l (st.h::ai) (fr.put d undef) st) _=_;exact want ae aO
  ·obtain⟨J,U⟩:=cr.bZ k o b ab hl hb;refine⟨J,fun h hm=> ?_⟩;rcases zar.1 hm with rfl|hm
   ·rfl
   ·exact U h hm
  ·rcases zar.1 hm with rfl|hm
   ·exact fun b o hb=>az.le _ _ (cr.hle _ _ hb)
   ·exact cr.old h hm
  ·simp at hm;subst hm;exact⟨az.le,fun _ _ _ _=>rfl⟩
 ·rename_i cx;have k:=xh h k;have gG:=k dw ic H ids st (fr.put d undef) fM ai bb az (ae.fI d ⟨[],rfl,rfl⟩) ⟨cr.len,cr.hle,zE cr.gm d _,cr.ry,cr.yr,cr.bZ,cr.old,cr.top⟩;refine W.of_eq ?_ gG;cases c with
  |eH=>exact absurd rfl cx
  |hI ts=>
   show lW fr.t ts (fun hd=>hg ⟨hd,[],none,false,none⟩ (some (t,b)) _ _ _)=_;rw[qq];exact want (ae.only ts) aO
  |read back ts=>
   show lW fr.t ts (fun hd=>hg ⟨hd,[],none,false,none⟩ (some (t,b)) _ _ _)=_;rw[qq];exact want (ae.only ts) aO
def RW{o:dg}{t:Tmp}{b:Bool}{l:ac (bK×cE)}{bn:Nat}(aO:dZ (FP c s.env) t=some (.b b))(k:hx aE K (.d ((⟨d,o,none⟩,c)::l) bZ a7 bn cj) s):hx aE K (.d ((⟨d,o,some (t,b)⟩,c)::l) bZ a7 bn cj) s:=by
 intro dw ic H ids st fr fM ai bb az ae cr;refine W.of_eq ?_ (k dw ic H ids st fr fM ai bb az ae cr);cases c with
 |eH=>
  show hg fr (some (t,b)) _ _ _=hg fr none _ _ _;exact PR (ae.get _ _ aO)
 |hI ts=>
  show lW fr.t ts (fun hd=>hg ⟨hd,[],none,false,none⟩ (some (t,b)) _ _ _)=lW fr.t ts (fun hd=>hg ⟨hd,[],none,false,none⟩ none _ _ _);rw[qq,qq];exact PR ((ae.only ts).get _ _ aO)
 |read back ts=>
  show lW fr.t ts (fun hd=>hg ⟨hd,[],none,false,none⟩ (some (t,b)) _ _ _)=lW fr.t ts (fun hd=>hg ⟨hd,[],none,false,none⟩ none _ _ _);rw[qq,qq];exact PR ((ae.only ts).get _ _ aO)
def c9.Zv:∀(dU:ac Tmp) {fr:aR} {e:bX},c9 fr H ids e->c9 (pq fr dU) H ids (Lk dU e)
 |[],_,_,h=>h
 |d::dU,_,_,h=>c9.Zv dU (h.af1 d h7)
def JO{gr:a1}(h:By g=some gr)(k:gr.ok aE):g.ok aE:=by
 unfold By at h;split at h
 ·cases h;exact fun H ids st fr bb az ae=>atK ⟨H,ids,_,bb,az,ae,k⟩
 ·cases h;exact fun H ids st fr bb az ae=>atB (k H ids st fr bb az ae)
 ·cases h;intro H ids st fr bb az ae;refine atF ((k H ids st fr bb az ae).mono ?_);rintro x aK st' ⟨bF,dd,bz,et,ef,eU,hq⟩;cases x with
  |norm=>exact hq bF dd st' aK et ef eU
  |exit i=>exact⟨bF,dd,bz,et,ef,eU,hq⟩
  |ret=>exact⟨bF,dd,bz,et,ef,eU,hq⟩
  |bk v=>exact⟨bF,dd,bz,et,ef,eU,hq⟩
 ·cases h;rename_i i a s;intro H ids st fr bb az ae;refine ato ((k H ids st fr bb az ae).mono ?_);rintro x aK st' ⟨bF,dd,bz,et,ef,eU,hq⟩;cases x with
  |norm=>exact⟨bF,dd,bz,et,ef,eU,hq⟩
  |exit j=>
   show(if j=i then _ else _);have hq:(if j=i then _ else _):=hq;split at hq
   ·rw[zab (by assumption)];exact⟨bF,dd,bz,et,ef,eU,hq⟩
   ·rw[zaa (by assumption)];exact⟨bF,dd,bz,et,ef,eU,hq⟩
  |ret=>exact⟨bF,dd,bz,et,ef,eU,hq⟩
  |bk v=>exact⟨bF,dd,bz,et,ef,eU,hq⟩
 ·cases h;exact fun H ids st fr bb az ae=>ats ⟨H,ids,_,bb,az,ae,k⟩
 ·cases h;exact fun H ids st fr bb az ae=>atC ⟨H,ids,_,bb,az,ae,k⟩
 ·cases h;exact fun H ids st fr bb az ae=>atE (k H ids st fr bb az ae)
 ·split at h<;>cases h
  ·rename_i hc;exact fun H ids st fr bb az ae=>atL (ae.aj hc) rfl (k H ids st fr bb az ae)
  ·rename_i hc;exact fun H ids st fr bb az ae=>atr (ae.aj hc) rfl (k H ids st fr bb az ae)
 ·cases h;exact fun H ids st fr bb az ae=>atw ⟨H,ids,_,bb,az,ae,k⟩
 ·rename_i K d o l own n e;obtain⟨a,bP,cc,J,U⟩:=KJ (call:=aE.call) (s:=⟨own,n,e⟩) h;cases J;exact Jl (s:=⟨own,n,e⟩) (d:=some d) U k
 ·rename_i K o l own n e;obtain⟨a,bP,cc,J,U⟩:=KJ (call:=aE.call) (s:=⟨own,n,e⟩) h;cases J;exact Jl (s:=⟨own,n,e⟩) (d:=none) U k
 ·rename_i K d o t b l own n e;have on:∀{b:Bool},dZ e t=some (.b b)->hx aE K (.o (⟨d,o,none⟩::l)) ⟨own,n,e⟩->hx aE K (.o (⟨d,o,some (t,b)⟩::l)) ⟨own,n,e⟩:=fun aO k H ids st fr bb az ae=>atz (ae.get _ _ aO) rfl (k H ids st fr bb az ae);have off:∀{b:Bool},dZ e t=some (.b (!b))->hx aE K (.o l) ⟨own,n,fI d (.bu []) e⟩->hx aE K (.o (⟨d,o,some (t,b)⟩::l)) ⟨own,n,e⟩:=fun aO k H ids st fr bb az ae=>atx (ae.get _ _ aO) rfl (k H ids st _ bb az (ae.fI d ⟨[],rfl,rfl⟩));split at h
  ·rename_i aO;cases b
   ·exact off aO (NQ h k)
   ·cases h;exact on aO k
  ·rename_i aO;cases b
   ·cases h;exact on aO k
   ·exact off aO (NQ h k)
  ·rename_i aO;have k:=NQ h k;intro H ids st fr bb az ae;obtain⟨vs,aI,_⟩:=ae.get _ _ aO;exact aty aI (k H ids st _ bb az (ae.fI d ⟨[],rfl,rfl⟩))
  ·cases h
 ·rename_i K l cd dU ms own n e;have h:=XM (RX h);cases h;intro H ids st fr bb az ae;have ae:=ae.Zv dU;exact atq (k _ (show tp aE.call ms (dk l)=tp aE.call ms (0+dk l) by rw[zav]) H ids st _ H [st.h] bb az ae ⟨rfl,dp.refl _,ae.get,by rw[az.len,<-az.cI];exact b5 _,by rw[az.len];exact b5 _,fun k o b ab hl hb=>⟨(az.own k o b ab hb).1,fun h hm=>by simp at hm;rw[hm]⟩,fun h hm=>by simp at hm;subst hm;exact az.le,fun h hm=>by simp at hm;subst hm;exact⟨az.le,fun _ _ _ _=>rfl⟩⟩)
 ·cases h;exact fun dw ic H ids st fr fM ai bb az ae cr=>acC ⟨H,ids,_,bb,az,ae,k⟩
 ·cases h;exact fun dw ic H ids st fr fM ai bb az ae cr=>acC ⟨H,ids,_,bb,az,ae,k⟩
 ·exact af2 (s:=⟨_,_,_⟩) h k
 ·split at h
  ·rename_i aO;split at h
   ·cases h;exact RW (s:=⟨_,_,_⟩) aO k
   ·exact Lj (s:=⟨_,_,_⟩) (.inl aO) h k
  ·rename_i aO;split at h
   ·cases h;exact RW (s:=⟨_,_,_⟩) aO k
   ·exact Lj (s:=⟨_,_,_⟩) (.inl aO) h k
  ·rename_i aO;exact Lj (s:=⟨_,_,_⟩) (.inr ⟨_,aO⟩) h k
  ·cases h
 ·cases h;exact k
 ·cases h;exact k
 ·cases h;exact k
 ·cases h;exact k
 ·split at h<;>cases h
  ·rename_i hb;show(if _ then _ else _);rw[zab (eL hb)];exact k
  ·rename_i hb;show(if _ then _ else _);rw[zaa (fun e=>by rw[e,zaP]at hb;cases hb)];exact k
 ·cases h;exact k
 ·cases h;exact k
 ·cases h;exact k
 ·cases h;exact k
 ·cases h;exact k
 ·cases h;exact k
 ·cases h;exact k
 ·cases h
def yJ{c:bi}{a b:dq}(hc:bw s.env c=some (.b t))(aY:t=true->a1.ok aE ⟨K,.c a,s⟩)(hb:t=false->a1.ok aE ⟨K,.c b,s⟩):a1.ok aE ⟨K,.c (.cond c a b),s⟩:=fun H ids st fr bb az ae=>
 att (ae.aj hc) (fun h=>aY h H ids st fr bb az ae) (fun h=>hb h H ids st fr bb az ae)
def aaD{c:bi}{a b:dq}(hc:bw s.env c=some (.b t))(aV:t=true)(aY:a1.ok aE ⟨K,.c a,s⟩):a1.ok aE ⟨K,.c (.cond c a b),s⟩:=yJ hc (fun _=>aY) (fun h=>by rw[aV]at h;cases h)
def apZ{c:bi}{a b:dq}(hc:bw s.env c=some (.b t))(aV:t=false)(hb:a1.ok aE ⟨K,.c b,s⟩):a1.ok aE ⟨K,.c (.cond c a b),s⟩:=yJ hc (fun h=>by rw[aV]at h;cases h) (fun _=>hb)
def ap3{L:Type _}{b:dq}(eu:L->cW->Prop)(ff:L->Nat)(kd:L)(h0:eu kd s)(hm:ff kd<aE.cB)(h:∀l bz,eu l bz->a1.ok aE ⟨.b7 (fun t=>∃l',ff l'<ff l∧eu l' t)::K,.c b,bz⟩):a1.ok aE ⟨K,.c (.loop b),s⟩:=by
 intro H ids st fr bb az ae;refine atu (fun m fr st=>∃l H ids s,ff l=m∧eu l s∧eh aE.cA aE.i0 aE.aH H ids st∧Fit H ids st s.own s.n∧c9 fr H ids s.env) (ff kd) hm ⟨kd,H,ids,s,rfl,h0,bb,az,ae⟩ ?_;rintro m fr st ⟨l,H,ids,bz,rfl,hi,bb,az,ae⟩;refine(h l bz hi H ids st fr bb az ae).mono ?_;rintro x aK st' ⟨bF,dd,bz,et,ef,eU,hq⟩;cases x with
 |norm=>obtain⟨l',J,U⟩:=hq;exact⟨_,J,l',bF,dd,bz,rfl,U,et,ef,eU⟩
 |exit i=>exact⟨bF,dd,bz,et,ef,eU,hq⟩
 |ret=>exact⟨bF,dd,bz,et,ef,eU,hq⟩
 |bk v=>exact⟨bF,dd,bz,et,ef,eU,hq⟩
end
def ha{aE:fL}{g gr:a1}(k:gr.ok aE)(h:By g=some gr:=by rfl):g.ok aE:=JO h k
inductive zg:a1->a1->Prop
 |o {g:a1}:zg g g
 |i {g aM aN:a1} (h:By g=some aM) (t:zg aM aN):zg g aN
variable{g gr:a1}
def asG{aE:fL}(h:zg g gr)(k:gr.ok aE):g.ok aE:=by
 induction h with
 |o=>exact k
 |i h _ a8=>exact JO h (a8 k)
def I{aE:fL}(k:gr.ok aE)(h:zg g gr:=by(repeat(apply zg.i;exact rfl));exact .o):g.ok aE:=asG h k
end Go.ak
namespace Go.ak
open Sym
variable{f:ac Nat}
def kG(f:ac Nat):bX->bX->Prop
 |[],_=>True
 |p::l,e=>dZ e p.1=some (m7 f p.2)∧kG f l e
def kG.get:∀{l e:bX},kG f l e->∀{j:Nat} {a:ah},dZ l j=some a->dZ e j=some (m7 f a)
 |[],_,_,_,_,h=>by cases h
 |p::l,e,ai,j,v,h=>by
  rw[rn]at h;cases hb:Nat.beq p.1 j with
  |true=>rw[hb]at h;cases h;rw[<-eL hb];exact ai.1
  |false=>rw[hb]at h;exact kG.get ai.2 h
def gA(f:ac Nat):bp->bp->Prop
 |.c el cs,o=>o= .c el (qy f cs)
 |.a el a3 z α R l,o=>o= .a el a3 z α R l∧∀x,iU (R x)=true
 |.x,_=>True
def u9(f:ac Nat)(own:ac bp):ac Nat->ac bp->Prop
 |[],[]=>True
 |m::ms,o::os=>(∃br,own[m]? =some br∧gA f o br)∧u9 f own ms os
 |_,_=>False
def u9.len{own:ac bp}:∀{ms:ac Nat} {os:ac bp},u9 f own ms os->os.length=ms.length
 |[],[],_=>rfl
 |[],_::_,h=>h.elim
 |_::_,[],h=>h.elim
 |_::ms,_::os,h=>by simp[u9.len h.2]
def u9.get{own:ac bp}:∀{ms:ac Nat} {os:ac bp},u9 f own ms os->∀{k:Nat} {o:bp},os[k]? =some o->∃m br,ms[k]? =some m∧own[m]? =some br∧gA f o br
 |[],[],_,_,_,h=>by simp at h
 |[],_::_,h,_,_,_=>h.elim
 |_::_,[],h,_,_,_=>h.elim
 |m::ms,o::os,⟨⟨br,J,U⟩,af⟩,0,q,h=>by simp at h;subst h;exact⟨m,br,rfl,J,U⟩
 |m::ms,o::os,⟨_,af⟩,k+1,q,h=>u9.get af (by simpa using h)
def pinned:Nat->ac Nat->Nat->Bool
 |0,_,_=>true
 |n+1,m::f,k=>Nat.beq m k&&pinned n f (k+1)
 |_+1,[],_=>false
theorem Oj:∀{n:Nat} {f:ac Nat} {k:Nat},pinned n f k=true->∀i,i<n->f[i]? =some (k+i)
 |0,_,_,_,i,h=>by omega
 |n+1,[],k,h,_,_=>by cases h
 |n+1,m::f,k,h,i,hi=>by
  have h:(Nat.beq m k&&pinned n f (k+1))=true:=h;rw[b3]at h;cases i with
  |zero=>simp[eL h.1]
  |succ i=>rw[show k+(i+1)=(k+1)+i by omega];simpa using Oj h.2 i (by omega)
structure Sub(p:Nat)(f:ac Nat)(s t:cW):Prop where
 de:f.Nodup
 n:t.n=f.length
 own:u9 f s.own f t.own
 env:kG f t.env s.env
 Iv:pinned p f 0=true
section
variable{H:bJ}{ids:ac Nat}{st:ay}{fr:aR}{s t:cW}{f:ac Nat}
variable{o br:bp}{p:Nat}
def afI{ej:am bH}(h:gA f o br)(d:mR H ids br ej):mR H (pick f ids) o ej:=by
 cases o with
 |c el cs=>cases h;obtain⟨vs,e,d⟩:=d;exact⟨vs,e,xm f cs d⟩
 |a el a3 z α R l=>
  obtain⟨h,hp⟩:=h;cases h;obtain⟨vs,aw,e2,d⟩:=d;exact⟨vs,aw,e2,fun i x aa=>pV _ (hp x) (d i x aa) _⟩
 |x=>trivial
def gA.live(h:gA f o br)(hl:o.live=true):br.live=true:=by
 cases o with
 |c el cs=>cases h;rfl
 |a el a3 z α R l=>cases h.1;rfl
 |x=>cases hl
def Sub.fit(h:Sub p f s t)(az:Fit H ids st s.own s.n):Fit H (pick f ids) st t.own t.n:=by
 have aO:∀{k m:Nat},f[k]? =some m->(∃o,s.own[m]? =some o)->∃b,ids[m]? =some b∧(pick f ids)[k]? =some b:=fun{k m} ab ⟨o,ao⟩=>by
  have a4:=(zah.1 ao).1;have hi:m<ids.length:=by rw[az.len,<-az.cI];exact a4
  exact⟨_,bV hi,yy ab (bV hi)⟩
 have eQ:∀k m:Nat,f[k]? =some m->∃o,s.own[m]? =some o:=fun k m ab=>by
  have hl:=h.own.len;have a4:=(zah.1 ab).1;obtain⟨fi,br,J,U,_⟩:=h.own.get (bV (show k<t.own.length by omega));rw[ab]at J;cases J;exact⟨br,U⟩
 have ie:(pick f ids).length=f.length:=by simp[pick]
 refine⟨az.wf,az.le,by rw[h.n,h.own.len],by rw[h.n,ie],?_,?_,?_⟩
 ·rw[List.Nodup,zcX];intro i j hi hj sf;rw[ie]at hi hj;obtain⟨b,J,U⟩:=aO (bV hi) (eQ _ _ (bV hi));obtain⟨c,af,ax⟩:=aO (bV hj) (eQ _ _ (bV hj));have aw:=(zah.1 U).2;have e2:=(zah.1 ax).2;rw[aw,e2];intro e;subst e;have aM:=zah.1 J;have aN:=zah.1 af;have:=(zcF (h₀:=aM.1) (h₁:=aN.1) az.de).1 (aM.2.trans aN.2.symm);have:=(zcF (h₀:=hi) (h₁:=hj) h.de).1 this;omega
 ·intro b hb;obtain⟨k,ab⟩:=zcG.1 hb;have a4:=(zah.1 ab).1;rw[ie]at a4;obtain⟨c,J,U⟩:=aO (bV a4) (eQ _ _ (bV a4));rw[ab]at U;cases U;exact az.lt _ (zaA J)
 ·intro k o b ab hb;obtain⟨m,br,J,U,af⟩:=h.own.get ab;obtain⟨c,ax,a0⟩:=aO J ⟨br,U⟩;rw[hb]at a0;cases a0;obtain⟨aM,aN⟩:=az.own m br b U ax;exact⟨afI af aM,fun hl=>aN (af.live hl)⟩
def Sub.St(h:Sub p f s t)(ae:c9 fr H ids s.env):c9 fr H (pick f ids) t.env:=⟨ae.pl,fun j a hj=>RR f a (ae.get j _ (h.env.get hj))⟩
def Sub.bU{cA:bJ}{i0:ac Nat}{aH:ay}(h:Sub i0.length f s t)(az:Fit H ids st s.own s.n)(bb:eh cA i0 aH H ids st):eh cA i0 aH H (pick f ids) st:=by
 refine⟨bb.hle,bb.hold,bb.h5,bb.al,?_,?_⟩
 ·intro k b ab;have a4:=(zah.1 ab).1;have:=Oj h.Iv k a4;rw[zav]at this;exact yy this (bb.mn k b ab)
 ·intro b hb;obtain⟨k,ab⟩:=zcG.1 hb;unfold pick at ab;rw[zdE]at ab;cases GX:f[k]? with
  |none=>rw[GX]at ab;cases ab
  |some m=>
   rw[GX]at ab;have ab:some ((ids[m]?).getD 0)=some b:=ab;have hl:=h.own.len;have a4:=(zah.1 GX).1;obtain⟨fi,br,J,U,_⟩:=h.own.get (bV (show k<t.own.length by omega));rw[GX]at J;cases J;have hi:m<ids.length:=by rw[az.len,<-az.cI];exact(zah.1 U).1
   rw[bV hi]at ab;cases ab;exact bb.new _ (ea hi)
end
section
variable{aE:fL}{K:ac e4}{s t:cW}{f:ac Nat}
def u5.sub{Q BR:dT->cW->Prop}{x:dT}{fr:aR}{st:ay}(hq:∀s,Q x s->∃f t,Sub aE.i0.length f s t∧BR x t)(h:u5 aE Q x fr st):u5 aE BR x fr st:=by
 obtain⟨H,ids,s,bb,az,ae,h⟩:=h;obtain⟨f,t,ai,aB⟩:=hq s h;exact⟨H,_,t,ai.bU az bb,ai.fit az,ai.St ae,aB⟩
def O3{c:dq}(f:ac Nat)(t:cW)(h:Sub aE.i0.length f s t)(k:a1.ok aE ⟨K,.c c,t⟩):a1.ok aE ⟨K,.c c,s⟩:=fun H ids st fr bb az ae=>k H _ st fr (h.bU az bb) (h.fit az) (h.St ae)
def wZ(p:Nat){L:Type _}(P:L->Prop)(T:L->cW)(s:cW):Prop:=∃f l,P l∧Sub p f s (T l)
variable{e:bX}{a:ah}{aP:Nat}{L:Type _}{p:Nat}{c:bA}
def df{b:dq}(P:L->Prop)(T:L->cW)(ff:L->Nat)(f0:ac Nat)(kd:L)(fP:P kd)(hm:ff kd<aE.cB)(h0:Sub aE.i0.length f0 s (T kd))
 (h:∀l,P l->a1.ok aE ⟨.b7 (wZ aE.i0.length (fun l'=>ff l'<ff l∧P l') T)::K,.c b,T l⟩):a1.ok aE ⟨K,.c (.loop b),s⟩:=
 ap3 (fun l s=>P l∧∃f,Sub aE.i0.length f s (T l)) ff kd ⟨fP,f0,h0⟩ hm fun l bz ⟨hp,f,ai⟩=>O3 f _ ai (by
  refine fun H ids st fr bb az ae=>(h l hp H ids st fr bb az ae).mono ?_;rintro x aK st' ⟨bF,dd,bz,et,ef,eU,hq⟩;refine⟨bF,dd,bz,et,ef,eU,?_⟩;cases x with
  |norm=>obtain⟨ny,l',⟨J,U⟩,af⟩:=hq;exact⟨l',J,U,ny,af⟩
  |exit i=>exact hq
  |ret=>exact hq
  |bk v=>exact hq)
def ba{P:L->Prop}{T:L->cW}(f:ac Nat)(l:L)(fP:P l)(h:Sub p f s (T l)):a1.ok aE ⟨.b7 (wZ p P T)::K,.x .norm,s⟩:=⟨f,l,fP,h⟩
def mE{e:dT}(h:aE.Q e s):a1.ok aE ⟨[],.x e,s⟩:=h
def pg{fr:aR}{H:bJ}{ids:ac Nat}{t:Nat}{b:ah}(h:dZ e t=some a)(hn:∀H ids v,den H a ids v->den H b ids v)(ae:c9 fr H ids e):c9 fr H ids ((t,b)::e):=⟨ae.pl,fun j c hj=>by
 rw[rn]at hj;cases hb:Nat.beq t j with
 |true=>rw[hb]at hj;cases hj;rw[<-eL hb];exact hn _ _ _ (ae.get t _ h)
 |false=>rw[hb]at hj;exact ae.get j c hj⟩
def bA.vU:bA->Bool
 |.x _=>true
 |_=>false
def ag(t:Nat)(b:ah){own:ac bp}(h:dZ e t=some a)(iN:a=b)(cp:a1.ok aE ⟨K,c,⟨own,aP,(t,b)::e⟩⟩)(hc:c.vU=false:=by rfl):a1.ok aE ⟨K,c,⟨own,aP,e⟩⟩:=by
 subst iN;cases c with
 |c c=>exact fun H ids st fr bb az aB=>cp H ids st fr bb az (pg h (fun _ _ _ d=>d) aB)
 |o l=>exact fun H ids st fr bb az aB=>cp H ids st fr bb az (pg h (fun _ _ _ d=>d) aB)
 |x e=>cases hc
 |d l bZ a7 bn cj=>exact fun dw ic H ids st fr fM ai bb az aB cr=>cp dw ic H ids st fr fM ai bb az (pg h (fun _ _ _ d=>d) aB) cr
def Bj(t:Nat)(b:ah){own:ac bp}(h:dZ e t=some a)(iN:bY a b)(cp:a1.ok aE ⟨K,c,⟨own,aP,(t,b)::e⟩⟩)(hc:c.vU=false:=by rfl):a1.ok aE ⟨K,c,⟨own,aP,e⟩⟩:=by
 cases c with
 |c c=>exact fun H ids st fr bb az aB=>cp H ids st fr bb az (pg h iN aB)
 |o l=>exact fun H ids st fr bb az aB=>cp H ids st fr bb az (pg h iN aB)
 |x e=>cases hc
 |d l bZ a7 bn cj=>exact fun dw ic H ids st fr fM ai bb az aB cr=>cp dw ic H ids st fr fM ai bb az (pg h iN aB) cr
def cm(t:Nat)(b:ah){own bZ:ac bp}{bn cj:Nat}{a7:bX}{l:ac (bK×cE)}(h:dZ e t=some a)(h0:dZ a7 t=some a)(iN:a=b)(cp:a1.ok aE ⟨K,.d l bZ ((t,b)::a7) bn cj,⟨own,aP,(t,b)::e⟩⟩):a1.ok aE ⟨K,.d l bZ a7 bn cj,⟨own,aP,e⟩⟩:=by
 subst iN;exact fun dw ic H ids st fr fM ai bb az aB cr=>cp dw ic H ids st fr fM ai bb az (pg h (fun _ _ _ d=>d) aB) ⟨cr.len,cr.hle,(pg (fr:=fr) h0 (fun _ _ _ d=>d) ⟨aB.pl,cr.gm⟩).get,cr.ry,cr.yr,cr.bZ,cr.old,cr.top⟩
def iC{own:ac bp}{n:Nat}{cy:bX}(h:kG [] cy e)(hp:pinned p [] 0=true:=by rfl):Sub p [] ⟨own,n,e⟩ ⟨[],0,cy⟩:=⟨zdI,rfl,trivial,h,hp⟩
end
section
variable{aE:fL}{K:ac e4}{own bP:ac bp}{aP cc:Nat}{e:bX}
variable{o:dg}{l:ac bK}{a:ah}
def e7{d:Tmp}(h:fA aE.call o ⟨own,aP,e⟩ a bP cc)(k:a1.ok aE ⟨K,.o l,⟨bP,cc,(d,a)::e⟩⟩):a1.ok aE ⟨K,.o (⟨some d,o,none⟩::l),⟨own,aP,e⟩⟩:=Jl (d:=some d) h k
def ap6(h:fA aE.call o ⟨own,aP,e⟩ a bP cc)(k:a1.ok aE ⟨K,.o l,⟨bP,cc,e⟩⟩):a1.ok aE ⟨K,.o (⟨none,o,none⟩::l),⟨own,aP,e⟩⟩:=Jl (d:=none) h k
end
section
variable{call:bO}{s:cW}{x y i:bi}{a b:ah}
variable{z j k:Nat}{α:Type}{el:ce}{a3:Bool}{q:Nat}{H:bJ}{ids:ac Nat}{ds:ac ah}{R:α->ac ah}{l:ac α}{w:α}
def jO{o:dg}(h:∀H ids st fr,Fit H ids st s.own s.n->c9 fr H ids s.env->∃v,den H a ids v∧bR call o fr st= .ok v fr st):fA call o s a s.own s.n:=fun H ids st fr az ae=>
 let⟨v,J,U⟩:=h H ids st fr az ae
 ⟨v,st,ids,H,U,az,J,dp.refl _,di.refl _,fun _ _ _ B=>B,b5 _,fun _ _ _=>rfl⟩
def Xd{o n c:Nat}{cp:d7}(aa:bw s.env x=some (.bj k z o n c))(hi:bw s.env i=some (.i cp (j:Int)))(hj:j<n):fA call (.lL z x i) s (.gW k z (o+j) 0) s.own s.n:=jO fun H ids st fr az ae=>by
 obtain⟨b,J,U⟩:=ae.aj aa;have af:fr.aj i= .int cp (j:Int):=ae.aj hi;exact⟨_,⟨b,J,by rw[zan,zaJ]⟩,Ib U af hj⟩
def MT{q:α}{cp:d7}(aa:bw s.env x=some (.c5 z α R l))(hi:bw s.env i=some (.i cp (j:Int)))(hj:l[j]? =some q):fA call (.lL z x i) s (.ip (R q)) s.own s.n:=jO fun H ids st fr az ae=>by
 have af:fr.aj i= .int cp (j:Int):=ae.aj hi;have a4:=(zah.1 hj).1;rcases ae.aj aa with⟨hl,_⟩|⟨b,o,c,vs,el,bd,a3,J,U,ax,a0⟩
 ·subst hl;simp at a4
 ·refine⟨_,⟨b,o+j*z,vs,el,bd,a3,rfl,ax,?_⟩,Ib J af a4⟩;have aq:=a0 j q hj;have hl:=hW aq;rw[<-hl];rw[show(vs.drop (o+j*z)).take ((vs.drop (o+j*z)).take z).length=(vs.drop (o+j*z)).take z by rw[zay,<-List.take_eq_take_min]];exact aq
def pK{st:ay}(az:Fit H ids st s.own s.n)(ab:s.own[k]? =some (.a el a3 z α R l)){b:Nat}(hb:ids[k]? =some b):∃vs,st.h.get b=some (.cells vs el (0,0) a3)∧vs.length=l.length*z∧∀i x,l[i]? =some x->dj H (R x) ids ((vs.drop (i*z)).take z):=(az.own k _ b ab hb).1
def anq(aa:bw s.env x=some (.gW k z j q))(ab:s.own[k]? =some (.a el a3 z α R l))(hj:l[j]? =some w)(hq:(R w)[q]? =some a):fA call (.lP x) s a s.own s.n:=jO fun H ids st fr az ae=>by
 obtain⟨b,J,U⟩:=ae.aj aa;obtain⟨vs,af,ax,a0⟩:=pK az ab J;obtain⟨v,aI,aq⟩:=vm (a0 j w hj) hq;refine⟨v,aq,Ar U af ?_⟩;rw[zaK]at aI;split at aI
 ·rw[zaI]at aI;exact aI
 ·cases aI
def aeo{v:be}(h:vg a=some ds)(hc:rZ ds=true)(d:den H a ids v):dj H ds ids (iu v)∧gZ (iu v)=true:=by
 obtain⟨_,d2⟩:=FJ h d;exact⟨d2,Ce hc d2⟩
def aes{vs ws:ac be}(i:Nat)(aI:(j+1)*z<=vs.length)(hq:q+ws.length<=z):
 ((vs.take (j*z+q)++(ws++vs.drop (j*z+q+ws.length))).drop (i*z)).take z=if i=j then((vs.drop (j*z)).take z).take q++(ws++((vs.drop (j*z)).take z).drop (q+ws.length))else(vs.drop (i*z)).take z:=by
 rw[zan,zaw]at aI;apply zbJ;intro p;rw[zaK,zaI];by_cases hp:p<z
 ·rw[zab hp];have get:∀m,(vs.take (j*z+q)++(ws++vs.drop (j*z+q+ws.length)))[m]? =if m<j*z+q then vs[m]? else if m<j*z+q+ws.length then ws[m-(j*z+q)]? else vs[m]? :=by
   intro m;by_cases J:m<j*z+q
   ·rw[zab J,zbc (by simp;omega),zaK,zab J]
   ·rw[zaa J,zaQ (by simp;omega),zay,zaB (by omega)];by_cases U:m<j*z+q+ws.length
    ·rw[zab U,zbc (by omega)]
    ·rw[zaa U,zaQ (by omega),zaI];congr 1;omega
  rw[get];by_cases sf:i=j
  ·subst sf;rw[zab rfl];by_cases J:p<q
   ·rw[zab (by omega),zbc (by simp;omega),zaK,zab J,zaK,zab hp,zaI]
   ·rw[zaa (by omega),zaQ (by simp;omega)];have e:(((vs.drop (i*z)).take z).take q).length=q:=by simp;omega
    rw[e];by_cases U:p<q+ws.length
    ·rw[zab (by omega),zbc (by omega)];congr 1;omega
    ·rw[zaa (by omega),zaQ (by omega),zaI,zaK,zab (by omega),zaI];congr 1;omega
  ·rw[zaa sf,zaK,zab hp,zaI];have:i*z+p<j*z∨j*z+z<=i*z+p:=by
    rcases Nat.lt_or_gt_of_ne sf with h|h
    ·left;have:(i+1)*z<=j*z:=fq z h;rw[zan,zaw]at this;omega
    ·right;have:(j+1)*z<=i*z:=fq z h;rw[zan,zaw]at this;omega
   rcases this with h|h
   ·rw[zab (by omega)]
   ·rw[zaa (by omega),zaa (by omega)]
 ·rw[zaa hp]
  symm
  rw[zeT];split
  ·simp;omega
  ·simp;omega
def asz{m:Nat}(w':α)(aa:bw s.env x=some (.gW k z j q))(aF:bw s.env y=some a)(hc:vg a=some ds)(hl:ds.length=m)(eN:rZ ds=true)
 (ab:s.own[k]? =some (.a el a3 z α R l)) (hj:l[j]? =some w) (dm:R w'=(R w).take q++(ds++(R w).drop (q+ds.length))) (aJ:q+m<=z):
 fA call (.store m x y) s (.bu []) (s.own.set k (.a el a3 z α R (l.set j w'))) s.n:=fun H ids st fr az ae=>by
 obtain⟨b,J,U⟩:=ae.aj aa;obtain⟨vs,af,ax,a0⟩:=pK az ab J;obtain⟨d2,bE⟩:=aeo hc eN (ae.aj aF);have p8:=hW d2;have a4:=(zah.1 hj).1;have x1:(j+1)*z<=vs.length:=by rw[ax];exact fq z a4
 have ama:=x1;rw[zan,zaw]at ama;refine⟨undef,⟨st.h.set b (.cells (vs.take (j*z+q)++(iu (fr.aj y)++vs.drop (j*z+q+(iu (fr.aj y)).length))) el (0,0) a3),st.al⟩,ids,H,?_,az.gL ab rfl J ⟨_,rfl,?_,?_⟩,⟨[],rfl,rfl⟩,dp.refl _,di.refl _,fun _ _ _ B=>B.gL (zaA J) _,b5 _,?_⟩
 ·have:bR call (.store m x y) fr st=il (fr.aj x) (fun p=>bm p (fun a=>dV (dk (iu (fr.aj y))) m (cond (gZ (iu (fr.aj y))) (st.store a (iu (fr.aj y)) (fun st=>aX.ok undef fr st) .no) .no) .no) .no) .no:=rfl;rw[this,U,qC,Sym.eJ,fo,jC (by omega),bE,cond_true];unfold ay.store ay.gE;rw[Sym.hR,af,kI,gv (b5 _),rB,zab (by show j*z+q+_<=_;omega),jT]
 ·simp only[zaL,zay,zaH,List.length_set];rw[<-ax];omega
 ·intro i p hp;rw[aes i x1 (by omega)];rw[zbu]at hp;by_cases sf:j=i
  ·subst sf;rw[zab rfl,zab a4]at hp;cases hp;rw[zab rfl,dm];exact Lg q (a0 j w hj) d2
  ·rw[zaa sf]at hp;rw[zaa (Ne.symm sf)];exact a0 i p hp
 ·intro fU _ cx;exact ar.hY _ _ (fun e=>cx k (by simp[ky,aa]) (e▸J))
def abJ(w':α)(aa:bw s.env x=some (.gW k 1 j 0))(aF:bw s.env y=some a)(ab:s.own[k]? =some (.a el a3 1 α R l))(dm:R w'=[a])(hj:j<l.length)(hc:tl a=true)(J:∀w,(R w).length=1):
 fA call (.store 1 x y) s (.bu []) (s.own.set k (.a el a3 1 α R (l.set j w'))) s.n:=by
 refine asz (w:=l[j]) w' aa aF (ds:=[a]) ?_ rfl ?_ ab (bV hj) ?_ (by decide)
 ·cases a<;>first|rfl|cases hc|(show(match tl _ with|true=>_|false=>_)=_;rw[hc])
 ·show(tl a&&true)=true;rw[hc];rfl
 ·rw[dm];have:=J l[j];rw[show(R l[j]).drop (0+[a].length)=[] by apply zcf;simp;omega];rfl
end
set_option maxRecDepth 10000
section
variable{call:bO}{s:cW}{x y i:bi}{a b:ah}
def jk(H:bJ)(ids:ac Nat){α:Type}(R:α->ac ah)(z:Nat)(l:ac α)(vs:ac be):Prop:=vs.length=l.length*z∧∀i x,l[i]? =some x->dj H (R x) ids ((vs.drop (i*z)).take z)
variable{α:Type}{z:Nat}{H:bJ}{ids:ac Nat}{vs:ac be}{R:α->ac ah}{l:ac α}
def zw(H:bJ)(ids:ac Nat)(R:α->ac ah)(z:Nat):jk H ids R z [] []:=⟨by simp,fun i x h=>by simp at h⟩
def tm{m:ac α}{ws:ac be}(h:jk H ids R z l vs)(aB:jk H ids R z m ws):jk H ids R z (l++m) (vs++ws):=by
 refine⟨by rw[zaL,zaL,h.1,aB.1,zan],fun i x aa=> ?_⟩;by_cases hi:i<l.length
 ·rw[zbc hi]at aa;have J:=h.2 i x aa;have hle:(i+1)*z<=vs.length:=by rw[h.1];exact fq z hi
  rw[zan,zaw]at hle;rw[zeo (by omega),zda (by simp;omega)];exact J
 ·rw[zaQ (by omega)]at aa;have J:=aB.2 _ x aa;have e:i*z=vs.length+(i-l.length)*z:=by rw[h.1,<-zan];congr 1;omega
  rw[e,<-zbC,List.drop_left];exact J
def FN(h:jk H ids R z l vs)(n:Nat)(hn:n<=l.length):jk H ids R z (l.take n) (vs.take (n*z)):=by
 have Di:n*z<=l.length*z:=fq z hn;refine⟨by rw[zay,zay,h.1,zaB Di,zaB hn],fun i x aa=> ?_⟩;rw[zaK]at aa;split at aa
 ·rename_i hi;have hle:(i+1)*z<=n*z:=fq z hi;rw[zan,zaw]at hle;rw[zen,zdH,zaB (by omega)];exact h.2 i x aa
 ·cases aa
def zv(h:jk H ids R z l vs)(n:Nat):jk H ids R z (l.drop n) (vs.drop (n*z)):=by
 refine⟨by rw[zaH,zaH,h.1,Nat.sub_mul],fun i x aa=> ?_⟩;rw[zaI]at aa;rw[zbC,<-zan];exact h.2 _ x aa
def FM{w:α}(h:dj H (R w) ids vs)(aJ:(R w).length=z):jk H ids R z [w] vs:=by
 have hl:=hW h;refine⟨by simp;omega,fun i x aa=> ?_⟩;cases i with
 |zero=>simp at aa;subst aa;rw[zas,zap,zaF (by omega)];exact h
 |succ i=>simp at aa
theorem Rk{H:bJ}{ids:ac Nat}{α:Type}{R:α->ac ah}{w:α}{im:ac be}(h:dj H (R w) ids im):∀n,jk H ids R im.length (List.replicate n w) (k2 im n)
 |0=>zw _ _ _ _
 |n+1=>by
  have e:k2 im (n+1)=im++k2 im n:=by show gC im (k2 im n)=_;rw[qM]
  rw[e,zep,<-List.singleton_append];exact tm (FM h (by rw[hW h])) (Rk h n)
theorem K7{H:bJ}{ids:ac Nat}{α:Type}{R:α->ac ah}{z:Nat}(aJ:∀w,(R w).length=z):∀{l:ac α} {vs:ac be},dj H (l.flatMap R) ids vs->jk H ids R z l vs
 |[],vs,d=>by cases d;exact zw _ _ _ _
 |w::l,vs,d=>by
  rw[zdJ]at d;have J:=vn z d;have U:=oY z d;rw[zeq (aJ w)]at J;rw[zdK (aJ w)]at U;rw[<-zbh z vs];exact tm (l:=[w]) (FM J (aJ w)) (K7 aJ U)
def mk{el:ce}{c1 n c:Nat}{im:ac be}{k k':d7}(R:α->ac ah)(w:α)(aa:bw s.env x=some (.i k (n:Int)))(aF:bw s.env y=some (.i k' (c:Int)))(aJ:im.length=z)(dm:AQ im=R w)(hn:n<=c)(hc:c*(c1+1)<=1099511627776):
 fA call (.rr el c1 im x y) s (.bj s.n z 0 n c) (s.own++[.a el false z α R (List.replicate c w)]) (s.n+1):=fun H ids st fr az ae=>by
 have J:fr.aj x= .int k (n:Int):=ae.aj aa;have U:fr.aj y= .int k' (c:Int):=ae.aj aF;subst aJ;have aq:=xl H (ids++[st.al]) im;rw[dm]at aq;have jG:=Rk aq c;refine⟨_,_,_,H,?_,az.add (ej:=.cells (k2 im c) el (0,0) false) ⟨_,rfl,jG.1,jG.2⟩,⟨st.al,by rw[<-az.len,zaQ (b5 _)];simp,rfl⟩,dp.refl _,di.app _ _,fun _ _ _ B=>B.add _,zbo _,fun b hb _=>AU hb⟩;show wm el c1 im x y call fr st=_;unfold wm;rw[J,U,nf,nf,pn,pn,gv hn,gv (show Nat.mul c (Nat.succ c1)<=2^40 from hc),gw,zas]
def qJ(s:cW)(x:bi){α:Type}(R:α->ac ah)(z:Nat)(l:ac α):Prop:=∀(H:bJ) (ids:ac Nat) (st:ay) (fr:aR),Fit H ids st s.own s.n->c9 fr H ids s.env->
 (l=[]∧∃c,fr.aj x= .slice none 0 c)∨∃b o c vs el bd a3,fr.aj x= .slice (some ⟨b,o,none⟩) l.length c∧st.h.get b=some (.cells vs el bd a3)∧l.length*z<=(vs.drop o).length∧jk H ids R z l ((vs.drop o).take (l.length*z))∧gZ ((vs.drop o).take (l.length*z))=true
variable{o:Nat}
theorem Qr:∀(vs:ac be) (n:Nat),gZ vs=true->gZ (vs.take n)=true
 |[],n,_=>by simp[gZ]
 |v::vs,0,_=>rfl
 |v::vs,n+1,h=>by
  have h:cond (mO v) (gZ vs) false=true:=h;show cond (mO v) (gZ (vs.take n)) false=true;cases aI:mO v with
  |false=>rw[aI]at h;cases h
  |true=>rw[aI]at h;exact Qr vs n h
theorem Qq:∀(vs ws:ac be),gZ vs=true->gZ ws=true->gZ (vs++ws)=true
 |[],ws,_,h=>h
 |v::vs,ws,h,aB=>by
  have h:cond (mO v) (gZ vs) false=true:=h;show cond (mO v) (gZ (vs++ws)) false=true;cases aI:mO v with
  |false=>rw[aI]at h;cases h
  |true=>rw[aI]at h;exact Qq vs ws h aB
def ar7{k n c:Nat}{el:ce}{cs:ac ah}(l:ac α)(aa:bw s.env x=some (.bj k z o l.length c))(ao:o=0)(ab:s.own[k]? =some (.c el cs))(eN:cs=l.flatMap R)(aJ:∀w,(R w).length=z)(hc:rZ cs=true)(hn:l.length=n):qJ s x R z l:=by
 intro H ids st fr az ae;subst ao;obtain⟨b,J,U⟩:=ae.aj aa;obtain⟨⟨vs,af,d⟩,_⟩:=az.own k _ b ab J;rw[eN]at d;have jG:=K7 aJ d;have bE:=Ce (eN▸hc) d;rw[zas]at U;refine .inr ⟨b,0,c,vs,el,_,_,U,af,by simp[jG.1],?_,Qr _ _ (by simpa using bE)⟩;rw[zap,zaF (by rw[jG.1];exact b5 _)];exact jG
def amA(aJ:∀w,(R w).length=z):∀{l:ac α},(∀i x,l[i]? =some x->dj H (R x) [] ((vs.drop (o+i*z)).take z))->∀n,n<=l.length->n*z<=(vs.drop o).length∧jk H [] R z (l.take n) ((vs.drop o).take (n*z)):=by
 intro l h n
 induction n with
 |zero=>intro _;exact⟨by simp,by simpa using zw _ _ _ _⟩
 |succ n a8=>
  intro hn;obtain⟨J,U⟩:=a8 (by omega);have aO:l[n]? =some l[n]:=bV (by omega);have af:=h n _ aO;have hl:=hW af;rw[aJ,zay]at hl;rw[<-zbC,zaH]at hl;have hle:(n+1)*z<=(vs.drop o).length:=by
   rw[zan,zaw];rcases zcH z with h0|h0
   ·subst h0;simp
   ·omega
  refine⟨hle,?_⟩;rw[zbs (by omega)];have e:(vs.drop o).take ((n+1)*z)=(vs.drop o).take (n*z)++(vs.drop (o+n*z)).take z:=by
   rw[zan,zaw,List.take_add,zbC]
  rw[e];exact tm U (FM af (aJ _))
def FL{bF:bJ}{i j:ac Nat}(hh:dp H bF)(hi:di i j)(h:jk H i R z l vs):jk bF j R z l vs:=⟨h.1,fun k x aa=>l9 hh _ hi (h.2 k x aa)⟩
theorem Rl{H:bJ}{ids:ac Nat}{α:Type}{R:α->ac ah}{z:Nat}(aJ:∀w,(R w).length=z)(hc:∀w,rZ (R w)=true):∀{l:ac α} {vs:ac be},jk H ids R z l vs->gZ vs=true
 |[],vs,h=>by
  have:vs=[]:=zbz (by rw[h.1];simp);subst this;rfl
 |w::l,vs,h=>by
  rw[<-zbh z vs];have J:=h.2 0 w (by simp);rw[zas,zap]at J;have U:=zv h 1;rw[zaw]at U;exact Qq _ _ (Ce (hc w) J) (Rl aJ hc (l:=l) U)
def JG(aa:bw s.env x=some (.c5 z α R l))(aJ:∀w,(R w).length=z)(hc:∀w,rZ (R w)=true):qJ s x R z l:=by
 intro H ids st fr az ae;rcases ae.aj aa with⟨hl,J⟩|⟨b,o,c,vs,el,bd,a3,J,U,ax,a0⟩
 ·exact .inl ⟨hl,0,J⟩
 ·obtain⟨aM,aN⟩:=amA aJ a0 l.length (b5 _);rw[zcb]at aN;exact .inr ⟨b,o,c,vs,el,bd,a3,J,az.le _ _ ax,aM,FL (dp.refl _) (di.nil _) aN,Rl aJ hc aN⟩
def u7(call:bO)(el:ce)(c1:Nat)(s:cW)(y:bi){α:Type}(R:α->ac ah)(z:Nat)(l:ac α):Prop:=∀(H:bJ) (ids:ac Nat) (st:ay) (fr:aR),Fit H ids st s.own s.n->c9 fr H ids s.env->∀(x:bi) (p:am Addr) (n c:Nat),fr.aj x= .slice p n c->
 ∃new,jk H ids R z l new∧gZ new=true∧bR call (.app el z c1 x y) fr st=iK fr st el z c1 p n c l.length new
variable{a9 c1:Nat}{el:ce}{k n c:Nat}{m:ac α}
def B2(ai:qJ s y R a9 l):u7 call el c1 s y R a9 l:=fun H ids st fr az ae x p n c aa=>by
 have e:bR call (.app el a9 c1 x y) fr st=hD (fr.aj x) (fun base len cap=>hD (fr.aj y) (fun b n _=>bm b (fun b=>st.load b (Nat.mul n a9) (fun new=>cond (gZ new) (iK fr st el a9 c1 base len cap n new) .no) .no) (dV n 0 (iK fr st el a9 c1 base len cap 0 []) .no)) (s3 (fr.aj y) (iK fr st el a9 c1 base len cap 0 []) (hE (fr.aj y) (fun s=>dV a9 1 (iK fr st el a9 c1 base len cap (dk s.data.toList) (kZ s.data.toList)) .no) .no))) .no:=rfl;rw[e,aa,nY];rcases ai H ids st fr az ae with⟨rfl,b6,J⟩|⟨b,o,b6,vs,R3,bd,a3,J,U,af,ax,a0⟩
 ·refine⟨[],zw _ _ _ _,rfl,?_⟩;rw[J,nY,Sym.hR,jC rfl];rfl
 ·refine⟨_,ax,a0,?_⟩;rw[J,nY,Sym.eJ];show st.load ⟨b,o,none⟩ (l.length*a9) _ _=_;unfold ay.load ay.gE;rw[Sym.hR,U,kI,r1 af,a0];rfl
def Qw(aa:bw s.env x=some .nl)(ai:u7 call el c1 s y R a9 l)(h0:l≠[])(hb:(5*l.length+1792)*(c1+1)<=1125899906842624):
 fA call (.app el a9 c1 x y) s (.bj s.n a9 0 l.length l.length) (s.own++[.a el true a9 α R l]) (s.n+1):=fun H ids st fr az ae=>by
 obtain⟨new,J,U,af⟩:=ai H ids st fr az ae x _ _ _ (show fr.aj x= .slice none 0 0 from ae.aj aa);have kM:=FL (dp.refl H) (di.app ids [st.al]) J;have hl:0<l.length:=zbg.2 h0;refine⟨_,_,_,H,?_,az.add (ej:=.cells new el (0,0) true) ⟨_,rfl,kM.1,kM.2⟩,⟨st.al,by rw[<-az.len,zaQ (b5 _)];simp,rfl⟩,dp.refl _,di.app _ _,fun _ _ _ B=>B.add _,zbo _,fun b hb _=>AU hb⟩;rw[af];unfold iK;simp only[zdb,zdc,zav];rw[gv (show(5*l.length+1792)*Nat.succ c1<=2^50 from hb),Sym.hR,jC rfl,jC rfl,r5 (by omega),gw,zas]
def Qv(aa:bw s.env x=some (.bj k a9 0 n c))(ab:s.own[k]? =some (.a el true a9 α R l))(ai:u7 call el c1 s y R a9 m)(h0:m≠[])(hn:n<=l.length)(kv:n<=c)(hc:c<=l.length)(hb:(5*(n+m.length)+1792)*(c1+1)<=1125899906842624):
 fA call (.app el a9 c1 x y) s (.bj s.n a9 0 (n+m.length) (n+m.length)) (s.own.set k .x++[.a el true a9 α R (l.take n++m)]) (s.n+1):=fun H ids st fr az ae=>by
 obtain⟨b,aM,aN⟩:=ae.aj aa;obtain⟨vs,bf,cb,cQ⟩:=pK az ab aM;obtain⟨new,J,U,af⟩:=ai H ids st fr az ae x _ _ _ aN;have hl:0<m.length:=zbg.2 h0;have p3:Fit H ids ⟨st.h.set b .dead,st.al⟩ (s.own.set k .x) s.n:=az.gL ab rfl aM trivial;have jG:=tm (FN ⟨cb,cQ⟩ n hn) J;have kM:=FL (dp.refl H) (di.app ids [st.al]) jG;have GV:c*a9<=l.length*a9:=fq a9 hc;have Di:n*a9<=l.length*a9:=fq a9 hn;have auA:b<st.al:=az.lt b (zaA aM);refine⟨.slice (some ⟨st.al,0,none⟩) (n+m.length) (n+m.length),_,_,H,?_,p3.add (ej:=.cells (vs.take (n*a9)++new) el (0,0) true) ⟨_,rfl,kM.1,kM.2⟩,⟨st.al,by rw[<-az.len,zaQ (b5 _)];simp,by rw[zas]⟩,dp.refl _,di.app _ _,fun _ _ _ B=>(B.gL (zaA aM) .dead).add _,zbo _,?_⟩
 ·rw[af];unfold iK ay.gE;simp only[zdb,zdc,Sym.eJ,Sym.hR,bf,kI,zas];rw[gv (show(5*(n+m.length)+1792)*Nat.succ c1<=2^50 from hb),gv (b5 _),gv kv,gv (by rw[fo,cb];show 0+c*a9<=_;omega),jC rfl,r5 (by omega),cond_true,r1 (by simp;omega),jT,gw,qM,zap]
 ·intro fU cY cx;show((st.h.set b .dead).set st.al _).get fU=_;rw[ar.hY _ _ (by omega)];exact ar.hY _ _ (fun e=>cx k (by simp[ky,aa]) (e▸aM))
def adx(aa:bw s.env x=some (.bj k a9 0 n c))(ab:s.own[k]? =some (.a el false a9 α R l))(ai:u7 call el c1 s y R a9 m)(h0:m≠[])(hn:n+m.length<=c)(hc:c<=l.length)(hb:(5*(n+m.length)+1792)*(c1+1)<=1125899906842624):
 fA call (.app el a9 c1 x y) s (.bj k a9 0 (n+m.length) c) (s.own.set k (.a el false a9 α R (l.take n++(m++l.drop (n+m.length))))) s.n:=fun H ids st fr az ae=>by
 obtain⟨b,aM,aN⟩:=ae.aj aa;obtain⟨vs,bf,cb,cQ⟩:=pK az ab aM;obtain⟨new,J,U,af⟩:=ai H ids st fr az ae x _ _ _ aN;have hl:0<m.length:=zbg.2 h0;have jG:=tm (FN ⟨cb,cQ⟩ n (by omega)) (tm J (zv ⟨cb,cQ⟩ (n+m.length)));have GV:c*a9<=l.length*a9:=fq a9 hc;have Di:(n+m.length)*a9<=l.length*a9:=fq a9 (by omega);have e:n*a9+new.length=(n+m.length)*a9:=by rw[J.1,zan]
 refine⟨.slice (some ⟨b,0,none⟩) (n+m.length) c,_,ids,H,?_,az.gL ab rfl aM (ej:=.cells (vs.take (n*a9)++(new++vs.drop (n*a9+new.length))) el (0,0) false) ⟨_,rfl,by rw[e];exact jG.1,by rw[e];exact jG.2⟩,⟨b,aM,by rw[zas]⟩,dp.refl _,di.refl _,fun _ _ _ B=>B.gL (zaA aM) _,b5 _,?_⟩
 ·rw[af];unfold iK ay.gE;simp only[zdb,zdc,Sym.eJ,Sym.hR,bf,kI,zas,zav];rw[gv (show(5*(n+m.length)+1792)*Nat.succ c1<=2^50 from hb),gv (b5 _),gv (by omega),gv (by rw[fo,cb];exact GV),jC rfl,r5 (by omega),cond_false,gv hn,rB,zab (by rw[e,cb];exact Di),jT]
 ·intro fU _ cx;exact ar.hY _ _ (fun e=>cx k (by simp[ky,aa]) (e▸aM))
end
section
variable{call:bO}{s:cW}{x y i:bi}{a b:ah}
def e8(s:cW)(x:am bi)(dflt n:Nat):Prop:=
 match x with
 |none=>n=dflt
 |some x=>∃cp,bw s.env x=some (.i cp (n:Int))
variable{n p q:Nat}{aL hi:am bi}{k:d7}{z:Nat}{α:Type}{m:Int}{H:bJ}{ids:ac Nat}{fr:aR}{k':d7}{R:α->ac ah}{l:ac α}
def e8.aj{x:am bi}{dflt y:Nat}(h:e8 s x dflt n)(ae:c9 fr H ids s.env)(aF:n<=y)(k:Nat->aX):e5 fr x dflt y k=k n:=by
 cases x with
 |none=>cases h;rfl
 |some x=>
  obtain⟨cp,h⟩:=h;have h:fr.aj x= .int cp (n:Int):=ae.aj h;show gj (fr.aj x) (fun _ n=>g9 n (fun n=>ed n y (k n) .no) .no) .no=_;rw[h,nf,pn,gv aF]
def Cc(fr:aR)(d y:Nat)(k:Nat->aX):e5 fr none d y k=k d:=rfl
def abw(aa:bw s.env x=some (.c5 z α R l))(fH:e8 s aL 0 p)(gu:e8 s hi l.length q)(hp:p<=q)(hq:q<=l.length)(ae:c9 fr H ids s.env):
 ∃v,den H (.c5 z α R ((l.drop p).take (q-p))) ids v∧∀st:ay,(∀b o,H b=some o->st.h.get b=some o)->bR call (.na z x aL hi none) fr st= .ok v fr st:=by
 have hl:((l.drop p).take (q-p)).length=q-p:=by simp;omega
 have e:∀st:ay,bR call (.na z x aL hi none) fr st=hD (fr.aj x) (fun b len cap=>bm b (fun a=>st.gE a (fun _ _ _ a3=>cond a3 (ed len cap (e5 fr hi len len fun h=>e5 fr aL 0 h fun l=>.ok (.slice (some (a.add (l*z))) (h-l) (cap-l)) fr st) .no) (e5 fr none cap cap fun m=>e5 fr hi len m fun h=>e5 fr aL 0 h fun l=>.ok (.slice (some (dV m l a (a.add (l*z)))) (h-l) (m-l)) fr st)) .no) (e5 fr none cap cap fun m=>e5 fr hi len m fun h=>e5 fr aL 0 h fun l=>.ok (.slice none (h-l) (m-l)) fr st)) .no:=fun st=>rfl;rcases ae.aj aa with⟨hn,J⟩|⟨b,o,c,vs,el,bd,a3,J,U,ax,a0⟩
 ·subst hn;simp at hq;subst hq;have:p=0:=by omega
  subst this;refine⟨.slice none 0 0,.inl ⟨by simp,rfl⟩,fun st _=> ?_⟩;rw[e,J,nY,Sym.hR];rw[Cc,e8.aj (dflt:=0) gu ae (b5 _),e8.aj fH ae (b5 _)]
 ·have e2:∀st:ay,(∀b o,H b=some o->st.h.get b=some o)->bR call (.na z x aL hi none) fr st=cond a3 (ed l.length c (e5 fr hi l.length l.length fun h=>e5 fr aL 0 h fun l=>.ok (.slice (some ((⟨b,o,none⟩:Addr).add (l*z))) (h-l) (c-l)) fr st) .no) (e5 fr none c c fun m=>e5 fr hi l.length m fun h=>e5 fr aL 0 h fun l=>.ok (.slice (some (dV m l ⟨b,o,none⟩ ((⟨b,o,none⟩:Addr).add (l*z)))) (h-l) (m-l)) fr st):=fun st hle=>by
   rw[e,J,nY,Sym.eJ];unfold ay.gE;rw[Sym.hR,hle _ _ ax,kI]
  have chunk:∀i x,((l.drop p).take (q-p))[i]? =some x->dj H (R x) [] ((vs.drop (o+p*z+i*z)).take z):=fun i x aa=>by
   rw[zaK]at aa;split at aa
   ·rw[zaI]at aa;have:=a0 _ x aa;rw[zan]at this;rw[zbS];exact this
   ·cases aa
  cases a3 with
  |true=>
   exact⟨_,.inr ⟨b,o+p*z,c-p,vs,el,bd,true,by rw[hl],by rw[hl];omega,ax,chunk⟩,fun st hle=>by rw[e2 st hle,cond_true,gv U,e8.aj gu ae hq,e8.aj fH ae hp,pI]⟩
  |false=>
   have bW:∀st:ay,(∀b o,H b=some o->st.h.get b=some o)->bR call (.na z x aL hi none) fr st= .ok (.slice (some (dV c p ⟨b,o,none⟩ ((⟨b,o,none⟩:Addr).add (p*z)))) (q-p) (c-p)) fr st:=fun st hle=>by
    rw[e2 st hle,cond_false,Cc,e8.aj gu ae (by omega),e8.aj fH ae hp]
   by_cases hc:c=p
   ·have MF:q=p:=by omega
    refine⟨_,.inr ⟨b,o,c-p,vs,el,bd,false,by rw[hl],by rw[hl];omega,ax,fun i x aa=> ?_⟩,fun st hle=>by rw[bW st hle,jC hc]⟩;rw[MF]at aa;simp at aa
   ·exact⟨_,.inr ⟨b,o+p*z,c-p,vs,el,bd,false,by rw[hl],by rw[hl];omega,ax,chunk⟩,fun st hle=>by rw[bW st hle,r5 hc,pI]⟩
def Pq(aa:bw s.env x=some (.c5 z α R l))(fH:e8 s aL 0 p)(gu:e8 s hi l.length q)(hp:p<=q)(hq:q<=l.length):
 fA call (.na z x aL hi none) s (.c5 z α R ((l.drop p).take (q-p))) s.own s.n:=jO fun H ids st fr az ae=>
 let⟨v,J,U⟩:=abw aa fH gu hp hq ae
 ⟨v,J,U st az.le⟩
def ar2{k o c:Nat}{el:ce}{a3:Bool}(aa:bw s.env x=some (.bj k z o n c))(ab:s.own[k]? =some (.a el a3 z α R l))(fH:e8 s aL 0 p)(gu:e8 s hi n q)(hp:p<=q)(hq:q<=n)(hn:n<=c)(hc:p<c∨p=0):
 fA call (.na z x aL hi none) s (.bj k z (o+p) (q-p) (c-p)) s.own s.n:=jO fun H ids st fr az ae=>by
 have e:bR call (.na z x aL hi none) fr st=hD (fr.aj x) (fun b len cap=>bm b (fun a=>st.gE a (fun _ _ _ a3=>cond a3 (ed len cap (e5 fr hi len len fun h=>e5 fr aL 0 h fun l=>.ok (.slice (some (a.add (l*z))) (h-l) (cap-l)) fr st) .no) (e5 fr none cap cap fun m=>e5 fr hi len m fun h=>e5 fr aL 0 h fun l=>.ok (.slice (some (dV m l a (a.add (l*z)))) (h-l) (m-l)) fr st)) .no) (e5 fr none cap cap fun m=>e5 fr hi len m fun h=>e5 fr aL 0 h fun l=>.ok (.slice none (h-l) (m-l)) fr st)) .no:=rfl;obtain⟨b,aM,aN⟩:=ae.aj aa;obtain⟨vs,bf,cb,cQ⟩:=pK az ab aM;refine⟨_,⟨b,aM,rfl⟩,?_⟩;rw[e,aN,nY,Sym.eJ];unfold ay.gE;rw[Sym.hR,bf,kI];cases a3 with
 |true=>rw[cond_true,gv hn,e8.aj gu ae hq,e8.aj fH ae hp,pI,zan]
 |false=>
  rw[cond_false];rw[Cc,e8.aj gu ae (by omega),e8.aj fH ae hp];by_cases fZ:c=p
  ·rw[jC fZ];have:p=0:=by omega
   subst this;rw[zaJ]
  ·rw[r5 fZ,pI,zan]
def amX{l:ac bv}{j:Nat}{cp:d7}{qQ:bv}(aa:bw s.env x=some (.s l))(hi:bw s.env i=some (.i cp (j:Int)))(hj:l[j]? =some qQ):fA call (.uc x i) s (.i .u8 (qQ.toNat:Int)) s.own s.n:=jO fun H ids st fr az ae=>by
 have J:fr.aj x= .string ⟨⟨l⟩⟩:=ae.aj aa;have U:fr.aj i= .int cp (j:Int):=ae.aj hi;refine⟨_,rfl,?_⟩;have e:bR call (.uc x i) fr st=hE (fr.aj x) (fun s=>gj (fr.aj i) (fun _ j=>g9 j (fun j=>iw s.data.toList j 1 (fun bU=>one bU (fun b=>.ok (.int .u8 (.ofNat b.toNat)) fr st) .no) .no) .no) .no) .no:=rfl;obtain⟨a4,aI⟩:=zah.1 hj;rw[e,J,BG,U,nf,pn];show iw l j 1 _ _=_;rw[zC (by omega),hk a4,aI];rfl
def ar4{l:ac bv}(aa:bw s.env x=some (.s l))(fH:e8 s aL 0 p)(gu:e8 s hi l.length q)(hp:p<=q)(hq:q<=l.length):fA call (.sV x aL hi) s (.s ((l.drop p).take (q-p))) s.own s.n:=jO fun H ids st fr az ae=>by
 have J:fr.aj x= .string ⟨⟨l⟩⟩:=ae.aj aa;refine⟨_,rfl,?_⟩;have e:bR call (.sV x aL hi) fr st=hE (fr.aj x) (fun s=>e5 fr hi (dk s.data.toList) (dk s.data.toList) fun h=>e5 fr aL 0 h fun l=>iw s.data.toList l (h-l) (fun bU=>.ok (.string ⟨⟨bU⟩⟩) fr st) .no) .no:=rfl;rw[e,J,BG];show e5 fr hi (dk l) (dk l) _=_;rw[fo,e8.aj gu ae hq,e8.aj fH ae hp,zC (by show p+(q-p)<=l.length;omega)]
def aej{l m:ac bv}(aa:bw s.env x=some (.s l))(aF:bw s.env y=some (.s m))(hl:l.length+m.length<=1099511627776):fA call (.bin .add x y) s (.s (l++m)) s.own s.n:=jO fun H ids st fr az ae=>by
 have J:fr.aj x= .string ⟨⟨l⟩⟩:=ae.aj aa;have U:fr.aj y= .string ⟨⟨m⟩⟩:=ae.aj aF;refine⟨_,rfl,?_⟩;rw[Ea,J,U,Sc];show ed (dk l+dk m) (2^40) _ _=_;rw[fo,fo,gv (show _<=2^40 from hl),qM]
def apM{n:Int}(aa:bw s.env x=some (.i k m))(aF:bw s.env y=some (.i k n))(hn:n≠0):fA call (.bin .quo x y) s (.i k (k.wrap (m.tdiv n))) s.own s.n:=jO fun H ids st fr az ae=>
 ⟨_,rfl,AP (by decide) (by decide) (ae.aj aa) (ae.aj aF) (by show(if n=0 then none else _)=_;rw[zaa hn])⟩
def aqh{n:Int}(aa:bw s.env x=some (.i k m))(aF:bw s.env y=some (.i k n))(hn:n≠0):fA call (.bin .rem x y) s (.i k (m.tmod n)) s.own s.n:=jO fun H ids st fr az ae=>
 ⟨_,rfl,AP (by decide) (by decide) (ae.aj aa) (ae.aj aF) (by show(if n=0 then none else _)=_;rw[zaa hn])⟩
def aqU(aa:bw s.env x=some (.i k m))(aF:bw s.env y=some (.i k' (n:Int)))(hn:n<=k.bits):fA call (.bin .shl x y) s (.i k (k.wrap (m*2^n))) s.own s.n:=jO fun H ids st fr az ae=>
 ⟨_,rfl,by rw[JB (ae.aj aa) (ae.aj aF),zaB hn]⟩
def aq1{m:Nat}(aa:bw s.env x=some (.i k (m:Int)))(aF:bw s.env y=some (.i k' (n:Int)))(hn:n<=k.bits):fA call (.bin .shr x y) s (.i k ((m/2^n:Nat):Int)) s.own s.n:=jO fun H ids st fr az ae=>by
 obtain⟨v,J,U⟩:=KO (call:=call) (k:=k) (a:=(m:Int)) (b:=(n:Int)) (r:=.i k ((m/2^n:Nat):Int)) (by show(match Nat.ble n k.bits with|true=>_|false=>_)=_;rw[zcR hn]) (ae.aj aa) (ae.aj aF);exact⟨v,J _ _,U st⟩
end
def kp(H:bJ)(st:ay)(b:Nat):bJ:=fun c=>open Classical in if c=b then st.h.get b else H c
section
variable{H:bJ}{ids:ac Nat}{st:ay}{own:ac bp}{n:Nat}
variable{k b:Nat}{o:bp}
def CL(az:Fit H ids st own n)(ab:own[k]? =some o)(hl:o.live=true)(hb:ids[k]? =some b):dp H (kp H st b):=fun c q hc=>by
 unfold kp;rw[zaa]
 ·exact hc
 ·intro e;rw[e,(az.own k o b ab hb).2 hl]at hc;cases hc
def Fit.kp(az:Fit H ids st own n)(ab:own[k]? =some o)(hl:o.live=true)(hb:ids[k]? =some b):Fit (Go.ak.kp H st b) ids st (own.set k .x) n:=by
 refine⟨az.wf,?_,by simp[az.cI],az.len,az.de,az.lt,?_⟩
 ·intro c q hc;unfold Go.ak.kp at hc;split at hc
  ·rename_i e;rw[e];exact hc
  ·exact az.le c q hc
 ·intro j q c hj hc;rw[zbu]at hj;by_cases mi:k=j
  ·rw[zab mi]at hj;split at hj<;>cases hj;exact⟨trivial,fun h=>by cases h⟩
  ·rw[zaa mi]at hj;obtain⟨J,U⟩:=az.own j q c hj hc;refine⟨xk (CL az ab hl hb) (di.refl _) J,fun hq=> ?_⟩;unfold Go.ak.kp;rw[zaa]
   ·exact U hq
   ·intro e;subst e;have aM:=zah.1 hb;have aN:=zah.1 hc;exact mi ((zcF (h₀:=aM.1) (h₁:=aN.1) az.de).1 (aM.2.trans aN.2.symm))
def eh.kp{cA:bJ}{i0:ac Nat}{aH:ay}(bb:eh cA i0 aH H ids st)(az:Fit H ids st own n)(ab:own[k]? =some o)(hl:o.live=true)(hb:ids[k]? =some b):eh cA i0 aH (Go.ak.kp H st b) ids st:=by
 refine⟨bb.hle.trans (CL az ab hl hb),?_,bb.h5,bb.al,bb.mn,bb.new⟩;intro c hc hn;unfold Go.ak.kp;rw[zaa]
 ·exact bb.hold c hc hn
 ·intro e;subst e;rcases bb.new _ (zaA hb)with h|h
  ·exact hn h
  ·omega
end
section
variable{aE:fL}{K:ac e4}{own:ac bp}{aP:Nat}{e:bX}
variable{z:Nat}{el:ce}{α:Type}{k o n c:Nat}{a3:Bool}{p:ac bK}{cs:ac ah}{R:α->ac ah}{l:ac α}
def Su{t:Nat}(l':ac α)(aV:dZ e t=some (.bj k z o n c))(ab:own[k]? =some (.a el a3 z α R l))(hl:(l.drop o).take n=l')(hn:l'.length=n)(hc:n<=c)(hp:∀x,iU (R x)=true)
 {H:bJ} {ids:ac Nat} {st:ay} {fr:aR} (bb:eh aE.cA aE.i0 aE.aH H ids st) (az:Fit H ids st own aP) (ae:c9 fr H ids e):
 ∃bF,eh aE.cA aE.i0 aE.aH bF ids st∧Fit bF ids st (own.set k .x) aP∧c9 fr bF ids ((t,.c5 z α R l')::e):=by
 obtain⟨b,aM,aN⟩:=ae.get t _ aV;obtain⟨⟨vs,bf,cb,cQ⟩,_⟩:=az.own k _ b ab aM;have hle:=CL az ab rfl aM;refine⟨kp H st b,bb.kp az ab rfl aM,az.kp ab rfl aM,(ae.mono hle (di.refl _)).pl,fun j q hj=> ?_⟩;rw[rn]at hj;cases hb:Nat.beq t j with
 |false=>rw[hb]at hj;exact(ae.mono hle (di.refl _)).get j q hj
 |true=>
  rw[hb]at hj;cases hj;rw[<-eL hb];refine .inr ⟨b,o*z,c,vs,el,(0,0),a3,by rw[hn];exact aN,by rw[hn];exact hc,by unfold kp;rw[zab rfl];exact bf,fun i x aa=> ?_⟩;rw[<-hl,zaK]at aa;split at aa
  ·rw[zaI]at aa;rw[<-zan];exact l9 hle _ (di.refl _) (pV _ (hp x) (cQ _ x aa) [])
  ·cases aa
def ap0(t:Nat)(l':ac α){p:dq}(aV:dZ e t=some (.bj k z o n c))(ab:own[k]? =some (.a el a3 z α R l))(hl:(l.drop o).take n=l')(hn:l'.length=n)(hc:n<=c)(hp:∀x,iU (R x)=true)
 (cp:a1.ok aE ⟨K,.c p,⟨own.set k .x,aP,(t,.c5 z α R l')::e⟩⟩):a1.ok aE ⟨K,.c p,⟨own,aP,e⟩⟩:=fun H ids st fr bb az ae=>by
 obtain⟨bF,J,U,af⟩:=Su l' aV ab hl hn hc hp bb az ae;exact cp bF ids st fr J U af
def aaz(t:Nat)(l':ac α)(aV:dZ e t=some (.bj k z o n c))(ab:own[k]? =some (.a el a3 z α R l))(hl:(l.drop o).take n=l')(hn:l'.length=n)(hc:n<=c)(hp:∀x,iU (R x)=true)
 (cp:a1.ok aE ⟨K,.o p,⟨own.set k .x,aP,(t,.c5 z α R l')::e⟩⟩):a1.ok aE ⟨K,.o p,⟨own,aP,e⟩⟩:=fun H ids st fr bb az ae=>by
 obtain⟨bF,J,U,af⟩:=Su l' aV ab hl hn hc hp bb az ae;exact cp bF ids st fr J U af
def adK(l:ac α)(ab:own[k]? =some (.c el cs))(eN:cs=l.flatMap R)(aJ:∀w,(R w).length=z){H:bJ}{ids:ac Nat}{st:ay}(az:Fit H ids st own aP):Fit H ids st (own.set k (.a el false z α R l)) aP:=by
 refine⟨az.wf,az.le,by simp[az.cI],az.len,az.de,az.lt,?_⟩;intro j q c hj hc;rw[zbu]at hj;by_cases mi:k=j
 ·subst mi;rw[zab rfl]at hj;split at hj<;>cases hj;obtain⟨⟨vs,af,d⟩,ax⟩:=az.own k _ c ab hc;rw[eN]at d;have:=K7 aJ d;exact⟨⟨vs,af,this.1,this.2⟩,fun _=>ax rfl⟩
 ·rw[zaa mi]at hj;exact az.own j q c hj hc
def aaw(k:Nat)(l:ac α)(ab:own[k]? =some (.c el cs))(eN:cs=l.flatMap R)(aJ:∀w,(R w).length=z)(cp:a1.ok aE ⟨K,.o p,⟨own.set k (.a el false z α R l),aP,e⟩⟩):a1.ok aE ⟨K,.o p,⟨own,aP,e⟩⟩:=fun H ids st fr bb az ae=>
 cp H ids st fr bb (adK l ab eN aJ az) ae
end
structure bc where
 L:Type
 args:L->ac ah
 pre:L->Prop
 res:L->ah
 hp:bJ->Prop:=fun _=>True
 hm:∀{H bF:bJ},dp H bF->hp H->hp bF:=by exact fun _ _=>trivial
def bc.spec(S:bc):Spec where
 L:=S.L×bJ
 pre:=fun l vs st=>S.pre l.1∧S.hp l.2∧Fit l.2 [] st [] 0∧dj l.2 (S.args l.1) [] vs
 post:=fun l vs st v st'=>∃bF,Fit bF [] st' [] 0∧eh l.2 [] st bF [] st'∧den bF (S.res l.1) [] v
def Fin(S:bc)(l:S.L)(res:ac iI)(x:dT)(s:cW):Prop:=(x= .norm∨x= .ret)∧∃r,wI s res=some r∧qu r=true∧bY r (S.res l)
where
 Pb (s:cW):iI->am ah
  |.tmp t=>dZ s.env t
  |.cell a hy n=>match dZ s.env a with
   |some (.p k o)=>match s.own[k]? with
    |some (.c _ cs)=>xg cs o n (It hy)
    |_=>none
   |_=>none
 Jq (s:cW):ac iI->am (ac ah)
  |[]=>some []
  |r::rs=>match Pb s r with
   |some a=>match Jq s rs with
    |some as=>some (a::as)
    |none=>none
   |none=>none
 wI (s:cW) (l:ac iI):am ah:=match Jq s l with
  |some [a]=>some a
  |some as=>some (.bu as)
  |none=>none
variable{H:bJ}{ids:ac Nat}{st:ay}{s:cW}{fr:aR}
def Fit.less{own:ac bp}{n:Nat}(h:Fit H ids st own n):Fit H [] st [] 0:=⟨h.wf,h.le,rfl,rfl,zdI,fun b hb=>by simp at hb,fun k o b ab=>by simp at ab⟩
def eh.refl(H:bJ)(i:ac Nat)(st:ay):eh H i st H i st:=⟨dp.refl _,fun _ _ _=>rfl,fun _ _ _=>rfl,b5 _,di.refl _,fun b hb=>.inl hb⟩
def eh.less{cA:bJ}{aH:ay}(h:eh cA [] aH H ids st):eh cA [] aH H [] st:=⟨h.hle,h.hold,h.h5,h.al,di.refl _,fun b hb=>.inl hb⟩
def aqt(az:Fit H ids st s.own s.n)(ae:c9 fr H ids s.env){r:iI}{a:ah}(h:Fin.Pb s r=some a):
 ∃v,den H a ids v∧∀vs:ac be,(iI.rec (motive:=fun _=>am (ac be)) (fun t=>some (fr.tmp t::vs)) (fun a agg n=>il (fr.tmp a) (fun p=>bm p (fun ad=>st.load ad n (fun cs=>cond agg (some (.agg ⟨cs⟩::vs)) (one cs (fun v=>some (v::vs)) none)) none) none) none) r:am (ac be))=some (v::vs):=by
 cases r with
 |tmp t=>exact⟨_,ae.get t a h,fun vs=>rfl⟩
 |cell t hy n=>
  simp only[Fin.Pb]at h;split at h<;>try cases h
  rename_i k o aV;split at h<;>try cases h
  rename_i el cs ab;obtain⟨b,aM,aN⟩:=ae.get t _ aV;obtain⟨⟨ws,bf,d⟩,_⟩:=az.own k _ b ab aM;obtain⟨J,U⟩:=Cm h;have aq:=vn n (oY o d);have hl:=hW (oY o d);have e:∀vs:ac be,il (fr.tmp t) (fun p=>bm p (fun ad=>st.load ad n (fun cs=>cond hy (some (.agg ⟨cs⟩::vs)) (one cs (fun v=>some (v::vs)) none)) none) none) none=cond hy (some (.agg ⟨(ws.drop o).take n⟩::vs)) (one ((ws.drop o).take n) (fun v=>some (v::vs)) none):=fun vs=>by
   rw[aN,qC,Sym.eJ];unfold ay.load ay.gE;rw[Sym.hR,bf,kI,r1 (by show n<=(ws.drop o).length;omega)]
  rcases Zq U with⟨rfl,rfl⟩|⟨rfl,af⟩
  ·exact⟨_,⟨_,rfl,aq⟩,fun vs=>e vs⟩
  ·rw[af]at aq;obtain⟨v,us,aI,aq,hn⟩:=aq;cases hn;refine⟨v,aq,fun vs=>(e vs).trans ?_⟩;rw[aI];rfl
theorem Pc{s:cW}{H:bJ}{ids:ac Nat}{st:ay}{fr:aR}(az:Fit H ids st s.own s.n)(ae:c9 fr H ids s.env):∀{rs:ac iI} {as:ac ah},Fin.Jq s rs=some as->∃vs,dj H as ids vs∧qX fr st rs=some vs
 |[],as,h=>by cases h;exact⟨[],rfl,rfl⟩
 |r::rs,as,h=>by
  unfold Fin.Jq at h;split at h<;>try cases h
  rename_i a J;split at h<;>try cases h
  rename_i as' U;obtain⟨v,aM,aN⟩:=aqt az ae J;obtain⟨vs,bf,cb⟩:=Pc az ae U;refine⟨v::vs,⟨v,vs,rfl,aM,bf⟩,?_⟩;show bm (qX fr st rs) _ none=_;rw[cb];exact aN vs
def Jp{call:bO}(az:Fit H ids st s.own s.n)(ae:c9 fr H ids s.env){rs:ac iI}{r:ah}(h:Fin.wI s rs=some r):∃v,den H r ids v∧oc call rs none fr st= .ret v st false:=by
 have e:∀vs,qX fr st rs=some vs->oc call rs none fr st=one vs (fun v=>.ret v st false) (.ret (.tuple ⟨vs⟩) st false):=fun vs aI=>by
  unfold oc;rw[ae.pl.c7,ae.pl.cM];simp only[jV];show bm (qX fr st rs) _ _=_;rw[aI];rfl
 unfold Fin.wI at h;split at h
 ·rename_i a aY;cases h;obtain⟨vs,⟨v,ws,rfl,J,U⟩,af⟩:=Pc az ae aY;cases U;exact⟨v,J,(e _ af).trans rfl⟩
 ·rename_i as hn aY;cases h;obtain⟨vs,J,af⟩:=Pc az ae aY;refine⟨_,⟨vs,rfl,J⟩,(e _ af).trans ?_⟩;have hl:=hW J
  match vs,as,hl with
  |[],_,_=>rfl
  |[v],[a],_=>exact absurd aY (by intro _;exact hn a rfl)
  |_::_::_,_,_=>rfl
 ·cases h
def oa:Nat->ac ah->bX
 |_,[]=>[]
 |i,a::as=>(i,a)::oa (i+1) as
theorem R6:∀(as:ac ah) (i j:Nat) (a:ah),dZ (oa i as) j=some a->i<=j∧as[j-i]? =some a
 |[],_,_,_,h=>by cases h
 |w::as,i,j,a,h=>by
  rw[oa,rn]at h;cases hb:Nat.beq i j with
  |true=>
   rw[hb]at h;have:=eL hb;subst this;cases h;exact⟨b5 _,by simp⟩
  |false=>
   rw[hb]at h;obtain⟨J,U⟩:=R6 as (i+1) j a h;refine⟨by omega,?_⟩;have:j-i=(j-(i+1))+1:=by omega
   rw[this];simpa using U
def c9.zero{as:ac ah}{vs:ac be}(d:dj H as ids vs):c9 (gm vs) H ids (oa 0 as):=by
 refine⟨w3.zero _,fun j a h=> ?_⟩;obtain⟨_,U⟩:=R6 as 0 j a h;obtain⟨v,af,ax⟩:=vm d U;have hj:=(zah.1 af).1;have:(gm vs).tmp j=v:=by
  show Option.rec (motive:=fun _=>be) _ _ ((n5 vs 0 .nil).get j)=v;rw[QG,zab (by omega),af]
 rw[this];exact ax
variable{X:Ctx}
variable{S:bc}{xf:dv}
def Lb{bB:ar dv}(dE:Good X)(iQ:n4 X bB)(da:ci->gN){f:ci}(aa:bB.get f=some xf)(hl:∀l,(S.args l).length<=xf.aQ)
 (h:∀l,S.pre l->∀H aH,S.hp H->a1.ok ⟨dc bB (dz X da) (bT+1),bT+1,f,H,[],aH,Fin S l xf.res⟩ ⟨[],.c xf.body,⟨[],0,oa 0 (S.args l)⟩⟩):a6 X f S.spec:=by
 refine RC dE iQ da aa (fun l vs st ⟨_,_,_,d⟩=>by rw[hW d];exact hl l.1) ?_;rintro⟨l,H⟩ vs st ⟨hp,hh,az,d⟩;refine(h l hp H st hh H [] st (gm vs) (eh.refl _ _ _) az (c9.zero d)).mono ?_;rintro x fr st' ⟨bF,ids,s,bb,ef,ae,aa,r,J,U,hle⟩;obtain⟨v,af,ax⟩:=Jp (call:=dc bB (dz X da) (bT+1)) ef ae J;exact⟨aa,v,ax,bF,ef.less,bb.less,hle _ _ _ (F0 _ U af _)⟩
def afj{bB:ar dv}(dE:Good X)(iQ:n4 X bB)(da:ci->gN){f:ci}(aa:bB.get f=some xf)(hl:∀l,(S.args l).length<=xf.aQ)
 (h:∀l,S.pre l->∀H aH,a1.ok ⟨dc bB (dz X da) (bT+1),bT+1,f,H,[],aH,Fin S l xf.res⟩ ⟨[],.c xf.body,⟨[],0,oa 0 (S.args l)⟩⟩):a6 X f S.spec:=Lb dE iQ da aa hl fun l hp H aH _=>h l hp H aH
def Rf{bB:ar dv}{da:ci->gN}{g:ci}(hc:a6 X g S.spec)(ec:da g=S.spec.K){c0:ac bi}{as:ac ah}{n:Nat}(l:S.L)(aY:mr s.env c0=some as)(q8:iU as=true)(he:kD as (S.args l))(hp:S.pre l){cA:bJ}(hh:S.hp cA):
 zf cA (dc bB (dz X da) (n+1)) (.call (.func g) c0) s (S.res l) s.own s.n:=fun H ids st fr eB az ae=>by
 have aq:=he.den (pV _ q8 (ae.eA aY) []);obtain⟨v,st',J,U⟩:=hc _ st ⟨(l,H),hp,S.hm eB hh,az.less,aq⟩;obtain⟨v1,cl,aM,aN⟩:=Oc (X:=X) (K:=da) (f:=g) ⟨v,st',by rw[ec];exact J,U⟩;rw[ec]at aN;obtain⟨bF,ef,et,g6⟩:=aN (l,H) ⟨hp,S.hm eB hh,az.less,aq⟩;have bf:dc bB (dz X da) (n+1) (.func (.func g) #[] #[]) (eA fr c0) none st= .ret v1 cl false:=by
  rw[zr];have e:gC (#[]:ap be).toList (gC (eA fr c0) (#[]:ap be).toList)=eA fr c0:=by simp
  rw[e,aM];rfl
 have hle:dp H bF:=et.hle;refine⟨v1,cl,ids,bF,?_,?_,vl (dp.refl _) _ (di.nil _) g6,hle,di.refl _,?_,et.al,fun b hb _=>et.h5 b hb (by simp)⟩
 ·rw[AZ];show xw (dc bB (dz X da) (n+1) (.func (.func g) #[] #[]) (eA fr c0) none st) _ _=_;rw[bf];rfl
 ·refine⟨ef.wf,ef.le,az.cI,az.len,az.de,fun b hb=>fy (az.lt b hb) et.al,fun k o b ab hb=> ?_⟩;obtain⟨af,ax⟩:=az.own k o b ab hb;have a4:=az.lt b (zaA hb);rw[et.h5 b a4 (by simp)];exact⟨xk hle (di.refl _) af,fun hl=>by rw[et.hold b a4 (by simp)];exact ax hl⟩
 ·intro cA i0 aH B;refine⟨B.hle.trans hle,fun b hb hn=> ?_,fun b hb hn=> ?_,zaj B.al et.al,B.mn,B.new⟩
  ·rw[et.hold b (fy hb B.al) (by simp)];exact B.hold b hb hn
  ·rw[et.h5 b (fy hb B.al) (by simp)];exact B.h5 b hb hn
section
variable{bB:ar dv}{da:ci->gN}{cB n:Nat}{fn:ci}{cA:bJ}{i0:ac Nat}{aH:ay}{Q:dT->cW->Prop}{K:ac e4}{own:ac bp}{aP:Nat}{e:bX}
variable{g:ci}{c0:ac bi}{as:ac ah}{d:Tmp}
def aC(hc:a6 X g S.spec){xs:ac bK}(l:S.L)(hp:S.pre l)(k:a1.ok ⟨dc bB (dz X da) (n+1),cB,fn,cA,i0,aH,Q⟩ ⟨K,.o xs,⟨own,aP,(d,S.res l)::e⟩⟩)
 (aY:mr e c0=some as:=by rfl) (he:kD as (S.args l):=by exact kD.refl _) (q8:iU as=true:=by rfl) (ec:da g=S.spec.K:=by rfl) (hh:S.hp cA:=by exact trivial):
 a1.ok ⟨dc bB (dz X da) (n+1),cB,fn,cA,i0,aH,Q⟩ ⟨K,.o (⟨some d,.call (.func g) c0,none⟩::xs),⟨own,aP,e⟩⟩:=EC (d:=some d) (s:=⟨own,aP,e⟩) (Rf hc ec l aY q8 he hp hh) k
def aZ(hc:a6 X g S.spec){xs:ac (bK×cE)}{bZ:ac bp}{a7:bX}{bn cj:Nat}(l:S.L)(hp:S.pre l)(k:a1.ok ⟨dc bB (dz X da) (n+1),cB,fn,cA,i0,aH,Q⟩ ⟨K,.d xs bZ (oZ d a7) (bn+1) aP,⟨own,aP,(d,S.res l)::e⟩⟩)
 (aY:mr e c0=some as:=by rfl) (he:kD as (S.args l):=by exact kD.refl _) (q8:iU as=true:=by rfl) (ec:da g=S.spec.K:=by rfl) (hh:S.hp cA:=by exact trivial):
 a1.ok ⟨dc bB (dz X da) (n+1),cB,fn,cA,i0,aH,Q⟩ ⟨K,.d ((⟨some d,.call (.func g) c0,none⟩,.eH)::xs) bZ a7 bn cj,⟨own,aP,e⟩⟩:=
 Ld (d:=some d) (s:=⟨own,aP,e⟩) (Rf hc ec l aY q8 he hp hh) rfl (fun _ _ ab _=>⟨ab,by simp[ky]⟩) k
end
variable{l:S.L}{r:ah}{e:dT}
def cp:ac (Nat×gN)->ci->gN
 |[],_=>gN.no
 |p::l,g=>cond (Nat.beq p.1 g) p.2 (cp l g)
def agN{res:ac iI}(J:Fin.wI s res=some r)(U:qu r=true)(af:bY r (S.res l))(he:e= .ret∨e= .norm:=by first|exact .inl rfl|exact .inr rfl):Fin S l res e s:=⟨he.symm,r,J,U,af⟩
def au{call:bO}{cB:Nat}{fn:ci}{cA:bJ}{i0:ac Nat}{aH:ay}{res:ac iI}(J:Fin.wI s res=some r)(af:bY r (S.res l))(U:qu r=true:=by rfl)(he:e= .ret∨e= .norm:=by first|exact .inl rfl|exact .inr rfl):a1.ok ⟨call,cB,fn,cA,i0,aH,Fin S l res⟩ ⟨[],.x e,s⟩:=mE (agN J U af he)
end Go.ak
namespace Go.ak
open Sym
section
variable{aE:fL}{K:ac e4}{own bP:ac bp}{aP cc:Nat}{e:bX}{d:Tmp}{xs:ac bK}{x y i:bi}
variable{α:Type}{z:Nat}{el:ce}{n c j:Nat}{a3:Bool}{q c1 p:Nat}{aL hi:am bi}{o a9:Nat}{a:ah}{cs:ac ah}{R:α->ac ah}{l:ac α}
def ep(q:α){cp:d7}(hj:l[j]? =some q)(k:a1.ok aE ⟨K,.o xs,⟨own,aP,(d,.ip (R q))::e⟩⟩)(aa:bw e x=some (.c5 z α R l):=by rfl)(hi:bw e i=some (.i cp (j:Int)):=by rfl):a1.ok aE ⟨K,.o (⟨some d,.lL z x i,none⟩::xs),⟨own,aP,e⟩⟩:=
 e7 (MT aa hi hj) k
def uG{bL:Nat}{cp:d7}(k:a1.ok aE ⟨K,.o xs,⟨own,aP,(d,.gW bL z (o+j) 0)::e⟩⟩)(aa:bw e x=some (.bj bL z o n c):=by rfl)(hi:bw e i=some (.i cp (j:Int)):=by rfl)(hj:j<n:=by omega):a1.ok aE ⟨K,.o (⟨some d,.lL z x i,none⟩::xs),⟨own,aP,e⟩⟩:=
 e7 (Xd aa hi hj) k
def jS{bL:Nat}{cp:d7}(k:a1.ok aE ⟨K,.o xs,⟨own,aP,(d,.gW bL z j 0)::e⟩⟩)(aa:bw e x=some (.bj bL z 0 n c):=by rfl)(hi:bw e i=some (.i cp (j:Int)):=by rfl)(hj:j<n:=by omega):a1.ok aE ⟨K,.o (⟨some d,.lL z x i,none⟩::xs),⟨own,aP,e⟩⟩:=
 e7 (Xd aa hi hj) (by rw[zav];exact k)
def sS{bL:Nat}(w:α)(hj:l[j]? =some w)(k:a1.ok aE ⟨K,.o xs,⟨own,aP,(d,a)::e⟩⟩)(aa:bw e x=some (.gW bL z j q):=by rfl)(ab:own[bL]? =some (.a el a3 z α R l):=by rfl)(hq:(R w)[q]? =some a:=by rfl):a1.ok aE ⟨K,.o (⟨some d,.lP x,none⟩::xs),⟨own,aP,e⟩⟩:=
 e7 (anq aa ab hj hq) k
def kX{bL:Nat}(w':α)(k:a1.ok aE ⟨K,.o xs,⟨bP,aP,e⟩⟩)(aa:bw e x=some (.gW bL 1 j 0):=by rfl)(aF:bw e y=some a:=by rfl)(ab:own[bL]? =some (.a el a3 1 α R l):=by rfl)(dm:R w'=[a]:=by rfl)(hc:tl a=true:=by rfl)(J:∀w,(R w).length=1:=by exact fun _=>rfl)
 (ao:kB own bL (.a el a3 1 α R (l.set j w')) some=some bP:=by rfl) (hj:j<l.length:=by first|omega|(simp;done)|(simp;omega)):a1.ok aE ⟨K,.o (⟨none,.store 1 x y,none⟩::xs),⟨own,aP,e⟩⟩:=by
 have:=l2 ao;cases this;exact ap6 (abJ (s:=⟨own,aP,e⟩) w' aa aF ab dm hj hc J) k
def Nm:ac be->am Nat
 |[]=>some 0
 |[_]=>some 1
 |[_,_]=>some 2
 |[_,_,_]=>some 3
 |[_,_,_,_]=>some 4
 |[_,_,_,_,_]=>some 5
 |[_,_,_,_,_,_]=>some 6
 |[_,_,_,_,_,_,_]=>some 7
 |l=>some l.length
def anC{l:ac be}(h:Nm l=some n):l.length=n:=by
 unfold Nm at h;split at h<;>cases h<;>rfl
def pz{im:ac be}{bL k':d7}(R:α->ac ah)(w:α)(k:a1.ok aE ⟨K,.o xs,⟨bP,cc,(d,.bj aP z 0 n c)::e⟩⟩)(aa:bw e x=some (.i bL (n:Int)):=by rfl)(aF:bw e y=some (.i k' (c:Int)):=by rfl)(aJ:Nm im=some z:=by rfl)(dm:AQ im=R w:=by rfl)
 (ao:rN own (.a el false z α R (List.replicate c w)) some=some bP:=by rfl) (jI:ov aP some=some cc:=by rfl) (hn:n<=c:=by omega) (hc:c*(c1+1)<=1099511627776:=by omega):a1.ok aE ⟨K,.o (⟨some d,.rr el c1 im x y,none⟩::xs),⟨own,aP,e⟩⟩:=by
 have J:=sW ao;have U:=qo jI;cases J;cases U;exact e7 (mk (s:=⟨own,aP,e⟩) R w aa aF (anC aJ) dm hn hc) k
def Jj{bL:Nat}(t:Nat)(l':ac α)(k:a1.ok aE ⟨K,.o xs,⟨bP,aP,(t,.c5 z α R l')::e⟩⟩)(aV:dZ e t=some (.bj bL z o n c):=by rfl)(ab:own[bL]? =some (.a el a3 z α R l):=by rfl)(hp:∀x,iU (R x)=true:=by exact fun _=>rfl)
 (ao:kB own bL .x some=some bP:=by rfl) (hl:(l.drop o).take n=l':=by first|rfl|simp) (hn:l'.length=n:=by first|omega|(simp;done)|(simp;omega)) (hc:n<=c:=by omega):a1.ok aE ⟨K,.o xs,⟨own,aP,e⟩⟩:=by
 have J:=l2 ao;cases J;exact aaz t l' aV ab hl hn hc hp k
def jh{bL:Nat}(t:Nat)(k:a1.ok aE ⟨K,.o xs,⟨bP,aP,(t,.c5 z α R l)::e⟩⟩)(aV:dZ e t=some (.bj bL z 0 n c):=by rfl)(ab:own[bL]? =some (.a el a3 z α R l):=by rfl)(hp:∀x,iU (R x)=true:=by exact fun _=>rfl)
 (ao:kB own bL .x some=some bP:=by rfl) (hn:l.length=n:=by first|omega|(simp;done)|(simp;omega)) (hc:n<=c:=by omega):a1.ok aE ⟨K,.o xs,⟨own,aP,e⟩⟩:=
 Jj t (l:=l) l k aV ab hp ao (by rw[zap,zaF (by omega)]) hn hc
def mD(bL:Nat)(R:α->ac ah)(l:ac α)(k:a1.ok aE ⟨K,.o xs,⟨bP,aP,e⟩⟩)(ab:own[bL]? =some (.c el cs):=by rfl)(aJ:∀w,(R w).length=z:=by exact fun _=>rfl)
 (ao:kB own bL (.a el false z α R l) some=some bP:=by rfl) (eN:cs=l.flatMap R:=by rfl):a1.ok aE ⟨K,.o xs,⟨own,aP,e⟩⟩:=by
 have J:=l2 ao;cases J;exact aaw bL l ab eN aJ k
def ap9(l':ac α)(k:a1.ok aE ⟨K,.o xs,⟨own,aP,(d,.c5 z α R l')::e⟩⟩)(aa:bw e x=some (.c5 z α R l):=by rfl)(fH:e8 ⟨own,aP,e⟩ aL 0 p:=by first|exact rfl|exact⟨_,rfl⟩)(gu:e8 ⟨own,aP,e⟩ hi l.length q:=by first|exact rfl|exact⟨_,rfl⟩)(hl:(l.drop p).take (q-p)=l':=by first|rfl|simp)(hp:p<=q:=by omega)(hq:q<=l.length:=by first|omega|(simp;done)|(simp;omega)):a1.ok aE ⟨K,.o (⟨some d,.na z x aL hi none,none⟩::xs),⟨own,aP,e⟩⟩:=by
 subst hl;exact e7 (Pq aa fH gu hp hq) k
def aqa{bL:Nat}(k:a1.ok aE ⟨K,.o xs,⟨own,aP,(d,.bj bL z (o+p) (q-p) (c-p))::e⟩⟩)(aa:bw e x=some (.bj bL z o n c):=by rfl)(ab:own[bL]? =some (.a el a3 z α R l):=by rfl)(fH:e8 ⟨own,aP,e⟩ aL 0 p:=by first|exact rfl|exact⟨_,rfl⟩)(gu:e8 ⟨own,aP,e⟩ hi n q:=by first|exact rfl|exact⟨_,rfl⟩)(hp:p<=q:=by omega)(hq:q<=n:=by omega)(hn:n<=c:=by omega)(hc:p<c∨p=0:=by omega):a1.ok aE ⟨K,.o (⟨some d,.na z x aL hi none,none⟩::xs),⟨own,aP,e⟩⟩:=
 e7 (ar2 aa ab fH gu hp hq hn hc) k
def aaB{bL:Nat}(k:a1.ok aE ⟨K,.o xs,⟨own,aP,(d,.bj bL z p (q-p) (c-p))::e⟩⟩)(aa:bw e x=some (.bj bL z 0 n c):=by rfl)(ab:own[bL]? =some (.a el a3 z α R l):=by rfl)(fH:e8 ⟨own,aP,e⟩ aL 0 p:=by first|exact rfl|exact⟨_,rfl⟩)(gu:e8 ⟨own,aP,e⟩ hi n q:=by first|exact rfl|exact⟨_,rfl⟩)(hp:p<=q:=by omega)(hq:q<=n:=by omega)(hn:n<=c:=by omega)(hc:p<c∨p=0:=by omega):a1.ok aE ⟨K,.o (⟨some d,.na z x aL hi none,none⟩::xs),⟨own,aP,e⟩⟩:=
 aqa (by rw[zav];exact k) aa ab fH gu hp hq hn hc
def yI(R:α->ac ah)(l:ac α)(ai:qJ ⟨own,aP,e⟩ y R a9 l)(k:a1.ok aE ⟨K,.o xs,⟨bP,cc,(d,.bj aP a9 0 l.length l.length)::e⟩⟩)(aa:bw e x=some .nl:=by rfl)
 (ao:rN own (.a el true a9 α R l) some=some bP:=by rfl) (jI:ov aP some=some cc:=by rfl) (h0:l≠[]:=by first|rfl|simp) (hb:(5*l.length+1792)*(c1+1)<=1125899906842624:=by first|omega|(simp;done)|(simp;omega)):a1.ok aE ⟨K,.o (⟨some d,.app el a9 c1 x y,none⟩::xs),⟨own,aP,e⟩⟩:=by
 have J:=sW ao;have U:=qo jI;cases J;cases U;exact e7 (Qw (s:=⟨own,aP,e⟩) aa (B2 ai) h0 hb) k
def Bh{bL:Nat}{ij:ac bp}(m:ac α)(ai:qJ ⟨own,aP,e⟩ y R a9 m)(k:a1.ok aE ⟨K,.o xs,⟨bP,cc,(d,.bj aP a9 0 (n+m.length) (n+m.length))::e⟩⟩)(aa:bw e x=some (.bj bL a9 0 n c):=by rfl)(ab:own[bL]? =some (.a el true a9 α R l):=by rfl)
 (mj:kB own bL .x some=some ij:=by rfl) (ao:rN ij (.a el true a9 α R (l++m)) some=some bP:=by rfl) (jI:ov aP some=some cc:=by rfl) (h0:m≠[]:=by first|rfl|simp) (hn:n=l.length:=by first|omega|(simp;done)|(simp;omega)) (kv:n=c:=by omega) (hb:(5*(n+m.length)+1792)*(c1+1)<=1125899906842624:=by first|omega|(simp;done)|(simp;omega)):a1.ok aE ⟨K,.o (⟨some d,.app el a9 c1 x y,none⟩::xs),⟨own,aP,e⟩⟩:=by
 have j7:=l2 mj;cases j7;have J:=sW ao;have U:=qo jI;cases J;cases U;have:=Qv (call:=aE.call) (s:=⟨own,aP,e⟩) (c1:=c1) aa ab (B2 ai) h0 (by omega) (by omega) (by omega) hb;rw[hn,zcb]at this;rw[hn]at k;exact e7 this k
def aau{bL:Nat}(m:ac α)(ai:qJ ⟨own,aP,e⟩ y R a9 m)(l':ac α)(k:a1.ok aE ⟨K,.o xs,⟨bP,aP,(d,.bj bL a9 0 (n+m.length) c)::e⟩⟩)(aa:bw e x=some (.bj bL a9 0 n c):=by rfl)(ab:own[bL]? =some (.a el false a9 α R l):=by rfl)
 (ao:kB own bL (.a el false a9 α R l') some=some bP:=by rfl) (h0:m≠[]:=by first|rfl|simp) (hn:n+m.length<=c:=by first|omega|(simp;done)|(simp;omega)) (hc:c<=l.length:=by first|omega|(simp;done)|(simp;omega)) (hb:(5*(n+m.length)+1792)*(c1+1)<=1125899906842624:=by first|omega|(simp;done)|(simp;omega)) (hl:l.take n++(m++l.drop (n+m.length))=l':=by first|rfl|simp):a1.ok aE ⟨K,.o (⟨some d,.app el a9 c1 x y,none⟩::xs),⟨own,aP,e⟩⟩:=by
 subst hl;have J:=l2 ao;cases J;exact e7 (adx (s:=⟨own,aP,e⟩) aa ab (B2 ai) h0 hn hc hb) k
def ll{bL:Nat}(l:ac α)(eN:cs=l.flatMap R)(aa:bw e x=some (.bj bL z 0 l.length c):=by rfl)(ab:own[bL]? =some (.c el cs):=by rfl)(aJ:∀w,(R w).length=z:=by exact fun _=>rfl)(hc:rZ cs=true:=by rfl):qJ ⟨own,aP,e⟩ x R z l:=ar7 l aa rfl ab eN aJ hc rfl
def mF{l:ac bv}{cp:d7}(qQ:bv)(hj:l[j]? =some qQ)(k:a1.ok aE ⟨K,.o xs,⟨own,aP,(d,.i .u8 (qQ.toNat:Int))::e⟩⟩)(aa:bw e x=some (.s l):=by rfl)(hi:bw e i=some (.i cp (j:Int)):=by rfl):a1.ok aE ⟨K,.o (⟨some d,.uc x i,none⟩::xs),⟨own,aP,e⟩⟩:=e7 (amX aa hi hj) k
def rI{l:ac bv}(l':ac bv)(k:a1.ok aE ⟨K,.o xs,⟨own,aP,(d,.s l')::e⟩⟩)(aa:bw e x=some (.s l):=by rfl)(fH:e8 ⟨own,aP,e⟩ aL 0 p:=by first|exact rfl|exact⟨_,rfl⟩)(gu:e8 ⟨own,aP,e⟩ hi l.length q:=by first|exact rfl|exact⟨_,rfl⟩)(hl:(l.drop p).take (q-p)=l':=by first|rfl|simp)(hp:p<=q:=by omega)(hq:q<=l.length:=by first|omega|(simp;done)|(simp;omega)):a1.ok aE ⟨K,.o (⟨some d,.sV x aL hi,none⟩::xs),⟨own,aP,e⟩⟩:=by
 subst hl;exact e7 (ar4 aa fH gu hp hq) k
def sR{l m:ac bv}(k:a1.ok aE ⟨K,.o xs,⟨own,aP,(d,.s (l++m))::e⟩⟩)(aa:bw e x=some (.s l):=by rfl)(aF:bw e y=some (.s m):=by rfl)(hl:l.length+m.length<=1099511627776:=by first|omega|(simp;done)|(simp;omega)):a1.ok aE ⟨K,.o (⟨some d,.bin .add x y,none⟩::xs),⟨own,aP,e⟩⟩:=e7 (aej aa aF hl) k
end
section
variable{aE:fL}{K:ac e4}{own:ac bp}{aP:Nat}{e:bX}{d:Tmp}{xs:ac bK}{x y:bi}
variable{m n:Nat}
def ap7(k:a1.ok aE ⟨K,.o xs,⟨own,aP,(d,.i .u64 ((m/n:Nat):Int))::e⟩⟩)(aa:bw e x=some (.i .u64 (m:Int)):=by rfl)(aF:bw e y=some (.i .u64 (n:Int)):=by rfl)(hn:n≠0:=by omega)(hm:m<18446744073709551616:=by omega):a1.ok aE ⟨K,.o (⟨some d,.bin .quo x y,none⟩::xs),⟨own,aP,e⟩⟩:=by
 have h:=apM (call:=aE.call) (s:=⟨own,aP,e⟩) aa aF (by omega);have aw:IntKind.u64.wrap ((m:Int).tdiv n)=((m/n:Nat):Int):=by
  show IntKind.u64.wrap ((m/n:Nat):Int)=_;have:=zau m n;generalize m/n=q at *;exact aco (by omega) (by omega)
 rw[aw]at h;exact e7 h k
def ap8{bL:d7}(k:a1.ok aE ⟨K,.o xs,⟨own,aP,(d,.i bL ((m%n:Nat):Int))::e⟩⟩)(aa:bw e x=some (.i bL (m:Int)):=by rfl)(aF:bw e y=some (.i bL (n:Int)):=by rfl)(hn:n≠0:=by omega):a1.ok aE ⟨K,.o (⟨some d,.bin .rem x y,none⟩::xs),⟨own,aP,e⟩⟩:=
 e7 (aqh (s:=⟨own,aP,e⟩) aa aF (by omega)) k
def aaC{bL a5:d7}(k:a1.ok aE ⟨K,.o xs,⟨own,aP,(d,.i bL ((m/2^n:Nat):Int))::e⟩⟩)(aa:bw e x=some (.i bL (m:Int)):=by rfl)(aF:bw e y=some (.i a5 (n:Int)):=by rfl)(hn:n<=bL.bits:=by first|decide|(show _<=64;omega)):a1.ok aE ⟨K,.o (⟨some d,.bin .shr x y,none⟩::xs),⟨own,aP,e⟩⟩:=
 e7 (aq1 (s:=⟨own,aP,e⟩) aa aF hn) k
end
variable{aE:fL}{K:ac e4}{s:cW}{n m:Int}{b:dq}{g gr:a1}{c:bA}{a:dq}{P:Prop}{k:d7}{p:Nat}{e cy:bX}{o:bp}
def JN(d:Nat):a1->am a1
 |⟨K,c,⟨own,n,(t,a)::e⟩⟩=>match Nat.beq t d with
  |true=>none
  |false=>By ⟨K,c,⟨own,n,(t,a)::e⟩⟩
 |g=>By g
def abL(d:Nat)(h:JN d g=some gr)(k:gr.ok aE):g.ok aE:=by
 unfold JN at h;split at h
 ·split at h
  ·cases h
  ·exact JO h k
 ·exact JO h k
def R.mono{zd:ac e4}(h:∀x s,Sem aE K x s->Sem aE zd x s)(k:hx aE K c s)(ec:∀dw,Ka aE zd dw->Ka aE K dw:=by exact fun _ h=>h):hx aE zd c s:=by
 have up:∀x fr st,u5 aE (Sem aE K) x fr st->u5 aE (Sem aE zd) x fr st:=fun x fr st ⟨H,ids,s,J,U,af,ax⟩=>⟨H,ids,s,J,U,af,h x s ax⟩;cases c with
 |c c=>exact fun H ids st fr bb az ae=>(k H ids st fr bb az ae).mono up
 |o l=>exact fun H ids st fr bb az ae=>(k H ids st fr bb az ae).mono up
 |x e=>exact h e s k
 |d l bZ a7 bn cj=>exact fun dw ic H ids st fr fM ai bb az ae cr=>(k dw (ec dw ic) H ids st fr fM ai bb az ae cr).mono up
def cf{c:bi}[aq:Decidable P](aY:P->a1.ok aE ⟨K,.c a,s⟩)(hb:¬P->a1.ok aE ⟨K,.c b,s⟩)(hc:bw s.env c=some (.b (decide P)):=by rfl):a1.ok aE ⟨K,.c (.cond c a b),s⟩:=yJ hc (fun h=>aY (zbT h)) (fun h=>hb (of_decide_eq_false h))
def Bi{c:bi}[aq:Decidable P](aY:¬P->a1.ok aE ⟨K,.c a,s⟩)(hb:P->a1.ok aE ⟨K,.c b,s⟩)(hc:bw s.env c=some (.b (!decide P)):=by rfl):a1.ok aE ⟨K,.c (.cond c a b),s⟩:=yJ hc (fun h=>aY (by simpa using h)) (fun h=>hb (by simpa using h))
def fK{L:Type _}(P:L->Prop)(T:L->cW)(J:a1.ok aE ⟨.b7 (wZ aE.i0.length P T)::K,c,s⟩)(U:∀l,P l->a1.ok aE ⟨K,.c b,T l⟩):a1.ok aE ⟨.seq b::K,c,s⟩:=by
 refine R.mono (fun x s aa=> ?_) J;cases x with
 |norm=>obtain⟨f,l,hp,ai⟩:=aa;exact O3 f _ ai (U l hp)
 |exit i=>exact aa
 |ret=>exact aa
 |bk v=>exact aa
def eC(h:n=m:=by omega)(J: -9223372036854775808<=n:=by omega)(U:n<9223372036854775808:=by omega):some (ah.i .i64 (IntKind.i64.wrap n))=some (ah.i .i64 m):=by rw[gd J U,h]
def bo(h:n=m:=by omega)(J: -9223372036854775808<=n:=by omega)(U:n<9223372036854775808:=by omega):ah.i .i64 (IntKind.i64.wrap n)=ah.i .i64 m:=by rw[gd J U,h]
def lN(h:n=m:=by omega):some (ah.i k n)=some (ah.i k m):=by rw[h]
def dY(h:n=m:=by omega):ah.i k n=ah.i k m:=by rw[h]
def dK{own:ac bp}{n:Nat}(h:kG [0] cy e)(ao:∃br,own[0]? =some br∧gA [0] o br)(hp:pinned p [0] 0=true:=by rfl):Sub p [0] ⟨own,n,e⟩ ⟨[o],1,cy⟩:=⟨by simp,rfl,⟨ao,trivial⟩,h,hp⟩
def nW{own:ac bp}{n:Nat}{q:bp}(h:kG [0,1] cy e)(ao:∃br,own[0]? =some br∧gA [0,1] o br)(hq:∃br,own[1]? =some br∧gA [0,1] q br)(hp:pinned p [0,1] 0=true:=by rfl):Sub p [0,1] ⟨own,n,e⟩ ⟨[o,q],2,cy⟩:=⟨by simp,rfl,⟨ao,hq,trivial⟩,h,hp⟩
def avj(d:Nat)(k:gr.ok aE)(h:JN d g=some gr:=by rfl):g.ok aE:=abL d h k
inductive zh(d:Nat):a1->a1->Prop
 |o {g:a1}:zh d g g
 |i {g aM aN:a1} (h:JN d g=some aM) (t:zh d aM aN):zh d g aN
variable{q:bp}{aP:Nat}{aq:Decidable P}{j:Nat}{r:bp}
def asF{d:Nat}(h:zh d g gr)(k:gr.ok aE):g.ok aE:=by
 induction h with
 |o=>exact k
 |i h _ a8=>exact abL d h (a8 k)
def an(d:Nat)(k:gr.ok aE)(h:zh d g gr:=by(repeat(apply zh.i;exact rfl));exact .o):g.ok aE:=asF h k
def mV{n:Nat}(h:n<4611686018427387905:=by first|(show _-0<_;omega)|(show 0<_;omega)|omega):n<bT+1:=h
def dG{own:ac bp}(t:Nat)(h:P)(k:a1.ok aE ⟨K,c,⟨own,aP,(t,.b true)::e⟩⟩)(hl:dZ e t=some (.b (decide P)):=by rfl)(hc:c.vU=false:=by rfl):a1.ok aE ⟨K,c,⟨own,aP,e⟩⟩:=ag t (.b true) hl (by rw[zad h]) k hc
def dW{own:ac bp}(t:Nat)(h:¬P)(k:a1.ok aE ⟨K,c,⟨own,aP,(t,.b false)::e⟩⟩)(hl:dZ e t=some (.b (decide P)):=by rfl)(hc:c.vU=false:=by rfl):a1.ok aE ⟨K,c,⟨own,aP,e⟩⟩:=ag t (.b false) hl (by rw[zac h]) k hc
def ew{own:ac bp}{n:Nat}(h:kG [] cy e:=by repeat first|exact trivial|refine⟨rfl,?_⟩)(hp:pinned p [] 0=true:=by rfl):Sub p [] ⟨own,n,e⟩ ⟨[],0,cy⟩:=iC h hp
def du{own:ac bp}{n k:Nat}(h:kG [k] cy e:=by repeat first|exact trivial|refine⟨rfl,?_⟩)(ao:∃br,own[k]? =some br∧gA [k] o br:=by first|exact⟨_,rfl,rfl,fun _=>rfl⟩|exact⟨_,rfl,rfl⟩)(hp:pinned p [k] 0=true:=by rfl):Sub p [k] ⟨own,n,e⟩ ⟨[o],1,cy⟩:=⟨by simp,rfl,⟨ao,trivial⟩,h,hp⟩
def ji{own:ac bp}{n k m:Nat}(h:kG [k,m] cy e:=by repeat first|exact trivial|refine⟨rfl,?_⟩)(ao:∃br,own[k]? =some br∧gA [k,m] o br:=by first|exact⟨_,rfl,rfl,fun _=>rfl⟩|exact⟨_,rfl,rfl⟩)(hq:∃br,own[m]? =some br∧gA [k,m] q br:=by first|exact⟨_,rfl,rfl,fun _=>rfl⟩|exact⟨_,rfl,rfl⟩)(ab:k≠m:=by decide)(hp:pinned p [k,m] 0=true:=by rfl):Sub p [k,m] ⟨own,n,e⟩ ⟨[o,q],2,cy⟩:=⟨by simpa using ab,rfl,⟨ao,hq,trivial⟩,h,hp⟩
def kf{own:ac bp}{n k m:Nat}(h:kG [k,m,j] cy e:=by repeat first|exact trivial|refine⟨rfl,?_⟩)(ao:∃br,own[k]? =some br∧gA [k,m,j] o br:=by first|exact⟨_,rfl,rfl,fun _=>rfl⟩|exact⟨_,rfl,rfl⟩)(hq:∃br,own[m]? =some br∧gA [k,m,j] q br:=by first|exact⟨_,rfl,rfl,fun _=>rfl⟩|exact⟨_,rfl,rfl⟩)(hr:∃br,own[j]? =some br∧gA [k,m,j] r br:=by first|exact⟨_,rfl,rfl,fun _=>rfl⟩|exact⟨_,rfl,rfl⟩)(ab:[k,m,j].Nodup:=by decide)(hp:pinned p [k,m,j] 0=true:=by rfl):Sub p [k,m,j] ⟨own,n,e⟩ ⟨[o,q,r],3,cy⟩:=⟨ab,rfl,⟨ao,hq,hr,trivial⟩,h,hp⟩
def rM{own:ac bp}{n k m i:Nat}{t:bp}(h:kG [k,m,j,i] cy e:=by repeat first|exact trivial|refine⟨rfl,?_⟩)(ao:∃br,own[k]? =some br∧gA [k,m,j,i] o br:=by first|exact⟨_,rfl,rfl,fun _=>rfl⟩|exact⟨_,rfl,rfl⟩)(hq:∃br,own[m]? =some br∧gA [k,m,j,i] q br:=by first|exact⟨_,rfl,rfl,fun _=>rfl⟩|exact⟨_,rfl,rfl⟩)(hr:∃br,own[j]? =some br∧gA [k,m,j,i] r br:=by first|exact⟨_,rfl,rfl,fun _=>rfl⟩|exact⟨_,rfl,rfl⟩)(aV:∃br,own[i]? =some br∧gA [k,m,j,i] t br:=by first|exact⟨_,rfl,rfl,fun _=>rfl⟩|exact⟨_,rfl,rfl⟩)(ab:[k,m,j,i].Nodup:=by decide)(hp:pinned p [k,m,j,i] 0=true:=by rfl):Sub p [k,m,j,i] ⟨own,n,e⟩ ⟨[o,q,r,t],4,cy⟩:=⟨ab,rfl,⟨ao,hq,hr,aV,trivial⟩,h,hp⟩
section
variable{call:bO}{fr:aR}{H:bJ}{ids:ac Nat}{e:bX}{x y i:bi}
variable{z:Nat}
def amr{α:Type}{R:α->ac ah}{l:ac α}{q:α}{cp:d7}(ae:c9 fr H ids e)(aa:bw e x=some (.c5 z α R l))(hi:bw e i=some (.i cp (j:Int)))(hj:l[j]? =some q):∃v,den H (.ip (R q)) ids v∧∀st,bR call (.lL z x i) fr st= .ok v fr st:=by
 have af:fr.aj i= .int cp (j:Int):=ae.aj hi;have a4:=(zah.1 hj).1;rcases ae.aj aa with⟨hl,_⟩|⟨b,o,c,vs,el,bd,a3,J,U,ax,a0⟩
 ·subst hl;simp at a4
 ·refine⟨_,⟨b,o+j*z,vs,el,bd,a3,rfl,ax,?_⟩,fun st=>Ib J af a4⟩;have aq:=a0 j q hj;have hl:=hW aq;rw[<-hl];rw[show(vs.drop (o+j*z)).take ((vs.drop (o+j*z)).take z).length=(vs.drop (o+j*z)).take z by rw[zay,<-List.take_eq_take_min]];exact aq
def ams{k o n c:Nat}{cp:d7}(ae:c9 fr H ids e)(aa:bw e x=some (.bj k z o n c))(hi:bw e i=some (.i cp (j:Int)))(hj:j<n):∃v,den H (.gW k z (o+j) 0) ids v∧∀st,bR call (.lL z x i) fr st= .ok v fr st:=by
 obtain⟨b,J,U⟩:=ae.aj aa;have af:fr.aj i= .int cp (j:Int):=ae.aj hi;exact⟨_,⟨b,J,by rw[zan,zaJ]⟩,fun st=>Ib U af hj⟩
end
section
variable{aE:fL}{K:ac e4}{own bZ:ac bp}{aP bn cj back:Nat}{e a7:bX}{d:Tmp}{ts:ac Tmp}{xs:ac (bK×cE)}{x y i:bi}
variable{z:Nat}{α:Type}{el:ce}{a3:Bool}{R:α->ac ah}{l:ac α}
def hK(q:α){cp:d7}(hj:l[j]? =some q)(k:a1.ok aE ⟨K,.d xs bZ ((d,.ip (R q))::a7) bn cj,⟨own,aP,(d,.ip (R q))::e⟩⟩)(aa:bw (eV ts a7) x=some (.c5 z α R l):=by rfl)(hi:bw (eV ts a7) i=some (.i cp (j:Int)):=by rfl)(hb:back<bn:=by decide):a1.ok aE ⟨K,.d ((⟨some d,.lL z x i,none⟩,.read back ts)::xs) bZ a7 bn cj,⟨own,aP,e⟩⟩:=
 oX (d:=some d) hb (fun H ids st fr ae _ _=>let⟨v,J,U⟩:=amr ae aa hi hj;⟨v,J,fun dB _ _=>U dB⟩) k
def afr{bL o n c:Nat}{cp:d7}(k:a1.ok aE ⟨K,.d xs bZ ((d,.gW bL z (o+j) 0)::a7) bn cj,⟨own,aP,(d,.gW bL z (o+j) 0)::e⟩⟩)(aa:bw (eV ts a7) x=some (.bj bL z o n c):=by rfl)(hi:bw (eV ts a7) i=some (.i cp (j:Int)):=by rfl)(hj:j<n:=by omega)(hb:back<bn:=by decide):a1.ok aE ⟨K,.d ((⟨some d,.lL z x i,none⟩,.read back ts)::xs) bZ a7 bn cj,⟨own,aP,e⟩⟩:=
 oX (d:=some d) hb (fun H ids st fr ae _ _=>let⟨v,J,U⟩:=ams ae aa hi hj;⟨v,J,fun dB _ _=>U dB⟩) k
def lu{bL n c:Nat}{cp:d7}(k:a1.ok aE ⟨K,.d xs bZ ((d,.gW bL z j 0)::a7) bn cj,⟨own,aP,(d,.gW bL z j 0)::e⟩⟩)(aa:bw (eV ts a7) x=some (.bj bL z 0 n c):=by rfl)(hi:bw (eV ts a7) i=some (.i cp (j:Int)):=by rfl)(hj:j<n:=by omega)(hb:back<bn:=by decide):a1.ok aE ⟨K,.d ((⟨some d,.lL z x i,none⟩,.read back ts)::xs) bZ a7 bn cj,⟨own,aP,e⟩⟩:=
 afr (by rw[zav];exact k) aa hi hj hb
def FX{bL q:Nat}(w:α){a:ah}(hj:l[j]? =some w)(k:a1.ok aE ⟨K,.d xs bZ ((d,a)::a7) bn cj,⟨own,aP,(d,a)::e⟩⟩)(aa:bw (eV ts a7) x=some (.gW bL z j q):=by rfl)(ab:bZ[bL]? =some (.a el a3 z α R l):=by rfl)(hq:(R w)[q]? =some a:=by rfl)(hb:back<bn:=by decide):a1.ok aE ⟨K,.d ((⟨some d,.lP x,none⟩,.read back ts)::xs) bZ a7 bn cj,⟨own,aP,e⟩⟩:=
 oX (d:=some d) hb (fun H ids st fr ae hl ao=>by
  obtain⟨b,J,U⟩:=ae.aj aa;obtain⟨vs,af,ax,a0⟩:=ao bL _ b ab rfl J;obtain⟨v,aI,aq⟩:=vm (a0 j w hj) hq;refine⟨v,aq,fun dB _ ai=>Ar U ((ai bL _ b ab rfl J).trans af) ?_⟩;rw[zaK]at aI;split at aI
  ·rw[zaI]at aI;exact aI
  ·cases aI) k
def n9{bL:Nat}{a:ah}{bP ij:ac bp}(w':α)(k:a1.ok aE ⟨K,.d xs ij a7 (bn+1) aP,⟨bP,aP,e⟩⟩)(aa:bw e x=some (.gW bL 1 j 0):=by rfl)(aF:bw e y=some a:=by rfl)(ab:own[bL]? =some (.a el a3 1 α R l):=by rfl)(dm:R w'=[a]:=by rfl)(hc:tl a=true:=by rfl)(J:∀w,(R w).length=1:=by exact fun _=>rfl)
 (ao:kB own bL (.a el a3 1 α R (l.set j w')) some=some bP:=by rfl) (mj:Eb bZ (some bL) some=some ij:=by rfl) (hj:j<l.length:=by first|omega|(simp;done)|(simp;omega)):a1.ok aE ⟨K,.d ((⟨none,.store 1 x y,none⟩,.eH)::xs) bZ a7 bn cj,⟨own,aP,e⟩⟩:=by
 have h:=l2 ao;cases h;obtain⟨aoX,aM,aN,bf⟩:=Oe mj;cases aM;exact Lc (d:=none) (s:=⟨own,aP,e⟩) (abJ (s:=⟨own,aP,e⟩) w' aa aF ab dm hj hc J) aN (fun k o fh hl=>by
  have:=bf k o fh hl;simp only[ky,aa];exact this) k
end
structure iH where
 L:Type
 own:L->ac bp
 args:L->ac ah
 pre:L->Prop
 bP:L->ac bp
 res:L->ah
 hp:bJ->Prop:=fun _=>True
 hm:∀{H bF:bJ},dp H bF->hp H->hp bF:=by exact fun _ _=>trivial
def iH.spec(S:iH):Spec where
 L:=S.L×bJ×ac Nat
 pre:=fun l vs st=>S.pre l.1∧S.hp l.2.1∧Fit l.2.1 l.2.2 st (S.own l.1) (S.own l.1).length∧dj l.2.1 (S.args l.1) l.2.2 vs
 post:=fun l vs st v st'=>∃bF,Fit bF l.2.2 st' (S.bP l.1) (S.own l.1).length∧eh l.2.1 l.2.2 st bF l.2.2 st'∧den bF (S.res l.1) l.2.2 v
def Ke(S:iH)(l:S.L)(res:ac iI)(x:dT)(s:cW):Prop:=(x= .norm∨x= .ret)∧(∃r,Fin.wI s res=some r∧qu r=true∧bY r (S.res l))∧∃f,f.length=(S.own l).length∧Sub (S.own l).length f s ⟨S.bP l,(S.own l).length,[]⟩
def Oi{f ids i0:ac Nat}(ae:f.length=i0.length)(hp:pinned i0.length f 0=true)(hi:di i0 ids):pick f ids=i0:=by
 apply zbJ;intro k;by_cases ab:k<i0.length
 ·have J:=Oj hp k ab;rw[zav]at J;have U:=hi k _ (bV ab);rw[yy J U,bV ab]
 ·rw[zbK (by simp[pick];omega),zbK (by omega)]
variable{X:Ctx}
variable{f:ci}{xf:dv}{S:iH}
def afh{bB:ar dv}(dE:Good X)(iQ:n4 X bB)(da:ci->gN)(aa:bB.get f=some xf)(hl:∀l,(S.args l).length<=xf.aQ)
 (h:∀l,S.pre l->∀H i0 aH,S.hp H->i0.length=(S.own l).length->a1.ok ⟨dc bB (dz X da) (bT+1),bT+1,f,H,i0,aH,Ke S l xf.res⟩ ⟨[],.c xf.body,⟨S.own l,(S.own l).length,oa 0 (S.args l)⟩⟩):a6 X f S.spec:=by
 refine RC dE iQ da aa (fun l vs st ⟨_,_,_,d⟩=>by rw[hW d];exact hl l.1) ?_;rintro⟨l,H,i0⟩ vs st ⟨hp,hh,az,d⟩;simp only at hp hh az d;refine(h l hp H i0 st hh az.len H i0 st (gm vs) (eh.refl _ _ _) az (c9.zero d)).mono ?_;rintro x fr st' ⟨bF,ids,s,bb,ef,ae,aa,⟨r,J,U,hle⟩,g,aO,ai⟩;obtain⟨v,af,ax⟩:=Jp (call:=dc bB (dz X da) (bT+1)) ef ae J;have z7:i0.length=(S.own l).length:=az.len;have eZ:Sub i0.length g s ⟨S.bP l,(S.own l).length,[]⟩:=by rw[z7];exact ai
 have Dl:=Oi (by omega) eZ.Iv bb.mn;have xB:=eZ.fit ef;have V8:=eZ.bU ef bb;rw[Dl]at xB V8;exact⟨aa,v,ax,bF,xB,V8,hle _ _ _ (F0 _ U af _)⟩
def afi{bB:ar dv}(dE:Good X)(iQ:n4 X bB)(da:ci->gN)(aa:bB.get f=some xf)(hl:∀l,(S.args l).length<=xf.aQ)
 (h:∀l,S.pre l->∀H i0 aH,i0.length=(S.own l).length->a1.ok ⟨dc bB (dz X da) (bT+1),bT+1,f,H,i0,aH,Ke S l xf.res⟩ ⟨[],.c xf.body,⟨S.own l,(S.own l).length,oa 0 (S.args l)⟩⟩):a6 X f S.spec:=afh dE iQ da aa hl fun l hp H i0 aH _ hl=>h l hp H i0 aH hl
mutual
theorem RS{H:bJ}{f ids:ac Nat}(ae:∀k m:Nat,f[k]? =some m->m<ids.length):∀(a:ah) {v:be},den H a (pick f ids) v->den H (m7 f a) ids v
 |.i _ _,_,d=>d
 |.b _,_,d=>d
 |.s _,_,d=>d
 |.nl,_,d=>d
 |.v _,_,d=>d
 |.p k o,v,⟨b,e,d⟩=>by
  obtain⟨m,J,U⟩:=Ed ae e;unfold m7;rw[J];exact⟨b,U,d⟩
 |.gW k z j o,v,⟨b,e,d⟩=>by
  obtain⟨m,J,U⟩:=Ed ae e;unfold m7;rw[J];exact⟨b,U,d⟩
 |.bj k z o n c,v,⟨b,e,d⟩=>by
  obtain⟨m,J,U⟩:=Ed ae e;unfold m7;rw[J];exact⟨b,U,d⟩
 |.c5 _ _ _ _,_,d=>d
 |.ih _ _ _ _,_,d=>d
 |.cw _ _ _ _,_,d=>d
 |.ip _,_,d=>d
 |.fn _ bG cs,_,⟨vs,ws,e,d1,d2⟩=>⟨vs,ws,e,zG ae bG d1,zG ae cs d2⟩
 |.agg cs,_,⟨vs,e,d⟩=>⟨vs,e,zG ae cs d⟩
 |.bu cs,_,⟨vs,e,d⟩=>⟨vs,e,zG ae cs d⟩
 |.bad,_,d=>d.elim
theorem zG{H:bJ}{f ids:ac Nat}(ae:∀k m:Nat,f[k]? =some m->m<ids.length):∀(a:ac ah) {v:ac be},dj H a (pick f ids) v->dj H (qy f a) ids v
 |[],_,d=>d
 |a::as,_,⟨v,ws,e,d1,d2⟩=>⟨v,ws,e,RS ae a d1,zG ae as d2⟩
theorem Ed{f ids:ac Nat}(ae:∀k m:Nat,f[k]? =some m->m<ids.length){k b:Nat}(h:(pick f ids)[k]? =some b):∃m,f[k]? =some m∧ids[m]? =some b:=by
 unfold pick at h;rw[zdE]at h;cases ab:f[k]? with
 |none=>rw[ab]at h;cases h
 |some m=>
  rw[ab]at h;have hm:=ae k m ab;have h:some ((ids[m]?).getD 0)=some b:=h;rw[bV hm]at h;exact⟨m,rfl,by rw[bV hm];exact h⟩
end
def BO(f:ac Nat):bp->bp->Prop
 |.c el cs,o=>o= .c el (qy f cs)
 |.a el a3 z α R l,o=>o= .a el a3 z α R l∧∀x,iU (R x)=true
 |.x,o=>o= .x
def BO.den{H:bJ}{f ids:ac Nat}(ae:∀k m:Nat,f[k]? =some m->m<ids.length){br:bp}{ej:am bH}(h:BO f o br)(d:mR H (pick f ids) o ej):mR H ids br ej∧br.live=o.live:=by
 cases o with
 |c el cs=>cases h;obtain⟨vs,e,d⟩:=d;exact⟨⟨vs,e,zG ae cs d⟩,rfl⟩
 |a el a3 z α R l=>
  obtain⟨h,hp⟩:=h;cases h;obtain⟨vs,aw,e2,d⟩:=d;exact⟨⟨vs,aw,e2,fun i x aa=>pV _ (hp x) (d i x aa) _⟩,rfl⟩
 |x=>cases h;exact⟨trivial,rfl⟩
def J9(f:ac Nat)(own bP:ac bp)(os:ac bp):Prop:=bP.length=own.length∧(∀j:Nat,j∉f->bP[j]? =own[j]?)∧∀(i k:Nat) (br:bp),f[i]? =some k->bP[k]? =some br->∃o,os[i]? =some o∧BO f o br
variable{bP:ac bp}{da:ci->gN}{cA:bJ}{i0:ac Nat}{aH:ay}{c0:ac bi}{as:ac ah}{br:bp}{cB:Nat}{Q:dT->cW->Prop}{d:am Tmp}{xs:ac bK}
def adW{k:Nat}{own:ac bp}(h:kB own k br some=some bP)(hb:BO [k] o br):J9 [k] own bP [o]:=by
 have:=l2 h;cases this;refine⟨by simp,fun j hj=>zbv (by simpa using fun e=>hj (by simp[e])),fun i k' q ab hq=> ?_⟩;cases i with
 |zero=>
  simp at ab;subst ab;rw[zbu]at hq;rw[zab rfl]at hq;split at hq<;>cases hq;exact⟨o,rfl,hb⟩
 |succ i=>simp at ab
def aeh{bB:ar dv}{n:Nat}{own:ac bp}{g:ci}(hc:a6 X g S.spec)(f:ac Nat)(l:S.L)(hp:S.pre l)(hh:S.hp cA)
 (ai:Sub 0 f ⟨own,aP,e⟩ ⟨S.own l,(S.own l).length,[]⟩) (hb:J9 f own bP (S.bP l))
 (aY:mr e c0=some as) (he:as=qy f (S.args l)) (ec:da g=S.spec.K) {H:bJ} {ids:ac Nat} {st:ay} {fr:aR} (bb:eh cA i0 aH H ids st) (az:Fit H ids st own aP) (ae:c9 fr H ids e):
 ∃v st' dd bF,bR (dc bB (dz X da) (n+1)) (.call (.func g) c0) fr st= .ok v fr st'∧Fit bF dd st' bP aP∧den bF (m7 f (S.res l)) dd v∧dp H bF∧di ids dd∧eh cA i0 aH bF dd st'∧st.al<=st'.al:=by
 subst he;have p3:=ai.fit az;have aq:=xm f _ (ae.eA aY);obtain⟨v,st',J,U⟩:=hc _ st ⟨(l,H,pick f ids),hp,S.hm bb.hle hh,p3,aq⟩;obtain⟨v1,cl,aM,aN⟩:=Oc (X:=X) (K:=da) (f:=g) ⟨v,st',by rw[ec];exact J,U⟩;rw[ec]at aN;obtain⟨bF,ef,et,g6⟩:=aN (l,H,pick f ids) ⟨hp,S.hm bb.hle hh,p3,aq⟩;simp only at ef et g6;have a4:∀k m:Nat,f[k]? =some m->m<ids.length:=fun k m ab=>by
  have hl:(S.own l).length=f.length:=ai.own.len;have J:=(zah.1 ab).1;obtain⟨fi,br,U,af,_⟩:=ai.own.get (bV (show k<(S.own l).length by omega));rw[ab]at U;cases U;rw[az.len,<-az.cI];exact(zah.1 af).1
 have Mv:∀(j b:Nat),j∉f->ids[j]? =some b->b∉pick f ids:=fun j b hj hb hm=>by
  obtain⟨k,ab⟩:=zcG.1 hm;obtain⟨m,af,ax⟩:=Ed a4 ab;have aw:=zah.1 hb;have e2:=zah.1 ax;have:=(zcF (h₀:=aw.1) (h₁:=e2.1) az.de).1 (aw.2.trans e2.2.symm);exact hj (this▸zaA af)
 have bf:dc bB (dz X da) (n+1) (.func (.func g) #[] #[]) (eA fr c0) none st= .ret v1 cl false:=by
  rw[zr];have e:gC (#[]:ap be).toList (gC (eA fr c0) (#[]:ap be).toList)=eA fr c0:=by simp
  rw[e,aM];rfl
 have hle:dp H bF:=et.hle;refine⟨v1,cl,ids,bF,?_,?_,RS a4 _ g6,hle,di.refl _,?_,et.al⟩
 ·rw[AZ];show xw (dc bB (dz X da) (n+1) (.func (.func g) #[] #[]) (eA fr c0) none st) _ _=_;rw[bf];rfl
 ·obtain⟨gR,o7,akp⟩:=hb;refine⟨ef.wf,ef.le,by rw[gR];exact az.cI,az.len,az.de,fun b hb=>fy (az.lt b hb) et.al,fun j o b hj p4=> ?_⟩;by_cases Mf:j∈f
  ·obtain⟨i,hi⟩:=zcG.1 Mf;obtain⟨D2,alv,xP⟩:=akp i j o hi hj;have ME:=yy hi p4;obtain⟨af,ax⟩:=ef.own i D2 b alv ME;obtain⟨a0,ck⟩:=xP.den a4 af;exact⟨a0,fun hl=>ax (by rw[<-ck];exact hl)⟩
  ·have hj:bP[j]? =some o:=hj;rw[o7 j Mf]at hj;obtain⟨af,ax⟩:=az.own j o b hj p4;have G9:=az.lt b (zaA p4);have p9:=Mv j b Mf p4;rw[et.h5 b G9 p9];exact⟨xk hle (di.refl _) af,fun hl=>by rw[et.hold b G9 p9];exact ax hl⟩
 ·have z6:∀b,b∈pick f ids->b∈ids:=fun b hb=>by
   obtain⟨k,ab⟩:=zcG.1 hb;obtain⟨m,_,ax⟩:=Ed a4 ab;exact zaA ax
  have sg:∀b,b<aH.al->b∉i0->b∉pick f ids:=fun b hb hn hm=>by
   rcases bb.new b (z6 b hm)with h|h
   ·exact hn h
   ·have h:aH.al<=b:=h;omega
  refine⟨bb.hle.trans hle,fun b hb hn=> ?_,fun b hb hn=> ?_,zaj bb.al et.al,bb.mn,bb.new⟩
  ·rw[et.hold b (fy hb bb.al) (sg b hb hn)];exact bb.hold b hb hn
  ·rw[et.h5 b (fy hb bb.al) (sg b hb hn)];exact bb.h5 b hb hn
def aeg{bB:ar dv}{n:Nat}{fn:ci}{own:ac bp}{g:ci}(hc:a6 X g S.spec)(f:ac Nat)(l:S.L)(hp:S.pre l)
 (ai:Sub 0 f ⟨own,aP,e⟩ ⟨S.own l,(S.own l).length,[]⟩) (hb:J9 f own bP (S.bP l)) (k:a1.ok ⟨dc bB (dz X da) (n+1),cB,fn,cA,i0,aH,Q⟩ ⟨K,.o xs,⟨bP,aP,fI d (m7 f (S.res l)) e⟩⟩)
 (aY:mr e c0=some as) (he:as=qy f (S.args l)) (ec:da g=S.spec.K) (hh:S.hp cA):
 a1.ok ⟨dc bB (dz X da) (n+1),cB,fn,cA,i0,aH,Q⟩ ⟨K,.o (⟨d,.call (.func g) c0,none⟩::xs),⟨own,aP,e⟩⟩:=fun H ids st fr bb az ae=>by
 obtain⟨v,st',dd,bF,cP,cT,ek,jR,wy,apd,_⟩:=aeh (n:=n) hc f l hp hh ai hb aY he ec bb az ae;exact uY cP (k bF dd st' _ apd cT ((ae.mono jR wy).fI d ek))
def aax{bB:ar dv}{n:Nat}{fn:ci}{own:ac bp}{g:ci}(hc:a6 X g S.spec)(bL:Nat)(l:S.L)(hp:S.pre l)
 (k:a1.ok ⟨dc bB (dz X da) (n+1),cB,fn,cA,i0,aH,Q⟩ ⟨K,.o xs,⟨bP,aP,fI d (m7 [bL] (S.res l)) e⟩⟩) (ao:S.own l=[o]:=by rfl) (jK:S.bP l=[br]:=by rfl)
 (ab:∃wc,own[bL]? =some wc∧gA [bL] o wc:=by exact⟨_,rfl,rfl,fun _=>rfl⟩) (ai:kB own bL br some=some bP:=by rfl) (hb:BO [bL] br br:=by exact⟨rfl,fun _=>rfl⟩)
 (aY:mr e c0=some as:=by rfl) (he:as=qy [bL] (S.args l):=by rfl) (ec:da g=S.spec.K:=by rfl) (hh:S.hp cA:=by first|exact trivial|assumption):
 a1.ok ⟨dc bB (dz X da) (n+1),cB,fn,cA,i0,aH,Q⟩ ⟨K,.o (⟨d,.call (.func g) c0,none⟩::xs),⟨own,aP,e⟩⟩:=
 aeg hc [bL] l hp ⟨by simp,by rw[ao];rfl,by rw[ao];exact⟨ab,trivial⟩,trivial,rfl⟩ (by rw[jK];exact adW ai hb) k aY he ec hh
end Go.ak
namespace Go.ak
open Sym
set_option maxRecDepth 10000
section
variable{aE:fL}{K:ac e4}{own bP:ac bp}{aP:Nat}{e:bX}
def O2{bL z n c:Nat}(t:Nat){el:ce}{a3:Bool}{α:Type}{R:α->ac ah}{l:ac α}{p:dq}(k:a1.ok aE ⟨K,.c p,⟨bP,aP,(t,.c5 z α R l)::e⟩⟩)(aV:dZ e t=some (.bj bL z 0 n c):=by rfl)(ab:own[bL]? =some (.a el a3 z α R l):=by rfl)(hp:∀x,iU (R x)=true:=by exact fun _=>rfl)
 (ao:kB own bL .x some=some bP:=by rfl) (hn:l.length=n:=by first|omega|(simp;done)|(simp;omega)) (hc:n<=c:=by omega):a1.ok aE ⟨K,.c p,⟨own,aP,e⟩⟩:=by
 have J:=l2 ao;cases J;exact ap0 t l aV ab (by rw[zap,zaF (by omega)]) hn hc hp k
end
section
variable{call:bO}{s:cW}{x y:bi}
def aeF{k z n c:Nat}{el:ce}{a3:Bool}{α:Type}{R:α->ac ah}{l m:ac α}(aa:bw s.env x=some (.bj k z 0 n c))(ab:s.own[k]? =some (.a el a3 z α R l))(ai:qJ s y R z m)(J:m.length<=n)(U:n<=l.length)(aJ:0<z):
 fA call (.qR z x y) s (.i .i64 (m.length:Nat)) (s.own.set k (.a el a3 z α R (m++l.drop m.length))) s.n:=fun H ids st fr az ae=>by
 obtain⟨b,aM,aN⟩:=ae.aj aa;obtain⟨vs,bf,cb,cQ⟩:=pK az ab aM;have e:bR call (.qR z x y) fr st=hD (fr.aj x) (fun a dl _=>hD (fr.aj y) (fun b bj _=>bm a (fun a=>bm b (fun b=>st.load b (Nat.mul (ed bj dl bj dl) z) (fun vs=>cond (gZ vs) (st.store a vs (fun st=>.ok (.int .i64 (.ofNat (ed bj dl bj dl))) fr st) .no) .no) .no) (dV bj 0 (.ok (.int .i64 0) fr st) .no)) (dV dl 0 (.ok (.int .i64 0) fr st) .no)) .no) .no:=rfl;rw[e,aN,nY,zas];rcases ai H ids st fr az ae with⟨rfl,b6,cP⟩|⟨fU,o,b6,ws,R3,bd,CQ,cP,cT,ek,jR,wy⟩
 ·refine⟨.int .i64 0,st,ids,H,by rw[cP,nY,Sym.eJ,Sym.hR,jC rfl],?_,rfl,dp.refl _,di.refl _,fun _ _ _ B=>B,b5 _,fun _ _ _=>rfl⟩;rw[show([]++l.drop ([]:ac α).length)=l by simp,show s.own.set k (.a el a3 z α R l)=s.own from ?_]
  ·exact az
  ·apply zbJ;intro i;rw[zbu];split
   ·rename_i h;subst h;rw[ab];simp[(zah.1 ab).1]
   ·rfl
 ·have vH:((ws.drop o).take (m.length*z)).length=m.length*z:=by simp at ek ⊢;omega
  have auM:m.length*z<=l.length*z:=fq z (by omega);have jG:=tm jR (zv (n:=m.length) ⟨cb,cQ⟩);have aq:vs.take 0++((ws.drop o).take (m.length*z)++vs.drop (0+((ws.drop o).take (m.length*z)).length))=(ws.drop o).take (m.length*z)++vs.drop (m.length*z):=by rw[vH];simp
  refine⟨_,_,ids,H,?_,az.gL ab rfl aM (ej:=.cells ((ws.drop o).take (m.length*z)++vs.drop (m.length*z)) el (0,0) a3) ⟨_,rfl,jG.1,jG.2⟩,rfl,dp.refl _,di.refl _,fun _ _ _ B=>B.gL (zaA aM) _,b5 _,fun auh _ cx=>ar.hY _ _ (fun e=>cx k (by simp[ky,aa]) (e▸aM))⟩;rw[cP,nY,Sym.eJ,Sym.eJ,gv J];show ay.load st ⟨fU,o,none⟩ (m.length*z) _ _=_;unfold ay.load ay.gE;rw[Sym.hR,cT,kI,r1 ek,wy,cond_true];unfold ay.store ay.gE;rw[Sym.hR,bf,kI,gv (b5 _),rB,zab (by show 0+_<=_;rw[vH,cb];omega),jT,aq];rfl
end
section
variable{aE:fL}{K:ac e4}{own bP:ac bp}{aP:Nat}{e:bX}{d:Tmp}{xs:ac bK}{x y:bi}
def apY{bL z n c:Nat}{el:ce}{a3:Bool}{α:Type}{R:α->ac ah}{l:ac α}(m:ac α)(ai:qJ ⟨own,aP,e⟩ y R z m)(k:a1.ok aE ⟨K,.o xs,⟨bP,aP,(d,.i .i64 (m.length:Nat))::e⟩⟩)(aa:bw e x=some (.bj bL z 0 n c):=by rfl)(ab:own[bL]? =some (.a el a3 z α R l):=by rfl)
 (ao:kB own bL (.a el a3 z α R (m++l.drop m.length)) some=some bP:=by rfl) (J:m.length<=n:=by omega) (U:n<=l.length:=by first|omega|(simp;done)|(simp;omega)) (aJ:0<z:=by decide):a1.ok aE ⟨K,.o (⟨some d,.qR z x y,none⟩::xs),⟨own,aP,e⟩⟩:=by
 have h:=l2 ao;cases h;exact e7 (aeF (s:=⟨own,aP,e⟩) aa ab ai J U aJ) k
end
section
variable{aE:fL}{K:ac e4}{own bZ:ac bp}{aP bn cj back:Nat}{e a7:bX}{d:Tmp}{ts:ac Tmp}{xs:ac (bK×cE)}{x y i:bi}
variable{m n:Nat}
def afs(k:a1.ok aE ⟨K,.d xs bZ ((d,.i .u64 ((m/n:Nat):Int))::a7) bn cj,⟨own,aP,(d,.i .u64 ((m/n:Nat):Int))::e⟩⟩)(aa:bw (eV ts a7) x=some (.i .u64 (m:Int)):=by rfl)(aF:bw (eV ts a7) y=some (.i .u64 (n:Int)):=by rfl)(hb:back<bn:=by decide)(hn:n≠0:=by omega)(hm:m<18446744073709551616:=by omega):a1.ok aE ⟨K,.d ((⟨some d,.bin .quo x y,none⟩,.read back ts)::xs) bZ a7 bn cj,⟨own,aP,e⟩⟩:=
 oX (d:=some d) (a:=.i .u64 ((m/n:Nat):Int)) hb (fun H ids st fr ae _ _=>⟨.int .u64 ((m/n:Nat):Int),rfl,fun dB _ _=>by
  rw[YQ (ae.aj aa) (ae.aj aF) hn];have:=zau m n;generalize m/n=q at *;rw[aco (by omega) (by omega)]⟩) k
def afv{bL:d7}(k:a1.ok aE ⟨K,.d xs bZ ((d,.i bL ((m%n:Nat):Int))::a7) bn cj,⟨own,aP,(d,.i bL ((m%n:Nat):Int))::e⟩⟩)(aa:bw (eV ts a7) x=some (.i bL (m:Int)):=by rfl)(aF:bw (eV ts a7) y=some (.i bL (n:Int)):=by rfl)(hb:back<bn:=by decide)(hn:n≠0:=by omega):a1.ok aE ⟨K,.d ((⟨some d,.bin .rem x y,none⟩,.read back ts)::xs) bZ a7 bn cj,⟨own,aP,e⟩⟩:=
 oX (d:=some d) (a:=.i bL ((m%n:Nat):Int)) hb (fun H ids st fr ae _ _=>⟨.int bL ((m%n:Nat):Int),rfl,fun dB _ _=>aov (ae.aj aa) (ae.aj aF) hn⟩) k
def afx{z p q:Nat}{α:Type}{R:α->ac ah}{l:ac α}{aL hi:am bi}(l':ac α)(k:a1.ok aE ⟨K,.d xs bZ ((d,.c5 z α R l')::a7) bn cj,⟨own,aP,(d,.c5 z α R l')::e⟩⟩)(aa:bw (eV ts a7) x=some (.c5 z α R l):=by rfl)(fH:e8 ⟨[],0,eV ts a7⟩ aL 0 p:=by first|exact rfl|exact⟨_,rfl⟩)(gu:e8 ⟨[],0,eV ts a7⟩ hi l.length q:=by first|exact rfl|exact⟨_,rfl⟩)(hb:back<bn:=by decide)(hl:(l.drop p).take (q-p)=l':=by first|rfl|simp)(hp:p<=q:=by omega)(hq:q<=l.length:=by first|omega|(simp;done)|(simp;omega)):a1.ok aE ⟨K,.d ((⟨some d,.na z x aL hi none,none⟩,.read back ts)::xs) bZ a7 bn cj,⟨own,aP,e⟩⟩:=by
 subst hl;refine oX (d:=some d) hb (fun H ids st fr ae _ _=> ?_) k;obtain⟨v,J,U⟩:=abw (call:=aE.call) (s:=⟨[],0,eV ts a7⟩) aa fH gu hp hq ae;exact⟨v,J,fun dB hle _=>U dB hle⟩
end
section
variable{call:bO}{s:cW}{x y:bi}
variable{a9 c1 k n c:Nat}{el:ce}{α:Type}{R:α->ac ah}{l:ac α}
def Qu{a3:Bool}(aa:bw s.env x=some (.bj k a9 0 n c))(ab:s.own[k]? =some (.a el a3 a9 α R l))(ai:u7 call el c1 s y R a9 [])(kv:n<=c)(hc:c<=l.length)(hb:(5*n+1792)*(c1+1)<=1125899906842624):
 fA call (.app el a9 c1 x y) s (.bj k a9 0 n c) s.own s.n:=fun H ids st fr az ae=>by
 obtain⟨b,aM,aN⟩:=ae.aj aa;obtain⟨vs,bf,cb,cQ⟩:=pK az ab aM;obtain⟨new,J,U,af⟩:=ai H ids st fr az ae x _ _ _ aN;have GV:c*a9<=l.length*a9:=fq a9 hc;refine⟨_,st,ids,H,?_,az,⟨b,aM,rfl⟩,dp.refl _,di.refl _,fun _ _ _ B=>B,b5 _,fun _ _ _=>rfl⟩;rw[af];unfold iK ay.gE;simp only[zdb,zdc,Sym.eJ,Sym.hR,bf,kI,zas,List.length_nil,zaJ];rw[gv (show(5*n+1792)*Nat.succ c1<=2^50 from hb),gv (b5 _),gv kv,gv (by rw[fo,cb];show 0+c*a9<=_;omega),jC rfl,jC rfl]
def ady{m:ac α}(aa:bw s.env x=some (.bj k a9 0 n c))(ab:s.own[k]? =some (.a el false a9 α R l))(ai:u7 call el c1 s y R a9 m)(h0:m≠[])(kv:n<=c)(WR:c<n+m.length)(hc:c<=l.length)(hb:(5*(n+m.length)+1792)*(c1+1)<=1125899906842624):
 fA call (.app el a9 c1 x y) s (.bj s.n a9 0 (n+m.length) (n+m.length)) (s.own++[.a el true a9 α R (l.take n++m)]) (s.n+1):=fun H ids st fr az ae=>by
 obtain⟨b,aM,aN⟩:=ae.aj aa;obtain⟨vs,bf,cb,cQ⟩:=pK az ab aM;obtain⟨new,J,U,af⟩:=ai H ids st fr az ae x _ _ _ aN;have hl:0<m.length:=zbg.2 h0;have jG:=tm (FN ⟨cb,cQ⟩ n (by omega)) J;have kM:=FL (dp.refl H) (di.app ids [st.al]) jG;have GV:c*a9<=l.length*a9:=fq a9 hc;have Di:n*a9<=l.length*a9:=fq a9 (by omega);refine⟨.slice (some ⟨st.al,0,none⟩) (n+m.length) (n+m.length),_,_,H,?_,az.add (ej:=.cells (vs.take (n*a9)++new) el (0,0) true) ⟨_,rfl,kM.1,kM.2⟩,⟨st.al,by rw[<-az.len,zaQ (b5 _)];simp,by rw[zas]⟩,dp.refl _,di.app _ _,fun _ _ _ B=>B.add _,zbo _,fun b hb _=>AU hb⟩;rw[af];unfold iK ay.gE;simp only[zdb,zdc,Sym.eJ,Sym.hR,bf,kI,zas];rw[gv (show(5*(n+m.length)+1792)*Nat.succ c1<=2^50 from hb),gv (b5 _),gv kv,gv (by rw[fo,cb];show 0+c*a9<=_;omega),jC rfl,r5 (by omega),cond_false,ant (by omega),r1 (by simp;omega),gw,qM,zap]
end
section
variable{aE:fL}{K:ac e4}{own bP:ac bp}{aP cc:Nat}{e:bX}{d:Tmp}{xs:ac bK}{x y:bi}
variable{a9 c1 n c:Nat}{el:ce}{α:Type}{R:α->ac ah}{l:ac α}
def apS{bL:Nat}{a3:Bool}(ai:qJ ⟨own,aP,e⟩ y R a9 ([]:ac α))(k:a1.ok aE ⟨K,.o xs,⟨own,aP,(d,.bj bL a9 0 n c)::e⟩⟩)(aa:bw e x=some (.bj bL a9 0 n c):=by rfl)(ab:own[bL]? =some (.a el a3 a9 α R l):=by rfl)
 (kv:n<=c:=by omega) (hc:c<=l.length:=by first|omega|(simp;done)|(simp;omega)) (hb:(5*n+1792)*(c1+1)<=1125899906842624:=by omega):a1.ok aE ⟨K,.o (⟨some d,.app el a9 c1 x y,none⟩::xs),⟨own,aP,e⟩⟩:=e7 (Qu (s:=⟨own,aP,e⟩) aa ab (B2 ai) kv hc hb) k
def aav{bL:Nat}(m:ac α)(ai:qJ ⟨own,aP,e⟩ y R a9 m)(l':ac α)(k:a1.ok aE ⟨K,.o xs,⟨bP,cc,(d,.bj aP a9 0 (n+m.length) (n+m.length))::e⟩⟩)(aa:bw e x=some (.bj bL a9 0 n c):=by rfl)(ab:own[bL]? =some (.a el false a9 α R l):=by rfl)
 (ao:rN own (.a el true a9 α R l') some=some bP:=by rfl) (jI:ov aP some=some cc:=by rfl) (h0:m≠[]:=by first|rfl|simp) (kv:n<=c:=by omega) (WR:c<n+m.length:=by first|omega|(simp;done)|(simp;omega)) (hc:c<=l.length:=by first|omega|(simp;done)|(simp;omega))
 (hb:(5*(n+m.length)+1792)*(c1+1)<=1125899906842624:=by first|omega|(simp;done)|(simp;omega)) (hl:l.take n++m=l':=by first|rfl|simp):a1.ok aE ⟨K,.o (⟨some d,.app el a9 c1 x y,none⟩::xs),⟨own,aP,e⟩⟩:=by
 subst hl;have J:=sW ao;have U:=qo jI;cases J;cases U;exact e7 (ady (s:=⟨own,aP,e⟩) aa ab (B2 ai) h0 kv WR hc hb) k
end
section
variable{aE:fL}{K:ac e4}{own bZ:ac bp}{aP bn cj back:Nat}{e a7:bX}{d:Tmp}{ts:ac Tmp}{xs:ac (bK×cE)}{x y:bi}
def RI{m n:Nat}(k:a1.ok aE ⟨K,.d xs bZ ((d,.i .i64 ((m/n:Nat):Int))::a7) bn cj,⟨own,aP,(d,.i .i64 ((m/n:Nat):Int))::e⟩⟩)(aa:bw (eV ts a7) x=some (.i .i64 (m:Int)):=by rfl)(aF:bw (eV ts a7) y=some (.i .i64 (n:Int)):=by rfl)(hb:back<bn:=by decide)(hn:n≠0:=by omega)(hm:m<9223372036854775808:=by omega):a1.ok aE ⟨K,.d ((⟨some d,.bin .quo x y,none⟩,.read back ts)::xs) bZ a7 bn cj,⟨own,aP,e⟩⟩:=
 oX (d:=some d) (a:=.i .i64 ((m/n:Nat):Int)) hb (fun H ids st fr ae _ _=>⟨.int .i64 ((m/n:Nat):Int),rfl,fun dB _ _=>by
  rw[YQ (ae.aj aa) (ae.aj aF) hn];have:=zau m n;generalize m/n=q at *;rw[gd (by omega) (by omega)]⟩) k
end
def m6{aE:fL}{K:ac e4}{i:Nat}{c:bA}{s:cW}{b:dq}{L:Type _}(P:L->Prop)(T:L->cW)(J:a1.ok aE ⟨.cG i:: .b7 (wZ aE.i0.length P T)::K,c,s⟩)(U:∀l,P l->a1.ok aE ⟨K,.c b,T l⟩):a1.ok aE ⟨.cG i:: .seq b::K,c,s⟩:=by
 have up:∀s,wZ aE.i0.length P T s->Sem aE (.seq b::K) .norm s:=fun s aa=>by
  obtain⟨f,l,hp,ai⟩:=aa;exact O3 f _ ai (U l hp)
 refine R.mono (fun x s aa=> ?_) J;cases x with
 |norm=>exact up s aa
 |exit j=>
  show if j=i then Sem aE (.seq b::K) .norm s else Sem aE (.seq b::K) (.exit j) s;have aa:if j=i then Sem aE (.b7 (wZ aE.i0.length P T)::K) .norm s else Sem aE (.b7 (wZ aE.i0.length P T)::K) (.exit j) s:=aa;split
  ·rename_i h;rw[zab h]at aa;exact up s aa
  ·rename_i h;rw[zaa h]at aa;exact aa
 |ret=>exact aa
 |bk v=>exact aa
def Pw{own:ac bp}{n p:Nat}{e cy:bX}{o q r:bp}(h:kG [0,1,2] cy e)(ao:∃br,own[0]? =some br∧gA [0,1,2] o br)(hq:∃br,own[1]? =some br∧gA [0,1,2] q br)(hr:∃br,own[2]? =some br∧gA [0,1,2] r br)(hp:pinned p [0,1,2] 0=true:=by rfl):Sub p [0,1,2] ⟨own,n,e⟩ ⟨[o,q,r],3,cy⟩:=⟨by simp,rfl,⟨ao,hq,hr,trivial⟩,h,hp⟩
def kE(c:bv):ac ah:=[.i .u8 (c.toNat:Int)]
theorem K5{H:bJ}{ids:ac Nat}:∀{l:ac bv} {vs:ac be},jk H ids kE 1 l vs->bytesOf vs=some l
 |[],vs,h=>by
  have:vs=[]:=zbz (by rw[h.1];simp);subst this;rfl
 |c::l,vs,h=>by
  have J:=h.2 0 c (by simp);rw[zas,zap]at J;have U:=zv h 1;obtain⟨v,ws,aw,e2,bW⟩:=J;have e2:v= .int .u8 (c.toNat:Int):=e2;have bW:ws=[]:=bW;subst e2 bW;have aI:vs= .int .u8 (c.toNat:Int)::vs.drop 1:=by
   conv=>lhs;rw[<-zbh 1 vs,aw]
   rfl
  have a8:=K5 (l:=l) (vs:=vs.drop 1) (by simpa using U);rw[aI];show bm (bytesOf (vs.drop 1)) (fun bU=>some (UInt8.ofNat ((c.toNat:Int)).toNat::bU)) none=_;rw[a8];show some (UInt8.ofNat ((c.toNat:Int)).toNat::l)=_;rw[zca,UInt8.ofNat_toNat]
theorem Rn(H:bJ)(ids:ac Nat):∀l:ac bv,jk H ids kE 1 l (kZ l)∧gZ (kZ l)=true
 |[]=>⟨zw _ _ _ _,rfl⟩
 |c::l=>by
  obtain⟨J,U⟩:=Rn H ids l;exact⟨tm (l:=[c]) (m:=l) (vs:=[.int .u8 (c.toNat:Int)]) (FM ⟨_,[],rfl,rfl,rfl⟩ rfl) J,U⟩
section
variable{call:bO}{s:cW}{x y:bi}
def aek{k o n c:Nat}{el:ce}{a3:Bool}{l:ac bv}(aa:bw s.env x=some (.bj k 1 o n c))(ab:s.own[k]? =some (.a el a3 1 bv kE l))(hn:o+n<=l.length):fA call (.zt x) s (.s ((l.drop o).take n)) s.own s.n:=jO fun H ids st fr az ae=>by
 obtain⟨b,aM,aN⟩:=ae.aj aa;obtain⟨vs,bf,cb,cQ⟩:=pK az ab aM;have jG:jk H ids kE 1 ((l.drop o).take n) ((vs.drop o).take n):=by
  have:=FN (zv (⟨cb,cQ⟩:jk H ids kE 1 l vs) o) n (by simp;omega)
  rwa [zaE,zaE]at this
 refine⟨_,rfl,?_⟩;show Ih x call fr st=_;unfold Ih;rw[aN,nY,zaE,Sym.eJ];unfold ay.load ay.gE;rw[Sym.hR,bf,kI,r1 (by show n<=(vs.drop o).length;rw[zaH,cb];omega)];show bm (bytesOf ((vs.drop o).take n)) _ _=_;rw[K5 jG];rfl
end
section
variable{aE:fL}{K:ac e4}{own:ac bp}{aP:Nat}{e:bX}{d:Tmp}{xs:ac bK}{x y:bi}
def O1{bL n c:Nat}{el:ce}{a3:Bool}{l:ac bv}(l':ac bv)(k:a1.ok aE ⟨K,.o xs,⟨own,aP,(d,.s l')::e⟩⟩)(aa:bw e x=some (.bj bL 1 0 n c):=by rfl)(ab:own[bL]? =some (.a el a3 1 bv kE l):=by rfl)(hn:n<=l.length:=by first|omega|(simp;done)|(simp;omega))(hl:l.take n=l':=by first|rfl|simp):a1.ok aE ⟨K,.o (⟨some d,.zt x,none⟩::xs),⟨own,aP,e⟩⟩:=by
 have:=aek (call:=aE.call) (s:=⟨own,aP,e⟩) aa ab (by omega);rw[zap,hl]at this;exact e7 this k
end
section
variable{aE:fL}{K:ac e4}{own bZ:ac bp}{aP bn cj back:Nat}{e a7:bX}{d:Tmp}{ts:ac Tmp}{xs:ac (bK×cE)}{x y:bi}
variable{l:ac bv}{p q:Nat}{aL hi:am bi}
def ar3{call:bO}{s:cW}{H:bJ}{ids:ac Nat}{fr:aR}{st:ay}(ae:c9 fr H ids s.env)(aa:bw s.env x=some (.s l))(fH:e8 s aL 0 p)(gu:e8 s hi l.length q)(hp:p<=q)(hq:q<=l.length):bR call (.sV x aL hi) fr st= .ok (.string ⟨⟨(l.drop p).take (q-p)⟩⟩) fr st:=by
 have J:fr.aj x= .string ⟨⟨l⟩⟩:=ae.aj aa;have e:bR call (.sV x aL hi) fr st=hE (fr.aj x) (fun s=>e5 fr hi (dk s.data.toList) (dk s.data.toList) fun h=>e5 fr aL 0 h fun l=>iw s.data.toList l (h-l) (fun bU=>.ok (.string ⟨⟨bU⟩⟩) fr st) .no) .no:=rfl;rw[e,J,BG];show e5 fr hi (dk l) (dk l) _=_;rw[fo,e8.aj gu ae hq,e8.aj fH ae hp,zC (by show p+(q-p)<=l.length;omega)]
def FY(l':ac bv)(k:a1.ok aE ⟨K,.d xs bZ ((d,.s l')::a7) bn cj,⟨own,aP,(d,.s l')::e⟩⟩)(aa:bw (eV ts a7) x=some (.s l):=by rfl)(fH:e8 ⟨[],0,eV ts a7⟩ aL 0 p:=by first|exact rfl|exact⟨_,rfl⟩)(gu:e8 ⟨[],0,eV ts a7⟩ hi l.length q:=by first|exact rfl|exact⟨_,rfl⟩)(hb:back<bn:=by decide)(hl:(l.drop p).take (q-p)=l':=by first|rfl|simp)(hp:p<=q:=by omega)(hq:q<=l.length:=by first|omega|(simp;done)|(simp;omega)):a1.ok aE ⟨K,.d ((⟨some d,.sV x aL hi,none⟩,.read back ts)::xs) bZ a7 bn cj,⟨own,aP,e⟩⟩:=by
 subst hl;exact oX (d:=some d) (a:=.s ((l.drop p).take (q-p))) hb (fun H ids st fr ae _ _=>⟨_,rfl,fun dB _ _=>ar3 (s:=⟨[],0,eV ts a7⟩) ae aa fH gu hp hq⟩) k
end
