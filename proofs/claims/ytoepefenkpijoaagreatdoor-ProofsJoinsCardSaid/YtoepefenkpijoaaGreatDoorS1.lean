/- Rules for what a function computes on abstract states (part 1); no condition. -/
import Derived.Test.YtoepefenkpijoaaGreatDoorM1
import Derived.Test.YtoepefenkpijoaaGreatDoorM3
noncomputable section
set_option linter.all false
namespace Go.ar
namespace Sym
section
variable{α β:Type}
variable{a b:Nat}
def u7(r:aV)(k:be->aP->ay->cm)(p:be->ay->cm):cm:=aV.rec (motive:=fun _=>cm) k p .no r
def tg(v:be)(fr:aP)(st:ay)(k:be->aP->ay->cm)(p:be->ay->cm):u7 (.ok v fr st) k p=k v fr st:=rfl
def Zx(v:be)(st:ay)(k:be->aP->ay->cm)(p:be->ay->cm):u7 (.a1 v st) k p=p v st:=rfl
def aqp(k:be->aP->ay->cm)(p:be->ay->cm):u7 .no k p= .no:=rfl
def nN(r:dh)(k:be->ay->aV)(p:be->ay->aV):aV:=dh.rec (motive:=fun _=>aV) (fun v st _=>k v st) (fun v st _=>p v st) .no r
def Tu(v:be)(st:ay)(t:Bool)(k p:be->ay->aV):nN (.ret v st t) k p=k v st:=rfl
def Tt(v:be)(st:ay)(t:Bool)(k p:be->ay->aV):nN (.a1 v st t) k p=p v st:=rfl
def Ck(fr:aP)(st:ay)(k:aP->ay->cm):lP (.out .norm fr st) k=k fr st:=rfl
def auU(v:be)(fr:aP)(st:ay)(k:aP->ay->cm):lP (.out (.a1 v) fr st) k= .out (.a1 v) fr st:=rfl
def aeQ(id:Nat)(fr:aP)(st:ay):rC id (.out .norm fr st)= .out .norm fr st:=rfl
def aeP(id i:Nat)(fr:aP)(st:ay):rC id (.out (.exit i) fr st)=if i=id then .out .norm fr st else .out (.exit i) fr st:=by
 show dQ i id _ _=_;rw[pW]
@[congr] theorem axs {v v':be} (h:v=v') (k:f5->β) (z:β):im v k z=im v' k z:=by rw[h]
@[congr] theorem axr {v v':be} (h:v=v') (k:am Addr->Nat->Nat->β) (z:β):il v k z=il v' k z:=by rw[h]
def nA(a:d7)(n:Int)(k:d7->Int->β)(z:β):gO (.int a n) k z=k a n:=rfl
def Cr(s:f5)(k:f5->β)(z:β):im (.string s) k z=k s:=rfl
def n7(a:am Addr)(k:am Addr->β)(z:β):ik (.pointer a) k z=k a:=rfl
def oS(a:am Addr)(n c:Nat)(k:am Addr->Nat->Nat->β)(z:β):il (.slice a n c) k z=k a n c:=rfl
def avl(x:ap be)(k:ap be->β)(z:β):vx (.agg x) k z=k x:=rfl
def avm(x:ap be)(k:ap be->β)(z:β):rk (.tuple x) k z=k x:=rfl
@[congr] theorem aw6 {o bh:am α} (h:o=bh) (k:α->β) (z:β):bk o k z=bk bh k z:=by rw[h]
def en(a:α)(k:α->β)(z:β):bk (some a) k z=k a:=rfl
def gK(k:α->β)(z:β):bk (none:am α) k z=z:=rfl
@[congr] theorem aw3 {a a' b eW:Nat} (h:a=a') (aG:b=eW) (x y:β):ek a b x y=ek a' eW x y:=by rw[h,aG]
def gz(h:a<=b)(x y:β):ek a b x y=x:=by rw[oE,zab h]
def apb(h:¬a<=b)(x y:β):ek a b x y=y:=by rw[oE,zaa h]
def j0(h:a=b)(x y:β):dQ a b x y=x:=by rw[pW,zab h]
def sM(h:¬a=b)(x y:β):dQ a b x y=y:=by rw[pW,zaa h]
def pn(n:Nat)(k:Nat->β)(z:β):hP (n:Int) k z=k n:=rfl
def apJ{n:Int}(h:0<=n)(k:Nat->β)(z:β):hP n k z=k n.toNat:=by
 obtain⟨m,rfl⟩:=Int.eq_ofNat_of_zero_le h;rfl
def Ac{l:ac α}{o n:Nat}(h:o+n<=l.length)(k:ac α->β)(z:β):jt l o n k z=k ((l.drop o).take n):=by
 unfold jt;rw[Ah,Fy,zab (by simp;omega)];rfl
end
def Ds(fr:aP)(t:Tmp):fr.ak (.tmp t)=fr.tmp t:=rfl
def aqW(fr:aP)(v:be):fr.put none v=fr:=rfl
def xA(fr:aP)(d:Tmp)(v:be)(j:Nat):(fr.put (some d) v).tmp j=if j=d then v else fr.tmp j:=by
 rw[sr];by_cases h:j=d
 ·subst h;simp
 ·rw[zaa h,zaa (by simpa using fun e=>h e.symm)]
def agW(fr:aP)(d:am Tmp)(v:be):(fr.put d v).cS=fr.cS:=(tm fr d v).1
def auX(fr:aP)(d:am Tmp)(v:be):(fr.put d v).cB=fr.cB:=(tm fr d v).2.2.1
def ah0(fr:aP):ey fr []=[]:=rfl
def ahZ(fr:aP)(x:bi)(xs:ac bi):ey fr (x::xs)=fr.ak x::ey fr xs:=rfl
section
variable(call:bG)(b4:Nat)(fn:ci)(fr:aP)(st:ay)
variable{β:Type}
def S8:gG call [] fr st= .out .norm fr st:=rfl
def rK(d:am Tmp)(o:dd)(xs:ac bz):gG call (⟨d,o,none⟩::xs) fr st=
 u7 (bK call o fr st) (fun v fr st=>gG call xs (fr.put d v) st) (fun v st=>cond o.k7 (.out (.a1 v) fr st) .no):=rfl
def wz(v:be)(b:Bool)(yes h4 z:β):β:=mh v (fun c=>cond c (cond b yes h4) (cond b h4 yes)) (rk v (fun _=>h4) z)
def alB(x y z:β):wz (.bool true) true x y z=x:=rfl
def alA(x y z:β):wz (.bool true) false x y z=y:=rfl
def alz(x y z:β):wz (.bool false) true x y z=y:=rfl
def aly(x y z:β):wz (.bool false) false x y z=x:=rfl
def alC(b:Bool)(x y z:β)(a:ap be):wz (.tuple a) b x y z=y:=rfl
def L1(d:am Tmp)(o:dd)(t:Tmp)(b:Bool)(xs:ac bz):gG call (⟨d,o,some (t,b)⟩::xs) fr st=
 wz (fr.tmp t) b (u7 (bK call o fr st) (fun v fr st=>gG call xs (fr.put d v) st) (fun v st=>cond o.k7 (.out (.a1 v) fr st) .no)) (gG call xs (fr.put d undef) st) .no:=rfl
def S6(ops:ac bz):c1 call b4 fn (.hR ops) fr st=gG call ops fr st:=rfl
def G0(a b:dm):c1 call b4 fn (.seq a b) fr st=lP (c1 call b4 fn a fr st) (c1 call b4 fn b):=rfl
def LZ(c:bi)(a b:dm):c1 call b4 fn (.cond c a b) fr st=Gz (fr.ak c) (c1 call b4 fn a fr st) (c1 call b4 fn b fr st):=rfl
def S5(i:Nat)(a:dm):c1 call b4 fn (.block i a) fr st=rC i (c1 call b4 fn a fr st):=rfl
def ahS:c1 call b4 fn .ret fr st= .out .ret fr st:=rfl
def L0(b:dm)(n:Nat)(fr:aP)(st:ay):cm:=
 Nat.rec (motive:=fun _=>aP->ay->cm) (fun _ _=>.no) (fun _ a7 fr st=>lP (c1 call b4 fn b fr st) a7) n fr st
def ahW(b:dm)(n:Nat):L0 call b4 fn b (n+1) fr st=lP (c1 call b4 fn b fr st) (L0 call b4 fn b n):=rfl
end
section
variable(call:bG)(fr:aP)(st:ay)
def ZT(c a b:bi):bK call (.pick c a b) fr st=mh (fr.ak c) (fun t=>.ok (cond t (fr.ak a) (fr.ak b)) fr st) .no:=rfl
def ZJ(x:bi):bK call (.ph x) fr st=il (fr.ak x) (fun _ n _=>.ok (.int .i64 (n:Int)) fr st) (tE (fr.ak x) (.ok (.int .i64 (.ofNat 0)) fr st) .no):=rfl
def aqA(x:bi):bK call (.uV x) fr st=im (fr.ak x) (fun s=>.ok (.int .i64 (s.data.toList.length:Int)) fr st) .no:=by
 show im (fr.ak x) (fun s=>gm (db s.data.toList) fun n=>aV.ok (.int .i64 (.ofNat n)) fr st) aV.no=_;simp only[Aw,fg];rfl
def u9(f:bi)(args:ac bi):bK call (.call f args) fr st=nN (call (fr.ak f) (ey fr args) none st) (fun v st=>.ok v fr st) (fun v st=>.a1 v st):=rfl
def aqx(a2:Nat)(x i:bi):bK call (.l8 a2 x i) fr st=
 il (fr.ak x) (fun b len _=>bk b (fun a=>gO (fr.ak i) (fun _ j=>hP j (fun j=>ek (j+1) len (.ok (.pointer (some (a.add (j*a2)))) fr st) .no) .no) .no) .no) .no:=rfl
def ZL(x:bi):bK call (.j8 x) fr st=ik (fr.ak x) (fun p=>bk p (fun a=>st.load a 1 (fun vs=>one vs (fun v=>.ok v fr st) .no) .no) .no) .no:=rfl
def aqB(n:Nat)(x:bi):bK call (.qY n x) fr st=ik (fr.ak x) (fun p=>bk p (fun a=>st.load a n (fun vs=>.ok (.agg ⟨vs⟩) fr st) .no) .no) .no:=rfl
def aqt(k:d7)(x:bi):bK call (.tW k x) fr st=gO (fr.ak x) (fun _ n=>.ok (.int k (k.wrap n)) fr st) .no:=by
 show gO (fr.ak x) (fun _ n=>iA k (oT k n) fun v=>aV.ok v fr st) aV.no=_;simp only[iS,lR]
def EX(op:BinOp)(x y:bi):bK call (.bin op x y) fr st=Dq op (fr.ak x) (fr.ak y) (fun v=>.ok v fr st):=rfl
def LY(op:BinOp)(k xG:d7)(a b:Int)(c:be->aV):Dq op (.int k a) (.int xG b) c=Ap op k a xG b c:=rfl
def S4(op:BinOp)(a b:f5)(c:be->aV):Dq op (.string a) (.string b) c=CQ op a b c:=rfl
def aoO(k:d7):kn k k=true:=by cases k<;>rfl
end
end Sym
end Go.ar
namespace Go.ar
open Sym
def W(r:cm)(Q:dv->aP->ay->Prop):Prop:=∃e fr st,r= .out e fr st∧Q e fr st
variable{Q:dv->aP->ay->Prop}{r:cm}
def W.mk{e:dv}{fr:aP}{st:ay}(h:Q e fr st):W (.out e fr st) Q:=⟨e,fr,st,rfl,h⟩
def W.of_eq{dV:cm}(e:r=dV)(h:W dV Q):W r Q:=by rw[e];exact h
def W.mono{CB:dv->aP->ay->Prop}(h:W r Q)(hq:∀e fr st,Q e fr st->CB e fr st):W r CB:=
 let⟨e,fr,st,J,U⟩:=h;⟨e,fr,st,J,hq _ _ _ U⟩
def adT(call:bG)(b4:Nat)(fn:ci)(b:dm)(Q:dv->aP->ay->Prop):dv->aP->ay->Prop
 |.norm,fr,st=>W (c1 call b4 fn b fr st) Q
 |e,fr,st=>Q e fr st
def adG(id:Nat)(Q:dv->aP->ay->Prop):dv->aP->ay->Prop
 |.exit i,fr,st=>if i=id then Q .norm fr st else Q (.exit i) fr st
 |e,fr,st=>Q e fr st
def Round(eN:Nat->aP->ay->Prop)(m:Nat)(Q:dv->aP->ay->Prop):dv->aP->ay->Prop
 |.norm,fr,st=>∃fz,fz<m∧eN fz fr st
 |e,fr,st=>Q e fr st
section
variable{call:bG}{b4:Nat}{fn:ci}{fr:aP}{st:ay}{Q:dv->aP->ay->Prop}
variable{a b:dm}{c:bi}{t:Bool}{v:be}{i:Nat}{d:Tmp}
def avG(h:W (c1 call b4 fn a fr st) (adT call b4 fn b Q)):W (c1 call b4 fn (.seq a b) fr st) Q:=by
 obtain⟨e,aI,st',J,U⟩:=h;rw[G0,J];cases e with
 |norm=>exact U
 |exit i=>exact .mk U
 |ret=>exact .mk U
 |a1 v=>exact .mk U
def avH(h:Q .norm fr st):W (c1 call b4 fn .skip fr st) Q:=.mk h
def avv(h:Q (.exit i) fr st):W (c1 call b4 fn (.exit i) fr st) Q:=.mk h
def avD(h:Q .ret fr st):W (c1 call b4 fn .ret fr st) Q:=.mk h
def avF(h:W (c1 call b4 fn a fr st) Q):W (c1 call b4 fn (.scope a) fr st) Q:=h
def avr(h:W (c1 call b4 fn a fr st) (adG i Q)):W (c1 call b4 fn (.block i a) fr st) Q:=by
 obtain⟨e,aI,st',J,U⟩:=h;rw[S5,J];cases e with
 |norm=>exact .mk U
 |exit j=>
  rw[aeP];have ag:(if j=i then Q .norm aI st' else Q (.exit j) aI st'):=U;split at ag
  ·rw[zab (by assumption)];exact .mk ag
  ·rw[zaa (by assumption)];exact .mk ag
 |ret=>exact .mk U
 |a1 v=>exact .mk U
def avC{ops:ac bz}(h:W (gG call ops fr st) Q):W (c1 call b4 fn (.hR ops) fr st) Q:=h
def avy(h:Q .norm fr st):W (gG call [] fr st) Q:=.mk h
def avw(hc:fr.ak c= .bool t)(ha:t=true->W (c1 call b4 fn a fr st) Q)(hb:t=false->W (c1 call b4 fn b fr st) Q):W (c1 call b4 fn (.cond c a b) fr st) Q:=by
 rw[LZ,hc];cases t
 ·exact hb rfl
 ·exact ha rfl
def avI(hc:fr.ak c= .bool t)(aW:t=true)(ha:W (c1 call b4 fn a fr st) Q):W (c1 call b4 fn (.cond c a b) fr st) Q:=by
 rw[LZ,hc,aW];exact ha
def avu(hc:fr.ak c= .bool t)(aW:t=false)(hb:W (c1 call b4 fn b fr st) Q):W (c1 call b4 fn (.cond c a b) fr st) Q:=by
 rw[LZ,hc,aW];exact hb
theorem adm{b:dm}(eN:Nat->aP->ay->Prop)
 (cb:∀m fr st,eN m fr st->W (c1 call b4 fn b fr st) (Round eN m Q)):∀(n m:Nat) (fr:aP) (st:ay),m<n->eN m fr st->W (L0 call b4 fn b n fr st) Q
 |0,m,_,_,h,_=>by omega
 |n+1,m,fr,st,h,af=>by
  obtain⟨e,aI,st',J,U⟩:=cb m fr st af;rw[ahW,J];cases e with
  |norm=>
   obtain⟨fz,hm,ag⟩:=U;exact adm eN cb n fz aI st' (by omega) ag
  |exit i=>exact .mk U
  |ret=>exact .mk U
  |a1 v=>exact .mk U
def avx(eN:Nat->aP->ay->Prop)(m:Nat)(hm:m<b4)(h0:eN m fr st)
 (cb:∀m fr st,eN m fr st->W (c1 call b4 fn b fr st) (Round eN m Q)):W (c1 call b4 fn (.loop b) fr st) Q:=
 adm eN cb b4 m fr st hm h0
def E:(fr.put (some d) v).ak (.tmp d)=v:=by rw[Ds,xA,zab rfl]
def N{j:Tmp}{x:be}(h:fr.ak (.tmp j)=x)(cd:Nat.beq j d=false:=by rfl):(fr.put (some d) v).ak (.tmp j)=x:=by
 rw[Ds,xA,zaa];exact h;intro e;subst e;simp at cd
def C:fr.ak (.const v)=v:=rfl
section
variable{xs:ac bz}{d:am Tmp}{o:dd}{x y i:bi}
def su{st':ay}(h:bK call o fr st= .ok v fr st')(k:W (gG call xs (fr.put d v) st') Q):W (gG call (⟨d,o,none⟩::xs) fr st) Q:=by
 rw[rK,h,tg];exact k
def avB{t:Tmp}{b c:Bool}(aR:fr.ak (.tmp t)= .bool c)(hc:c=b)(k:W (gG call (⟨d,o,none⟩::xs) fr st) Q):W (gG call (⟨d,o,some (t,b)⟩::xs) fr st) Q:=by
 subst hc;rw[L1,show fr.tmp t= .bool c from aR];rw[rK]at k;cases c
 ·rw[aly];exact k
 ·rw[alB];exact k
def avz{t:Tmp}{b c:Bool}(aR:fr.ak (.tmp t)= .bool c)(hc:c= !b)(k:W (gG call xs (fr.put d undef) st) Q):W (gG call (⟨d,o,some (t,b)⟩::xs) fr st) Q:=by
 subst hc;rw[L1,show fr.tmp t= .bool (!b)from aR];cases b
 ·rw[show wz (.bool (!false)) false _ _ cm.no=_ from alA _ _ _];exact k
 ·rw[show wz (.bool (!true)) true _ _ cm.no=_ from alz _ _ _];exact k
def avA{t:Tmp}{b:Bool}{a:ap be}(aR:fr.ak (.tmp t)= .tuple a)(k:W (gG call xs (fr.put d undef) st) Q):W (gG call (⟨d,o,some (t,b)⟩::xs) fr st) Q:=by
 rw[L1,show fr.tmp t= .tuple a from aR,alC];exact k
end
section
variable{x y i c a b:bi}
variable{n m:Nat}{k:d7}{p:Addr}
def w3{p:am Addr}(h:fr.ak x= .slice p n m):bK call (.ph x) fr st= .ok (.int .i64 (n:Int)) fr st:=by rw[ZJ,h];rfl
def aqe(h:fr.ak x= .chan none):bK call (.ph x) fr st= .ok (.int .i64 0) fr st:=by rw[ZJ,h];rfl
def aqc{k':d7}{n:Int}(h:fr.ak x= .int k' n):bK call (.tW k x) fr st= .ok (.int k (k.wrap n)) fr st:=by rw[aqt,h];rfl
def aqd{a2:Nat}{j:Int}(h:fr.ak x= .slice (some p) n m)(aG:fr.ak i= .int k j)(h0:0<=j)(J:j<n):
 bK call (.l8 a2 x i) fr st= .ok (.pointer (some (p.add (j.toNat*a2)))) fr st:=by
 rw[aqx,h,aG];show hP j (fun j=>ek (j+1) n _ _) _=_;rw[apJ h0,gz (by omega)]
def aqf{cs:ac be}{el:ce}{bg:Nat×Nat}{a8:Bool}(h:fr.ak x= .pointer (some p))(hp:p.spot=none)(al:st.h.get p.block=some (.cells cs el bg a8))(aD:cs[p.off]? =some v):
 bK call (.j8 x) fr st= .ok v fr st:=by
 rw[ZL,h];show st.load p 1 _ _=_;unfold ay.load ay.gC;rw[hp,al];show jt cs p.off 1 _ _=_;have aN:p.off<cs.length:=by
  rcases zai p.off cs.length with h|h
  ·exact h
  ·rw[zbz h]at aD;cases aD
 rw[Ac (by omega)];have:(cs.drop p.off).take 1=[v]:=by
  rw[bm aN]at aD;cases aD;rw[eX aN];rfl
 rw[this];rfl
end
end
end Go.ar
namespace Go.ar
open Sym
variable{X:Ctx}
structure eY where
 r:ac be->ay->be->ay->Prop
 p:ac be->ay->be->ay->Prop
def eY.no:eY:=⟨fun _ _ _ _=>False,fun _ _ _ _=>False⟩
def Cz(X:Ctx)(f:ci)(as:ac be)(st:ay)(v:be)(st':ay):Prop:=
 ∀(ι:bs) (as':ac be) (w:co),bJ ι as as'->bo X ι st w->
  (∀as w,(callFunc f as).run X.P w= .ok (.enter f as) w)∧
  ∀(K:CallKind) (bb:Bool->ac Frame),jX ⟨f,K,none⟩ none ι bb->h5 X ι w ⟨f,K,none⟩ bb (lone (Frame.enter X.P f as'.toArray K) (bb false) w) (.a1 v st' false)
def cg(X:Ctx)(K:ci->eY):m3:=fun f as st=>
 open Classical in if h:∃p:be×ay,(K f).r as st p.1 p.2∧eo X f ⟨as,st,p.1,p.2⟩then some (.ret (Classical.choose h).1 (Classical.choose h).2 false)
 else if h:∃p:be×ay,(K f).p as st p.1 p.2∧Cz X f as st p.1 p.2 then some (.a1 (Classical.choose h).1 (Classical.choose h).2 false)else none
def Z1(K:ci->eY):sB X (cg X K):=by
 intro f as st r aE ι as' w ha hw _;unfold cg at aE;split at aE
 ·rename_i h;cases aE;exact(Classical.choose_spec h).2 ι as' w ha hw
 ·split at aE
  ·rename_i h;cases aE;exact(Classical.choose_spec h).2 ι as' w ha hw
  ·cases aE
def I8{K:ci->eY}{f:ci}{as:ac be}{st:ay}(h:∃v st',(K f).r as st v st'∧eo X f ⟨as,st,v,st'⟩):
 ∃v st',cg X K f as st=some (.ret v st' false)∧(K f).r as st v st':=by
 obtain⟨v,st',J,U⟩:=h;have hp:∃p:be×ay,(K f).r as st p.1 p.2∧eo X f ⟨as,st,p.1,p.2⟩:=⟨(v,st'),J,U⟩;refine⟨(Classical.choose hp).1,(Classical.choose hp).2,?_,(Classical.choose_spec hp).1⟩;unfold cg;rw[dif_pos hp]
structure Spec where
 L:Type
 pre:L->ac be->ay->Prop
 post:L->ac be->ay->be->ay->Prop
def Spec.K(S:Spec):eY:=⟨fun as st v st'=>∀l,S.pre l as st->S.post l as st v st',fun _ _ _ _=>False⟩
instance:Coe Spec eY:=⟨Spec.K⟩
def bl(X:Ctx)(f:ci)(S:Spec):Prop:=∀as st,(∃l,S.pre l as st)->∃v st',S.K.r as st v st'∧eo X f ⟨as,st,v,st'⟩
structure xN where
 L:Type
 pre:L->ac be->ay->Prop
 post:L->ac be->ay->be->ay->Prop
 BL:L->ac be->ay->be->ay->Prop
def xN.K(S:xN):eY:=⟨fun as st v st'=>∀l,S.pre l as st->S.post l as st v st',fun as st v st'=>∀l,S.pre l as st->S.BL l as st v st'⟩
instance:Coe xN eY:=⟨xN.K⟩
def oV(X:Ctx)(f:ci)(S:xN):Prop:=∀as st,(∃l,S.pre l as st)->(∃v st',S.K.r as st v st'∧eo X f ⟨as,st,v,st'⟩)∨∃v st',S.K.p as st v st'∧Cz X f as st v st'
variable{K:ci->eY}{f:ci}{as:ac be}{st:ay}{xf:cM}{n:Nat}{v:be}{st':ay}
def aqI(h:(∃v st',(K f).r as st v st'∧eo X f ⟨as,st,v,st'⟩)∨∃v st',(K f).p as st v st'∧Cz X f as st v st'):
 (∃v st',cg X K f as st=some (.ret v st' false)∧(K f).r as st v st')∨∃v st',cg X K f as st=some (.a1 v st' false)∧(K f).p as st v st':=by
 by_cases hp:∃p:be×ay,(K f).r as st p.1 p.2∧eo X f ⟨as,st,p.1,p.2⟩
 ·exact .inl (I8 ⟨_,_,hp.choose_spec.1,hp.choose_spec.2⟩)
 ·rcases h with⟨v,st',J,U⟩|⟨v,st',J,U⟩
  ·exact absurd ⟨(v,st'),J,U⟩ hp
  ·have hq:∃p:be×ay,(K f).p as st p.1 p.2∧Cz X f as st p.1 p.2:=⟨(v,st'),J,U⟩;refine .inr ⟨(Classical.choose hq).1,(Classical.choose hq).2,?_,(Classical.choose_spec hq).1⟩;unfold cg;rw[dif_neg hp,dif_pos hq]
def bV:Nat:=4611686018427387904
def PM{aZ:ao cM}(c5:Good X)(gJ:lU X aZ)(aa:aZ.get f=some xf)
 (h:iX (b9 aZ (cg X K) n) n f xf as none st= .ret v st' false):eo X f ⟨as,st,v,st'⟩:=by
 obtain⟨Fn,c,ok⟩:=gJ f xf aa;obtain⟨lF,jN⟩:=CX c5 gJ (Z1 (X:=X) K) n;intro ι as' w ha hw;refine⟨ok.enters,fun vI bb aE=> ?_⟩;have:=Lr c5 jN lF (fun b aJ bb _=>Fg jN b aJ bb) ok n (K:=vI) (bb:=bb) ha hw aE;rw[h]at this;exact this
def aqM{aZ:ao cM}(c5:Good X)(gJ:lU X aZ)(aa:aZ.get f=some xf)
 (h:iX (b9 aZ (cg X K) n) n f xf as none st= .a1 v st' false):Cz X f as st v st':=by
 obtain⟨Fn,c,ok⟩:=gJ f xf aa;obtain⟨lF,jN⟩:=CX c5 gJ (Z1 (X:=X) K) n;intro ι as' w ha hw;refine⟨ok.enters,fun vI bb aE=> ?_⟩;have:=Lr c5 jN lF (fun b aJ bb _=>Fg jN b aJ bb) ok n (K:=vI) (bb:=bb) ha hw aE;rw[h]at this;exact this
structure vK(fr:aP):Prop where
 cS:fr.cS=[]
 a1:fr.a1=none
 cB:fr.cB=false
variable{call:bG}{Post:be->ay->Prop}
def vK.put{fr:aP}(h:vK fr)(d:am Tmp)(v:be):vK (fr.put d v):=by
 obtain⟨J,U,ag,az⟩:=tm fr d v;exact⟨J.trans h.cS,U.trans h.a1,ag.trans h.cB⟩
def eL(as:ac be):aP:=⟨lV as 0 .nil,[],none,false,none⟩
def vK.zero(as:ac be):vK (eL as):=⟨rfl,rfl,rfl⟩
def Ge(hl:as.length<=xf.aJ)
 (h:W (c1 call n f xf.body (eL as) st) (fun e fr st'=>(e= .norm∨e= .ret)∧∃v,gl call xf.res none fr st'= .ret v st' false∧Post v st')):
 ∃v st',iX call n f xf as none st= .ret v st' false∧Post v st':=by
 obtain⟨e,fr,st',J,he,v,U,ag⟩:=h;refine⟨v,st',?_,ag⟩;unfold iX;rw[oE,zab (by rw[fg];exact hl)];show cm.rec (motive:=fun _=>dh) _ _ (c1 call n f xf.body (eL as) st)=_;rw[J];rcases he with rfl|rfl
 ·exact U
 ·exact U
def Sj{aZ:ao cM}(c5:Good X)(gJ:lU X aZ)(K:ci->eY)(aa:aZ.get f=some xf){S:Spec}(hl:∀l as st,S.pre l as st->as.length<=xf.aJ)
 (h:∀l as st,S.pre l as st->W (c1 (b9 aZ (cg X K) (bV+1)) (bV+1) f xf.body (eL as) st)
  (fun e fr st'=>(e= .norm∨e= .ret)∧∃v,gl (b9 aZ (cg X K) (bV+1)) xf.res none fr st'= .ret v st' false∧S.post l as st v st')):bl X f S:=by
 intro as st ⟨l,hp⟩;obtain⟨v,st',J,U⟩:=Ge (Post:=S.post l as st) (hl l as st hp) (h l as st hp);refine⟨v,st',fun l' iR=> ?_,PM c5 gJ aa J⟩;obtain⟨v2,ch,g1,aM⟩:=Ge (Post:=S.post l' as st) (hl l' as st iR) (h l' as st iR);rw[J]at g1;cases g1;exact aM
def Lq{CA:be->ay->Prop}(hl:as.length<=xf.aJ)
 (h:W (c1 call n f xf.body (eL as) st) (fun e fr st'=>((e= .norm∨e= .ret)∧∃v,gl call xf.res none fr st'= .ret v st' false∧Post v st')∨∃v,e= .a1 v∧gl call xf.res (some v) fr st'= .a1 v st' false∧CA v st')):
 (∃v st',iX call n f xf as none st= .ret v st' false∧Post v st')∨∃v st',iX call n f xf as none st= .a1 v st' false∧CA v st':=by
 obtain⟨e,fr,st',J,h⟩:=h;have hb:iX call n f xf as none st=cm.rec (motive:=fun _=>dh) (fun e fr st=>dv.rec (motive:=fun _=>dh) (gl call xf.res none fr st) (fun _=>.no) (gl call xf.res none fr st) (fun v=>gl call xf.res (some v) fr st) e) .no (c1 call n f xf.body (eL as) st):=by
  unfold iX;rw[oE,zab (by rw[fg];exact hl)];rfl
 rw[J]at hb;rcases h with⟨he,v,U,ag⟩|⟨v,rfl,U,ag⟩
 ·refine .inl ⟨v,st',hb.trans ?_,ag⟩;rcases he with rfl|rfl
  ·exact U
  ·exact U
 ·exact .inr ⟨v,st',hb.trans U,ag⟩
def agp{aZ:ao cM}(c5:Good X)(gJ:lU X aZ)(K:ci->eY)(aa:aZ.get f=some xf){S:xN}(hl:∀l as st,S.pre l as st->as.length<=xf.aJ)
 (h:∀l as st,S.pre l as st->W (c1 (b9 aZ (cg X K) (bV+1)) (bV+1) f xf.body (eL as) st)
  (fun e fr st'=>((e= .norm∨e= .ret)∧∃v,gl (b9 aZ (cg X K) (bV+1)) xf.res none fr st'= .ret v st' false∧S.post l as st v st')∨∃v,e= .a1 v∧gl (b9 aZ (cg X K) (bV+1)) xf.res (some v) fr st'= .a1 v st' false∧S.BL l as st v st')):oV X f S:=by
 intro as st ⟨l,hp⟩;rcases Lq (Post:=S.post l as st) (CA:=S.BL l as st) (hl l as st hp) (h l as st hp)with⟨v,st',J,U⟩|⟨v,st',J,U⟩
 ·refine .inl ⟨v,st',fun l' iR=> ?_,PM c5 gJ aa J⟩;rcases Lq (Post:=S.post l' as st) (CA:=S.BL l' as st) (hl l' as st iR) (h l' as st iR)with⟨v2,ch,g1,aM⟩|⟨v2,ch,g1,aM⟩
  ·rw[J]at g1;cases g1;exact aM
  ·rw[J]at g1;cases g1
 ·refine .inr ⟨v,st',fun l' iR=> ?_,aqM c5 gJ aa J⟩;rcases Lq (Post:=S.post l' as st) (CA:=S.BL l' as st) (hl l' as st iR) (h l' as st iR)with⟨v2,ch,g1,aM⟩|⟨v2,ch,g1,aM⟩
  ·rw[J]at g1;cases g1
  ·rw[J]at g1;cases g1;exact aM
section
variable{call:bG}{fr:aP}{st:ay}{x y i:bi}
def kA{β:Type}(cs:ac be)(e:ce)(bg:Nat×Nat)(a8:Bool)(k:ac be->ce->Nat×Nat->Bool->β)(z:β):CY (some (.cells cs e bg a8)) k z=k cs e bg a8:=rfl
end
def eV:ac Nat->ac Nat
 |[]=>[]
 |d::ds=>match eV ds with
  |[]=>if d=0 then[]else[d]
  |r=>d::r
end Go.ar
namespace Go.ar
open Sym
section
variable{call:bG}{fr:aP}{st:ay}{Q:dv->aP->ay->Prop}{b4:Nat}{fn:ci}
variable{ops:ac (bz×cw)}{c0:sy}{ah:ac (ao bt)}{c a b:bi}{t:Bool}{u:be}{n:Int}
def O{ts:ac Tmp}{j:Tmp}{x:be}(h:fr.ak (.tmp j)=x)(hj:ts.contains j=true:=by rfl):(fr.only ts).ak (.tmp j)=x:=by
 rw[Ds,Zw,zab (by simpa using hj)];exact h
def avt{cj ec ms:ac Nat}(h:W (gF call (rE call ms (db ops)) ops [st.h] (qg fr ec) st) Q):W (c1 call b4 fn (.rH ops cj ec ms) fr st) Q:=h
def adl(h:Q .norm fr st):W (gF call c0 [] ah fr st) Q:=.mk h
theorem abE{o:dd}{f:aP}{v:be}{ai:Nat}:∀(n:Nat) (ah:ac (ao bt)),n<=ah.length->(∀h∈ah.take n,∃na bq,bK call o f ⟨h,ai⟩= .ok v na bq)->sameAt call o f v ai n ah=true
 |0,_,_,_=>rfl
 |n+1,[],h,_=>by simp at h
 |n+1,h::ah,hl,hh=>by
  obtain⟨na,bq,e⟩:=hh h (by simp);show aV.rec (motive:=fun _=>Bool) (fun v' _ _=>cond (dJ v v') (sameAt call o f v ai n ah) false) (fun _ _=>false) false (bK call o f ⟨h,ai⟩)=true;rw[e];show cond (dJ v v) (sameAt call o f v ai n ah) false=true;rw[zB];exact abE n ah (by simpa using hl) fun aG hm=>hh aG (by simp[hm])
def avs{o:dd}{d:am Tmp}{ts:ac Tmp}{back:Nat}{v:be}(dM:∀h∈st.h::ah.take (back+1),bK call o (fr.only ts) ⟨h,st.ai⟩= .ok v (fr.only ts) ⟨h,st.ai⟩)(hl:back<ah.length)
 (k:W (gF call c0 ops ah (fr.put d v) st) Q):W (gF call c0 ((⟨d,o,none⟩,.read back ts)::ops) ah fr st) Q:=by
 refine W.of_eq ?_ k;show kp fr.t ts (fun t=>gB ⟨t,[],none,false,none⟩ none
  (aV.rec (motive:=fun _=>cm) (fun v _ _=>cond (sameAt call o ⟨t,[],none,false,none⟩ v st.ai (Nat.succ back) ah) (gF call c0 ops ah (fr.put d v) st) .no) (fun _ _=>.no) .no (bK call o ⟨t,[],none,false,none⟩ st))
  (gF call c0 ops ah (fr.put d undef) st) .no)=_
 rw[pq];have e:=dM st.h (by simp);have e:bK call o ⟨EW fr.t ts,[],none,false,none⟩ st= .ok v (fr.only ts) st:=e;show aV.rec (motive:=fun _=>cm) _ _ _ (bK call o ⟨EW fr.t ts,[],none,false,none⟩ st)=_;rw[e];show cond (sameAt call o (fr.only ts) v st.ai (Nat.succ back) ah) _ _=_;rw[abE _ _ (by omega) fun h hm=>⟨_,_,dM h (by simp[hm])⟩];rfl
def aqh(hc:fr.ak c= .bool t)(aW:t=true)(ha:fr.ak a=u):bK call (.pick c a b) fr st= .ok u fr st:=by
 rw[ZT,hc,ha,aW];rfl
def aqg(hc:fr.ak c= .bool t)(aW:t=false)(hb:fr.ak b=u):bK call (.pick c a b) fr st= .ok u fr st:=by
 rw[ZT,hc,hb,aW];rfl
def IT{x i:bi}{a2 id off n m j:Nat}{k:d7}(h:fr.ak x= .slice (some ⟨id,off,none⟩) n m)(aG:fr.ak i= .int k (j:Int))(hj:j<n):
 bK call (.l8 a2 x i) fr st= .ok (.pointer (some ⟨id,off+j*a2,none⟩)) fr st:=by
 rw[aqd h aG (by omega) (by omega)];rw[zbR];congr 3;unfold Addr.add;split
 ·rename_i h0;rw[h0];rfl
 ·rfl
def hz(h: -9223372036854775808<=n)(aG:n<9223372036854775808):IntKind.i64.wrap n=n:=by
 rw[<-lR];show zC 18446744073709551616 9223372036854775808 n=n;rw[zD _ _ _ (by decide)];split<;>omega
def ada(h:0<=n)(aG:n<18446744073709551616):IntKind.u64.wrap n=n:=by
 rw[<-lR];show Ct 18446744073709551616 n=n;rw[tF _ _ (by decide)];omega
end
abbrev Env:=ac (Nat×be)
def hA(L:ac Nat)(e:Env):Env:=e.filter fun p=>L.any (Nat.beq p.1)
abbrev adO:=dv->Env->ay->Prop
end Go.ar
namespace Go.ar
open Sym
variable{X:Ctx}
theorem Ri:∀(vs:ac be) (i:Nat) (t:ao be) (j:Nat),(lV vs i t).get j=if i<=j∧j<i+vs.length then vs[j-i]? else t.get j
 |[],i,t,j=>by rw[zaa (by simp)];rfl
 |v::vs,i,t,j=>by
  have e:lV (v::vs) i t=lV vs (i+1) (t.set i v):=by
   show ao.iV (Nat.succ i) t i v (fun t=>lV vs (Nat.succ i) t)=_;rw[ao.zp]
  rw[e,Ri vs (i+1) _ j,ao.eJ];by_cases ab:j=i
  ·subst ab;rw[zaa (by omega),zab rfl,zab (by simp)];simp
  ·rw[zaa ab];by_cases J:i+1<=j∧j<i+1+vs.length
   ·rw[zab J,zab (by simp;omega)];have:j-i=(j-(i+1))+1:=by omega
    rw[this];simp
   ·rw[zaa J,zaa (by simp;omega)]
end Go.ar
namespace Go.ar
open Sym
section
variable{call:bG}{fr:aP}{st:ay}{x y i:bi}
variable{k:d7}{m n:Nat}
def Bx{op:BinOp}{m n:Int}{v:be}(J:op≠.shl)(U:op≠.shr)(h:fr.ak x= .int k m)(aG:fr.ak y= .int k n)(aD:r6 op k m n=some v):bK call (.bin op x y) fr st= .ok v fr st:=by
 rw[EX,h,aG,LY];have:Ap op k m k n (fun v=>aV.ok v fr st)=cond (kn k k) (zY op k m n (fun v=>aV.ok v fr st)) .no:=by
  cases op<;>first|rfl|(exact absurd rfl J)|(exact absurd rfl U)
 rw[this,aoO,Lk,aD];rfl
def Zt(h:fr.ak x= .int k (m:Int))(aG:fr.ak y= .int k (n:Int))(hn:n≠0):bK call (.bin .quo x y) fr st= .ok (.int k (k.wrap ((m/n:Nat):Int))) fr st:=
 Bx (by decide) (by decide) h aG (by
  show(if(n:Int)=0 then none else _)=_;rw[zaa (by omega)];rfl)
def aqi(h:fr.ak x= .int k (m:Int))(aG:fr.ak y= .int k (n:Int))(hn:n≠0):bK call (.bin .rem x y) fr st= .ok (.int k ((m%n:Nat):Int)) fr st:=
 Bx (by decide) (by decide) h aG (by
  show(if(n:Int)=0 then none else _)=_;rw[zaa (by omega)];rfl)
end
section
variable{call:bG}{b4:Nat}{fn:ci}{e:Env}{st:ay}{Q:adO}
variable{fr:aP}{t:Tmp}{b:Bool}{yes h4 z:cm}
def Qs(h:fr.tmp t= .bool b):gB fr (some (t,b)) yes h4 z=yes:=by
 show mh (fr.tmp t) (fun c=>cond c (cond b yes h4) (cond b h4 yes)) _=_;rw[h];cases b<;>rfl
def avL(h:fr.tmp t= .bool (!b)):gB fr (some (t,b)) yes h4 z=h4:=by
 show mh (fr.tmp t) (fun c=>cond c (cond b yes h4) (cond b h4 yes)) _=_;rw[h];cases b<;>rfl
end
end Go.ar
namespace Go.ar
inductive aj:Type 1
 |i (k:IntKind) (n:Int)
 |b (t:Bool)
 |s (l:List UInt8)
 |nl
 |v (x:Value)
 |p (k o:Nat)
 |gX (k z j o:Nat)
 |a5 (k z o n c:Nat)
 |cc (z:Nat) (α:Type) (R:α->List aj) (l:List α)
 |jP (z:Nat) (α:Type) (R:α->List aj) (l:List α)
 |a6 (z:Nat) (α:Type) (R:α->List aj) (l:List α)
 |ip (cs:List aj)
 |fn (f:Fn) (bB cs:List aj)
 |agg (cs:List aj)
 |bP (cs:List aj)
 |bad
abbrev bC:=Nat->am bt
mutual
def den(H:bC):aj->ac Nat->be->Prop
 |.i k n,_,v=>v= .int k n
 |.b t,_,v=>v= .bool t
 |.s l,_,v=>v= .string ⟨⟨l⟩⟩
 |.nl,_,v=>v= .slice none 0 0
 |.v x,_,v=>v=x
 |.p k o,ids,v=>∃b,ids[k]? =some b∧v= .pointer (some ⟨b,o,none⟩)
 |.gX k z j o,ids,v=>∃b,ids[k]? =some b∧v= .pointer (some ⟨b,j*z+o,none⟩)
 |.a5 k z o n c,ids,v=>∃b,ids[k]? =some b∧v= .slice (some ⟨b,o*z,none⟩) n c
 |.cc z _ R l,_,v=>(l=[]∧v= .slice none 0 0)∨∃b o c vs el bg a8,v= .slice (some ⟨b,o,none⟩) l.length c∧l.length<=c∧H b=some (.cells vs el bg a8)∧∀i x,l[i]? =some x->de H (R x) [] ((vs.drop (o+i*z)).take z)
 |.jP z _ R l,_,v=>(l=[]∧v= .slice none 0 0)∨(l≠[]∧∃b o c vs el bg a8,v= .slice (some ⟨b,o,none⟩) l.length c∧l.length<=c∧H b=some (.cells vs el bg a8)∧∀i x,l[i]? =some x->de H (R x) [] ((vs.drop (o+i*z)).take z))
 |.a6 z _ R l,_,v=>(l=[]∧v= .chan none)∨(l=[]∧v= .slice none 0 0)∨∃b o c vs el bg a8,v= .slice (some ⟨b,o,none⟩) l.length c∧l.length<=c∧H b=some (.cells vs el bg a8)∧∀i x,l[i]? =some x->de H (R x) [] ((vs.drop (o+i*z)).take z)
 |.ip cs,_,v=>∃b o vs el bg a8,v= .pointer (some ⟨b,o,none⟩)∧H b=some (.cells vs el bg a8)∧de H cs [] ((vs.drop o).take cs.length)
 |.fn f bB cs,ids,v=>∃vs ws,v= .func f ⟨vs⟩ ⟨ws⟩∧de H bB ids vs∧de H cs ids ws
 |.agg cs,ids,v=>∃vs,v= .agg ⟨vs⟩∧de H cs ids vs
 |.bP cs,ids,v=>∃vs,v= .tuple ⟨vs⟩∧de H cs ids vs
 |.bad,_,_=>False
def de(H:bC):ac aj->ac Nat->ac be->Prop
 |[],_,vs=>vs=[]
 |c::cs,ids,vs=>∃v ws,vs=v::ws∧den H c ids v∧de H cs ids ws
end
def du(H bn:bC):Prop:=∀b o,H b=some o->bn b=some o
def du.refl(H:bC):du H H:=fun _ _ h=>h
def du.trans{H bn QF:bC}(h:du H bn)(aG:du bn QF):du H QF:=fun b o e=>aG b o (h b o e)
def da(i j:ac Nat):Prop:=∀k b:Nat,i[k]? =some b->j[k]? =some b
def da.refl(i:ac Nat):da i i:=fun _ _ h=>h
def da.nil(i:ac Nat):da [] i:=fun k b h=>by simp at h
def da.app(i j:ac Nat):da i (i++j):=fun k b h=>by
 rw[zaW (zaf.1 h).1];exact h
mutual
theorem ub{H bn:bC}(h:du H bn):∀(a:aj) {i j:ac Nat} {v:be},da i j->den H a i v->den bn a j v
 |.i _ _,_,_,_,_,d=>d
 |.b _,_,_,_,_,d=>d
 |.s _,_,_,_,_,d=>d
 |.nl,_,_,_,_,d=>d
 |.v _,_,_,_,_,d=>d
 |.p _ _,_,_,_,af,⟨b,e,d⟩=>⟨b,af _ _ e,d⟩
 |.gX _ _ _ _,_,_,_,af,⟨b,e,d⟩=>⟨b,af _ _ e,d⟩
 |.a5 _ _ _ _ _,_,_,_,af,⟨b,e,d⟩=>⟨b,af _ _ e,d⟩
 |.cc _ _ _ _,_,_,_,_,.inl d=>.inl d
 |.cc _ _ R _,_,_,_,_,.inr ⟨b,o,c,vs,el,bg,a8,aC,e2,b3,fo⟩=>.inr ⟨b,o,c,vs,el,bg,a8,aC,e2,h _ _ b3,fun i x aa=>my h (R x) (da.refl _) (fo i x aa)⟩
 |.jP _ _ _ _,_,_,_,_,.inl d=>.inl d
 |.jP _ _ R _,_,_,_,_,.inr ⟨hn,b,o,c,vs,el,bg,a8,aC,e2,b3,fo⟩=>.inr ⟨hn,b,o,c,vs,el,bg,a8,aC,e2,h _ _ b3,fun i x aa=>my h (R x) (da.refl _) (fo i x aa)⟩
 |.a6 _ _ _ _,_,_,_,_,.inl d=>.inl d
 |.a6 _ _ _ _,_,_,_,_,.inr (.inl d)=>.inr (.inl d)
 |.a6 _ _ R _,_,_,_,_,.inr (.inr ⟨b,o,c,vs,el,bg,a8,aC,e2,b3,fo⟩)=>.inr (.inr ⟨b,o,c,vs,el,bg,a8,aC,e2,h _ _ b3,fun i x aa=>my h (R x) (da.refl _) (fo i x aa)⟩)
 |.ip cs,_,_,_,_,⟨b,o,vs,el,bg,a8,aC,e2,b3⟩=>⟨b,o,vs,el,bg,a8,aC,h _ _ e2,my h cs (da.refl _) b3⟩
 |.fn _ bB cs,_,_,_,af,⟨vs,ws,e,d1,d2⟩=>⟨vs,ws,e,my h bB af d1,my h cs af d2⟩
 |.agg cs,_,_,_,af,⟨vs,e,d⟩=>⟨vs,e,my h cs af d⟩
 |.bP cs,_,_,_,af,⟨vs,e,d⟩=>⟨vs,e,my h cs af d⟩
 |.bad,_,_,_,_,d=>d.elim
theorem my{H bn:bC}(h:du H bn):∀(a:ac aj) {i j:ac Nat} {v:ac be},da i j->de H a i v->de bn a j v
 |[],_,_,_,_,d=>d
 |a::as,_,_,_,af,⟨v,ws,e,d1,d2⟩=>⟨v,ws,e,ub h a af d1,my h as af d2⟩
end
mutual
def n2(f:ac Nat):aj->aj
 |.p k o=>match f[k]? with|some j=>.p j o|none=>.bad
 |.gX k z j o=>match f[k]? with|some m=>.gX m z j o|none=>.bad
 |.a5 k z o n c=>match f[k]? with|some m=>.a5 m z o n c|none=>.bad
 |.fn g bB cs=>.fn g (rb f bB) (rb f cs)
 |.agg cs=>.agg (rb f cs)
 |.bP cs=>.bP (rb f cs)
 |.i k n=>.i k n
 |.b t=>.b t
 |.s l=>.s l
 |.nl=>.nl
 |.v x=>.v x
 |.cc z α R l=>.cc z α R l
 |.jP z α R l=>.jP z α R l
 |.a6 z α R l=>.a6 z α R l
 |.ip cs=>.ip cs
 |.bad=>.bad
def rb(f:ac Nat):ac aj->ac aj
 |[]=>[]
 |a::as=>n2 f a::rb f as
end
def pick(f ids:ac Nat):ac Nat:=f.map (fun k=>(ids[k]?).getD 0)
def y8{f ids:ac Nat}{k m b:Nat}(ae:f[k]? =some m)(hb:ids[m]? =some b):(pick f ids)[k]? =some b:=by
 unfold pick;rw[zcs,ae];simp[hb]
mutual
theorem SA{H:bC}(f:ac Nat){ids:ac Nat}:∀(a:aj) {v:be},den H (n2 f a) ids v->den H a (pick f ids) v
 |.i _ _,_,d=>d
 |.b _,_,d=>d
 |.s _,_,d=>d
 |.nl,_,d=>d
 |.v _,_,d=>d
 |.p k o,v,d=>by
  unfold n2 at d;cases h:f[k]? with
  |none=>rw[h]at d;exact d.elim
  |some j=>rw[h]at d;obtain⟨b,e,d⟩:=d;exact⟨b,y8 h e,d⟩
 |.gX k z j o,v,d=>by
  unfold n2 at d;cases h:f[k]? with
  |none=>rw[h]at d;exact d.elim
  |some j=>rw[h]at d;obtain⟨b,e,d⟩:=d;exact⟨b,y8 h e,d⟩
 |.a5 k z o n c,v,d=>by
  unfold n2 at d;cases h:f[k]? with
  |none=>rw[h]at d;exact d.elim
  |some j=>rw[h]at d;obtain⟨b,e,d⟩:=d;exact⟨b,y8 h e,d⟩
 |.cc _ _ _ _,_,d=>d
 |.jP _ _ _ _,_,d=>d
 |.a6 _ _ _ _,_,d=>d
 |.ip _,_,d=>d
 |.fn _ bB cs,_,⟨vs,ws,e,d1,d2⟩=>⟨vs,ws,e,x1 f bB d1,x1 f cs d2⟩
 |.agg cs,_,⟨vs,e,d⟩=>⟨vs,e,x1 f cs d⟩
 |.bP cs,_,⟨vs,e,d⟩=>⟨vs,e,x1 f cs d⟩
 |.bad,_,d=>d.elim
theorem x1{H:bC}(f:ac Nat){ids:ac Nat}:∀(a:ac aj) {v:ac be},de H (rb f a) ids v->de H a (pick f ids) v
 |[],_,d=>d
 |a::as,_,⟨v,ws,e,d1,d2⟩=>⟨v,ws,e,SA f a d1,x1 f as d2⟩
end
mutual
def pt:aj->Bool
 |.p _ _|.gX _ _ _ _|.a5 _ _ _ _ _=>false
 |.fn _ bB cs=>hQ bB&&hQ cs
 |.agg cs=>hQ cs
 |.bP cs=>hQ cs
 |_=>true
def hQ:ac aj->Bool
 |[]=>true
 |a::as=>pt a&&hQ as
end
mutual
theorem Db{H:bC}{ids:ac Nat}:∀(a:aj) {v:be},pt a=true->den H a ids v->∀j,den H a j v
 |.i _ _,_,_,d,_=>d
 |.b _,_,_,d,_=>d
 |.s _,_,_,d,_=>d
 |.nl,_,_,d,_=>d
 |.v _,_,_,d,_=>d
 |.p _ _,_,h,_,_=>by cases h
 |.gX _ _ _ _,_,h,_,_=>by cases h
 |.a5 _ _ _ _ _,_,h,_,_=>by cases h
 |.cc _ _ _ _,_,_,d,_=>d
 |.jP _ _ _ _,_,_,d,_=>d
 |.a6 _ _ _ _,_,_,d,_=>d
 |.ip _,_,_,d,_=>d
 |.fn _ bB cs,_,h,⟨vs,ws,e,d1,d2⟩,j=>by
  have h:(hQ bB&&hQ cs)=true:=h;rw[bW]at h;exact⟨vs,ws,e,o2 bB h.1 d1 j,o2 cs h.2 d2 j⟩
 |.agg cs,_,h,⟨vs,e,d⟩,j=>⟨vs,e,o2 cs h d j⟩
 |.bP cs,_,h,⟨vs,e,d⟩,j=>⟨vs,e,o2 cs h d j⟩
 |.bad,_,_,d,_=>d.elim
theorem o2{H:bC}{ids:ac Nat}:∀(a:ac aj) {v:ac be},hQ a=true->de H a ids v->∀j,de H a j v
 |[],_,_,d,_=>d
 |a::as,_,h,⟨v,ws,e,d1,d2⟩,j=>by
  have h:(pt a&&hQ as)=true:=h;rw[bW]at h;exact⟨v,ws,e,Db a h.1 d1 j,o2 as h.2 d2 j⟩
end
variable{v:be}
def tU:aj->Bool
 |.v x=>nD x
 |.agg _|.bP _|.bad=>false
 |_=>true
def sG:ac aj->Bool
 |[]=>true
 |a::as=>tU a&&sG as
def RW{H:bC}{ids:ac Nat}{a:aj}(h:tU a=true)(d:den H a ids v):nD v=true:=by
 cases a<;>first
  |(cases h;done)
  |(obtain⟨b,_,rfl⟩:=d;rfl;done)
  |(rcases d with⟨_,rfl⟩|⟨b,o,c,_,_,_,_,rfl,_⟩<;>rfl;done)
  |(rcases d with⟨_,rfl⟩|⟨_,b,o,c,_,_,_,_,rfl,_⟩<;>rfl;done)
  |(rcases d with⟨_,rfl⟩|⟨_,rfl⟩|⟨b,o,c,_,_,_,_,rfl,_⟩<;>rfl;done)
  |(obtain⟨b,o,c,_,_,_,rfl,_⟩:=d;rfl;done)
  |(obtain⟨b,_,rfl,_⟩:=d;rfl;done)
  |(have nG:=d;unfold den at nG;subst nG;first|rfl|exact h)
def ae8(h:nD v=true):h8 v=[v]:=by
 cases v<;>first|rfl|cases h
theorem CZ{H:bC}{ids:ac Nat}:∀{as:ac aj} {vs:ac be},sG as=true->de H as ids vs->hf vs=true
 |[],_,_,d=>by cases d;rfl
 |a::as,_,h,⟨v,ws,e,d1,d2⟩=>by
  subst e;have h:(tU a&&sG as)=true:=h;rw[bW]at h;show cond (nD v) (hf ws) false=true;rw[RW h.1 d1,CZ h.2 d2];rfl
theorem h9{H:bC}{ids:ac Nat}:∀{as:ac aj} {vs:ac be},de H as ids vs->vs.length=as.length
 |[],_,d=>by cases d;rfl
 |a::as,_,⟨v,ws,e,d1,d2⟩=>by subst e;simp[h9 d2]
theorem wa{H:bC}{ids:ac Nat}:∀{as:ac aj} {vs:ac be} {k:Nat} {a:aj},de H as ids vs->as[k]? =some a->∃v,vs[k]? =some v∧den H a ids v
 |[],_,_,_,_,h=>by simp at h
 |a::as,_,0,_,⟨v,ws,e,d1,d2⟩,h=>by subst e;simp at h;subst h;exact⟨v,rfl,d1⟩
 |a::as,_,k+1,c,⟨v,ws,e,d1,d2⟩,h=>by
  subst e;obtain⟨u,J,U⟩:=wa (k:=k) (a:=c) d2 (by simpa using h);exact⟨u,by simpa using J,U⟩
theorem Ae{H:bC}{ids:ac Nat}:∀{as bT:ac aj} {vs ws:ac be},de H as ids vs->de H bT ids ws->de H (as++bT) ids (vs++ws)
 |[],_,_,_,d,nG=>by cases d;exact nG
 |a::as,_,_,_,⟨v,ws,e,d1,d2⟩,nG=>by subst e;exact⟨v,_,rfl,d1,Ae d2 nG⟩
theorem pR{H:bC}{ids:ac Nat}:∀{as:ac aj} {vs:ac be} (n:Nat),de H as ids vs->de H (as.drop n) ids (vs.drop n)
 |_,_,0,d=>d
 |[],_,n+1,d=>by cases d;exact rfl
 |a::as,_,n+1,⟨v,ws,e,d1,d2⟩=>by subst e;exact pR n d2
theorem wb{H:bC}{ids:ac Nat}:∀{as:ac aj} {vs:ac be} (n:Nat),de H as ids vs->de H (as.take n) ids (vs.take n)
 |_,_,0,d=>rfl
 |[],_,n+1,d=>by cases d;exact rfl
 |a::as,_,n+1,⟨v,ws,e,d1,d2⟩=>by subst e;exact⟨v,_,rfl,d1,wb n d2⟩
def bS(a b:aj):Prop:=∀(H:bC) (i:ac Nat) (v:be),den H a i v->den H b i v
variable{z:Nat}{α:Type}{a b:aj}{as bT:ac aj}{R:α->ac aj}{l:ac α}
def hV:ac aj->ac aj->Prop
 |[],[]=>True
 |a::as,b::bT=>bS a b∧hV as bT
 |_,_=>False
def bS.refl(a:aj):bS a a:=fun _ _ _ d=>d
def bS.of(h:a=b):bS a b:=h▸bS.refl a
def hV.refl:∀l:ac aj,hV l l
 |[]=>trivial
 |a::as=>⟨bS.refl a,hV.refl as⟩
def hV.den{H:bC}{i:ac Nat}:∀{as bT:ac aj} {vs:ac be},hV as bT->de H as i vs->de H bT i vs
 |[],[],_,_,d=>d
 |[],_::_,_,h,_=>h.elim
 |_::_,[],_,h,_=>h.elim
 |_::_,_::_,_,⟨J,U⟩,⟨v,ws,e,d1,d2⟩=>⟨v,ws,e,J _ _ _ d1,hV.den U d2⟩
def bS.agg(h:hV as bT):bS (.agg as) (.agg bT):=fun _ _ _ ⟨vs,e,d⟩=>⟨vs,e,h.den d⟩
def bS.bP(h:hV as bT):bS (.bP as) (.bP bT):=fun _ _ _ ⟨vs,e,d⟩=>⟨vs,e,h.den d⟩
def bS.nl:bS .nl (.cc z α R []):=fun _ _ _ d=>.inl ⟨rfl,d⟩
def bS.Zm:bS .nl (.jP z α R []):=fun _ _ _ d=>.inl ⟨rfl,d⟩
def bS.eG(h:l≠[]):bS (.a6 z α R l) (.cc z α R l):=fun _ _ _ d=>d.elim (fun d=>absurd d.1 h) id
def bS.a6:bS (.cc z α R l) (.a6 z α R l):=fun _ _ _ d=>.inr d
def bS.awa:bS (.jP z α R l) (.cc z α R l):=fun _ _ _ d=>d.elim .inl (fun d=>.inr d.2)
def bS.jP(h:l≠[]):bS (.cc z α R l) (.jP z α R l):=fun _ _ _ d=>d.elim .inl (fun d=>.inr ⟨h,d⟩)
def bS.trans{c:aj}(h:bS a b)(aG:bS b c):bS a c:=fun H i v d=>aG H i v (h H i v d)
open Sym
section
abbrev bO:=ac (Nat×aj)
def eb:bO->Nat->am aj
 |[],_=>none
 |(i,a)::l,j=>cond (Nat.beq i j) (some a) (eb l j)
def r8(p:Nat×aj)(l:bO)(j:Nat):eb (p::l) j=cond (Nat.beq p.1 j) (some p.2) (eb l j):=rfl
def ET:be->aj
 |.int k n=>.i k n
 |.bool t=>.b t
 |.string ⟨⟨l⟩⟩=>.s l
 |.slice none 0 0=>.nl
 |x=>.v x
def By:ac be->ac aj
 |[]=>[]
 |v::vs=>ET v::By vs
def agU(H:bC)(ids:ac Nat)(v:be):den H (ET v) ids v:=by
 unfold ET;split<;>rfl
theorem x0(H:bC)(ids:ac Nat):∀vs:ac be,de H (By vs) ids vs
 |[]=>rfl
 |v::vs=>⟨v,vs,rfl,agU H ids v,x0 H ids vs⟩
def OG:be->am aj
 |.agg ⟨l⟩=>some (.agg (By l))
 |.int k n=>some (.i k n)
 |.bool t=>some (.b t)
 |.string ⟨⟨l⟩⟩=>some (.s l)
 |.slice none 0 0=>some .nl
 |.tuple ⟨[]⟩=>some (.bP [])
 |x=>some (.v x)
def aql(h:OG v=some a)(H:bC)(ids:ac Nat):den H a ids v:=by
 unfold OG at h;split at h<;>cases h
 ·exact⟨_,rfl,x0 H ids _⟩
 all_goals first|rfl|exact⟨[],rfl,rfl⟩
def bu(e:bO):bi->am aj
 |.tmp j=>eb e j
 |.const v=>OG v
 |.global g=>some (.v (.pointer (some ⟨g,0,none⟩)))
 |.func f=>some (.v (.func (.func f) #[] #[]))
def kG(e:bO):ac bi->am (ac aj)
 |[]=>some []
 |x::xs=>match bu e x with
  |some a=>match kG e xs with
   |some as=>some (a::as)
   |none=>none
  |none=>none
structure c9(fr:aP)(H:bC)(ids:ac Nat)(e:bO):Prop where
 pl:vK fr
 get:∀j a,eb e j=some a->den H a ids (fr.tmp j)
variable{fr:aP}{H:bC}{ids:ac Nat}{e:bO}
def c9.ak(h:c9 fr H ids e){x:bi}(aa:bu e x=some a):den H a ids (fr.ak x):=by
 cases x with
 |tmp j=>exact h.get j a aa
 |const w=>exact aql aa H ids
 |global g=>cases aa;rfl
 |func f=>cases aa;rfl
theorem c9.ey{fr:aP}{H:bC}{ids:ac Nat}{e:bO}(h:c9 fr H ids e):∀{xs:ac bi} {as:ac aj},kG e xs=some as->de H as ids (ey fr xs)
 |[],_,aa=>by cases aa;rfl
 |x::xs,_,aa=>by
  unfold kG at aa;cases J:bu e x with
  |none=>rw[J]at aa;cases aa
  |some a=>
   cases U:kG e xs with
   |none=>rw[J,U]at aa;cases aa
   |some as=>
    rw[J,U]at aa;cases aa;exact⟨_,_,rfl,h.ak J,h.ey U⟩
def c9.put(h:c9 fr H ids e)(d:Tmp)(aD:den H a ids v):c9 (fr.put (some d) v) H ids ((d,a)::e):=by
 refine⟨h.pl.put _ _,fun j w hj=> ?_⟩;rw[r8]at hj;rw[xA];cases hb:Nat.beq d j with
 |true=>
  rw[hb]at hj;rw[zab (dD hb).symm];cases hj;exact aD
 |false=>
  rw[hb]at hj;rw[zaa (fun e=>by rw[e,zaz]at hb;cases hb)];exact h.get j w hj
def k9(d:Nat):bO->bO
 |[]=>[]
 |p::l=>cond (Nat.beq p.1 d) (k9 d l) (p::k9 d l)
theorem Iw(d:Nat):∀(e:bO) (j:Nat) (a:aj),eb (k9 d e) j=some a->j≠d∧eb e j=some a
 |[],_,_,h=>by cases h
 |p::e,j,a,h=>by
  unfold k9 at h;cases hb:Nat.beq p.1 d with
  |true=>
   rw[hb]at h;obtain⟨J,U⟩:=Iw d e j a h;refine⟨J,?_⟩;rw[r8];have:Nat.beq p.1 j=false:=by
    cases hc:Nat.beq p.1 j with
    |false=>rfl
    |true=>exact absurd ((dD hc).symm.trans (dD hb)) J
   rw[this];exact U
  |false=>
   rw[hb]at h;have h:cond (Nat.beq p.1 j) (some p.2) (eb (k9 d e) j)=some a:=h;rw[r8];cases hc:Nat.beq p.1 j with
   |true=>
    rw[hc]at h;refine⟨fun e=> ?_,h⟩;rw[<-e,hc]at hb;cases hb
   |false=>rw[hc]at h;exact Iw d e j a h
def c9.ahd(h:c9 fr H ids e)(d:Tmp)(v:be):c9 (fr.put (some d) v) H ids (k9 d e):=by
 refine⟨h.pl.put _ _,fun j w hj=> ?_⟩;obtain⟨J,U⟩:=Iw d e j w hj;rw[xA,zaa J];exact h.get j w U
def c9.mono{bn:bC}{c6:ac Nat}(h:c9 fr H ids e)(hh:du H bn)(af:da ids c6):c9 fr bn c6 e:=⟨h.pl,fun j a hj=>ub hh a af (h.get j a hj)⟩
def ff(L:ac Nat):bO->bO
 |[]=>[]
 |p::l=>cond (L.any (Nat.beq p.1)) (p::ff L l) (ff L l)
theorem N8(L:ac Nat):∀(e:bO) (j:Nat) (a:aj),eb (ff L e) j=some a->L.contains j=true∧eb e j=some a
 |[],_,_,h=>by cases h
 |p::e,j,a,h=>by
  unfold ff at h;cases hb:L.any (Nat.beq p.1)with
  |true=>
   rw[hb]at h;have h:cond (Nat.beq p.1 j) (some p.2) (eb (ff L e) j)=some a:=h;rw[r8];cases hc:Nat.beq p.1 j with
   |true=>
    rw[hc]at h;refine⟨?_,h⟩;obtain⟨x,aa,bX⟩:=zdp.1 hb;rw[<-dD hc,dD bX];simpa using aa
   |false=>rw[hc]at h;exact N8 L e j a h
  |false=>
   rw[hb]at h;obtain⟨J,U⟩:=N8 L e j a h;refine⟨J,?_⟩;rw[r8];have:Nat.beq p.1 j=false:=by
    cases hc:Nat.beq p.1 j with
    |false=>rfl
    |true=>
     rw[dD hc]at hb;rw[List.any_eq_false]at hb;exact absurd (zaz j) (hb j (by simpa using J))
   rw[this];exact U
def c9.only(h:c9 fr H ids e)(ts:ac Tmp):c9 (fr.only ts) H ids (ff ts e):=
 ⟨⟨rfl,rfl,rfl⟩,fun j a hj=>by
   obtain⟨J,U⟩:=N8 ts e j a hj;have:=O (ts:=ts) (fr:=fr) (j:=j) (x:=fr.tmp j) rfl J;rw[Ds]at this;rw[this];exact h.get j a U⟩
def ru(op:BinOp)(k:d7)(a b:Int):am aj:=
 match op with
 |.add=>some (.i k (k.wrap (a+b)))
 |.sub=>some (.i k (k.wrap (a-b)))
 |.mul=>some (.i k (k.wrap (a*b)))
 |.quo=>if b=0 then none else some (.i k (k.wrap (a.tdiv b)))
 |.rem=>if b=0 then none else some (.i k (a.tmod b))
 |.and=>some (.i k (k.wrap (BitVec.ofInt k.bits a&&&BitVec.ofInt k.bits b).toNat))
 |.or=>some (.i k (k.wrap (BitVec.ofInt k.bits a|||BitVec.ofInt k.bits b).toNat))
 |.xor=>some (.i k (k.wrap (BitVec.ofInt k.bits a^^^BitVec.ofInt k.bits b).toNat))
 |.andNot=>some (.i k (k.wrap (BitVec.ofInt k.bits a&&& ~~~(BitVec.ofInt k.bits b)).toNat))
 |.eql=>some (.b (decide (a=b)))
 |.neq=>some (.b (decide (a≠b)))
 |.lss=>some (.b (decide (a<b)))
 |.leq=>some (.b (decide (a<=b)))
 |.gtr=>some (.b (decide (b<a)))
 |.geq=>some (.b (decide (b<=a)))
 |_=>none
def zS(op:BinOp)(k:d7)(M:Nat)(a b:Int):am aj:=
 match op with
 |.add=>match a,b with
  |.ofNat m,.ofNat n=>some (.i k (((m+n)%M:Nat):Int))
  |a,b=>ru .add k a b
 |.sub=>match a,b with
  |.ofNat m,.ofNat n=>some (.i k (((m+(M*n-n))%M:Nat):Int))
  |a,b=>ru .sub k a b
 |.mul=>match a,b with
  |.ofNat m,.ofNat n=>some (.i k ((m*n%M:Nat):Int))
  |a,b=>ru .mul k a b
 |.quo=>match a,b with
  |.ofNat m,.ofNat n=>if n=0 then none else some (.i k ((m/n%M:Nat):Int))
  |a,b=>ru .quo k a b
 |.rem=>match a,b with
  |.ofNat m,.ofNat n=>if n=0 then none else some (.i k ((m%n:Nat):Int))
  |a,b=>ru .rem k a b
 |.and=>match a,b with
  |.ofNat m,.ofNat n=>some (.i k (((m%M)&&&(n%M):Nat):Int))
  |a,b=>ru .and k a b
 |.or=>match a,b with
  |.ofNat m,.ofNat n=>some (.i k (((m%M)|||(n%M):Nat):Int))
  |a,b=>ru .or k a b
 |op=>ru op k a b
def KW(op:BinOp)(k:d7)(a b:Int):am aj:=
 match k with
 |.u8=>zS op .u8 256 a b
 |.u16=>zS op .u16 65536 a b
 |.u32=>zS op .u32 4294967296 a b
 |.u64=>zS op .u64 18446744073709551616 a b
 |k=>ru op k a b
def zT(k:d7)(M:Nat)(n:Int):am aj:=
 match n with
 |.ofNat m=>some (.i k ((m%M:Nat):Int))
 |n=>some (.i k (k.wrap n))
def KY(k:d7)(n:Int):am aj:=
 match k with
 |.u8=>zT .u8 256 n
 |.u16=>zT .u16 65536 n
 |.u32=>zT .u32 4294967296 n
 |.u64=>zT .u64 18446744073709551616 n
 |k=>some (.i k (k.wrap n))
def zX(k:d7)(M:Nat)(a b:Int):am aj:=
 match a,b with
 |.ofNat m,.ofNat n=>some (.i k ((m*2^n%M:Nat):Int))
 |_,_=>none
def Lf(k:d7)(a b:Int):am aj:=
 match b with
 |.ofNat n=>match Nat.ble n k.bits with
  |true=>some (.i k (k.wrap (a*2^n)))
  |false=>none
 |_=>none
def Le(k:d7)(a b:Int):am aj:=
 match k with
 |.u8=>zX .u8 256 a b
 |.u16=>zX .u16 65536 a b
 |.u32=>zX .u32 4294967296 a b
 |.u64=>zX .u64 18446744073709551616 a b
 |k=>Lf k a b
def Lg(k:d7)(a b:Int):am aj:=
 match b with
 |.ofNat n=>match Nat.ble n k.bits with
  |true=>match a with
   |.ofNat m=>some (.i k ((m/2^n:Nat):Int))
   |a=>some (.i k (a.fdiv (2^n)))
  |false=>none
 |_=>none
def QM(op:BinOp)(k k':d7)(a b:Int):am aj:=
 match op with
 |.shl=>Le k a b
 |.shr=>Lg k a b
 |op=>match kn k k' with
  |true=>KW op k a b
  |false=>none
def KX(op:BinOp):aj->aj->am aj
 |.i k a,.i k' b=>QM op k k' a b
 |.s x,.s y=>match op with
  |.eql=>some (.b (x==y))
  |.neq=>some (.b (!(x==y)))
  |_=>none
 |_,_=>none
def Lh(op:UnOp):aj->am aj
 |.i k n=>match op with
  |.neg=>some (.i k (k.wrap (-n)))
  |.xor=>some (.i k (k.wrap (BitVec.ofInt k.bits (if k.signed then -1 else k.max)^^^BitVec.ofInt k.bits n).toNat))
  |_=>none
 |.b t=>match op with
  |.not=>some (.b (!t))
  |_=>none
 |_=>none
def mr(neg:Bool)(b:Bool):Bool:=cond neg (!b) b
def K1(neg:Bool):pE->aj->aj->am aj
 |.tl,.b x,.b y=>some (.b (mr neg (x==y)))
 |.tl,.i k x,.i k' y=>match kn k k' with
  |true=>some (.b (mr neg (decide (x=y))))
  |false=>none
 |.tl,.s x,.s y=>some (.b (mr neg (x==y)))
 |.lk,.nl,.nl=>some (.b (mr neg true))
 |.lk,.jP _ _ _ l,.nl=>some (.b (mr neg l.isEmpty))
 |.lk,.a5 _ _ _ _ _,.nl=>some (.b (mr neg false))
 |.lk,.nl,.a5 _ _ _ _ _=>some (.b (mr neg false))
 |.ptr,.p _ _,.v (.pointer none)=>some (.b (mr neg false))
 |.ptr,.gX _ _ _ _,.v (.pointer none)=>some (.b (mr neg false))
 |.ptr,.ip _,.v (.pointer none)=>some (.b (mr neg false))
 |.wY,.fn _ _ _,.v .nilFunc=>some (.b (mr neg false))
 |_,_,_=>none
def F2(e:bO)(k:d7):ac bi->Int->am aj
 |[],m=>some (.i k m)
 |x::xs,m=>match bu e x with
  |some (.i k' y)=>match kn k k' with
   |true=>F2 e k xs (max m y)
   |false=>none
  |_=>none
def F3(e:bO)(k:d7):ac bi->Int->am aj
 |[],m=>some (.i k m)
 |x::xs,m=>match bu e x with
  |some (.i k' y)=>match kn k k' with
   |true=>F3 e k xs (min m y)
   |false=>none
  |_=>none
def Km{β:Type _}:ac aj->Nat->(ac aj->am β)->am β
 |_,0,K=>K []
 |[],_+1,_=>none
 |a::as,n+1,K=>Km as n fun r=>K (a::r)
def Ez:ac aj->Nat->Bool
 |[],0=>true
 |_::as,n+1=>Ez as n
 |_,_=>false
def xW{β:Type _}(cs:ac aj)(o n:Nat)(K:ac aj->am β):am β:=
 match o with
 |0=>match Ez cs n with
  |true=>K cs
  |false=>Km cs n K
 |o=>Km (cs.drop o) n K
def Jb(h7:Bool):ac aj->am aj
 |[a]=>match h7 with
  |true=>some (.agg [a])
  |false=>some a
 |cs=>match h7 with
  |true=>some (.agg cs)
  |false=>none
def K9(e:bO):dd->am aj
 |.ie x=>bu e x
 |.kJ x=>bu e x
 |.bin op x y=>match bu e x with
  |some a=>match bu e y with
   |some b=>KX op a b
   |none=>none
  |none=>none
 |.eqv neg t x y=>match bu e x with
  |some a=>match bu e y with
   |some b=>K1 neg t a b
   |none=>none
  |none=>none
 |.un op x=>match bu e x with
  |some a=>Lh op a
  |none=>none
 |.tW k x=>match bu e x with
  |some (.i _ n)=>KY k n
  |_=>none
 |.xT x=>match bu e x with
  |some (.s l)=>some (.s l)
  |_=>none
 |.sa f bB cs=>match kG e bB with
  |some as=>match kG e cs with
   |some bT=>some (.fn f as bT)
   |none=>none
  |none=>none
 |.rL x i=>match bu e x with
  |some (.bP vs)=>vs[i]?
  |_=>none
 |.ph x=>match bu e x with
  |some .nl=>some (.i .i64 0)
  |some (.a5 _ _ _ n _)=>some (.i .i64 (n:Int))
  |some (.cc _ _ _ l)=>some (.i .i64 (l.length:Int))
  |some (.jP _ _ _ l)=>some (.i .i64 (l.length:Int))
  |some (.a6 _ _ _ l)=>some (.i .i64 (l.length:Int))
  |_=>none
 |.uV x=>match bu e x with
  |some (.s l)=>some (.i .i64 (l.length:Int))
  |_=>none
 |.yR n=>some (.i .i64 (n:Int))
 |.qB off x=>match bu e x with
  |some (.p k o)=>some (.p k (o+off))
  |some (.gX k z j o)=>some (.gX k z j (o+off))
  |some (.ip cs)=>some (.ip (cs.drop off))
  |_=>none
 |.pZ off a2 h7 x=>match bu e x with
  |some (.agg cs)=>xW cs off a2 (Jb h7)
  |_=>none
 |.tc x=>match bu e x with
  |some (.p k o)=>some (.p k o)
  |some (.gX k z j o)=>some (.gX k z j o)
  |some (.ip cs)=>some (.ip cs)
  |some (.v (.func (.func g) a b))=>some (.v (.func (.func g) a b))
  |_=>none
 |.pick c x y=>match bu e c with
  |some (.b true)=>bu e x
  |some (.b false)=>bu e y
  |_=>none
 |.e7 x xs=>match bu e x with
  |some (.i k n)=>F2 e k xs n
  |_=>none
 |.y1 x xs=>match bu e x with
  |some (.i k n)=>F3 e k xs n
  |_=>none
 |_=>none
end
section
variable{call:bG}{fr:aP}{x y i:bi}
variable{k:d7}
def Ye{k':d7}(h:kn k k'=true):k=k':=by cases k<;>cases k'<;>first|rfl|cases h
def tP{op:BinOp}{a b:Int}{r:aj}(h:ru op k a b=some r)(J:op≠.shl)(U:op≠.shr)(aa:fr.ak x= .int k a)(aL:fr.ak y= .int k b):
 ∃v,(∀H ids,den H r ids v)∧∀st,bK call (.bin op x y) fr st= .ok v fr st:=by
 have key:∀v,r6 op k a b=some v->(∀H ids,den H r ids v)->∃v,(∀H ids,den H r ids v)∧∀st,bK call (.bin op x y) fr st= .ok v fr st:=
  fun v e d=>⟨v,d,fun st=>Bx J U aa aL e⟩
 cases op<;>simp only[ru]at h
 case quo=>split at h<;>cases h;rename_i hb;exact key _ (by simp only[r6,zaa hb]) fun _ _=>rfl
 case rem=>split at h<;>cases h;rename_i hb;exact key _ (by simp only[r6,zaa hb]) fun _ _=>rfl
 all_goals first
  |(cases h;done)
  |(cases h;exact key _ rfl fun _ _=>rfl)
  |(cases h;exact key _ rfl fun _ _=>by show Value.bool _=Value.bool _;congr 1;rw[zaS];simp)
def xO(k:d7)(M:Nat):Prop:=(∀n:Int,k.wrap n=n%(M:Int))∧M=2^k.bits
variable{r:aj}{k':d7}{H:bC}{ids:ac Nat}{op:BinOp}{n M:Nat}{cs:ac aj}{o:Nat}
def Qj:xO .u8 256:=⟨fun n=>by rw[<-lR];exact tF _ _ (by decide),rfl⟩
def Qg:xO .u16 65536:=⟨fun n=>by rw[<-lR];exact tF _ _ (by decide),rfl⟩
def Qh:xO .u32 4294967296:=⟨fun n=>by rw[<-lR];exact tF _ _ (by decide),rfl⟩
def Qi:xO .u64 18446744073709551616:=⟨fun n=>by rw[<-lR];exact tF _ _ (by decide),rfl⟩
def FY(mC:xO k M){a b:Int}(h:zS op k M a b=some r)(J:op≠.shl)(U:op≠.shr)(aa:fr.ak x= .int k a)(aL:fr.ak y= .int k b):
 ∃v,(∀H ids,den H r ids v)∧∀st,bK call (.bin op x y) fr st= .ok v fr st:=by
 have hp:0<M:=by rw[mC.2];exact zaD _
 have key:∀v,r6 op k a b=some v->(∀H ids,den H r ids v)->∃v,(∀H ids,den H r ids v)∧∀st,bK call (.bin op x y) fr st= .ok v fr st:=
  fun v e d=>⟨v,d,fun st=>Bx J U aa aL e⟩
 have fZ:∀{m n:Int},m=n->∀(H:bC) (ids:ac Nat),den H (.i k n) ids (.int k m):=fun e _ _=>by rw[e];rfl
 have wn:∀n:Nat,k.wrap (n:Int)=((n%M:Nat):Int):=fun n=>by rw[mC.1];rfl
 have aw5:∀n:Nat,n%M<2^k.bits:=fun n=>by rw[<-mC.2];exact zah _ hp
 unfold zS at h;split at h
 ·split at h
  ·rename_i m n;cases h;exact key _ rfl (fZ (wn (m+n)))
  ·exact tP h J U aa aL
 ·split at h
  ·rename_i m n;cases h;refine key _ rfl (fZ ?_);rw[mC.1];have e:((m+(M*n-n):Nat):Int)=((m:Int)-n)+M*n:=by
    have:n<=M*n:=Nat.le_mul_of_pos_left n hp;rw[Int.natCast_add,Int.ofNat_sub this,zaV];omega
   rw[Int.natCast_emod,e,Int.add_mul_emod_self_left];rfl
  ·exact tP h J U aa aL
 ·split at h
  ·rename_i m n;cases h;exact key _ rfl (fZ (wn (m*n)))
  ·exact tP h J U aa aL
 ·split at h
  ·rename_i m n;split at h<;>cases h;rename_i hn;refine key (.int k (k.wrap ((m:Int).tdiv n))) (by show(if(n:Int)=0 then none else _)=_;rw[zaa (by omega)];rfl) (fZ ?_);exact wn (m/n)
  ·exact tP h J U aa aL
 ·split at h
  ·rename_i m n;split at h<;>cases h;rename_i hn;exact key (.int k ((m:Int).tmod n)) (by show(if(n:Int)=0 then none else _)=_;rw[zaa (by omega)];rfl) (fZ rfl)
  ·exact tP h J U aa aL
 ·split at h
  ·rename_i m n;cases h;refine key _ rfl (fZ ?_);show k.wrap ((BitVec.ofInt k.bits (m:Int)&&&BitVec.ofInt k.bits (n:Int)).toNat:Nat)=_;rw[BitVec.toNat_and,zbv,zbv,zds,zds,<-mC.2,wn,gP];rw[mC.2];exact Nat.and_lt_two_pow _ (by rw[<-mC.2];exact zah _ hp)
  ·exact tP h J U aa aL
 ·split at h
  ·rename_i m n;cases h;refine key _ rfl (fZ ?_);show k.wrap ((BitVec.ofInt k.bits (m:Int)|||BitVec.ofInt k.bits (n:Int)).toNat:Nat)=_;rw[BitVec.toNat_or,zbv,zbv,zds,zds,<-mC.2,wn,gP];rw[mC.2];exact Nat.or_lt_two_pow (by rw[<-mC.2];exact zah _ hp) (by rw[<-mC.2];exact zah _ hp)
  ·exact tP h J U aa aL
 ·exact tP h J U aa aL
def adW{a b:Int}(h:KW op k a b=some r)(J:op≠.shl)(U:op≠.shr)(aa:fr.ak x= .int k a)(aL:fr.ak y= .int k b):
 ∃v,(∀H ids,den H r ids v)∧∀st,bK call (.bin op x y) fr st= .ok v fr st:=by
 unfold KW at h;split at h
 ·exact FY Qj h J U aa aL
 ·exact FY Qg h J U aa aL
 ·exact FY Qh h J U aa aL
 ·exact FY Qi h J U aa aL
 ·exact tP h J U aa aL
def adY{n:Int}(h:KY k n=some r)(H:bC)(ids:ac Nat):den H r ids (.int k (k.wrap n)):=by
 have u:∀{k:d7} {M:Nat},xO k M->zT k M n=some r->den H r ids (.int k (k.wrap n)):=fun mC h=>by
  unfold zT at h;split at h<;>cases h
  ·show Value.int _ _=Value.int _ _;rw[mC.1];rfl
  ·rfl
 unfold KY at h;split at h
 ·exact u Qj h
 ·exact u Qg h
 ·exact u Qh h
 ·exact u Qi h
 ·cases h;rfl
def abT{a:Int}(aa:fr.ak x= .int k a)(aL:fr.ak y= .int k' (n:Int))(st:ay):bK call (.bin .shl x y) fr st= .ok (.int k (k.wrap (a*2^(min n k.bits)))) fr st:=by
 rw[EX,aa,aL,LY];show hP (n:Int) (fun n=>iA k (zr k a n) (fun v=>aV.ok v fr st)) aV.no=_;rw[pn,iS];have:zr k a n=k.wrap (a*2^(min n k.bits)):=by
  unfold zr;rw[lR,Om];simp
 rw[this]
def Gb(mC:xO k M){a b:Int}(h:zX k M a b=some r)(aa:fr.ak x= .int k a)(aL:fr.ak y= .int k' b):
 ∃v,(∀H ids,den H r ids v)∧∀st,bK call (.bin .shl x y) fr st= .ok v fr st:=by
 unfold zX at h;split at h
 ·rename_i m n;cases h;refine⟨_,fun H ids=> ?_,fun st=>abT aa aL st⟩;show Value.int _ _=Value.int _ _;congr 1;have e:((m:Int)*2^(min n k.bits))=((m*2^(min n k.bits):Nat):Int):=by simp
  show k.wrap ((m:Int)*2^(min n k.bits))=_;rw[e,mC.1,<-Int.natCast_emod];congr 1;rcases Nat.le_total n k.bits with hn|hn
  ·rw[zaE hn]
  ·rw[Nat.min_eq_right hn,<-mC.2];have:2^n=M*2^(n-k.bits):=by rw[mC.2,<-zar];congr 1;omega
   rw[this,Nat.mul_mod_left,<-zax,zam m M,zax,Nat.mul_mod_right]
 ·cases h
def aex{a b:Int}(h:Lf k a b=some r)(aa:fr.ak x= .int k a)(aL:fr.ak y= .int k' b):
 ∃v,(∀H ids,den H r ids v)∧∀st,bK call (.bin .shl x y) fr st= .ok v fr st:=by
 unfold Lf at h;cases b with
 |negSucc n=>cases h
 |ofNat n=>
  simp only at h;split at h<;>cases h;rename_i hn;refine⟨_,fun _ _=> ?_,fun st=>abT aa aL st⟩;rw[zaE (jF hn)];rfl
def aey{a b:Int}(h:Le k a b=some r)(aa:fr.ak x= .int k a)(aL:fr.ak y= .int k' b):
 ∃v,(∀H ids,den H r ids v)∧∀st,bK call (.bin .shl x y) fr st= .ok v fr st:=by
 unfold Le at h;split at h
 ·exact Gb Qj h aa aL
 ·exact Gb Qg h aa aL
 ·exact Gb Qh h aa aL
 ·exact Gb Qi h aa aL
 ·exact aex h aa aL
def Rm{a b:Int}(h:Lg k a b=some r)(aa:fr.ak x= .int k a)(aL:fr.ak y= .int k' b):
 ∃v,(∀H ids,den H r ids v)∧∀st,bK call (.bin .shr x y) fr st= .ok v fr st:=by
 unfold Lg at h;cases b with
 |negSucc n=>cases h
 |ofNat n=>
  simp only at h;split at h<;>try cases h
  rename_i hn;have hn:=jF hn;have e:∀st,bK call (.bin .shr x y) fr st= .ok (.int k (vt k a n)) fr st:=fun st=>by
   rw[EX,aa,aL,LY];show hP (n:Int) (fun n=>iA k (vt k a n) (fun v=>aV.ok v fr st)) aV.no=_;rw[pn,iS]
  refine⟨_,?_,e⟩;intro H ids;cases a with
  |ofNat m=>
   cases h;show Value.int _ _=Value.int _ _;congr 1;show vt k (m:Int) n=_;unfold vt;rw[pn,zaE hn];rfl
  |negSucc m=>
   cases h;show Value.int _ _=Value.int _ _;congr 1;unfold vt;rw[zaE hn];rfl
def adV(h:KX op a b=some r)(aa:den H a ids (fr.ak x))(aL:den H b ids (fr.ak y)):
 ∃v,(∀H ids,den H r ids v)∧∀st,bK call (.bin op x y) fr st= .ok v fr st:=by
 unfold KX at h;split at h
 ·rename_i k m k' n;have aa:fr.ak x= .int k m:=aa;have aL:fr.ak y= .int k' n:=aL;unfold QM at h;split at h
  ·exact aey h aa aL
  ·exact Rm h aa aL
  ·rename_i J U;split at h
   ·rename_i ab;cases Ye ab;exact adW h (by simpa using J) (by simpa using U) aa aL
   ·cases h
 ·rename_i l m;have aa:fr.ak x= .string ⟨⟨l⟩⟩:=aa;have aL:fr.ak y= .string ⟨⟨m⟩⟩:=aL;have e:∀st,bK call (.bin op x y) fr st=CQ op ⟨⟨l⟩⟩ ⟨⟨m⟩⟩ (fun v=>.ok v fr st):=fun st=>by rw[EX,aa,aL,S4]
  split at h<;>cases h
  ·exact⟨_,fun _ _=>rfl,e⟩
  ·exact⟨_,fun _ _=>rfl,e⟩
 ·cases h
def aeA{op:UnOp}(h:Lh op a=some r)(aa:den H a ids (fr.ak x)):
 ∃v,(∀H ids,den H r ids v)∧∀st,bK call (.un op x) fr st= .ok v fr st:=by
 unfold Lh at h;split at h
 ·rename_i k n;have aa:fr.ak x= .int k n:=aa;have e:∀st,bK call (.un op x) fr st=Aq op (.int k n) (fun v=>.ok v fr st):=fun st=>by
   have:bK call (.un op x) fr st=Aq op (fr.ak x) (fun v=>.ok v fr st):=rfl;rw[this,aa]
  split at h<;>cases h
  ·refine⟨_,fun _ _=>rfl,fun st=> ?_⟩;rw[e];simp only[Aq,nA,iS,lR,Oq]
  ·refine⟨_,fun _ _=>rfl,fun st=> ?_⟩;rw[e];simp only[Aq,nA,iS]
 ·rename_i t;have aa:fr.ak x= .bool t:=aa;split at h<;>cases h;refine⟨_,fun _ _=>rfl,fun st=> ?_⟩;have:bK call (.un .not x) fr st=Aq .not (fr.ak x) (fun v=>.ok v fr st):=rfl;rw[this,aa];rfl
 ·cases h
def ad0{neg:Bool}{t:pE}(h:K1 neg t a b=some r)(aa:den H a ids (fr.ak x))(aL:den H b ids (fr.ak y)):
 ∃v,(∀H ids,den H r ids v)∧∀st,bK call (.eqv neg t x y) fr st= .ok v fr st:=by
 have key:∀c,ly 8 t (fr.ak x) (fr.ak y)=some c->r= .b (mr neg c)->∃v,(∀H ids,den H r ids v)∧∀st,bK call (.eqv neg t x y) fr st= .ok v fr st:=by
  intro c hc aE;subst aE;refine⟨_,fun _ _=>rfl,fun st=> ?_⟩;show bk (ly 8 t (fr.ak x) (fr.ak y)) (fun b=>aV.ok (.bool (cond neg (!b) b)) fr st) .no=_;rw[hc];rfl
 unfold K1 at h;split at h
 ·cases h;exact key _ (by rw[show fr.ak x=_ from aa,show fr.ak y=_ from aL];simp only[ly,Ao]) rfl
 ·split at h<;>cases h;rename_i ab;cases Ye ab;refine key _ ?_ rfl;rw[show fr.ak x=_ from aa,show fr.ak y=_ from aL];simp only[ly,Ao];simp only[if_true];congr 1
 ·cases h;exact key _ (by rw[show fr.ak x=_ from aa,show fr.ak y=_ from aL];simp only[ly,Ao]) rfl
 ·cases h;exact key true (by rw[show fr.ak x=_ from aa,show fr.ak y=_ from aL];simp[ly,pX]) rfl
 ·cases h;rcases aa with⟨rfl,aa⟩|⟨hn,b,o,c,vs,el,bg,a8,aa,_⟩
  ·exact key true (by rw[aa,show fr.ak y=_ from aL];simp[ly,pX]) rfl
  ·exact key false (by rw[aa,show fr.ak y=_ from aL];simp[ly,pX]) (by rw[zdt.2 hn])
 ·cases h;obtain⟨b,_,aa⟩:=aa;exact key false (by rw[aa,show fr.ak y=_ from aL];simp[ly,pX]) rfl
 ·cases h;obtain⟨b,_,aL⟩:=aL;exact key false (by rw[show fr.ak x=_ from aa,aL];simp[ly,pX]) rfl
 ·cases h;obtain⟨b,_,aa⟩:=aa;exact key false (by rw[aa,show fr.ak y=_ from aL];simp[ly,sN]) rfl
 ·cases h;obtain⟨b,_,aa⟩:=aa;exact key false (by rw[aa,show fr.ak y=_ from aL];simp[ly,sN]) rfl
 ·cases h;obtain⟨b,o,vs,el,bg,a8,aa,_⟩:=aa;exact key false (by rw[aa,show fr.ak y=_ from aL];simp[ly,sN]) rfl
 ·cases h;obtain⟨b,o,aa,_⟩:=aa;exact key false (by rw[aa,show fr.ak y=_ from aL];simp[ly,An]) rfl
 ·cases h
theorem QZ{H:bC}{ids:ac Nat}{e:bO}(ae:c9 fr H ids e){k:d7}:∀{xs:ac bi} {m:Int} {r:aj},F2 e k xs m=some r->∃n,r= .i k n∧ED k fr xs m=some n
 |[],m,r,h=>by cases h;exact⟨m,rfl,rfl⟩
 |x::xs,m,r,h=>by
  unfold F2 at h;split at h<;>try cases h
  rename_i k' z aa;split at h<;>try cases h
  rename_i ab;obtain⟨n,J,U⟩:=QZ ae h;refine⟨n,J,?_⟩;have aD:fr.ak x= .int k' z:=ae.ak aa;show gO (fr.ak x) (fun k' y=>cond (kn k k') (ED k fr xs (cond (nj y m) m y)) none) none=_;rw[aD,nA,ab,cond_true,<-U];congr 1;rw[s7];by_cases an:z<=m
  ·rw[zac an,cond_true];omega
  ·rw[zad an,cond_false];omega
theorem Q0{H:bC}{ids:ac Nat}{e:bO}(ae:c9 fr H ids e){k:d7}:∀{xs:ac bi} {m:Int} {r:aj},F3 e k xs m=some r->∃n,r= .i k n∧EE k fr xs m=some n
 |[],m,r,h=>by cases h;exact⟨m,rfl,rfl⟩
 |x::xs,m,r,h=>by
  unfold F3 at h;split at h<;>try cases h
  rename_i k' z aa;split at h<;>try cases h
  rename_i ab;obtain⟨n,J,U⟩:=Q0 ae h;refine⟨n,J,?_⟩;have aD:fr.ak x= .int k' z:=ae.ak aa;show gO (fr.ak x) (fun k' y=>cond (kn k k') (EE k fr xs (cond (nj m y) m y)) none) none=_;rw[aD,nA,ab,cond_true,<-U];congr 1;rw[s7];by_cases an:m<=z
  ·rw[zac an,cond_true];omega
  ·rw[zad an,cond_false];omega
theorem P7{β:Type _}{r:β}:∀{cs:ac aj} {n:Nat} {K:ac aj->am β},Km cs n K=some r->n<=cs.length∧K (cs.take n)=some r
 |cs,0,K,h=>by
  have h:K []=some r:=by cases cs<;>exact h
  exact⟨zae _,by simpa using h⟩
 |[],n+1,K,h=>by cases h
 |a::as,n+1,K,h=>by
  obtain⟨J,U⟩:=P7 (cs:=as) (n:=n) h;exact⟨by simpa using J,by simpa using U⟩
theorem It:∀{cs:ac aj} {n:Nat},Ez cs n=true->cs.length=n
 |[],0,_=>rfl
 |[],n+1,h=>by cases h
 |_::_,0,h=>by cases h
 |a::as,n+1,h=>by simp[It (cs:=as) (n:=n) h]
def C7{β:Type _}{r:β}{K:ac aj->am β}(h:xW cs o n K=some r):n<=(cs.drop o).length∧K ((cs.drop o).take n)=some r:=by
 unfold xW at h;split at h
 ·split at h
  ·rename_i hl;have:=It hl;refine⟨by simp;omega,?_⟩;rw[zap,zas (by omega)];exact h
  ·exact P7 h
 ·exact P7 h
def qw{β:Type}(h:n<=(l.drop o).length)(k:ac α->β)(z:β):jt l o n k z=k ((l.drop o).take n):=by
 unfold jt;rw[Ah,Fy,zab h];rfl
def Z6{h7:Bool}(h:Jb h7 cs=some r):(h7=true∧r= .agg cs)∨(h7=false∧cs=[r]):=by
 unfold Jb at h;split at h<;>split at h<;>cases h
 ·exact .inl ⟨rfl,rfl⟩
 ·exact .inr ⟨rfl,rfl⟩
 ·exact .inl ⟨rfl,rfl⟩
def pJ(b o n:Nat):(⟨b,o,none⟩:Addr).add n=⟨b,o+n,none⟩:=by
 unfold Addr.add;split
 ·rename_i h;rw[h];rfl
 ·rfl
def aec{e:bO}(ae:c9 fr H ids e){o:dd}(h:K9 e o=some r):∃v,den H r ids v∧∀st,bK call o fr st= .ok v fr st:=by
 have up:∀{r:aj} {o:dd},(∃v,(∀H ids,den H r ids v)∧∀st,bK call o fr st= .ok v fr st)->∃v,den H r ids v∧∀st,bK call o fr st= .ok v fr st:=fun⟨v,J,U⟩=>⟨v,J _ _,U⟩;cases o<;>simp only[K9]at h
 case ie x=>exact⟨_,ae.ak h,fun st=>rfl⟩
 case kJ x=>exact⟨_,ae.ak h,fun st=>rfl⟩
 case bin op x y=>
  split at h<;>try cases h
  split at h<;>try cases h
  rename_i aa _ _ aL;exact up (adV h (ae.ak aa) (ae.ak aL))
 case eqv neg t x y=>
  split at h<;>try cases h
  split at h<;>try cases h
  rename_i aa _ _ aL;exact up (ad0 h (ae.ak aa) (ae.ak aL))
 case un op x=>
  split at h<;>try cases h
  rename_i aa;exact up (aeA h (ae.ak aa))
 case tW k x=>
  split at h<;>try (cases h;done)
  rename_i k' n aa;have aa:fr.ak x= .int k' n:=ae.ak aa;exact⟨_,adY h H ids,fun st=>aqc aa⟩
 case xT x=>
  split at h<;>try cases h
  rename_i l aa;have aa:fr.ak x= .string ⟨⟨l⟩⟩:=ae.ak aa;refine⟨_,rfl,fun st=> ?_⟩;show im (fr.ak x) _ _=_;rw[aa];rfl
 case sa f bB cs=>
  split at h<;>try cases h
  split at h<;>try cases h
  rename_i J _ _ U;exact⟨_,⟨_,_,rfl,ae.ey J,ae.ey U⟩,fun st=>rfl⟩
 case rL x i=>
  split at h<;>try cases h
  rename_i vs aa;obtain⟨ws,aa,aA⟩:=ae.ak aa;obtain⟨v,aD,aA⟩:=wa aA h;refine⟨v,aA,fun st=> ?_⟩;show rk (fr.ak x) (fun vs=>jt vs.toList i 1 (fun l=>one l (fun v=>aV.ok v fr st) .no) .no) .no=_;rw[aa,avm];obtain⟨aN,H3⟩:=zaf.1 aD;show jt ws i 1 _ _=_;rw[Ac (by omega),eX aN,H3];rfl
 case ph x=>
  split at h<;>try cases h
  ·rename_i aa;have aa:fr.ak x= .slice none 0 0:=ae.ak aa;exact⟨_,rfl,fun st=>w3 aa⟩
  ·rename_i aa;obtain⟨b,_,aa⟩:=ae.ak aa;exact⟨_,rfl,fun st=>w3 aa⟩
  ·rename_i aa;rcases ae.ak aa with⟨hl,aa⟩|⟨b,o,c,vs,el,bg,a8,aa,_⟩
   ·rw[hl];exact⟨_,rfl,fun st=>w3 aa⟩
   ·exact⟨_,rfl,fun st=>w3 aa⟩
  ·rename_i aa;rcases ae.ak aa with⟨hl,aa⟩|⟨_,b,o,c,vs,el,bg,a8,aa,_⟩
   ·rw[hl];exact⟨_,rfl,fun st=>w3 aa⟩
   ·exact⟨_,rfl,fun st=>w3 aa⟩
  ·rename_i aa;rcases ae.ak aa with⟨hl,aa⟩|⟨hl,aa⟩|⟨b,o,c,vs,el,bg,a8,aa,_⟩
   ·rw[hl];exact⟨_,rfl,fun st=>aqe aa⟩
   ·rw[hl];exact⟨_,rfl,fun st=>w3 aa⟩
   ·exact⟨_,rfl,fun st=>w3 aa⟩
 case uV x=>
  split at h<;>try cases h
  rename_i l aa;have aa:fr.ak x= .string ⟨⟨l⟩⟩:=ae.ak aa;exact⟨_,rfl,fun st=>by rw[aqA,aa,Cr]⟩
 case yR n=>cases h;exact⟨_,rfl,fun st=>rfl⟩
 case qB off x=>
  have e:∀{b o:Nat},fr.ak x= .pointer (some ⟨b,o,none⟩)->∀st,bK call (.qB off x) fr st= .ok (.pointer (some ⟨b,o+off,none⟩)) fr st:=fun aa st=>by
   show ik (fr.ak x) (fun p=>bk p (fun a=>aV.ok (.pointer (some (a.add off))) fr st) .no) .no=_;rw[aa,n7];show aV.ok (.pointer (some (Addr.add _ off))) fr st=_;rw[pJ]
  split at h<;>try cases h
  ·rename_i aa;obtain⟨b,hb,aa⟩:=ae.ak aa;exact⟨_,⟨b,hb,rfl⟩,e aa⟩
  ·rename_i k z j o aa;obtain⟨b,hb,aa⟩:=ae.ak aa;exact⟨_,⟨b,hb,by rw[zbE]⟩,e aa⟩
  ·rename_i cs aa;obtain⟨b,o,vs,el,bg,a8,aa,hb,aA⟩:=ae.ak aa;refine⟨_,⟨b,o+off,vs,el,bg,a8,rfl,hb,?_⟩,e aa⟩;have:=pR off aA;rw[zdZ,zbp]at this;rw[zaA];exact this
 case pZ off a2 h7 x=>
  split at h<;>try cases h
  rename_i cs aa;obtain⟨ws,aa,aA⟩:=ae.ak aa;obtain⟨J,U⟩:=C7 h;have aA:=wb a2 (pR off aA);have hl:=h9 aA;have e:∀st,bK call (.pZ off a2 h7 x) fr st=bk (cond h7 (some (.agg ⟨(ws.drop off).take a2⟩)) (one ((ws.drop off).take a2) (fun v=>some v) none)) (fun v=>.ok v fr st) .no:=fun st=>by
   show vx (fr.ak x) (fun cs=>bk (va off a2 h7 cs.toList) (fun v=>aV.ok v fr st) .no) .no=_;rw[aa,avl];show bk (va off a2 h7 ws) _ _=_;unfold va;rw[qw (by rw[zao,zao,zaE J]at hl;omega)]
  rcases Z6 U with⟨rfl,rfl⟩|⟨rfl,ag⟩
  ·exact⟨_,⟨_,rfl,aA⟩,fun st=>by rw[e];rfl⟩
  ·rw[ag]at aA;obtain⟨v,us,aD,aA,hn⟩:=aA;cases hn;rw[aD]at e;exact⟨v,aA,fun st=>by rw[e];rfl⟩
 case tc x=>
  have e:∀{a:Addr},fr.ak x= .pointer (some a)->∀st,bK call (.tc x) fr st= .ok (.pointer (some a)) fr st:=fun aa st=>by
   show ik (fr.ak x) (fun p=>bk p (fun a=>aV.ok (.pointer (some a)) fr st) .no) _=_;rw[aa];rfl
  split at h<;>try cases h
  ·rename_i aa;obtain⟨b,hb,aa⟩:=ae.ak aa;exact⟨_,⟨b,hb,rfl⟩,e aa⟩
  ·rename_i aa;obtain⟨b,hb,aa⟩:=ae.ak aa;exact⟨_,⟨b,hb,rfl⟩,e aa⟩
  ·rename_i aa;obtain⟨b,o,vs,el,bg,a8,aa,aA⟩:=ae.ak aa;exact⟨_,⟨b,o,vs,el,bg,a8,rfl,aA⟩,e aa⟩
  ·rename_i g a b aa;have aa:fr.ak x= .func (.func g) a b:=ae.ak aa;refine⟨_,rfl,fun st=> ?_⟩;have:bK call (.tc x) fr st=ik (fr.ak x) (fun p=>bk p (fun a=>aV.ok (.pointer (some a)) fr st) .no) (Cq (fr.ak x) (fun f a b=>match f with|.func g=>.ok (.func (.func g) a b) fr st|_=>.no) .no):=rfl;rw[this,aa];rfl
 case pick c x y=>
  split at h
  ·rename_i hc;exact⟨_,ae.ak h,fun st=>aqh (ae.ak hc) rfl rfl⟩
  ·rename_i hc;exact⟨_,ae.ak h,fun st=>aqg (ae.ak hc) rfl rfl⟩
  ·cases h
 case e7 x xs=>
  split at h<;>try cases h
  rename_i k n aa;have aa:fr.ak x= .int k n:=ae.ak aa;obtain⟨m,rfl,hm⟩:=QZ ae h;refine⟨_,rfl,fun st=> ?_⟩;show gO (fr.ak x) (fun k n=>bk (ED k fr xs n) (fun m=>iA k m fun v=>aV.ok v fr st) .no) .no=_;rw[aa,nA,hm,Sym.en,iS]
 case y1 x xs=>
  split at h<;>try cases h
  rename_i k n aa;have aa:fr.ak x= .int k n:=ae.ak aa;obtain⟨m,rfl,hm⟩:=Q0 ae h;refine⟨_,rfl,fun st=> ?_⟩;show gO (fr.ak x) (fun k n=>bk (EE k fr xs n) (fun m=>iA k m fun v=>aV.ok v fr st) .no) .no=_;rw[aa,nA,hm,Sym.en,iS]
 all_goals cases h
end
inductive bj:Type 1
 |c (el:TypeId) (cs:List aj)
 |a (el:TypeId) (a8:Bool) (z:Nat) (α:Type) (R:α->List aj) (l:List α)
 |x
def bj.live:bj->Bool
 |.x=>false
 |_=>true
def mx(H:bC)(ids:ac Nat):bj->am bt->Prop
 |.c el cs,eI=>∃vs,eI=some (.cells vs el (0,0) false)∧de H cs ids vs
 |.a el a8 z _ R l,eI=>∃vs,eI=some (.cells vs el (0,0) a8)∧vs.length=l.length*z∧∀i x,l[i]? =some x->de H (R x) ids ((vs.drop (i*z)).take z)
 |.x,_=>True
def v9{H bn:bC}{i j:ac Nat}(h:du H bn)(af:da i j):∀{o:bj} {eI:am bt},mx H i o eI->mx bn j o eI
 |.c _ _,_,⟨vs,e,d⟩=>⟨vs,e,my h _ af d⟩
 |.a _ _ _ _ _ _,_,⟨vs,e,bL,d⟩=>⟨vs,e,bL,fun k x aa=>my h _ af (d k x aa)⟩
 |.x,_,_=>trivial
structure cz where
 own:ac bj
 n:Nat
 env:bO
structure Fit(H:bC)(ids:ac Nat)(st:ay)(own:ac bj)(n:Nat):Prop where
 wf:∀i,st.ai<=i->st.h.get i=none
 le:∀b o,H b=some o->st.h.get b=some o
 cE:own.length=n
 len:ids.length=n
 c8:ids.Nodup
 lt:∀b∈ids,b<st.ai
 own:∀(k:Nat) (o:bj) (b:Nat),own[k]? =some o->ids[k]? =some b->mx H ids o (st.h.get b)∧(o.live=true->H b=none)
structure dN(b1:bC)(i0:ac Nat)(aK:ay)(H:bC)(ids:ac Nat)(st:ay):Prop where
 hle:du b1 H
 hold:∀b,b<aK.ai->b∉i0->H b=b1 b
 hA:∀b,b<aK.ai->b∉i0->st.h.get b=aK.h.get b
 ai:aK.ai<=st.ai
 lI:da i0 ids
 new:∀b∈ids,b∈i0∨aK.ai<=b
variable{H:bC}{ids:ac Nat}{st:ay}{n:Nat}{o:bj}{eI:bt}{b1:bC}{i0:ac Nat}{aK:ay}
def Fit.aN{own:ac bj}(h:Fit H ids st own n){b:Nat}{o:bt}(hb:H b=some o):b<st.ai:=by
 rcases zai b st.ai with aG|aG
 ·exact aG
 ·have:=h.le b o hb;rw[h.wf b aG]at this;cases this
def Fit.sS{own:ac bj}(h:Fit H ids st own n){b:Nat}(hb:st.ai<=b):H b=none:=by
 cases e:H b with
 |none=>rfl
 |some o=>have:=h.aN e;omega
def Fit.add{own:ac bj}(h:Fit H ids st own n)(d:mx H (ids++[st.ai]) o (some eI)):
 Fit H (ids++[st.ai]) ⟨st.h.set st.ai eI,st.ai+1⟩ (own++[o]) (n+1):=by
 have wI:st.ai∉ids:=fun hm=>by have:=h.lt _ hm;omega
 refine⟨?_,?_,by simp[h.cE],by simp[h.len],?_,?_,?_⟩
 ·intro i af;show(st.h.set st.ai eI).get i=none;have af:st.ai+1<=i:=af;rw[ao.gf _ _ (by omega)];exact h.wf i (by omega)
 ·intro b bh hb;show(st.h.set st.ai eI).get b=_;have:=h.aN hb;rw[ao.gf _ _ (by omega)];exact h.le b bh hb
 ·rw[List.nodup_append];refine⟨h.c8,by simp,?_⟩;intro a ha b hb;simp at hb;subst hb;exact fun e=>wI (e▸ha)
 ·intro b hb;simp at hb;show b<st.ai+1;rcases hb with hb|hb
  ·have:=h.lt b hb;omega
  ·omega
 ·intro k bh b ab hb;show mx _ _ _ ((st.h.set st.ai eI).get b)∧_;by_cases HH:k<own.length
  ·rw[zaW HH]at ab;rw[zaW (by rw[h.len,<-h.cE];exact HH)]at hb;obtain⟨J,U⟩:=h.own k bh b ab hb;have:b≠st.ai:=fun e=>wI (e▸zav hb);rw[ao.gf _ _ this];exact⟨v9 (du.refl _) (da.app _ _) J,U⟩
  ·have fF:=(zaf.1 ab).1;simp at fF;have HH:k=own.length:=by omega
   subst HH;rw[zaL (b8 _)]at ab;have hl:own.length=ids.length:=by rw[h.len,h.cE]
   rw[hl,zaL (b8 _)]at hb;simp at ab hb;subst ab hb;rw[ao.nP];exact⟨d,fun _=>h.sS (b8 _)⟩
def dN.add(h:dN b1 i0 aK H ids st)(eI:bt):dN b1 i0 aK H (ids++[st.ai]) ⟨st.h.set st.ai eI,st.ai+1⟩:=by
 refine⟨h.hle,h.hold,?_,by have:=h.ai;show aK.ai<=st.ai+1;omega,fun k b e=>da.app _ _ k b (h.lI k b e),?_⟩
 ·intro b hb hn;show(st.h.set st.ai eI).get b=_;have:=h.ai;rw[ao.gf _ _ (by omega)];exact h.hA b hb hn
 ·intro b hb;simp at hb;rcases hb with hb|hb
  ·exact h.new b hb
  ·right;rw[hb];exact h.ai
def Fit.hd{own:ac bj}(h:Fit H ids st own n){k b:Nat}{bh:bj}(ab:own[k]? =some o)(hl:o.live=true)(hb:ids[k]? =some b)(d:mx H ids bh (some eI)):
 Fit H ids ⟨st.h.set b eI,st.ai⟩ (own.set k bh) n:=by
 have aN:b<st.ai:=h.lt b (zav hb);have e5:H b=none:=(h.own k o b ab hb).2 hl;refine⟨?_,?_,by simp[h.cE],h.len,h.c8,h.lt,?_⟩
 ·intro i af;show(st.h.set b eI).get i=none;have af:st.ai<=i:=af;rw[ao.gf _ _ (by omega)];exact h.wf i af
 ·intro c q hc;show(st.h.set b eI).get c=_;rw[ao.gf _ _ (fun e=>by rw[e,e5]at hc;cases hc)];exact h.le c q hc
 ·intro j q c hj hc;show mx _ _ _ ((st.h.set b eI).get c)∧_;rw[zaQ]at hj;by_cases je:k=j
  ·subst je;rw[hb]at hc;cases hc;rw[zab rfl]at hj;split at hj<;>cases hj;rw[ao.nP];exact⟨d,fun _=>e5⟩
  ·rw[zaa je]at hj;have:c≠b:=fun e=>by
    subst e;have J:=(zaf.1 hb);have U:=(zaf.1 hc);exact je ((zct (h₀:=J.1) (h₁:=U.1) h.c8).1 (J.2.trans U.2.symm))
   rw[ao.gf _ _ this];exact h.own j q c hj hc
def dN.hd(h:dN b1 i0 aK H ids st){b:Nat}(hb:b∈ids)(eI:bt):dN b1 i0 aK H ids ⟨st.h.set b eI,st.ai⟩:=by
 refine⟨h.hle,h.hold,?_,h.ai,h.lI,h.new⟩;intro c hc hn;show(st.h.set b eI).get c=_;rw[ao.gf _ _ (fun e=>by
  subst e;rcases h.new _ hb with J|J
  ·exact hn J
  ·omega)]
 exact h.hA c hc hn
section
def vP(own:ac bj)(e:bO):dd->am aj
 |.j8 x=>match bu e x with
  |some (.p k o)=>match own[k]? with
   |some (.c _ cs)=>cs[o]?
   |_=>none
  |some (.gX k z j o)=>match own[k]? with
   |some (.c _ cs)=>cs[j*z+o]?
   |_=>none
  |some (.ip cs)=>cs[0]?
  |_=>none
 |.qY n x=>match bu e x with
  |some (.p k o)=>match own[k]? with
   |some (.c _ cs)=>xW cs o n fun l=>some (.agg l)
   |_=>none
  |some (.gX k z j o)=>match own[k]? with
   |some (.c _ cs)=>xW cs (j*z+o) n fun l=>some (.agg l)
   |_=>none
  |some (.ip cs)=>xW cs 0 n fun l=>some (.agg l)
  |_=>none
 |_=>none
def qX(e:bO):dd->am Nat
 |.j8 x|.qY _ x=>match bu e x with
  |some (.p k _)|some (.gX k _ _ _)=>some k
  |_=>none
 |_=>none
end
section
variable{call:bG}{fr:aP}{x y i:bi}
variable{vs:ac be}{el:ce}{bg:Nat×Nat}{a8:Bool}{e:bO}{r:aj}
def Bg{b o:Nat}(h:fr.ak x= .pointer (some ⟨b,o,none⟩))(al:st.h.get b=some (.cells vs el bg a8))(aD:vs[o]? =some v):bK call (.j8 x) fr st= .ok v fr st:=aqf h rfl al aD
def N3{b o:Nat}(h:fr.ak x= .pointer (some ⟨b,o,none⟩))(al:st.h.get b=some (.cells vs el bg a8))(hl:n<=(vs.drop o).length):bK call (.qY n x) fr st= .ok (.agg ⟨(vs.drop o).take n⟩) fr st:=by
 rw[aqB,h];show st.load ⟨b,o,none⟩ n _ _=_;unfold ay.load ay.gC;rw[Sym.gK,al,kA,qw hl]
def auR{o:Nat}{v:α}(h:((l.drop o).take n)[0]? =some v):l[o]? =some v:=by
 have:=(zaf.1 h).1;rw[zaG]at h;split at h
 ·simpa using h
 ·cases h
def K3{own:ac bj}(ae:c9 fr H ids e)(p5:own.length<=ids.length)(aw:∀(k:Nat) (o:bj) (b:Nat),own[k]? =some o->o.live=true->ids[k]? =some b->mx H ids o (st.h.get b)){o:dd}(h:vP own e o=some r):
 ∃v,den H r ids v∧∀ch:ay,((∀b o,H b=some o->ch.h.get b=some o)∨∃k,qX e o=some k)->(∀k b,qX e o=some k->ids[k]? =some b->ch.h.get b=st.h.get b)->bK call o fr ch= .ok v fr ch:=by
 have obj:∀{k:Nat} {el:ce} {cs:ac aj},own[k]? =some (.c el cs)->∃b vs,ids[k]? =some b∧st.h.get b=some (.cells vs el (0,0) false)∧de H cs ids vs:=fun{k el cs} ab=>by
  have aN:=(zaf.1 ab).1;have af:k<ids.length:=by omega
  obtain⟨vs,J,U⟩:=aw k _ _ ab rfl (bm af);exact⟨_,vs,bm af,J,U⟩
 cases o<;>simp only[vP]at h
 case j8 x=>
  split at h<;>try cases h
  ·rename_i k o aa;split at h<;>try cases h
   rename_i el cs ab;obtain⟨b,vs,hb,eH,aA⟩:=obj ab;obtain⟨v,aD,aA⟩:=wa aA h;obtain⟨eW,J,U⟩:=ae.ak aa;rw[hb]at J;cases J;exact⟨v,aA,fun ch _ ag=>Bg U ((ag k b (by simp[qX,aa]) hb).trans eH) aD⟩
  ·rename_i k z j o aa;split at h<;>try cases h
   rename_i el cs ab;obtain⟨b,vs,hb,eH,aA⟩:=obj ab;obtain⟨v,aD,aA⟩:=wa aA h;obtain⟨eW,J,U⟩:=ae.ak aa;rw[hb]at J;cases J;exact⟨v,aA,fun ch _ ag=>Bg U ((ag k b (by simp[qX,aa]) hb).trans eH) aD⟩
  ·rename_i cs aa;obtain⟨b,o,vs,el,bg,a8,J,U,aA⟩:=ae.ak aa;obtain⟨v,aD,aA⟩:=wa aA h;refine⟨v,ub (du.refl _) _ (da.nil _) aA,fun ch ag _=> ?_⟩;rcases ag with ag|⟨k,ag⟩
   ·exact Bg J (ag _ _ U) (auR aD)
   ·simp[qX,aa]at ag
 case qY m x=>
  split at h<;>try cases h
  ·rename_i k o aa;split at h<;>try cases h
   rename_i el cs ab;obtain⟨b,vs,hb,eH,aA⟩:=obj ab;obtain⟨qJ,l0⟩:=C7 h;cases l0;obtain⟨eW,J,U⟩:=ae.ak aa;rw[hb]at J;cases J;have hl:=h9 (pR o aA);exact⟨_,⟨_,rfl,wb m (pR o aA)⟩,fun ch _ ag=>N3 U ((ag k b (by simp[qX,aa]) hb).trans eH) (by omega)⟩
  ·rename_i k z j o aa;split at h<;>try cases h
   rename_i el cs ab;obtain⟨b,vs,hb,eH,aA⟩:=obj ab;obtain⟨qJ,l0⟩:=C7 h;cases l0;obtain⟨eW,J,U⟩:=ae.ak aa;rw[hb]at J;cases J;have hl:=h9 (pR (j*z+o) aA);exact⟨_,⟨_,rfl,wb m (pR (j*z+o) aA)⟩,fun ch _ ag=>N3 U ((ag k b (by simp[qX,aa]) hb).trans eH) (by omega)⟩
  ·rename_i cs aa;obtain⟨b,o,vs,el,bg,a8,J,U,aA⟩:=ae.ak aa;obtain⟨qJ,l0⟩:=C7 h;cases l0;have hl:=h9 aA;rw[zap]at qJ;have hH:=wb m aA;rw[zdu,zaE qJ]at hH;refine⟨.agg ⟨(vs.drop o).take m⟩,⟨_,rfl,?_⟩,fun ch ag _=> ?_⟩
   ·rw[zap];exact my (du.refl _) _ (da.nil _) hH
   rcases ag with ag|⟨k,ag⟩
   ·exact N3 J (ag _ _ U) (by rw[zao]at hl;omega)
   ·simp[qX,aa]at ag
 all_goals cases h
def ao9{own:ac bj}{o:dd}{k:Nat}(h:vP own e o=some r)(ab:qX e o=some k):∃bh,own[k]? =some bh∧bh.live=true:=by
 cases o<;>simp only[qX]at ab
 case j8 x=>
  simp only[vP]at h;split at ab<;>cases ab
  ·rename_i aa;rw[aa]at h;simp only at h;split at h<;>try cases h
   exact⟨_,by assumption,rfl⟩
  ·rename_i aa;rw[aa]at h;simp only at h;split at h<;>try cases h
   exact⟨_,by assumption,rfl⟩
 case qY n x=>
  simp only[vP]at h;split at ab<;>cases ab
  ·rename_i aa;rw[aa]at h;simp only at h;split at h<;>try cases h
   exact⟨_,by assumption,rfl⟩
  ·rename_i aa;rw[aa]at h;simp only at h;split at h<;>try cases h
   exact⟨_,by assumption,rfl⟩
 all_goals cases ab
end
section
variable{β:Type _}
def OE(v:be)(K:aj->am β):am β:=
 match v with
 |.int k n=>K (.i k n)
 |.bool t=>K (.b t)
 |.string ⟨⟨l⟩⟩=>K (.s l)
 |.slice none 0 0=>K .nl
 |x=>K (.v x)
def Bz:ac be->(ac aj->am β)->am β
 |[],K=>K []
 |v::vs,K=>OE v fun a=>Bz vs fun r=>K (a::r)
def vX:aj->am (ac aj)
 |.agg cs=>some cs
 |a=>match tU a with
  |true=>some [a]
  |false=>none
def zc:ac aj->Nat->ac aj->(ac aj->am β)->am β
 |cs,0,[],K=>K cs
 |_::cs,0,d::ds,K=>zc cs 0 ds fun r=>K (d::r)
 |c::cs,n+1,ds,K=>zc cs n ds fun r=>K (c::r)
 |[],_,_,_=>none
def As(e:bO):ac (Nat×Nat×bi)->ac aj->(ac aj->am β)->am β
 |[],cs,K=>K cs
 |(o,a2,x)::ps,cs,K=>match bu e x with
  |some a=>match vX a with
   |some ds=>match Ez ds a2 with
    |true=>zc cs o ds fun cs'=>As e ps cs' K
    |false=>none
   |none=>none
  |none=>none
def oQ:ac bj->bj->(ac bj->am β)->am β
 |[],o,K=>K [o]
 |a::as,o,K=>oQ as o fun r=>K (a::r)
def jk:ac bj->Nat->bj->(ac bj->am β)->am β
 |[],_,_,_=>none
 |_::as,0,o,K=>K (o::as)
 |a::as,n+1,o,K=>jk as n o fun r=>K (a::r)
def aqb:ac Nat:=[1,2,3,4,5,6,7,8,9,10,11,12,13,14,15,16,17,18,19,20,21,22,23,24,25,26,27,28,29,30,31,32]
def Zj:ac Nat->Nat->am Nat
 |[],_=>none
 |a::_,0=>some a
 |_::as,n+1=>Zj as n
def mS(n:Nat)(K:Nat->am β):am β:=
 match Zj aqb n with
 |some m=>match Nat.beq m (n+1)with
  |true=>K m
  |false=>K (n+1)
 |none=>K (n+1)
def aqS:ac (Nat×Nat×bi)->Nat
 |(_,a2,_)::_=>a2
 |[]=>1
def Kf(own:ac bj)(aH:Nat)(e:bO)(k o n:Nat)(x:bi)(K:aj->ac bj->Nat->am β):am β:=
 match own[k]? with
 |some (.c el cs)=>match bu e x with
  |some a=>match vX a with
   |some ds=>match Ez ds n with
    |true=>match sG ds with
     |true=>zc cs o ds fun cs'=>jk own k (.c el cs') fun bF=>K (.bP []) bF aH
     |false=>none
    |false=>none
   |none=>none
  |none=>none
 |_=>none
def F1(own:ac bj)(aH:Nat)(e:bO)(K:aj->ac bj->Nat->am β):dd->am β
 |.alloc z el=>Bz z fun cs=>oQ own (.c el cs) fun bF=>mS aH fun ck=>K (.p aH 0) bF ck
 |.box el x=>match bu e x with
  |some a=>match vX a with
   |some ds=>oQ own (.c el ds) fun bF=>mS aH fun ck=>K (.p aH 0) bF ck
   |none=>none
  |none=>none
 |.pM el len z ps=>Bz z fun cs=>As e ps cs fun cs'=>oQ own (.c el cs') fun bF=>mS aH fun ck=>K (.a5 aH (aqS ps) 0 len len) bF ck
 |.build z ps=>Bz z fun cs=>As e ps cs fun cs'=>K (.agg cs') own aH
 |.store n a x=>match bu e a with
  |some (.p k o)=>Kf own aH e k o n x K
  |some (.gX k z j o)=>Kf own aH e k (j*z+o) n x K
  |_=>none
 |_=>none
def CL(e:bO):dd->am aj
 |.build z ps=>Bz z fun cs=>As e ps cs fun cs'=>some (.agg cs')
 |o=>K9 e o
def jh(e:bO):dd->am Nat
 |.store _ a _=>match bu e a with
  |some (.p k _)|some (.gX k _ _ _)=>some k
  |_=>none
 |.app _ _ _ x _|.rF _ x _=>match bu e x with
  |some (.a5 k _ _ _ _)=>some k
  |_=>none
 |.tD _ x _=>match bu e x with
  |some (.p k _)=>some k
  |_=>none
 |_=>none
end
section
variable{β:Type _}{r:β}
variable{ds:ac aj}
def aqk{K:aj->am β}(h:OE v K=some r):K (ET v)=some r:=by
 unfold OE at h;unfold ET;split at h<;>first|exact h|(split<;>first|exact h|(exfalso;simp_all))
theorem EU:∀{vs:ac be} {K:ac aj->am β},Bz vs K=some r->K (By vs)=some r
 |[],_,h=>h
 |_::vs,_,h=>EU (vs:=vs) (aqk h)
def Gi(h:vX a=some ds)(d:den H a ids v):uM v=false∧de H ds ids (h8 v):=by
 unfold vX at h;split at h
 ·cases h;obtain⟨vs,rfl,d⟩:=d;exact⟨rfl,d⟩
 ·split at h<;>cases h;rename_i hc;have:=RW hc d;refine⟨?_,?_⟩
  ·cases v<;>first|rfl|(cases this;done)|(rename_i r;cases r<;>first|rfl|cases this)
  ·rw[ae8 this];exact⟨v,[],rfl,d,rfl⟩
theorem Jk:∀{cs:ac aj} {n:Nat} {ds:ac aj} {K:ac aj->am β},zc cs n ds K=some r->n+ds.length<=cs.length∧K (cs.take n++(ds++cs.drop (n+ds.length)))=some r
 |cs,0,[],K,h=>by
  have h:K cs=some r:=by cases cs<;>exact h
  exact⟨by simp,by simpa using h⟩
 |[],0,d::ds,K,h=>by cases h
 |c::cs,0,d::ds,K,h=>by
  have h:zc cs 0 ds (fun r=>K (d::r))=some r:=h;obtain⟨J,U⟩:=Jk h;refine⟨by simp at J ⊢;omega,?_⟩;simp at U;simpa using U
 |[],n+1,ds,K,h=>by cases ds<;>cases h
 |c::cs,n+1,ds,K,h=>by
  have h:zc cs n ds (fun r=>K (c::r))=some r:=by cases ds<;>exact h
  obtain⟨J,U⟩:=Jk h;refine⟨by simp;omega,?_⟩;rw[show n+1+ds.length=(n+ds.length)+1 by omega];simpa using U
def LL{cs:ac aj}{vs ws:ac be}(n:Nat)(d:de H cs ids vs)(nG:de H ds ids ws):
 de H (cs.take n++(ds++cs.drop (n+ds.length))) ids (vs.take n++(ws++vs.drop (n+ws.length))):=by
 rw[h9 nG];exact Ae (wb n d) (Ae nG (pR _ d))
theorem py:∀{own:ac bj} {o:bj} {K:ac bj->am β},oQ own o K=some r->K (own++[o])=some r
 |[],_,_,h=>h
 |_::as,_,_,h=>py (own:=as) h
theorem kc:∀{own:ac bj} {k:Nat} {o:bj} {K:ac bj->am β},jk own k o K=some r->K (own.set k o)=some r
 |[],_,_,_,h=>by cases h
 |_::_,0,_,_,h=>h
 |_::as,k+1,_,_,h=>kc (own:=as) (k:=k) h
def nZ{K:Nat->am β}(h:mS n K=some r):K (n+1)=some r:=by
 unfold mS at h;split at h
 ·split at h
  ·rename_i hb;rw[<-dD hb];exact h
  ·exact h
 ·exact h
def Du(e:bO):ac (Nat×Nat×bi)->ac aj->am (ac aj)
 |[],cs=>some cs
 |(o,a2,x)::ps,cs=>match bu e x with
  |some a=>match vX a with
   |some ds=>if ds.length=a2∧o+ds.length<=cs.length then Du e ps (cs.take o++(ds++cs.drop (o+ds.length)))else none
   |none=>none
  |none=>none
theorem G3{e:bO}:∀{ps:ac (Nat×Nat×bi)} {cs:ac aj} {K:ac aj->am β},As e ps cs K=some r->∃cs',Du e ps cs=some cs'∧K cs'=some r
 |[],cs,K,h=>⟨cs,rfl,h⟩
 |(o,a2,x)::ps,cs,K,h=>by
  unfold As at h;unfold Du;split at h<;>try cases h
  split at h<;>try cases h
  split at h<;>try cases h
  rename_i hl;obtain⟨J,U⟩:=Jk h;rw[zab ⟨It hl,J⟩];exact G3 U
theorem G4{fr:aP}{H:bC}{ids:ac Nat}{e:bO}(ae:c9 fr H ids e):∀{ps:ac (Nat×Nat×bi)} {cs cs':ac aj} {vs:ac be},Du e ps cs=some cs'->de H cs ids vs->
 ∃gA,de H cs' ids gA∧∀c,o5 fr ps vs c=c gA
 |[],cs,_,vs,h,d=>by cases h;exact⟨vs,d,fun _=>rfl⟩
 |(o,a2,x)::ps,cs,cs',vs,h,d=>by
  unfold Du at h;split at h<;>try cases h
  rename_i a aa;split at h<;>try cases h
  rename_i ds iN;split at h<;>try cases h
  rename_i hl;obtain⟨hl,J⟩:=hl;obtain⟨hp,d2⟩:=Gi iN (ae.ak aa);have rV:=h9 d2;have M3:=h9 d;obtain⟨gA,aM,bc⟩:=G4 ae h (LL o d d2);refine⟨gA,aM,fun c=> ?_⟩;have hu:o5 fr ((o,a2,x)::ps) vs c=cond (uM (fr.ak x)) .no (dQ (db (h8 (fr.ak x))) a2 (ek (o+a2) (db vs) (q4 vs o (h8 (fr.ak x)) (fun cs'=>o5 fr ps cs' c) .no) .no) .no):=rfl;rw[hu,hp,cond_false,fg,fg,j0 (by omega),gz (by omega),q5,zab (by omega),bc]
end
def La{call:bG}{fr:aP}{e:bO}(ae:c9 fr H ids e){o:dd}{r:aj}(h:CL e o=some r):∃v,den H r ids v∧∀st,bK call o fr st= .ok v fr st:=by
 unfold CL at h;split at h
 ·rename_i z ps;obtain⟨cs',g1,aM⟩:=G3 (EU h);cases aM;obtain⟨gA,d,bc⟩:=G4 ae g1 (x0 H ids z);refine⟨.agg ⟨gA⟩,⟨_,rfl,d⟩,fun st=> ?_⟩;have:bK call (.build z ps) fr st=o5 fr ps z fun cs=>.ok (.agg ⟨cs⟩) fr st:=rfl;rw[this,bc]
 ·exact aec ae h
def gq(call:bG)(o:dd)(s:cz)(a:aj)(bF:ac bj)(ck:Nat):Prop:=
 ∀(H:bC) (ids:ac Nat) (st:ay) (fr:aP),Fit H ids st s.own s.n->c9 fr H ids s.env->
  ∃v st' c6 bn,bK call o fr st= .ok v fr st'∧Fit bn c6 st' bF ck∧den bn a c6 v∧du H bn∧da ids c6∧(∀b1 i0 aK,dN b1 i0 aK H ids st->dN b1 i0 aK bn c6 st')∧
   st.ai<=st'.ai∧∀b,b<st.ai->(∀k,jh s.env o=some k->ids[k]? ≠some b)->st'.h.get b=st.h.get b
def xI(b1:bC)(call:bG)(o:dd)(s:cz)(a:aj)(bF:ac bj)(ck:Nat):Prop:=
 ∀(H:bC) (ids:ac Nat) (st:ay) (fr:aP),du b1 H->Fit H ids st s.own s.n->c9 fr H ids s.env->
  ∃v st' c6 bn,bK call o fr st= .ok v fr st'∧Fit bn c6 st' bF ck∧den bn a c6 v∧du H bn∧da ids c6∧(∀b1 i0 aK,dN b1 i0 aK H ids st->dN b1 i0 aK bn c6 st')∧
   st.ai<=st'.ai∧∀b,b<st.ai->(∀k,jh s.env o=some k->ids[k]? ≠some b)->st'.h.get b=st.h.get b
def gq.g{call:bG}{o:dd}{s:cz}{bF:ac bj}{ck:Nat}(h:gq call o s a bF ck):xI b1 call o s a bF ck:=fun H ids st fr _ aw ae=>h H ids st fr aw ae
def Cx(call:bG)(o:dd)(s:cz)(a:aj)(bF:ac bj)(ck:Nat):Prop:=
 ∀(H:bC) (ids:ac Nat) (st:ay) (fr:aP),Fit H ids st s.own s.n->c9 fr H ids s.env->
  ∃v st' c6,bK call o fr st= .ok v fr st'∧Fit H c6 st' bF ck∧den H a c6 v∧da ids c6∧(∀b1 i0 aK,dN b1 i0 aK H ids st->dN b1 i0 aK H c6 st')∧
   st.ai<=st'.ai∧∀b,b<st.ai->(∀k,jh s.env o=some k->ids[k]? ≠some b)->st'.h.get b=st.h.get b
def Cx.to{call:bG}{o:dd}{s:cz}{bF:ac bj}{ck:Nat}(h:Cx call o s a bF ck):gq call o s a bF ck:=fun H ids st fr aw ae=>
 let⟨v,st',c6,J,U,ag,az,a4,cl,dn⟩:=h H ids st fr aw ae
 ⟨v,st',c6,H,J,U,ag,du.refl _,az,a4,cl,dn⟩
section
variable{call:bG}{β:Type _}{r:β}
variable{s:cz}{K:aj->ac bj->Nat->am β}
def Ot{own:ac bj}(aw:Fit H ids st own n){el:ce}{cs:ac aj}{vs:ac be}(d:de H cs ids vs):
 Fit H (ids++[st.ai]) ⟨st.h.set st.ai (.cells vs el (0,0) false),st.ai+1⟩ (own++[.c el cs]) (n+1)∧(ids++[st.ai])[n]? =some st.ai:=by
 refine⟨aw.add ⟨vs,rfl,my (du.refl _) _ (da.app _ _) d⟩,?_⟩;rw[<-aw.len,zaL (b8 _)];simp
def BD{b:Nat}(hb:b<st.ai):(ao.set st.h st.ai eI).get b=st.h.get b:=ao.gf _ _ (by omega)
def ach{k o m:Nat}{a x:bi}(h:Kf s.own s.n s.env k o m x K=some r)(hm:jh s.env (.store m a x)=some k)
 (ha:∀{H:bC} {ids:ac Nat} {fr:aP},c9 fr H ids s.env->∃b,ids[k]? =some b∧fr.ak a= .pointer (some ⟨b,o,none⟩)):∃a' bF ck,K a' bF ck=some r∧Cx call (.store m a x) s a' bF ck:=by
 unfold Kf at h;split at h<;>try cases h
 rename_i el cs ab;split at h<;>try cases h
 rename_i c aa;split at h<;>try cases h
 rename_i ds iN;split at h<;>try cases h
 rename_i hl;split at h<;>try cases h
 rename_i hc;obtain⟨J,U⟩:=Jk h;have ag:=kc U;refine⟨_,_,_,ag,?_⟩;intro H ids st fr aw ae;obtain⟨b,hb,aD⟩:=ha ae;obtain⟨⟨vs,eH,d⟩,_⟩:=aw.own k _ b ab hb;obtain⟨hp,d2⟩:=Gi iN (ae.ak aa);have hl:=It hl;have rV:=h9 d2;have M3:=h9 d;refine⟨undef,_,ids,?_,aw.hd ab rfl hb ⟨_,rfl,LL o d d2⟩,⟨[],rfl,rfl⟩,da.refl _,fun _ _ _ B=>B.hd (zav hb) _,b8 _,?_⟩
 ·have:bK call (.store m a x) fr st=ik (fr.ak a) (fun p=>bk p (fun a=>dQ (db (h8 (fr.ak x))) m (cond (hf (h8 (fr.ak x))) (st.store a (h8 (fr.ak x)) (fun st=>aV.ok undef fr st) .no) .no) .no) .no) .no:=rfl;rw[this,aD,n7,Sym.en,fg,j0 (by omega),CZ hc d2,cond_true];unfold ay.store ay.gC;rw[Sym.gK,eH,kA,gz (b8 _),q5,zab (by show o+_<=_;omega),ks]
 ·intro eW _ cd;show(st.h.set b _).get eW=_;exact ao.gf _ _ (fun e=>cd k hm (e▸hb))
def QU{o:dd}(h:F1 s.own s.n s.env K o=some r):∃a bF ck,K a bF ck=some r∧Cx call o s a bF ck:=by
 cases o<;>simp only[F1]at h
 case alloc z el=>
  refine⟨_,_,_,nZ (py (EU h)),?_⟩;intro H ids st fr aw ae;obtain⟨J,U⟩:=Ot aw (el:=el) (x0 H ids z);refine⟨_,_,_,?_,J,⟨_,U,rfl⟩,da.app _ _,fun _ _ _ B=>B.add _,zbb _,fun b hb _=>BD hb⟩;have:bK call (.alloc z el) fr st=st.jB (.cells z el (0,0) false) fun id st=>.ok (.pointer (some ⟨id,0,none⟩)) fr st:=rfl;rw[this,gV]
 case box el x=>
  split at h<;>try cases h
  rename_i a aa;split at h<;>try cases h
  rename_i ds iN;refine⟨_,_,_,nZ (py h),?_⟩;intro H ids st fr aw ae;obtain⟨hp,d⟩:=Gi iN (ae.ak aa);obtain⟨J,U⟩:=Ot aw (el:=el) d;refine⟨_,_,_,?_,J,⟨_,U,rfl⟩,da.app _ _,fun _ _ _ B=>B.add _,zbb _,fun b hb _=>BD hb⟩;have:bK call (.box el x) fr st=cond (uM (fr.ak x)) .no (st.jB (.cells (h8 (fr.ak x)) el (0,0) false) fun id st=>.ok (.pointer (some ⟨id,0,none⟩)) fr st):=rfl;rw[this,hp,cond_false,gV]
 case pM el len z ps=>
  obtain⟨cs',g1,aM⟩:=G3 (EU h);refine⟨_,_,_,nZ (py aM),?_⟩;intro H ids st fr aw ae;obtain⟨gA,d,bc⟩:=G4 ae g1 (x0 H ids z);obtain⟨J,U⟩:=Ot aw (el:=el) d;refine⟨_,_,_,?_,J,⟨_,U,rfl⟩,da.app _ _,fun _ _ _ B=>B.add _,zbb _,fun b hb _=>BD hb⟩;have:bK call (.pM el len z ps) fr st=o5 fr ps z fun cs=>st.jB (.cells cs el (0,0) false) fun id st=>.ok (.slice (some ⟨id,0,none⟩) len len) fr st:=rfl;rw[this,bc,gV,zau]
 case build z ps=>
  obtain⟨cs',g1,aM⟩:=G3 (EU h);refine⟨_,_,_,aM,?_⟩;intro H ids st fr aw ae;obtain⟨gA,d,bc⟩:=G4 ae g1 (x0 H ids z);refine⟨.agg ⟨gA⟩,st,ids,?_,aw,⟨_,rfl,d⟩,da.refl _,fun _ _ _ B=>B,b8 _,fun b hb _=>rfl⟩;have:bK call (.build z ps) fr st=o5 fr ps z fun cs=>.ok (.agg ⟨cs⟩) fr st:=rfl;rw[this,bc]
 case store m a x=>
  split at h<;>try cases h
  ·rename_i k o ha;exact ach h (by simp[jh,ha]) fun ae=>by obtain⟨b,J,U⟩:=ae.ak ha;exact⟨b,J,U⟩
  ·rename_i k z j o ha;exact ach h (by simp[jh,ha]) fun ae=>by obtain⟨b,J,U⟩:=ae.ak ha;exact⟨b,J,U⟩
 all_goals cases h
end
structure fl where
 call:bG
 b4:Nat
 fn:ci
 b1:bC
 i0:ac Nat
 aK:ay
 Q:dv->cz->Prop
inductive eE where
 |seq (c:dm)
 |cH (i:Nat)
 |b0 (QG:cz->Prop)
 |x5 (ms:List Nat) (n:Nat)
inductive bb where
 |c (c:dm)
 |o (l:List bz)
 |x (e:dv)
 |d (l:List (bz×cw)) (bA:List bj) (a3:bO) (bd ca:Nat)
variable(aB:fl)
def tL(Q:dv->cz->Prop):dv->aP->ay->Prop:=fun x fr st=>∃H ids s,dN aB.b1 aB.i0 aB.aK H ids st∧Fit H ids st s.own s.n∧c9 fr H ids s.env∧Q x s
def QK(Q:dv->cz->Prop)(c:dm)(s:cz):Prop:=∀H ids st fr,dN aB.b1 aB.i0 aB.aK H ids st->Fit H ids st s.own s.n->c9 fr H ids s.env->W (c1 aB.call aB.b4 aB.fn c fr st) (tL aB Q)
def adR(Q:dv->cz->Prop)(l:ac bz)(s:cz):Prop:=∀H ids st fr,dN aB.b1 aB.i0 aB.aK H ids st->Fit H ids st s.own s.n->c9 fr H ids s.env->W (gG aB.call l fr st) (tL aB Q)
structure adS(fP H:bC)(ids:ac Nat)(st:ay)(bA:ac bj)(a3:bO)(bd ca:Nat)(ah:ac (ao bt))(fr:aP):Prop where
 len:ah.length=bd
 hle:du fP H
 eL:∀j a,eb a3 j=some a->den fP a ids (fr.tmp j)
 qf:bA.length<=ids.length
 w1:ca<=ids.length
 bA:∀(k:Nat) (o:bj) (b:Nat),bA[k]? =some o->o.live=true->ids[k]? =some b->mx fP ids o (st.h.get b)∧∀h∈ah,h.get b=st.h.get b
 old:∀h∈ah,∀b o,fP b=some o->h.get b=some o
 top:∀h,ah.head?=some h->(∀b o,H b=some o->h.get b=some o)∧∀k b:Nat,k<ca->ids[k]? =some b->h.get b=st.h.get b
def KB(K:ac eE)(c0:sy):Prop:=
 match K with
 |.x5 ms n::_=>c0=rE aB.call ms n
 |_=>True
def adQ(C:sy->Prop)(Q:dv->cz->Prop)(l:ac (bz×cw))(bA:ac bj)(a3:bO)(bd ca:Nat)(s:cz):Prop:=∀c0,C c0->∀H ids st fr fP ah,dN aB.b1 aB.i0 aB.aK H ids st->Fit H ids st s.own s.n->c9 fr H ids s.env->adS fP H ids st bA a3 bd ca ah fr->W (gF aB.call c0 l ah fr st) (tL aB Q)
def Sem:ac eE->dv->cz->Prop
 |[]=>aB.Q
 |.seq c::K=>fun x s=>match x with
  |.norm=>QK aB (Sem K) c s
  |x=>Sem K x s
 |.cH i::K=>fun x s=>match x with
  |.exit j=>if j=i then Sem K .norm s else Sem K (.exit j) s
  |x=>Sem K x s
 |.b0 QG::K=>fun x s=>match x with
  |.norm=>QG s
  |x=>Sem K x s
 |.x5 _ _::K=>Sem K
def hW(K:ac eE)(c:bb)(s:cz):Prop:=
 match c with
 |.c c=>QK aB (Sem aB K) c s
 |.o l=>adR aB (Sem aB K) l s
 |.x e=>Sem aB K e s
 |.d l bA a3 bd ca=>adQ aB (KB aB K) (Sem aB K) l bA a3 bd ca s
structure aU where
 K:ac eE
 c:bb
 s:cz
def aU.ok(g:aU):Prop:=hW aB g.K g.c g.s
def fj(d:am Tmp)(a:aj)(e:bO):bO:=
 match d with
 |none=>e
 |some d=>(d,a)::e
section
def CN(own:ac bj)(n:Nat)(e:bO)(o:dd)(K:aj->ac bj->Nat->am aU):am aU:=
 match CL e o with
 |some a=>K a own n
 |none=>match vP own e o with
  |some a=>K a own n
  |none=>F1 own n e K o
def ud(d:am Tmp)(e:bO):bO:=
 match d with
 |none=>e
 |some d=>k9 d e
def LR:ac Nat->bO->bO
 |[],e=>e
 |d::ds,e=>LR ds (k9 d e)
def E0{β:Type _}(bA:ac bj)(m:am Nat)(K:ac bj->am β):am β:=
 match m with
 |none=>K bA
 |some k=>match bA[k]? with
  |some _=>jk bA k .x K
  |none=>K bA
def Rh(bA:ac bj)(e:bO)(o:dd):am aj:=
 match CL e o with
 |some a=>some a
 |none=>vP bA e o
def Ai{β:Type _}(d:Nat):bO->(bO->am β)->am β
 |[],K=>K []
 |p::l,K=>match Nat.beq p.1 d with
  |true=>Ai d l K
  |false=>Ai d l fun r=>K (p::r)
def qz(K:ac eE)(d:am Tmp)(l:ac (bz×cw))(bA:ac bj)(a3:bO)(bd ca:Nat)(own:ac bj)(n:Nat)(a:aj)(e:bO)(qn:am aj):am aU:=
 match d with
 |none=>some ⟨K,.d l bA a3 bd ca,⟨own,n,e⟩⟩
 |some d=>match qn with
  |some qn=>some ⟨K,.d l bA ((d,qn)::a3) bd ca,⟨own,n,(d,a)::e⟩⟩
  |none=>Ai d a3 fun ahg=>some ⟨K,.d l bA ahg bd ca,⟨own,n,(d,a)::e⟩⟩
def LU(K:ac eE)(d:am Tmp)(o:dd)(c:cw)(l:ac (bz×cw))(bA:ac bj)(a3:bO)(bd ca:Nat)(own:ac bj)(n:Nat)(e:bO):am aU:=
 match c with
 |.dX=>CN own n e o fun a bF ck=>E0 bA (jh e o) fun g8=>mS bd fun LH=>qz K d l g8 a3 LH ck bF ck a e none
 |.hX ts=>F1 own n (ff ts e) (fun a bF ck=>match jh (ff ts e) o with
  |none=>qz K d l bA a3 bd ca bF ck a e none
  |some _=>none) o
 |.read back ts=>match Nat.ble (back+1) bd with
  |true=>match Rh bA (ff ts a3) o with
   |some qn=>qz K d l bA a3 bd ca own n qn e (some qn)
   |none=>match CL (ff ts e) o with
    |some a=>qz K d l bA a3 bd ca own n a e none
    |none=>match back with
     |0=>match vP own (ff ts e) o with
      |some a=>match qX (ff ts e) o with
       |none=>qz K d l bA a3 bd ca own n a e none
       |some k=>match Nat.ble (k+1) ca with
        |true=>qz K d l bA a3 bd ca own n a e none
        |false=>none
      |none=>none
     |_=>none
  |false=>none
def Gt(c:cw)(e:bO):bO:=
 match c with
 |.dX=>e
 |.hX ts=>ff ts e
 |.read _ ts=>ff ts e
def Df(K:ac eE)(d:am Tmp)(c:cw)(l:ac (bz×cw))(bA:ac bj)(a3:bO)(bd ca:Nat)(own:ac bj)(n:Nat)(e:bO):am aU:=
 match c with
 |.dX=>mS bd fun LH=>qz K d l bA a3 LH n own n (.bP []) e none
 |_=>qz K d l bA a3 bd ca own n (.bP []) e none
def ES(K:ac eE)(l:ac bz)(d:am Tmp)(own:ac bj)(n:Nat)(e:bO):am aU:=
 match d with
 |none=>some ⟨K,.o l,⟨own,n,e⟩⟩
 |some d=>some ⟨K,.o l,⟨own,n,(d,.bP [])::e⟩⟩
def N5{β:Type _}:ac (bz×cw)->Nat->(Nat->am β)->am β
 |[],n,K=>K n
 |_::l,n,K=>mS n fun n=>N5 l n K
def LS{β:Type _}:ac Nat->bO->(bO->am β)->am β
 |[],e,K=>K e
 |d::ds,e,K=>Ai d e fun bL=>LS ds bL K
def Ci:aU->am aU
 |⟨K,.c .skip,s⟩=>some ⟨K,.x .norm,s⟩
 |⟨K,.c (.hR l),s⟩=>some ⟨K,.o l,s⟩
 |⟨K,.c (.seq a b),s⟩=>some ⟨.seq b::K,.c a,s⟩
 |⟨K,.c (.block i a),s⟩=>some ⟨.cH i::K,.c a,s⟩
 |⟨K,.c (.exit i),s⟩=>some ⟨K,.x (.exit i),s⟩
 |⟨K,.c .ret,s⟩=>some ⟨K,.x .ret,s⟩
 |⟨K,.c (.scope a),s⟩=>some ⟨K,.c a,s⟩
 |⟨K,.c (.cond c a b),s⟩=>match bu s.env c with
  |some (.b true)=>some ⟨K,.c a,s⟩
  |some (.b false)=>some ⟨K,.c b,s⟩
  |_=>none
 |⟨K,.o [],s⟩=>some ⟨K,.x .norm,s⟩
 |⟨K,.o (⟨some d,o,none⟩::l),⟨own,n,e⟩⟩=>CN own n e o fun a bF ck=>some ⟨K,.o l,⟨bF,ck,(d,a)::e⟩⟩
 |⟨K,.o (⟨none,o,none⟩::l),⟨own,n,e⟩⟩=>CN own n e o fun _ bF ck=>some ⟨K,.o l,⟨bF,ck,e⟩⟩
 |⟨K,.o (⟨d,o,some (t,b)⟩::l),⟨own,n,e⟩⟩=>match eb e t with
  |some (.b true)=>match b with
   |true=>some ⟨K,.o (⟨d,o,none⟩::l),⟨own,n,e⟩⟩
   |false=>ES K l d own n e
  |some (.b false)=>match b with
   |false=>some ⟨K,.o (⟨d,o,none⟩::l),⟨own,n,e⟩⟩
   |true=>ES K l d own n e
  |some (.bP _)=>ES K l d own n e
  |_=>none
 |⟨K,.c (.rH l _ ec ms),⟨own,n,e⟩⟩=>LS ec e fun bL=>N5 l 0 fun m=>some ⟨.x5 ms m::K,.d l own bL 1 n,⟨own,n,bL⟩⟩
 |⟨.x5 _ _::K,.d [] _ _ _ _,s⟩=>some ⟨K,.x .norm,s⟩
 |⟨K,.d [] _ _ _ _,s⟩=>some ⟨K,.x .norm,s⟩
 |⟨K,.d ((⟨d,o,none⟩,c)::l) bA a3 bd ca,⟨own,n,e⟩⟩=>LU K d o c l bA a3 bd ca own n e
 |⟨K,.d ((⟨d,o,some (t,b)⟩,c)::l) bA a3 bd ca,⟨own,n,e⟩⟩=>match eb (Gt c e) t with
  |some (.b true)=>match b with
   |true=>some ⟨K,.d ((⟨d,o,none⟩,c)::l) bA a3 bd ca,⟨own,n,e⟩⟩
   |false=>Df K d c l bA a3 bd ca own n e
  |some (.b false)=>match b with
   |false=>some ⟨K,.d ((⟨d,o,none⟩,c)::l) bA a3 bd ca,⟨own,n,e⟩⟩
   |true=>Df K d c l bA a3 bd ca own n e
  |some (.bP _)=>Df K d c l bA a3 bd ca own n e
  |_=>none
 |⟨.seq c::K,.x .norm,s⟩=>some ⟨K,.c c,s⟩
 |⟨.seq _::K,.x (.exit i),s⟩=>some ⟨K,.x (.exit i),s⟩
 |⟨.seq _::K,.x .ret,s⟩=>some ⟨K,.x .ret,s⟩
 |⟨.cH _::K,.x .norm,s⟩=>some ⟨K,.x .norm,s⟩
 |⟨.cH i::K,.x (.exit j),s⟩=>match Nat.beq j i with
  |true=>some ⟨K,.x .norm,s⟩
  |false=>some ⟨K,.x (.exit j),s⟩
 |⟨.cH _::K,.x .ret,s⟩=>some ⟨K,.x .ret,s⟩
 |⟨.b0 _::K,.x (.exit i),s⟩=>some ⟨K,.x (.exit i),s⟩
 |⟨.b0 _::K,.x .ret,s⟩=>some ⟨K,.x .ret,s⟩
 |⟨.seq _::K,.x (.a1 v),s⟩=>some ⟨K,.x (.a1 v),s⟩
 |⟨.cH _::K,.x (.a1 v),s⟩=>some ⟨K,.x (.a1 v),s⟩
 |⟨.b0 _::K,.x (.a1 v),s⟩=>some ⟨K,.x (.a1 v),s⟩
 |⟨.x5 _ _::K,.x e,s⟩=>some ⟨K,.x e,s⟩
 |_=>none
end
section
variable{aB:fl}{K:ac eE}{s:cz}
variable{d:am Tmp}{a3:bO}{bA:ac bj}{ca:Nat}{g:aU}{bF:ac bj}{ck:Nat}{fr:aP}{e:bO}{back:Nat}{c:cw}{t:Bool}{fP:bC}{g8:ac bj}
def c9.fj(h:c9 fr H ids e)(d:am Tmp)(aD:den H a ids v):c9 (fr.put d v) H ids (Go.ar.fj d a e):=by
 cases d with
 |none=>exact h
 |some d=>exact h.put d aD
def Lc{call:bG}{o:dd}{C:aj->ac bj->Nat->am aU}{r:aU}(h:CN s.own s.n s.env o C=some r):∃a bF ck,C a bF ck=some r∧gq call o s a bF ck:=by
 unfold CN at h;split at h
 ·rename_i a ha;refine⟨a,_,_,h,fun H ids st fr aw ae=> ?_⟩;obtain⟨v,aA,he⟩:=La (call:=call) ae ha;exact⟨v,st,ids,H,he st,aw,aA,du.refl _,da.refl _,fun _ _ _ B=>B,b8 _,fun _ _ _=>rfl⟩
 ·split at h
  ·rename_i a ha;refine⟨a,_,_,h,fun H ids st fr aw ae=> ?_⟩;obtain⟨v,aA,he⟩:=K3 (call:=call) ae (by rw[aw.len,aw.cE];exact b8 _) (fun k o b ab _ hb=>(aw.own k o b ab hb).1) ha;exact⟨v,st,ids,H,he st (.inl aw.le) (fun _ _ _ _=>rfl),aw,aA,du.refl _,da.refl _,fun _ _ _ B=>B,b8 _,fun _ _ _=>rfl⟩
  ·obtain⟨a,bF,ck,J,U⟩:=QU (call:=call) h;exact⟨a,bF,ck,J,U.to⟩
def BY{o:dd}{l:ac bz}(h:xI aB.b1 aB.call o s a bF ck)(k:hW aB K (.o l) ⟨bF,ck,fj d a s.env⟩):hW aB K (.o (⟨d,o,none⟩::l)) s:=by
 intro H ids st fr a0 aw ae;obtain⟨v,st',c6,bn,J,U,ag,cl,az,a4,_⟩:=h H ids st fr a0.hle aw ae;exact su J (k bn c6 st' _ (a4 _ _ _ a0) U ((ae.mono cl az).fj d ag))
def JW{o:dd}{l:ac bz}(h:gq aB.call o s a bF ck)(k:hW aB K (.o l) ⟨bF,ck,fj d a s.env⟩):hW aB K (.o (⟨d,o,none⟩::l)) s:=BY h.g k
def xZ(h:∀j a,eb a3 j=some a->den fP a ids (fr.tmp j))(d:am Tmp)(v:be):∀j a,eb (ud d a3) j=some a->den fP a ids ((fr.put d v).tmp j):=by
 cases d with
 |none=>exact h
 |some d=>
  intro j a hj;obtain⟨J,U⟩:=Iw d a3 j a hj;rw[xA,zaa J];exact h j a U
def agV(h:∀j a,eb a3 j=some a->den fP a ids (fr.tmp j))(d:am Tmp)(aD:den fP b ids v):∀j a,eb (fj d b a3) j=some a->den fP a ids ((fr.put d v).tmp j):=by
 cases d with
 |none=>exact h
 |some d=>
  intro j a hj;have hj:cond (Nat.beq d j) (some b) (eb a3 j)=some a:=hj;rw[xA];cases hb:Nat.beq d j with
  |true=>
   rw[hb]at hj;rw[zab (dD hb).symm];cases hj;exact aD
  |false=>
   rw[hb]at hj;rw[zaa (fun e=>by rw[e,zaz]at hb;cases hb)];exact h j a hj
theorem GS{β:Type _}{r:β}{d:Nat}:∀{e:bO} {C:bO->am β},Ai d e C=some r->C (k9 d e)=some r
 |[],_,h=>h
 |p::l,C,h=>by
  unfold Ai at h;unfold k9;cases hb:Nat.beq p.1 d with
  |true=>rw[hb]at h;exact GS (e:=l) h
  |false=>rw[hb]at h;exact GS (e:=l) h
theorem Yr{β:Type _}{r:β}:∀{l:ac (bz×cw)} {n:Nat} {C:Nat->am β},N5 l n C=some r->C (n+db l)=some r
 |[],_,_,h=>h
 |x::l,n,C,h=>by
  have h:=Yr (l:=l) (nZ h);have e:n+db (x::l)=n+1+db l:=by
   rw[fg,fg,zaq];omega
  rw[e];exact h
theorem SG{β:Type _}{r:β}:∀{ds:ac Nat} {e:bO} {C:bO->am β},LS ds e C=some r->C (LR ds e)=some r
 |[],_,_,h=>h
 |_::ds,_,_,h=>SG (ds:=ds) (GS h)
def xX{l:ac (bz×cw)}{bd:Nat}{own:ac bj}(h:qz K d l bA a3 bd ca own n a e none=some g)(k:g.ok aB):hW aB K (.d l bA (ud d a3) bd ca) ⟨own,n,fj d a e⟩:=by
 unfold qz at h;split at h
 ·cases h;exact k
 ·have:=GS h;cases this;exact k
def agM{l:ac (bz×cw)}{bd:Nat}{own:ac bj}(h:qz K d l bA a3 bd ca own n a e (some a)=some g)(k:g.ok aB):hW aB K (.d l bA (fj d a a3) bd ca) ⟨own,n,fj d a e⟩:=by
 unfold qz at h;split at h
 ·cases h;exact k
 ·cases h;exact k
def OD{l:ac bz}{own:ac bj}(h:ES K l d own n e=some g)(k:g.ok aB):hW aB K (.o l) ⟨own,n,fj d (.bP []) e⟩:=by
 unfold ES at h;split at h
 ·cases h;exact k
 ·cases h;exact k
def OV{β:Type _}{r:β}{m:am Nat}{C:ac bj->am β}(h:E0 bA m C=some r):∃g8,C g8=some r∧g8.length=bA.length∧∀(k:Nat) (o:bj),g8[k]? =some o->o.live=true->bA[k]? =some o∧m≠some k:=by
 unfold E0 at h;split at h
 ·exact⟨_,h,rfl,fun k o ab _=>⟨ab,by simp⟩⟩
 ·rename_i m;split at h
  ·refine⟨_,kc h,by simp,fun k o ab hl=> ?_⟩;rw[zaQ]at ab;by_cases M0:m=k
   ·rw[zab M0]at ab;split at ab<;>cases ab;cases hl
   ·rw[zaa M0]at ab;exact⟨ab,by simpa using M0⟩
  ·rename_i hn;refine⟨_,h,rfl,fun k o ab hl=>⟨ab,fun e=> ?_⟩⟩;cases e;rw[hn]at ab;cases ab
def LJ{o:dd}{l:ac (bz×cw)}{bd:Nat}(h:xI aB.b1 aB.call o s a bF ck)(hl:g8.length=bA.length)(J:∀(k:Nat) (bh:bj),g8[k]? =some bh->bh.live=true->bA[k]? =some bh∧jh s.env o≠some k)
 (k:hW aB K (.d l g8 (ud d a3) (bd+1) ck) ⟨bF,ck,fj d a s.env⟩):hW aB K (.d ((⟨d,o,none⟩,.dX)::l) bA a3 bd ca) s:=by
 intro c0 hG H ids st fr fP ah a0 aw ae cp;obtain⟨v,st',c6,bn,g1,aM,bc,cf,cL,ej,gu,nO⟩:=h H ids st fr a0.hle aw ae;have AR:∀(k:Nat) (b:Nat),k<ids.length->c6[k]? =some b->ids[k]? =some b:=fun k b ab hb=>by
  have:=cL k _ (bm ab);rw[hb]at this;rw[bm ab,this]
 have HE:∀(k:Nat) (b:Nat),jh s.env o≠some k->ids[k]? =some b->st'.h.get b=st.h.get b:=fun k b ab hb=>by
  refine nO b (aw.lt b (zav hb)) fun k' fF cK=> ?_;have aC:=zaf.1 hb;have e2:=zaf.1 cK;have:=(zct (h₀:=aC.1) (h₁:=e2.1) aw.c8).1 (aC.2.trans e2.2.symm);exact ab (this▸fF)
 have gS:=k c0 hG bn c6 st' (fr.put d v) fP (st'.h::ah) (ej _ _ _ a0) aM ((ae.mono cf cL).fj d bc) ⟨by simp[cp.len],cp.hle.trans cf,xZ (fun j a hj=>ub (du.refl _) _ cL (cp.eL j a hj)) d v,?_,by rw[aM.len];exact b8 _,?_,?_,?_⟩
 ·refine W.of_eq ?_ gS;show aV.rec (motive:=fun _=>cm) (fun v aI st'=>ek st.ai st'.ai (gF aB.call c0 l (st'.h::ah) (aP.put ⟨fr.t,aI.cS,aI.a1,aI.cB,aI.b0⟩ d v) st') .no) (fun v st'=>cond o.k7 (cond (c0 l (st.h::ah) (fr.put d undef) st) (.out (.a1 v) fr st') .no) .no) .no (bK aB.call o fr st)=_;rw[g1];show ek st.ai st'.ai _ _=_;rw[gz gu]
 ·rw[hl];have:ids.length<=c6.length:=by
   rcases zai c6.length ids.length with aN|mG
   ·have:=cL c6.length _ (bm aN);simp at this
   ·exact mG
  exact zag cp.qf this
 ·intro k bh b ab AW hb;obtain⟨U,ag⟩:=J k bh ab AW;have MZ:k<ids.length:=fM (zaf.1 U).1 cp.qf;have hb:=AR k b MZ hb;obtain⟨az,a4⟩:=cp.bA k bh b U AW hb;have e:=HE k b ag hb;rw[e];refine⟨v9 (du.refl _) cL az,fun h hm=> ?_⟩;rcases zak.1 hm with rfl|hm
  ·exact e
  ·exact a4 h hm
 ·intro h hm b bh hb;rcases zak.1 hm with rfl|hm
  ·exact aM.le _ _ (cf _ _ (cp.hle _ _ hb))
  ·exact cp.old h hm b bh hb
 ·intro h hm;simp at hm;subst hm;exact⟨aM.le,fun _ _ _ _=>rfl⟩
def v8{o:dd}{l:ac (bz×cw)}{bd:Nat}(h:gq aB.call o s a bF ck)(hl:g8.length=bA.length)(J:∀(k:Nat) (bh:bj),g8[k]? =some bh->bh.live=true->bA[k]? =some bh∧jh s.env o≠some k)
 (k:hW aB K (.d l g8 (ud d a3) (bd+1) ck) ⟨bF,ck,fj d a s.env⟩):hW aB K (.d ((⟨d,o,none⟩,.dX)::l) bA a3 bd ca) s:=LJ h.g hl J k
def XX{i j:ac Nat}(h:da i j):i.length<=j.length:=by
 rcases zai j.length i.length with aN|mG
 ·have:=h j.length _ (bm aN);simp at this
 ·exact mG
def agB{o:dd}{ts:ac Tmp}{l:ac (bz×cw)}{bd:Nat}(h:Cx aB.call o ⟨s.own,s.n,ff ts s.env⟩ a bF ck)(hm:jh (ff ts s.env) o=none)
 (k:hW aB K (.d l bA (ud d a3) bd ca) ⟨bF,ck,fj d a s.env⟩):hW aB K (.d ((⟨d,o,none⟩,.hX ts)::l) bA a3 bd ca) s:=by
 intro c0 hG H ids st fr fP ah a0 aw ae cp;obtain⟨v,st',c6,g1,aM,bc,cL,ej,gu,nO⟩:=h H ids st (fr.only ts) aw (ae.only ts);have AR:∀(k:Nat) (b:Nat),k<ids.length->c6[k]? =some b->ids[k]? =some b:=fun k b ab hb=>by
  have:=cL k _ (bm ab);rw[hb]at this;rw[bm ab,this]
 have HE:∀(k:Nat) (b:Nat),ids[k]? =some b->st'.h.get b=st.h.get b:=fun k b hb=>nO b (aw.lt b (zav hb)) fun k' fF=>by rw[hm]at fF;cases fF
 have gS:=k c0 hG H c6 st' (fr.put d v) fP ah (ej _ _ _ a0) aM ((ae.mono (du.refl _) cL).fj d bc) ⟨cp.len,cp.hle,xZ (fun j a hj=>ub (du.refl _) _ cL (cp.eL j a hj)) d v,zag cp.qf (XX cL),zag cp.w1 (XX cL),?_,cp.old,?_⟩
 ·refine W.of_eq ?_ gS;show kp fr.t ts (fun t=>aV.rec (motive:=fun _=>cm) (fun v _ st'=>gF aB.call c0 l ah (fr.put d v) st') (fun _ _=>.no) .no (bK aB.call o ⟨t,[],none,false,none⟩ st))=_;rw[pq];have e:bK aB.call o ⟨EW fr.t ts,[],none,false,none⟩ st= .ok v (fr.only ts) st':=g1;rw[e]
 ·intro k bh b ab AW hb;have MZ:k<ids.length:=fM (zaf.1 ab).1 cp.qf;have hb:=AR k b MZ hb;obtain⟨az,a4⟩:=cp.bA k bh b ab AW hb;rw[HE k b hb];exact⟨v9 (du.refl _) cL az,a4⟩
 ·intro h mL;obtain⟨J,U⟩:=cp.top h mL;refine⟨J,fun k b ab hb=> ?_⟩;have hb:=AR k b (fM ab cp.w1) hb;rw[HE k b hb];exact U k b ab hb
def PI{c0:sy}{o:dd}{ts:ac Tmp}{l:ac (bz×cw)}{ah:ac (ao bt)}{Q:dv->aP->ay->Prop}(J:bK aB.call o (fr.only ts) st= .ok v (fr.only ts) st)(U:∀h∈ah.take (back+1),bK aB.call o (fr.only ts) ⟨h,st.ai⟩= .ok v (fr.only ts) ⟨h,st.ai⟩)(hl:back<ah.length)
 (k:W (gF aB.call c0 l ah (fr.put d v) st) Q):W (gF aB.call c0 ((⟨d,o,none⟩,.read back ts)::l) ah fr st) Q:=by
 refine avs (fun h hm=> ?_) hl k;rcases zak.1 hm with rfl|hm
 ·exact J
 ·exact U h hm
def qx{o:dd}{ts:ac Tmp}{l:ac (bz×cw)}{bd:Nat}(hb:back<bd)
 (h:∀(H:bC) (ids:ac Nat) (st:ay) (fr:aP),c9 fr H ids (ff ts a3)->bA.length<=ids.length->(∀(k:Nat) (o:bj) (b:Nat),bA[k]? =some o->o.live=true->ids[k]? =some b->mx H ids o (st.h.get b))->
  ∃v,den H a ids v∧∀ch:ay,(∀b o,H b=some o->ch.h.get b=some o)->(∀(k:Nat) (o:bj) (b:Nat),bA[k]? =some o->o.live=true->ids[k]? =some b->ch.h.get b=st.h.get b)->bK aB.call o fr ch= .ok v fr ch)
 (k:hW aB K (.d l bA (fj d a a3) bd ca) ⟨s.own,s.n,fj d a s.env⟩):hW aB K (.d ((⟨d,o,none⟩,.read back ts)::l) bA a3 bd ca) s:=by
 intro c0 hG H ids st fr fP ah a0 aw ae cp;have uv:c9 fr fP ids a3:=⟨ae.pl,cp.eL⟩;obtain⟨v,J,U⟩:=h fP ids st (fr.only ts) (uv.only ts) cp.qf (fun k o b ab hl hb=>(cp.bA k o b ab hl hb).1);have gS:=k c0 hG H ids st (fr.put d v) fP ah a0 aw (ae.fj d (ub cp.hle _ (da.refl _) J)) ⟨cp.len,cp.hle,agV cp.eL d J,cp.qf,cp.w1,cp.bA,cp.old,cp.top⟩;refine PI (U st (fun b o amg=>aw.le _ _ (cp.hle _ _ amg)) (fun _ _ _ _ _ _=>rfl)) (fun h hm=> ?_) (by rw[cp.len];exact hb) gS;have hm:=zbJ hm;exact U ⟨h,st.ai⟩ (cp.old h hm) (fun k o b ab hl hb=>(cp.bA k o b ab hl hb).2 h hm)
def Ss{o:dd}{ts:ac Tmp}{l:ac (bz×cw)}{bd:Nat}(hb:back<bd)
 (h:∀(H:bC) (ids:ac Nat) (fr:aP),c9 fr H ids (ff ts s.env)->∃v,den H a ids v∧∀st,bK aB.call o fr st= .ok v fr st)
 (k:hW aB K (.d l bA (ud d a3) bd ca) ⟨s.own,s.n,fj d a s.env⟩):hW aB K (.d ((⟨d,o,none⟩,.read back ts)::l) bA a3 bd ca) s:=by
 intro c0 hG H ids st fr fP ah a0 aw ae cp;obtain⟨v,J,U⟩:=h H ids (fr.only ts) (ae.only ts);have gS:=k c0 hG H ids st (fr.put d v) fP ah a0 aw (ae.fj d J) ⟨cp.len,cp.hle,xZ cp.eL d v,cp.qf,cp.w1,cp.bA,cp.old,cp.top⟩;exact PI (U st) (fun h hm=>U _) (by rw[cp.len];exact hb) gS
def agG{o:dd}{ts:ac Tmp}{l:ac (bz×cw)}{bd:Nat}(hb:0<bd)
 (h:∀(H:bC) (ids:ac Nat) (st:ay) (fr:aP),Fit H ids st s.own s.n->c9 fr H ids (ff ts s.env)->∃v,den H a ids v∧∀ch:ay,(∀b o,H b=some o->ch.h.get b=some o)->(∀k b:Nat,k<ca->ids[k]? =some b->ch.h.get b=st.h.get b)->bK aB.call o fr ch= .ok v fr ch)
 (k:hW aB K (.d l bA (ud d a3) bd ca) ⟨s.own,s.n,fj d a s.env⟩):hW aB K (.d ((⟨d,o,none⟩,.read 0 ts)::l) bA a3 bd ca) s:=by
 intro c0 hG H ids st fr fP ah a0 aw ae cp;obtain⟨v,J,U⟩:=h H ids st (fr.only ts) aw (ae.only ts);have gS:=k c0 hG H ids st (fr.put d v) fP ah a0 aw (ae.fj d J) ⟨cp.len,cp.hle,xZ cp.eL d v,cp.qf,cp.w1,cp.bA,cp.old,cp.top⟩;refine PI (U st aw.le (fun _ _ _ _=>rfl)) (fun h hm=> ?_) (by rw[cp.len];exact hb) gS;have hl:=cp.len
 match ah,hl,hm with
 |[],hl,_=>simp at hl;omega
 |h0::ah,_,hm=>
  simp at hm;subst hm;obtain⟨g1,aM⟩:=cp.top h rfl;exact U ⟨h,st.ai⟩ g1 aM
def ahe{o:dd}{l:ac (bz×cw)}{bd:Nat}(h:LU K d o c l bA a3 bd ca s.own s.n s.env=some g)(k:g.ok aB):hW aB K (.d ((⟨d,o,none⟩,c)::l) bA a3 bd ca) s:=by
 unfold LU at h;split at h
 ·obtain⟨a,bF,ck,J,U⟩:=Lc (call:=aB.call) h;obtain⟨g8,ag,az,a4⟩:=OV J;exact v8 U az a4 (xX (nZ ag) k)
 ·rename_i ts;obtain⟨a,bF,ck,J,U⟩:=QU (call:=aB.call) (s:=⟨s.own,s.n,ff ts s.env⟩) h;split at J
  ·rename_i hm;exact agB U hm (xX J k)
  ·cases J
 ·rename_i back ts;split at h<;>try cases h
  rename_i hb;have hb:back<bd:=jF hb;split at h
  ·rename_i qn ha;refine qx hb (fun H ids st fr ae hl al=> ?_) (agM h k);unfold Rh at ha;split at ha
   ·rename_i aa;cases ha;obtain⟨v,J,U⟩:=La (call:=aB.call) ae aa;exact⟨v,J,fun ch _ _=>U ch⟩
   ·obtain⟨v,J,U⟩:=K3 (call:=aB.call) ae hl al ha;refine⟨v,J,fun ch g1 aM=>U ch (.inl g1) fun k b ab hb=> ?_⟩;obtain⟨bh,fF,cx⟩:=ao9 ha ab;exact aM k bh b fF cx hb
  ·split at h
   ·rename_i a ha;exact Ss hb (fun H ids fr ae=>La ae ha) (xX h k)
   ·split at h<;>try cases h
    split at h<;>try cases h
    rename_i a ha;have key:(∀k,qX (ff ts s.env) o=some k->k<ca)->aU.ok aB ⟨K,.d l bA (ud d a3) bd ca,⟨s.own,s.n,fj d a s.env⟩⟩->hW aB K (.d ((⟨d,o,none⟩,.read 0 ts)::l) bA a3 bd ca) s:=fun ab k=>by
     refine agG hb (fun H ids st fr aw ae=> ?_) k;obtain⟨v,J,U⟩:=K3 (call:=aB.call) ae (by rw[aw.len,aw.cE];exact b8 _) (fun k o b ab _ hb=>(aw.own k o b ab hb).1) ha;exact⟨v,J,fun ch g1 aM=>U ch (.inl g1) fun k b fF cK=>aM k b (ab k fF) cK⟩
    split at h
    ·rename_i hn;exact key (fun k ab=>by rw[hn]at ab;cases ab) (xX h k)
    ·rename_i k0 hn;split at h
     ·rename_i aN;exact key (fun k ab=>by rw[hn]at ab;cases ab;exact jF aN) (xX h k)
     ·cases h
def LQ{o:dd}{t:Tmp}{b:Bool}{l:ac (bz×cw)}{bd:Nat}(aR:eb (Gt c s.env) t=some (.b (!b))∨∃vs,eb (Gt c s.env) t=some (.bP vs))(h:Df K d c l bA a3 bd ca s.own s.n s.env=some g)(k:g.ok aB):hW aB K (.d ((⟨d,o,some (t,b)⟩,c)::l) bA a3 bd ca) s:=by
 have want:∀{fr:aP} {H:bC} {ids:ac Nat} {e:bO} {y n z:cm},c9 fr H ids e->(eb e t=some (.b (!b))∨∃vs,eb e t=some (.bP vs))->gB fr (some (t,b)) y n z=n:=fun{fr H ids e y n z} ae aR=>by
  rcases aR with aR|⟨vs,aR⟩
  ·exact avL (ae.get _ _ aR)
  ·obtain⟨ws,aD,_⟩:=ae.get _ _ aR;show mh (fr.tmp t) (fun c=>cond c (cond b y n) (cond b n y)) (rk (fr.tmp t) (fun _=>n) z)=_;rw[aD];rfl
 unfold Df at h;intro c0 hG H ids st fr fP ah a0 aw ae cp;split at h
 ·have k:=xX (nZ h) k;have gS:=k c0 hG H ids st (fr.put d undef) fP (st.h::ah) a0 aw (ae.fj d ⟨[],rfl,rfl⟩) ⟨by simp[cp.len],cp.hle,xZ cp.eL d _,cp.qf,by rw[aw.len];exact b8 _,fun k o b ab hl hb=> ?_,fun h hm=> ?_,fun h hm=> ?_⟩
  ·refine W.of_eq ?_ gS;show gB fr (some (t,b)) _ (gF aB.call c0 l (st.h::ah) (fr.put d undef) st) _=_;exact want ae aR
  ·obtain⟨J,U⟩:=cp.bA k o b ab hl hb;refine⟨J,fun h hm=> ?_⟩;rcases zak.1 hm with rfl|hm
   ·rfl
   ·exact U h hm
  ·rcases zak.1 hm with rfl|hm
   ·exact fun b o hb=>aw.le _ _ (cp.hle _ _ hb)
   ·exact cp.old h hm
  ·simp at hm;subst hm;exact⟨aw.le,fun _ _ _ _=>rfl⟩
 ·rename_i cd;have k:=xX h k;have gS:=k c0 hG H ids st (fr.put d undef) fP ah a0 aw (ae.fj d ⟨[],rfl,rfl⟩) ⟨cp.len,cp.hle,xZ cp.eL d _,cp.qf,cp.w1,cp.bA,cp.old,cp.top⟩;refine W.of_eq ?_ gS;cases c with
  |dX=>exact absurd rfl cd
  |hX ts=>
   show kp fr.t ts (fun hT=>gB ⟨hT,[],none,false,none⟩ (some (t,b)) _ _ _)=_;rw[pq];exact want (ae.only ts) aR
  |read back ts=>
   show kp fr.t ts (fun hT=>gB ⟨hT,[],none,false,none⟩ (some (t,b)) _ _ _)=_;rw[pq];exact want (ae.only ts) aR
def SF{o:dd}{t:Tmp}{b:Bool}{l:ac (bz×cw)}{bd:Nat}(aR:eb (Gt c s.env) t=some (.b b))(k:hW aB K (.d ((⟨d,o,none⟩,c)::l) bA a3 bd ca) s):hW aB K (.d ((⟨d,o,some (t,b)⟩,c)::l) bA a3 bd ca) s:=by
 intro c0 hG H ids st fr fP ah a0 aw ae cp;refine W.of_eq ?_ (k c0 hG H ids st fr fP ah a0 aw ae cp);cases c with
 |dX=>
  show gB fr (some (t,b)) _ _ _=gB fr none _ _ _;exact Qs (ae.get _ _ aR)
 |hX ts=>
  show kp fr.t ts (fun hT=>gB ⟨hT,[],none,false,none⟩ (some (t,b)) _ _ _)=kp fr.t ts (fun hT=>gB ⟨hT,[],none,false,none⟩ none _ _ _);rw[pq,pq];exact Qs ((ae.only ts).get _ _ aR)
 |read back ts=>
  show kp fr.t ts (fun hT=>gB ⟨hT,[],none,false,none⟩ (some (t,b)) _ _ _)=kp fr.t ts (fun hT=>gB ⟨hT,[],none,false,none⟩ none _ _ _);rw[pq,pq];exact Qs ((ae.only ts).get _ _ aR)
def c9.aac:∀(ec:ac Tmp) {fr:aP} {e:bO},c9 fr H ids e->c9 (qg fr ec) H ids (LR ec e)
 |[],_,_,h=>h
 |d::ec,_,_,h=>c9.aac ec (h.ahd d iD)
def xx{hk:aU}(h:Ci g=some hk)(k:hk.ok aB):g.ok aB:=by
 unfold Ci at h;split at h
 ·cases h;exact fun H ids st fr a0 aw ae=>avH ⟨H,ids,_,a0,aw,ae,k⟩
 ·cases h;exact fun H ids st fr a0 aw ae=>avC (k H ids st fr a0 aw ae)
 ·cases h;intro H ids st fr a0 aw ae;refine avG ((k H ids st fr a0 aw ae).mono ?_);rintro x aI st' ⟨bn,c6,bq,cX,dp,ef,hq⟩;cases x with
  |norm=>exact hq bn c6 st' aI cX dp ef
  |exit i=>exact⟨bn,c6,bq,cX,dp,ef,hq⟩
  |ret=>exact⟨bn,c6,bq,cX,dp,ef,hq⟩
  |a1 v=>exact⟨bn,c6,bq,cX,dp,ef,hq⟩
 ·cases h;rename_i i a s;intro H ids st fr a0 aw ae;refine avr ((k H ids st fr a0 aw ae).mono ?_);rintro x aI st' ⟨bn,c6,bq,cX,dp,ef,hq⟩;cases x with
  |norm=>exact⟨bn,c6,bq,cX,dp,ef,hq⟩
  |exit j=>
   show(if j=i then _ else _);have hq:(if j=i then _ else _):=hq;split at hq
   ·rw[zab (by assumption)];exact⟨bn,c6,bq,cX,dp,ef,hq⟩
   ·rw[zaa (by assumption)];exact⟨bn,c6,bq,cX,dp,ef,hq⟩
  |ret=>exact⟨bn,c6,bq,cX,dp,ef,hq⟩
  |a1 v=>exact⟨bn,c6,bq,cX,dp,ef,hq⟩
 ·cases h;exact fun H ids st fr a0 aw ae=>avv ⟨H,ids,_,a0,aw,ae,k⟩
 ·cases h;exact fun H ids st fr a0 aw ae=>avD ⟨H,ids,_,a0,aw,ae,k⟩
 ·cases h;exact fun H ids st fr a0 aw ae=>avF (k H ids st fr a0 aw ae)
 ·split at h<;>cases h
  ·rename_i hc;exact fun H ids st fr a0 aw ae=>avI (ae.ak hc) rfl (k H ids st fr a0 aw ae)
  ·rename_i hc;exact fun H ids st fr a0 aw ae=>avu (ae.ak hc) rfl (k H ids st fr a0 aw ae)
 ·cases h;exact fun H ids st fr a0 aw ae=>avy ⟨H,ids,_,a0,aw,ae,k⟩
 ·rename_i K d o l own n e;obtain⟨a,bF,ck,J,U⟩:=Lc (call:=aB.call) (s:=⟨own,n,e⟩) h;cases J;exact JW (s:=⟨own,n,e⟩) (d:=some d) U k
 ·rename_i K o l own n e;obtain⟨a,bF,ck,J,U⟩:=Lc (call:=aB.call) (s:=⟨own,n,e⟩) h;cases J;exact JW (s:=⟨own,n,e⟩) (d:=none) U k
 ·rename_i K d o t b l own n e;have on:∀{b:Bool},eb e t=some (.b b)->hW aB K (.o (⟨d,o,none⟩::l)) ⟨own,n,e⟩->hW aB K (.o (⟨d,o,some (t,b)⟩::l)) ⟨own,n,e⟩:=fun aR k H ids st fr a0 aw ae=>avB (ae.get _ _ aR) rfl (k H ids st fr a0 aw ae);have off:∀{b:Bool},eb e t=some (.b (!b))->hW aB K (.o l) ⟨own,n,fj d (.bP []) e⟩->hW aB K (.o (⟨d,o,some (t,b)⟩::l)) ⟨own,n,e⟩:=fun aR k H ids st fr a0 aw ae=>avz (ae.get _ _ aR) rfl (k H ids st _ a0 aw (ae.fj d ⟨[],rfl,rfl⟩));split at h
  ·rename_i aR;cases b
   ·exact off aR (OD h k)
   ·cases h;exact on aR k
  ·rename_i aR;cases b
   ·cases h;exact on aR k
   ·exact off aR (OD h k)
  ·rename_i aR;have k:=OD h k;intro H ids st fr a0 aw ae;obtain⟨vs,aD,_⟩:=ae.get _ _ aR;exact avA aD (k H ids st _ a0 aw (ae.fj d ⟨[],rfl,rfl⟩))
  ·cases h
 ·rename_i K l cj ec ms own n e;have h:=Yr (SG h);cases h;intro H ids st fr a0 aw ae;have ae:=ae.aac ec;exact avt (k _ (show rE aB.call ms (db l)=rE aB.call ms (0+db l) by rw[zaC]) H ids st _ H [st.h] a0 aw ae ⟨rfl,du.refl _,ae.get,by rw[aw.len,<-aw.cE];exact b8 _,by rw[aw.len];exact b8 _,fun k o b ab hl hb=>⟨(aw.own k o b ab hb).1,fun h hm=>by simp at hm;rw[hm]⟩,fun h hm=>by simp at hm;subst hm;exact aw.le,fun h hm=>by simp at hm;subst hm;exact⟨aw.le,fun _ _ _ _=>rfl⟩⟩)
 ·cases h;exact fun c0 hG H ids st fr fP ah a0 aw ae cp=>adl ⟨H,ids,_,a0,aw,ae,k⟩
 ·cases h;exact fun c0 hG H ids st fr fP ah a0 aw ae cp=>adl ⟨H,ids,_,a0,aw,ae,k⟩
 ·exact ahe (s:=⟨_,_,_⟩) h k
 ·split at h
  ·rename_i aR;split at h
   ·cases h;exact SF (s:=⟨_,_,_⟩) aR k
   ·exact LQ (s:=⟨_,_,_⟩) (.inl aR) h k
  ·rename_i aR;split at h
   ·cases h;exact SF (s:=⟨_,_,_⟩) aR k
   ·exact LQ (s:=⟨_,_,_⟩) (.inl aR) h k
  ·rename_i aR;exact LQ (s:=⟨_,_,_⟩) (.inr ⟨_,aR⟩) h k
  ·cases h
 ·cases h;exact k
 ·cases h;exact k
 ·cases h;exact k
 ·cases h;exact k
 ·split at h<;>cases h
  ·rename_i hb;show(if _ then _ else _);rw[zab (dD hb)];exact k
  ·rename_i hb;show(if _ then _ else _);rw[zaa (fun e=>by rw[e,zaz]at hb;cases hb)];exact k
 ·cases h;exact k
 ·cases h;exact k
 ·cases h;exact k
 ·cases h;exact k
 ·cases h;exact k
 ·cases h;exact k
 ·cases h;exact k
 ·cases h
def zk{c:bi}{a b:dm}(hc:bu s.env c=some (.b t))(ha:t=true->aU.ok aB ⟨K,.c a,s⟩)(hb:t=false->aU.ok aB ⟨K,.c b,s⟩):aU.ok aB ⟨K,.c (.cond c a b),s⟩:=fun H ids st fr a0 aw ae=>
 avw (ae.ak hc) (fun h=>ha h H ids st fr a0 aw ae) (fun h=>hb h H ids st fr a0 aw ae)
def abf{c:bi}{a b:dm}(hc:bu s.env c=some (.b t))(aW:t=true)(ha:aU.ok aB ⟨K,.c a,s⟩):aU.ok aB ⟨K,.c (.cond c a b),s⟩:=zk hc (fun _=>ha) (fun h=>by rw[aW]at h;cases h)
def arO{c:bi}{a b:dm}(hc:bu s.env c=some (.b t))(aW:t=false)(hb:aU.ok aB ⟨K,.c b,s⟩):aU.ok aB ⟨K,.c (.cond c a b),s⟩:=zk hc (fun h=>by rw[aW]at h;cases h) (fun _=>hb)
def arU{L:Type _}{b:dm}(eN:L->cz->Prop)(dA:L->Nat)(j6:L)(h0:eN j6 s)(hm:dA j6<aB.b4)(h:∀l bq,eN l bq->aU.ok aB ⟨.b0 (fun t=>∃l',dA l'<dA l∧eN l' t)::K,.c b,bq⟩):aU.ok aB ⟨K,.c (.loop b),s⟩:=by
 intro H ids st fr a0 aw ae;refine avx (fun m fr st=>∃l H ids s,dA l=m∧eN l s∧dN aB.b1 aB.i0 aB.aK H ids st∧Fit H ids st s.own s.n∧c9 fr H ids s.env) (dA j6) hm ⟨j6,H,ids,s,rfl,h0,a0,aw,ae⟩ ?_;rintro m fr st ⟨l,H,ids,bq,rfl,af,a0,aw,ae⟩;refine(h l bq af H ids st fr a0 aw ae).mono ?_;rintro x aI st' ⟨bn,c6,bq,cX,dp,ef,hq⟩;cases x with
 |norm=>obtain⟨l',J,U⟩:=hq;exact⟨_,J,l',bn,c6,bq,rfl,U,cX,dp,ef⟩
 |exit i=>exact⟨bn,c6,bq,cX,dp,ef,hq⟩
 |ret=>exact⟨bn,c6,bq,cX,dp,ef,hq⟩
 |a1 v=>exact⟨bn,c6,bq,cX,dp,ef,hq⟩
end
def gZ{aB:fl}{g hk:aU}(k:hk.ok aB)(h:Ci g=some hk:=by rfl):g.ok aB:=xx h k
inductive zP:aU->aU->Prop
 |o {g:aU}:zP g g
 |i {g g1 aM:aU} (h:Ci g=some g1) (t:zP g1 aM):zP g aM
variable{g hk:aU}
def auJ{aB:fl}(h:zP g hk)(k:hk.ok aB):g.ok aB:=by
 induction h with
 |o=>exact k
 |i h _ a7=>exact xx h (a7 k)
def I{aB:fl}(k:hk.ok aB)(h:zP g hk:=by(repeat(apply zP.i;exact rfl));exact .o):g.ok aB:=auJ h k
end Go.ar
namespace Go.ar
open Sym
variable{f:ac Nat}
def k5(f:ac Nat):bO->bO->Prop
 |[],_=>True
 |p::l,e=>eb e p.1=some (n2 f p.2)∧k5 f l e
def k5.get:∀{l e:bO},k5 f l e->∀{j:Nat} {a:aj},eb l j=some a->eb e j=some (n2 f a)
 |[],_,_,_,_,h=>by cases h
 |p::l,e,ah,j,v,h=>by
  rw[r8]at h;cases hb:Nat.beq p.1 j with
  |true=>rw[hb]at h;cases h;rw[<-dD hb];exact ah.1
  |false=>rw[hb]at h;exact k5.get ah.2 h
def gQ(f:ac Nat):bj->bj->Prop
 |.c el cs,o=>o= .c el (rb f cs)
 |.a el a8 z α R l,o=>o= .a el a8 z α R l∧∀x,hQ (R x)=true
 |.x,_=>True
def vM(f:ac Nat)(own:ac bj):ac Nat->ac bj->Prop
 |[],[]=>True
 |m::ms,o::os=>(∃bh,own[m]? =some bh∧gQ f o bh)∧vM f own ms os
 |_,_=>False
def vM.len{own:ac bj}:∀{ms:ac Nat} {os:ac bj},vM f own ms os->os.length=ms.length
 |[],[],_=>rfl
 |[],_::_,h=>h.elim
 |_::_,[],h=>h.elim
 |_::ms,_::os,h=>by simp[vM.len h.2]
def vM.get{own:ac bj}:∀{ms:ac Nat} {os:ac bj},vM f own ms os->∀{k:Nat} {o:bj},os[k]? =some o->∃m bh,ms[k]? =some m∧own[m]? =some bh∧gQ f o bh
 |[],[],_,_,_,h=>by simp at h
 |[],_::_,h,_,_,_=>h.elim
 |_::_,[],h,_,_,_=>h.elim
 |m::ms,o::os,⟨⟨bh,J,U⟩,ag⟩,0,q,h=>by simp at h;subst h;exact⟨m,bh,rfl,J,U⟩
 |m::ms,o::os,⟨_,ag⟩,k+1,q,h=>vM.get ag (by simpa using h)
def pinned:Nat->ac Nat->Nat->Bool
 |0,_,_=>true
 |n+1,m::f,k=>Nat.beq m k&&pinned n f (k+1)
 |_+1,[],_=>false
theorem O0:∀{n:Nat} {f:ac Nat} {k:Nat},pinned n f k=true->∀i,i<n->f[i]? =some (k+i)
 |0,_,_,_,i,h=>by omega
 |n+1,[],k,h,_,_=>by cases h
 |n+1,m::f,k,h,i,af=>by
  have h:(Nat.beq m k&&pinned n f (k+1))=true:=h;rw[bW]at h;cases i with
  |zero=>simp[dD h.1]
  |succ i=>rw[show k+(i+1)=(k+1)+i by omega];simpa using O0 h.2 i (by omega)
structure Sub(p:Nat)(f:ac Nat)(s t:cz):Prop where
 c8:f.Nodup
 n:t.n=f.length
 own:vM f s.own f t.own
 env:k5 f t.env s.env
 Jd:pinned p f 0=true
section
variable{H:bC}{ids:ac Nat}{st:ay}{fr:aP}{s t:cz}{f:ac Nat}
variable{o bh:bj}{p:Nat}
def agS{eI:am bt}(h:gQ f o bh)(d:mx H ids bh eI):mx H (pick f ids) o eI:=by
 cases o with
 |c el cs=>cases h;obtain⟨vs,e,d⟩:=d;exact⟨vs,e,x1 f cs d⟩
 |a el a8 z α R l=>
  obtain⟨h,hp⟩:=h;cases h;obtain⟨vs,aC,e2,d⟩:=d;exact⟨vs,aC,e2,fun i x aa=>o2 _ (hp x) (d i x aa) _⟩
 |x=>trivial
def gQ.live(h:gQ f o bh)(hl:o.live=true):bh.live=true:=by
 cases o with
 |c el cs=>cases h;rfl
 |a el a8 z α R l=>cases h.1;rfl
 |x=>cases hl
def Sub.fit(h:Sub p f s t)(aw:Fit H ids st s.own s.n):Fit H (pick f ids) st t.own t.n:=by
 have aR:∀{k m:Nat},f[k]? =some m->(∃o,s.own[m]? =some o)->∃b,ids[m]? =some b∧(pick f ids)[k]? =some b:=fun{k m} ab ⟨o,al⟩=>by
  have aN:=(zaf.1 al).1;have af:m<ids.length:=by rw[aw.len,<-aw.cE];exact aN
  exact⟨_,bm af,y8 ab (bm af)⟩
 have ea:∀k m:Nat,f[k]? =some m->∃o,s.own[m]? =some o:=fun k m ab=>by
  have hl:=h.own.len;have aN:=(zaf.1 ab).1;obtain⟨fz,bh,J,U,_⟩:=h.own.get (bm (show k<t.own.length by omega));rw[ab]at J;cases J;exact⟨bh,U⟩
 have jg:(pick f ids).length=f.length:=by simp[pick]
 refine⟨aw.wf,aw.le,by rw[h.n,h.own.len],by rw[h.n,jg],?_,?_,?_⟩
 ·rw[List.Nodup,zbe];intro i j af hj mH;rw[jg]at af hj;obtain⟨b,J,U⟩:=aR (bm af) (ea _ _ (bm af));obtain⟨c,ag,az⟩:=aR (bm hj) (ea _ _ (bm hj));have aC:=(zaf.1 U).2;have e2:=(zaf.1 az).2;rw[aC,e2];intro e;subst e;have g1:=zaf.1 J;have aM:=zaf.1 ag;have:=(zct (h₀:=g1.1) (h₁:=aM.1) aw.c8).1 (g1.2.trans aM.2.symm);have:=(zct (h₀:=af) (h₁:=hj) h.c8).1 this;omega
 ·intro b hb;obtain⟨k,ab⟩:=zcu.1 hb;have aN:=(zaf.1 ab).1;rw[jg]at aN;obtain⟨c,J,U⟩:=aR (bm aN) (ea _ _ (bm aN));rw[ab]at U;cases U;exact aw.lt _ (zav J)
 ·intro k o b ab hb;obtain⟨m,bh,J,U,ag⟩:=h.own.get ab;obtain⟨c,az,a4⟩:=aR J ⟨bh,U⟩;rw[hb]at a4;cases a4;obtain⟨g1,aM⟩:=aw.own m bh b U az;exact⟨agS ag g1,fun hl=>aM (ag.live hl)⟩
def Sub.Tv(h:Sub p f s t)(ae:c9 fr H ids s.env):c9 fr H (pick f ids) t.env:=⟨ae.pl,fun j a hj=>SA f a (ae.get j _ (h.env.get hj))⟩
def Sub.bT{b1:bC}{i0:ac Nat}{aK:ay}(h:Sub i0.length f s t)(aw:Fit H ids st s.own s.n)(a0:dN b1 i0 aK H ids st):dN b1 i0 aK H (pick f ids) st:=by
 refine⟨a0.hle,a0.hold,a0.hA,a0.ai,?_,?_⟩
 ·intro k b ab;have aN:=(zaf.1 ab).1;have:=O0 h.Jd k aN;rw[zaC]at this;exact y8 this (a0.lI k b ab)
 ·intro b hb;obtain⟨k,ab⟩:=zcu.1 hb;unfold pick at ab;rw[zcs]at ab;cases Hx:f[k]? with
  |none=>rw[Hx]at ab;cases ab
  |some m=>
   rw[Hx]at ab;have ab:some ((ids[m]?).getD 0)=some b:=ab;have hl:=h.own.len;have aN:=(zaf.1 Hx).1;obtain⟨fz,bh,J,U,_⟩:=h.own.get (bm (show k<t.own.length by omega));rw[Hx]at J;cases J;have af:m<ids.length:=by rw[aw.len,<-aw.cE];exact(zaf.1 U).1
   rw[bm af]at ab;cases ab;exact a0.new _ (dy af)
end
section
variable{aB:fl}{K:ac eE}{s t:cz}{f:ac Nat}
def tL.sub{Q CB:dv->cz->Prop}{x:dv}{fr:aP}{st:ay}(hq:∀s,Q x s->∃f t,Sub aB.i0.length f s t∧CB x t)(h:tL aB Q x fr st):tL aB CB x fr st:=by
 obtain⟨H,ids,s,a0,aw,ae,h⟩:=h;obtain⟨f,t,ah,aG⟩:=hq s h;exact⟨H,_,t,ah.bT aw a0,ah.fit aw,ah.Tv ae,aG⟩
def PF{c:dm}(f:ac Nat)(t:cz)(h:Sub aB.i0.length f s t)(k:aU.ok aB ⟨K,.c c,t⟩):aU.ok aB ⟨K,.c c,s⟩:=fun H ids st fr a0 aw ae=>k H _ st fr (h.bT aw a0) (h.fit aw) (h.Tv ae)
def xH(p:Nat){L:Type _}(P:L->Prop)(T:L->cz)(s:cz):Prop:=∃f l,P l∧Sub p f s (T l)
variable{e:bO}{a:aj}{aH:Nat}{L:Type _}{p:Nat}{c:bb}
def cN{b:dm}(P:L->Prop)(T:L->cz)(dA:L->Nat)(f0:ac Nat)(j6:L)(ja:P j6)(hm:dA j6<aB.b4)(h0:Sub aB.i0.length f0 s (T j6))
 (h:∀l,P l->aU.ok aB ⟨.b0 (xH aB.i0.length (fun l'=>dA l'<dA l∧P l') T)::K,.c b,T l⟩):aU.ok aB ⟨K,.c (.loop b),s⟩:=
 arU (fun l s=>P l∧∃f,Sub aB.i0.length f s (T l)) dA j6 ⟨ja,f0,h0⟩ hm fun l bq ⟨hp,f,ah⟩=>PF f _ ah (by
  refine fun H ids st fr a0 aw ae=>(h l hp H ids st fr a0 aw ae).mono ?_;rintro x aI st' ⟨bn,c6,bq,cX,dp,ef,hq⟩;refine⟨bn,c6,bq,cX,dp,ef,?_⟩;cases x with
  |norm=>obtain⟨na,l',⟨J,U⟩,ag⟩:=hq;exact⟨l',J,U,na,ag⟩
  |exit i=>exact hq
  |ret=>exact hq
  |a1 v=>exact hq)
def bf{P:L->Prop}{T:L->cz}(f:ac Nat)(l:L)(ja:P l)(h:Sub p f s (T l)):aU.ok aB ⟨.b0 (xH p P T)::K,.x .norm,s⟩:=⟨f,l,ja,h⟩
def eP{e:dv}(h:aB.Q e s):aU.ok aB ⟨[],.x e,s⟩:=h
def oD{fr:aP}{H:bC}{ids:ac Nat}{t:Nat}{b:aj}(h:eb e t=some a)(hn:∀H ids v,den H a ids v->den H b ids v)(ae:c9 fr H ids e):c9 fr H ids ((t,b)::e):=⟨ae.pl,fun j c hj=>by
 rw[r8]at hj;cases hb:Nat.beq t j with
 |true=>rw[hb]at hj;cases hj;rw[<-dD hb];exact hn _ _ _ (ae.get t _ h)
 |false=>rw[hb]at hj;exact ae.get j c hj⟩
def bb.wR:bb->Bool
 |.x _=>true
 |_=>false
def ax(t:Nat)(b:aj){own:ac bj}(h:eb e t=some a)(ib:a=b)(b5:aU.ok aB ⟨K,c,⟨own,aH,(t,b)::e⟩⟩)(hc:c.wR=false:=by rfl):aU.ok aB ⟨K,c,⟨own,aH,e⟩⟩:=by
 subst ib;cases c with
 |c c=>exact fun H ids st fr a0 aw aG=>b5 H ids st fr a0 aw (oD h (fun _ _ _ d=>d) aG)
 |o l=>exact fun H ids st fr a0 aw aG=>b5 H ids st fr a0 aw (oD h (fun _ _ _ d=>d) aG)
 |x e=>cases hc
 |d l bA a3 bd ca=>exact fun c0 hG H ids st fr fP ah a0 aw aG cp=>b5 c0 hG H ids st fr fP ah a0 aw (oD h (fun _ _ _ d=>d) aG) cp
def dz(t:Nat)(b:aj){own:ac bj}(h:eb e t=some a)(ib:bS a b)(b5:aU.ok aB ⟨K,c,⟨own,aH,(t,b)::e⟩⟩)(hc:c.wR=false:=by rfl):aU.ok aB ⟨K,c,⟨own,aH,e⟩⟩:=by
 cases c with
 |c c=>exact fun H ids st fr a0 aw aG=>b5 H ids st fr a0 aw (oD h ib aG)
 |o l=>exact fun H ids st fr a0 aw aG=>b5 H ids st fr a0 aw (oD h ib aG)
 |x e=>cases hc
 |d l bA a3 bd ca=>exact fun c0 hG H ids st fr fP ah a0 aw aG cp=>b5 c0 hG H ids st fr fP ah a0 aw (oD h ib aG) cp
def di(t:Nat)(b:aj){own bA:ac bj}{bd ca:Nat}{a3:bO}{l:ac (bz×cw)}(h:eb e t=some a)(h0:eb a3 t=some a)(ib:a=b)(b5:aU.ok aB ⟨K,.d l bA ((t,b)::a3) bd ca,⟨own,aH,(t,b)::e⟩⟩):aU.ok aB ⟨K,.d l bA a3 bd ca,⟨own,aH,e⟩⟩:=by
 subst ib;exact fun c0 hG H ids st fr fP ah a0 aw aG cp=>b5 c0 hG H ids st fr fP ah a0 aw (oD h (fun _ _ _ d=>d) aG) ⟨cp.len,cp.hle,(oD (fr:=fr) h0 (fun _ _ _ d=>d) ⟨aG.pl,cp.eL⟩).get,cp.qf,cp.w1,cp.bA,cp.old,cp.top⟩
def kd{own:ac bj}{n:Nat}{bL:bO}(h:k5 [] bL e)(hp:pinned p [] 0=true:=by rfl):Sub p [] ⟨own,n,e⟩ ⟨[],0,bL⟩:=⟨zdv,rfl,trivial,h,hp⟩
end
section
variable{aB:fl}{K:ac eE}{own bF:ac bj}{aH ck:Nat}{e:bO}
variable{o:dd}{l:ac bz}{a:aj}
def fJ{d:Tmp}(h:gq aB.call o ⟨own,aH,e⟩ a bF ck)(k:aU.ok aB ⟨K,.o l,⟨bF,ck,(d,a)::e⟩⟩):aU.ok aB ⟨K,.o (⟨some d,o,none⟩::l),⟨own,aH,e⟩⟩:=JW (d:=some d) h k
def ar0(h:gq aB.call o ⟨own,aH,e⟩ a bF ck)(k:aU.ok aB ⟨K,.o l,⟨bF,ck,e⟩⟩):aU.ok aB ⟨K,.o (⟨none,o,none⟩::l),⟨own,aH,e⟩⟩:=JW (d:=none) h k
end
section
variable{call:bG}{s:cz}{x y i:bi}{a b:aj}
variable{z j k:Nat}{α:Type}{el:ce}{a8:Bool}{q:Nat}{H:bC}{ids:ac Nat}{ds:ac aj}{R:α->ac aj}{l:ac α}{w:α}
def ln{o:dd}(h:∀H ids st fr,Fit H ids st s.own s.n->c9 fr H ids s.env->∃v,den H a ids v∧bK call o fr st= .ok v fr st):gq call o s a s.own s.n:=fun H ids st fr aw ae=>
 let⟨v,J,U⟩:=h H ids st fr aw ae
 ⟨v,st,ids,H,U,aw,J,du.refl _,da.refl _,fun _ _ _ B=>B,b8 _,fun _ _ _=>rfl⟩
def XP{o n c:Nat}{b5:d7}(aa:bu s.env x=some (.a5 k z o n c))(af:bu s.env i=some (.i b5 (j:Int)))(hj:j<n):gq call (.l8 z x i) s (.gX k z (o+j) 0) s.own s.n:=ln fun H ids st fr aw ae=>by
 obtain⟨b,J,U⟩:=ae.ak aa;have ag:fr.ak i= .int b5 (j:Int):=ae.ak af;exact⟨_,⟨b,J,by rw[zaj,zaX]⟩,IT U ag hj⟩
def NH{q:α}{b5:d7}(aa:bu s.env x=some (.cc z α R l))(af:bu s.env i=some (.i b5 (j:Int)))(hj:l[j]? =some q):gq call (.l8 z x i) s (.ip (R q)) s.own s.n:=ln fun H ids st fr aw ae=>by
 have ag:fr.ak i= .int b5 (j:Int):=ae.ak af;have aN:=(zaf.1 hj).1;rcases ae.ak aa with⟨hl,_⟩|⟨b,o,c,vs,el,bg,a8,J,U,az,a4⟩
 ·subst hl;simp at aN
 ·refine⟨_,⟨b,o+j*z,vs,el,bg,a8,rfl,az,?_⟩,IT J ag aN⟩;have aA:=a4 j q hj;have hl:=h9 aA;rw[<-hl];rw[show(vs.drop (o+j*z)).take ((vs.drop (o+j*z)).take z).length=(vs.drop (o+j*z)).take z by rw[zao,<-List.take_eq_take_min]];exact aA
def qp{st:ay}(aw:Fit H ids st s.own s.n)(ab:s.own[k]? =some (.a el a8 z α R l)){b:Nat}(hb:ids[k]? =some b):∃vs,st.h.get b=some (.cells vs el (0,0) a8)∧vs.length=l.length*z∧∀i x,l[i]? =some x->de H (R x) ids ((vs.drop (i*z)).take z):=(aw.own k _ b ab hb).1
def ao8(aa:bu s.env x=some (.gX k z j q))(ab:s.own[k]? =some (.a el a8 z α R l))(hj:l[j]? =some w)(hq:(R w)[q]? =some a):gq call (.j8 x) s a s.own s.n:=ln fun H ids st fr aw ae=>by
 obtain⟨b,J,U⟩:=ae.ak aa;obtain⟨vs,ag,az,a4⟩:=qp aw ab J;obtain⟨v,aD,aA⟩:=wa (a4 j w hj) hq;refine⟨v,aA,Bg U ag ?_⟩;rw[zaG]at aD;split at aD
 ·rw[zaB]at aD;exact aD
 ·cases aD
def afc{v:be}(h:vX a=some ds)(hc:sG ds=true)(d:den H a ids v):de H ds ids (h8 v)∧hf (h8 v)=true:=by
 obtain⟨_,d2⟩:=Gi h d;exact⟨d2,CZ hc d2⟩
def afg{vs ws:ac be}(i:Nat)(aD:(j+1)*z<=vs.length)(hq:q+ws.length<=z):
 ((vs.take (j*z+q)++(ws++vs.drop (j*z+q+ws.length))).drop (i*z)).take z=if i=j then((vs.drop (j*z)).take z).take q++(ws++((vs.drop (j*z)).take z).drop (q+ws.length))else(vs.drop (i*z)).take z:=by
 rw[zaj,zbf]at aD;apply zbw;intro p;rw[zaG,zaB];by_cases hp:p<z
 ·rw[zab hp];have get:∀m,(vs.take (j*z+q)++(ws++vs.drop (j*z+q+ws.length)))[m]? =if m<j*z+q then vs[m]? else if m<j*z+q+ws.length then ws[m-(j*z+q)]? else vs[m]? :=by
   intro m;by_cases J:m<j*z+q
   ·rw[zab J,zaW (by simp;omega),zaG,zab J]
   ·rw[zaa J,zaL (by simp;omega),zao,zaE (by omega)];by_cases U:m<j*z+q+ws.length
    ·rw[zab U,zaW (by omega)]
    ·rw[zaa U,zaL (by omega),zaB];congr 1;omega
  rw[get];by_cases mH:i=j
  ·subst mH;rw[zab rfl];by_cases J:p<q
   ·rw[zab (by omega),zaW (by simp;omega),zaG,zab J,zaG,zab hp,zaB]
   ·rw[zaa (by omega),zaL (by simp;omega)];have e:(((vs.drop (i*z)).take z).take q).length=q:=by simp;omega
    rw[e];by_cases U:p<q+ws.length
    ·rw[zab (by omega),zaW (by omega)];congr 1;omega
    ·rw[zaa (by omega),zaL (by omega),zaB,zaG,zab (by omega),zaB];congr 1;omega
  ·rw[zaa mH,zaG,zab hp,zaB];have:i*z+p<j*z∨j*z+z<=i*z+p:=by
    rcases Nat.lt_or_gt_of_ne mH with h|h
    ·left;have:(i+1)*z<=j*z:=iq z h;rw[zaj,zbf]at this;omega
    ·right;have:(j+1)*z<=i*z:=iq z h;rw[zaj,zbf]at this;omega
   rcases this with h|h
   ·rw[zab (by omega)]
   ·rw[zaa (by omega),zaa (by omega)]
 ·rw[zaa hp]
  symm
  rw[zex];split
  ·simp;omega
  ·simp;omega
def auB{m:Nat}(w':α)(aa:bu s.env x=some (.gX k z j q))(aL:bu s.env y=some a)(hc:vX a=some ds)(hl:ds.length=m)(dR:sG ds=true)
 (ab:s.own[k]? =some (.a el a8 z α R l)) (hj:l[j]? =some w) (cT:R w'=(R w).take q++(ds++(R w).drop (q+ds.length))) (an:q+m<=z):
 gq call (.store m x y) s (.bP []) (s.own.set k (.a el a8 z α R (l.set j w'))) s.n:=fun H ids st fr aw ae=>by
 obtain⟨b,J,U⟩:=ae.ak aa;obtain⟨vs,ag,az,a4⟩:=qp aw ab J;obtain⟨d2,bN⟩:=afc hc dR (ae.ak aL);have rV:=h9 d2;have aN:=(zaf.1 hj).1;have XG:(j+1)*z<=vs.length:=by rw[az];exact iq z aN
 have anS:=XG;rw[zaj,zbf]at anS;refine⟨undef,⟨st.h.set b (.cells (vs.take (j*z+q)++(h8 (fr.ak y)++vs.drop (j*z+q+(h8 (fr.ak y)).length))) el (0,0) a8),st.ai⟩,ids,H,?_,aw.hd ab rfl J ⟨_,rfl,?_,?_⟩,⟨[],rfl,rfl⟩,du.refl _,da.refl _,fun _ _ _ B=>B.hd (zav J) _,b8 _,?_⟩
 ·have:bK call (.store m x y) fr st=ik (fr.ak x) (fun p=>bk p (fun a=>dQ (db (h8 (fr.ak y))) m (cond (hf (h8 (fr.ak y))) (st.store a (h8 (fr.ak y)) (fun st=>aV.ok undef fr st) .no) .no) .no) .no) .no:=rfl;rw[this,U,n7,Sym.en,fg,j0 (by omega),bN,cond_true];unfold ay.store ay.gC;rw[Sym.gK,ag,kA,gz (b8 _),q5,zab (by show j*z+q+_<=_;omega),ks]
 ·simp only[zay,zao,zaA,zbV];rw[<-az];omega
 ·intro i p hp;rw[afg i XG (by omega)];rw[zaQ]at hp;by_cases mH:j=i
  ·subst mH;rw[zab rfl,zab aN]at hp;cases hp;rw[zab rfl,cT];exact LL q (a4 j w hj) d2
  ·rw[zaa mH]at hp;rw[zaa (Ne.symm mH)];exact a4 i p hp
 ·intro eW _ cd;exact ao.gf _ _ (fun e=>cd k (by simp[jh,aa]) (e▸J))
def acy(w':α)(aa:bu s.env x=some (.gX k 1 j 0))(aL:bu s.env y=some a)(ab:s.own[k]? =some (.a el a8 1 α R l))(cT:R w'=[a])(hj:j<l.length)(hc:tU a=true)(J:∀w,(R w).length=1):
 gq call (.store 1 x y) s (.bP []) (s.own.set k (.a el a8 1 α R (l.set j w'))) s.n:=by
 refine auB (w:=l[j]) w' aa aL (ds:=[a]) ?_ rfl ?_ ab (bm hj) ?_ (by decide)
 ·cases a<;>first|rfl|cases hc|(show(match tU _ with|true=>_|false=>_)=_;rw[hc])
 ·show(tU a&&true)=true;rw[hc];rfl
 ·rw[cT];have:=J l[j];rw[show(R l[j]).drop (0+[a].length)=[] by apply zbU;simp;omega];rfl
end
set_option maxRecDepth 10000
section
variable{call:bG}{s:cz}{x y i:bi}{a b:aj}
def kf(H:bC)(ids:ac Nat){α:Type}(R:α->ac aj)(z:Nat)(l:ac α)(vs:ac be):Prop:=vs.length=l.length*z∧∀i x,l[i]? =some x->de H (R x) ids ((vs.drop (i*z)).take z)
variable{α:Type}{z:Nat}{H:bC}{ids:ac Nat}{vs:ac be}{R:α->ac aj}{l:ac α}
def z4(H:bC)(ids:ac Nat)(R:α->ac aj)(z:Nat):kf H ids R z [] []:=⟨by simp,fun i x h=>by simp at h⟩
def tV{m:ac α}{ws:ac be}(h:kf H ids R z l vs)(aG:kf H ids R z m ws):kf H ids R z (l++m) (vs++ws):=by
 refine⟨by rw[zay,zay,h.1,aG.1,zaj],fun i x aa=> ?_⟩;by_cases af:i<l.length
 ·rw[zaW af]at aa;have J:=h.2 i x aa;have hle:(i+1)*z<=vs.length:=by rw[h.1];exact iq z af
  rw[zaj,zbf]at hle;rw[zea (by omega),zcR (by simp;omega)];exact J
 ·rw[zaL (by omega)]at aa;have J:=aG.2 _ x aa;have e:i*z=vs.length+(i-l.length)*z:=by rw[h.1,<-zaj];congr 1;omega
  rw[e,<-zbp,List.drop_left];exact J
def Gm(h:kf H ids R z l vs)(n:Nat)(hn:n<=l.length):kf H ids R z (l.take n) (vs.take (n*z)):=by
 have D4:n*z<=l.length*z:=iq z hn;refine⟨by rw[zao,zao,h.1,zaE D4,zaE hn],fun i x aa=> ?_⟩;rw[zaG]at aa;split at aa
 ·rename_i af;have hle:(i+1)*z<=n*z:=iq z af;rw[zaj,zbf]at hle;rw[zdZ,zdu,zaE (by omega)];exact h.2 i x aa
 ·cases aa
def z3(h:kf H ids R z l vs)(n:Nat):kf H ids R z (l.drop n) (vs.drop (n*z)):=by
 refine⟨by rw[zaA,zaA,h.1,Nat.sub_mul],fun i x aa=> ?_⟩;rw[zaB]at aa;rw[zbp,<-zaj];exact h.2 _ x aa
def Gl{w:α}(h:de H (R w) ids vs)(an:(R w).length=z):kf H ids R z [w] vs:=by
 have hl:=h9 h;refine⟨by simp;omega,fun i x aa=> ?_⟩;cases i with
 |zero=>simp at aa;subst aa;rw[zau,zap,zas (by omega)];exact h
 |succ i=>simp at aa
theorem R0{H:bC}{ids:ac Nat}{α:Type}{R:α->ac aj}{w:α}{jo:ac be}(h:de H (R w) ids jo):∀n,kf H ids R jo.length (List.replicate n w) (lX jo n)
 |0=>z4 _ _ _ _
 |n+1=>by
  have e:lX jo (n+1)=jo++lX jo n:=by show fS jo (lX jo n)=_;rw[rz]
  rw[e,zeb,<-List.singleton_append];exact tV (Gl h (by rw[h9 h])) (R0 h n)
theorem Ly{H:bC}{ids:ac Nat}{α:Type}{R:α->ac aj}{z:Nat}(an:∀w,(R w).length=z):∀{l:ac α} {vs:ac be},de H (l.flatMap R) ids vs->kf H ids R z l vs
 |[],vs,d=>by cases d;exact z4 _ _ _ _
 |w::l,vs,d=>by
  rw[zcQ]at d;have J:=wb z d;have U:=pR z d;rw[zec (an w)]at J;rw[zdw (an w)]at U;rw[<-zbl z vs];exact tV (l:=[w]) (Gl J (an w)) (Ly an U)
def mk{el:ce}{cr n c:Nat}{jo:ac be}{k k':d7}(R:α->ac aj)(w:α)(aa:bu s.env x=some (.i k (n:Int)))(aL:bu s.env y=some (.i k' (c:Int)))(an:jo.length=z)(cT:By jo=R w)(hn:n<=c)(hc:c*(cr+1)<=1099511627776):
 gq call (.sb el cr jo x y) s (.a5 s.n z 0 n c) (s.own++[.a el false z α R (List.replicate c w)]) (s.n+1):=fun H ids st fr aw ae=>by
 have J:fr.ak x= .int k (n:Int):=ae.ak aa;have U:fr.ak y= .int k' (c:Int):=ae.ak aL;subst an;have aA:=x0 H (ids++[st.ai]) jo;rw[cT]at aA;have j2:=R0 aA c;refine⟨_,_,_,H,?_,aw.add (eI:=.cells (lX jo c) el (0,0) false) ⟨_,rfl,j2.1,j2.2⟩,⟨st.ai,by rw[<-aw.len,zaL (b8 _)];simp,rfl⟩,du.refl _,da.app _ _,fun _ _ _ B=>B.add _,zbb _,fun b hb _=>BD hb⟩;show w8 el cr jo x y call fr st=_;unfold w8;rw[J,U,nA,nA,pn,pn,gz hn,gz (show Nat.mul c (Nat.succ cr)<=2^40 from hc),gV,zau]
def m4(s:cz)(x:bi){α:Type}(R:α->ac aj)(z:Nat)(l:ac α):Prop:=∀(H:bC) (ids:ac Nat) (st:ay) (fr:aP),Fit H ids st s.own s.n->c9 fr H ids s.env->
 (l=[]∧∃c,fr.ak x= .slice none 0 c)∨∃b o c vs el bg a8,fr.ak x= .slice (some ⟨b,o,none⟩) l.length c∧st.h.get b=some (.cells vs el bg a8)∧l.length*z<=(vs.drop o).length∧kf H ids R z l ((vs.drop o).take (l.length*z))∧hf ((vs.drop o).take (l.length*z))=true
variable{o:Nat}
theorem QY:∀(vs:ac be) (n:Nat),hf vs=true->hf (vs.take n)=true
 |[],n,_=>by simp[hf]
 |v::vs,0,_=>rfl
 |v::vs,n+1,h=>by
  have h:cond (nD v) (hf vs) false=true:=h;show cond (nD v) (hf (vs.take n)) false=true;cases aD:nD v with
  |false=>rw[aD]at h;cases h
  |true=>rw[aD]at h;exact QY vs n h
theorem QX:∀(vs ws:ac be),hf vs=true->hf ws=true->hf (vs++ws)=true
 |[],ws,_,h=>h
 |v::vs,ws,h,aG=>by
  have h:cond (nD v) (hf vs) false=true:=h;show cond (nD v) (hf (vs++ws)) false=true;cases aD:nD v with
  |false=>rw[aD]at h;cases h
  |true=>rw[aD]at h;exact QX vs ws h aG
def auh{k n c:Nat}{el:ce}{cs:ac aj}(l:ac α)(aa:bu s.env x=some (.a5 k z o l.length c))(al:o=0)(ab:s.own[k]? =some (.c el cs))(dR:cs=l.flatMap R)(an:∀w,(R w).length=z)(hc:sG cs=true)(hn:l.length=n):m4 s x R z l:=by
 intro H ids st fr aw ae;subst al;obtain⟨b,J,U⟩:=ae.ak aa;obtain⟨⟨vs,ag,d⟩,_⟩:=aw.own k _ b ab J;rw[dR]at d;have j2:=Ly an d;have bN:=CZ (dR▸hc) d;rw[zau]at U;refine .inr ⟨b,0,c,vs,el,_,_,U,ag,by simp[j2.1],?_,QY _ _ (by simpa using bN)⟩;rw[zap,zas (by rw[j2.1];exact b8 _)];exact j2
def aoe(an:∀w,(R w).length=z):∀{l:ac α},(∀i x,l[i]? =some x->de H (R x) [] ((vs.drop (o+i*z)).take z))->∀n,n<=l.length->n*z<=(vs.drop o).length∧kf H [] R z (l.take n) ((vs.drop o).take (n*z)):=by
 intro l h n
 induction n with
 |zero=>intro _;exact⟨by simp,by simpa using z4 _ _ _ _⟩
 |succ n a7=>
  intro hn;obtain⟨J,U⟩:=a7 (by omega);have aR:l[n]? =some l[n]:=bm (by omega);have ag:=h n _ aR;have hl:=h9 ag;rw[an,zao]at hl;rw[<-zbp,zaA]at hl;have hle:(n+1)*z<=(vs.drop o).length:=by
   rw[zaj,zbf];rcases zcv z with h0|h0
   ·subst h0;simp
   ·omega
  refine⟨hle,?_⟩;rw[zaY (by omega)];have e:(vs.drop o).take ((n+1)*z)=(vs.drop o).take (n*z)++(vs.drop (o+n*z)).take z:=by
   rw[zaj,zbf,List.take_add,zbp]
  rw[e];exact tV U (Gl ag (an _))
def Gk{bn:bC}{i j:ac Nat}(hh:du H bn)(af:da i j)(h:kf H i R z l vs):kf bn j R z l vs:=⟨h.1,fun k x aa=>my hh _ af (h.2 k x aa)⟩
theorem R2{H:bC}{ids:ac Nat}{α:Type}{R:α->ac aj}{z:Nat}(an:∀w,(R w).length=z)(hc:∀w,sG (R w)=true):∀{l:ac α} {vs:ac be},kf H ids R z l vs->hf vs=true
 |[],vs,h=>by
  have:vs=[]:=zbu (by rw[h.1];simp);subst this;rfl
 |w::l,vs,h=>by
  rw[<-zbl z vs];have J:=h.2 0 w (by simp);rw[zau,zap]at J;have U:=z3 h 1;rw[zbf]at U;exact QX _ _ (CZ (hc w) J) (R2 an hc (l:=l) U)
def n3(aa:bu s.env x=some (.cc z α R l))(an:∀w,(R w).length=z)(hc:∀w,sG (R w)=true):m4 s x R z l:=by
 intro H ids st fr aw ae;rcases ae.ak aa with⟨hl,J⟩|⟨b,o,c,vs,el,bg,a8,J,U,az,a4⟩
 ·exact .inl ⟨hl,0,J⟩
 ·obtain⟨g1,aM⟩:=aoe an a4 l.length (b8 _);rw[zbx]at aM;exact .inr ⟨b,o,c,vs,el,bg,a8,J,aw.le _ _ az,g1,Gk (du.refl _) (da.nil _) aM,R2 an hc aM⟩
def vL(call:bG)(el:ce)(cr:Nat)(s:cz)(y:bi){α:Type}(R:α->ac aj)(z:Nat)(l:ac α):Prop:=∀(H:bC) (ids:ac Nat) (st:ay) (fr:aP),Fit H ids st s.own s.n->c9 fr H ids s.env->∀(x:bi) (p:am Addr) (n c:Nat),fr.ak x= .slice p n c->
 ∃new,kf H ids R z l new∧hf new=true∧bK call (.app el z cr x y) fr st=jJ fr st el z cr p n c l.length new
variable{a2 cr:Nat}{el:ce}{k n c:Nat}{m:ac α}
def sD(ah:m4 s y R a2 l):vL call el cr s y R a2 l:=fun H ids st fr aw ae x p n c aa=>by
 have e:bK call (.app el a2 cr x y) fr st=il (fr.ak x) (fun base len cap=>il (fr.ak y) (fun b n _=>bk b (fun b=>st.load b (Nat.mul n a2) (fun new=>cond (hf new) (jJ fr st el a2 cr base len cap n new) .no) .no) (dQ n 0 (jJ fr st el a2 cr base len cap 0 []) .no)) (tE (fr.ak y) (jJ fr st el a2 cr base len cap 0 []) (im (fr.ak y) (fun s=>dQ a2 1 (jJ fr st el a2 cr base len cap (db s.data.toList) (lQ s.data.toList)) .no) .no))) .no:=rfl;rw[e,aa,oS];rcases ah H ids st fr aw ae with⟨rfl,bE,J⟩|⟨b,o,bE,vs,Al,bg,a8,J,U,ag,az,a4⟩
 ·refine⟨[],z4 _ _ _ _,rfl,?_⟩;rw[J,oS,Sym.gK,j0 rfl];rfl
 ·refine⟨_,az,a4,?_⟩;rw[J,oS,Sym.en];show st.load ⟨b,o,none⟩ (l.length*a2) _ _=_;unfold ay.load ay.gC;rw[Sym.gK,U,kA,qw ag,a4];rfl
def K7(aa:bu s.env x=some .nl)(ah:vL call el cr s y R a2 l)(h0:l≠[])(hb:(5*l.length+1792)*(cr+1)<=1125899906842624):
 gq call (.app el a2 cr x y) s (.a5 s.n a2 0 l.length l.length) (s.own++[.a el true a2 α R l]) (s.n+1):=fun H ids st fr aw ae=>by
 obtain⟨new,J,U,ag⟩:=ah H ids st fr aw ae x _ _ _ (show fr.ak x= .slice none 0 0 from ae.ak aa);have lz:=Gk (du.refl H) (da.app ids [st.ai]) J;have hl:0<l.length:=zaN.2 h0;refine⟨_,_,_,H,?_,aw.add (eI:=.cells new el (0,0) true) ⟨_,rfl,lz.1,lz.2⟩,⟨st.ai,by rw[<-aw.len,zaL (b8 _)];simp,rfl⟩,du.refl _,da.app _ _,fun _ _ _ B=>B.add _,zbb _,fun b hb _=>BD hb⟩;rw[ag];unfold jJ;simp only[zcS,zcT,zaC];rw[gz (show(5*l.length+1792)*Nat.succ cr<=2^50 from hb),Sym.gK,j0 rfl,j0 rfl,sM (by omega),gV,zau]
def F5(aa:bu s.env x=some (.a5 k a2 0 n c))(ab:s.own[k]? =some (.a el true a2 α R l))(ah:vL call el cr s y R a2 m)(h0:m≠[])(hn:n<=l.length)(jf:n<=c)(hc:c<=l.length)(hb:(5*(n+m.length)+1792)*(cr+1)<=1125899906842624):
 gq call (.app el a2 cr x y) s (.a5 s.n a2 0 (n+m.length) (n+m.length)) (s.own.set k .x++[.a el true a2 α R (l.take n++m)]) (s.n+1):=fun H ids st fr aw ae=>by
 obtain⟨b,g1,aM⟩:=ae.ak aa;obtain⟨vs,bc,cf,cL⟩:=qp aw ab g1;obtain⟨new,J,U,ag⟩:=ah H ids st fr aw ae x _ _ _ aM;have hl:0<m.length:=zaN.2 h0;have o8:Fit H ids ⟨st.h.set b .dead,st.ai⟩ (s.own.set k .x) s.n:=aw.hd ab rfl g1 trivial;have j2:=tV (Gm ⟨cf,cL⟩ n hn) J;have lz:=Gk (du.refl H) (da.app ids [st.ai]) j2;have Hv:c*a2<=l.length*a2:=iq a2 hc;have D4:n*a2<=l.length*a2:=iq a2 hn;have awt:b<st.ai:=aw.lt b (zav g1);refine⟨.slice (some ⟨st.ai,0,none⟩) (n+m.length) (n+m.length),_,_,H,?_,o8.add (eI:=.cells (vs.take (n*a2)++new) el (0,0) true) ⟨_,rfl,lz.1,lz.2⟩,⟨st.ai,by rw[<-aw.len,zaL (b8 _)];simp,by rw[zau]⟩,du.refl _,da.app _ _,fun _ _ _ B=>(B.hd (zav g1) .dead).add _,zbb _,?_⟩
 ·rw[ag];unfold jJ ay.gC;simp only[zcS,zcT,Sym.en,Sym.gK,bc,kA,zau];rw[gz (show(5*(n+m.length)+1792)*Nat.succ cr<=2^50 from hb),gz (b8 _),gz jf,gz (by rw[fg,cf];show 0+c*a2<=_;omega),j0 rfl,sM (by omega),cond_true,qw (by simp;omega),ks,gV,rz,zap]
 ·intro eW cK cd;show((st.h.set b .dead).set st.ai _).get eW=_;rw[ao.gf _ _ (by omega)];exact ao.gf _ _ (fun e=>cd k (by simp[jh,aa]) (e▸g1))
def ad8(aa:bu s.env x=some (.a5 k a2 0 n c))(ab:s.own[k]? =some (.a el false a2 α R l))(ah:vL call el cr s y R a2 m)(h0:m≠[])(hn:n+m.length<=c)(hc:c<=l.length)(hb:(5*(n+m.length)+1792)*(cr+1)<=1125899906842624):
 gq call (.app el a2 cr x y) s (.a5 k a2 0 (n+m.length) c) (s.own.set k (.a el false a2 α R (l.take n++(m++l.drop (n+m.length))))) s.n:=fun H ids st fr aw ae=>by
 obtain⟨b,g1,aM⟩:=ae.ak aa;obtain⟨vs,bc,cf,cL⟩:=qp aw ab g1;obtain⟨new,J,U,ag⟩:=ah H ids st fr aw ae x _ _ _ aM;have hl:0<m.length:=zaN.2 h0;have j2:=tV (Gm ⟨cf,cL⟩ n (by omega)) (tV J (z3 ⟨cf,cL⟩ (n+m.length)));have Hv:c*a2<=l.length*a2:=iq a2 hc;have D4:(n+m.length)*a2<=l.length*a2:=iq a2 (by omega);have e:n*a2+new.length=(n+m.length)*a2:=by rw[J.1,zaj]
 refine⟨.slice (some ⟨b,0,none⟩) (n+m.length) c,_,ids,H,?_,aw.hd ab rfl g1 (eI:=.cells (vs.take (n*a2)++(new++vs.drop (n*a2+new.length))) el (0,0) false) ⟨_,rfl,by rw[e];exact j2.1,by rw[e];exact j2.2⟩,⟨b,g1,by rw[zau]⟩,du.refl _,da.refl _,fun _ _ _ B=>B.hd (zav g1) _,b8 _,?_⟩
 ·rw[ag];unfold jJ ay.gC;simp only[zcS,zcT,Sym.en,Sym.gK,bc,kA,zau,zaC];rw[gz (show(5*(n+m.length)+1792)*Nat.succ cr<=2^50 from hb),gz (b8 _),gz (by omega),gz (by rw[fg,cf];exact Hv),j0 rfl,sM (by omega),cond_false,gz hn,q5,zab (by rw[e,cf];exact D4),ks]
 ·intro eW _ cd;exact ao.gf _ _ (fun e=>cd k (by simp[jh,aa]) (e▸g1))
end
section
variable{call:bG}{s:cz}{x y i:bi}{a b:aj}
def fO(s:cz)(x:am bi)(dflt n:Nat):Prop:=
 match x with
 |none=>n=dflt
 |some x=>∃b5,bu s.env x=some (.i b5 (n:Int))
variable{p q:Nat}{aQ af:am bi}{n z:Nat}{α:Type}{k:d7}{H:bC}{ids:ac Nat}{fr:aP}{m:Int}{R:α->ac aj}{l:ac α}
def fO.ak{x:am bi}{dflt y:Nat}(h:fO s x dflt n)(ae:c9 fr H ids s.env)(aL:n<=y)(k:Nat->aV):fq fr x dflt y k=k n:=by
 cases x with
 |none=>cases h;rfl
 |some x=>
  obtain⟨b5,h⟩:=h;have h:fr.ak x= .int b5 (n:Int):=ae.ak h;show gO (fr.ak x) (fun _ n=>hP n (fun n=>ek n y (k n) .no) .no) .no=_;rw[h,nA,pn,gz aL]
def CW(fr:aP)(d y:Nat)(k:Nat->aV):fq fr none d y k=k d:=rfl
def ab4(aa:bu s.env x=some (.cc z α R l))(gU:fO s aQ 0 p)(ht:fO s af l.length q)(hp:p<=q)(hq:q<=l.length)(ae:c9 fr H ids s.env):
 ∃v,den H (.cc z α R ((l.drop p).take (q-p))) ids v∧∀st:ay,(∀b o,H b=some o->st.h.get b=some o)->bK call (.oO z x aQ af none) fr st= .ok v fr st:=by
 have hl:((l.drop p).take (q-p)).length=q-p:=by simp;omega
 have e:∀st:ay,bK call (.oO z x aQ af none) fr st=il (fr.ak x) (fun b len cap=>bk b (fun a=>st.gC a (fun _ _ _ a8=>cond a8 (ek len cap (fq fr af len len fun h=>fq fr aQ 0 h fun l=>.ok (.slice (some (a.add (l*z))) (h-l) (cap-l)) fr st) .no) (fq fr none cap cap fun m=>fq fr af len m fun h=>fq fr aQ 0 h fun l=>.ok (.slice (some (dQ m l a (a.add (l*z)))) (h-l) (m-l)) fr st)) .no) (fq fr none cap cap fun m=>fq fr af len m fun h=>fq fr aQ 0 h fun l=>.ok (.slice none (h-l) (m-l)) fr st)) .no:=fun st=>rfl;rcases ae.ak aa with⟨hn,J⟩|⟨b,o,c,vs,el,bg,a8,J,U,az,a4⟩
 ·subst hn;simp at hq;subst hq;have:p=0:=by omega
  subst this;refine⟨.slice none 0 0,.inl ⟨by simp,rfl⟩,fun st _=> ?_⟩;rw[e,J,oS,Sym.gK];rw[CW,fO.ak (dflt:=0) ht ae (b8 _),fO.ak gU ae (b8 _)]
 ·have e2:∀st:ay,(∀b o,H b=some o->st.h.get b=some o)->bK call (.oO z x aQ af none) fr st=cond a8 (ek l.length c (fq fr af l.length l.length fun h=>fq fr aQ 0 h fun l=>.ok (.slice (some ((⟨b,o,none⟩:Addr).add (l*z))) (h-l) (c-l)) fr st) .no) (fq fr none c c fun m=>fq fr af l.length m fun h=>fq fr aQ 0 h fun l=>.ok (.slice (some (dQ m l ⟨b,o,none⟩ ((⟨b,o,none⟩:Addr).add (l*z)))) (h-l) (m-l)) fr st):=fun st hle=>by
   rw[e,J,oS,Sym.en];unfold ay.gC;rw[Sym.gK,hle _ _ az,kA]
  have chunk:∀i x,((l.drop p).take (q-p))[i]? =some x->de H (R x) [] ((vs.drop (o+p*z+i*z)).take z):=fun i x aa=>by
   rw[zaG]at aa;split at aa
   ·rw[zaB]at aa;have:=a4 _ x aa;rw[zaj]at this;rw[zbE];exact this
   ·cases aa
  cases a8 with
  |true=>
   exact⟨_,.inr ⟨b,o+p*z,c-p,vs,el,bg,true,by rw[hl],by rw[hl];omega,az,chunk⟩,fun st hle=>by rw[e2 st hle,cond_true,gz U,fO.ak ht ae hq,fO.ak gU ae hp,pJ]⟩
  |false=>
   have b3:∀st:ay,(∀b o,H b=some o->st.h.get b=some o)->bK call (.oO z x aQ af none) fr st= .ok (.slice (some (dQ c p ⟨b,o,none⟩ ((⟨b,o,none⟩:Addr).add (p*z)))) (q-p) (c-p)) fr st:=fun st hle=>by
    rw[e2 st hle,cond_false,CW,fO.ak ht ae (by omega),fO.ak gU ae hp]
   by_cases hc:c=p
   ·have Np:q=p:=by omega
    refine⟨_,.inr ⟨b,o,c-p,vs,el,bg,false,by rw[hl],by rw[hl];omega,az,fun i x aa=> ?_⟩,fun st hle=>by rw[b3 st hle,j0 hc]⟩;rw[Np]at aa;simp at aa
   ·exact⟨_,.inr ⟨b,o+p*z,c-p,vs,el,bg,false,by rw[hl],by rw[hl];omega,az,chunk⟩,fun st hle=>by rw[b3 st hle,sM hc,pJ]⟩
def ab3(aa:bu s.env x=some (.cc z α R l))(gU:fO s aQ 0 p)(ht:fO s af l.length q)(hp:p<=q)(hq:q<=l.length):
 gq call (.oO z x aQ af none) s (.cc z α R ((l.drop p).take (q-p))) s.own s.n:=ln fun H ids st fr aw ae=>
 let⟨v,J,U⟩:=ab4 aa gU ht hp hq ae
 ⟨v,J,U st aw.le⟩
def aub{k o c:Nat}{el:ce}{a8:Bool}(aa:bu s.env x=some (.a5 k z o n c))(ab:s.own[k]? =some (.a el a8 z α R l))(gU:fO s aQ 0 p)(ht:fO s af n q)(hp:p<=q)(hq:q<=n)(hn:n<=c)(hc:p<c∨p=0):
 gq call (.oO z x aQ af none) s (.a5 k z (o+p) (q-p) (c-p)) s.own s.n:=ln fun H ids st fr aw ae=>by
 have e:bK call (.oO z x aQ af none) fr st=il (fr.ak x) (fun b len cap=>bk b (fun a=>st.gC a (fun _ _ _ a8=>cond a8 (ek len cap (fq fr af len len fun h=>fq fr aQ 0 h fun l=>.ok (.slice (some (a.add (l*z))) (h-l) (cap-l)) fr st) .no) (fq fr none cap cap fun m=>fq fr af len m fun h=>fq fr aQ 0 h fun l=>.ok (.slice (some (dQ m l a (a.add (l*z)))) (h-l) (m-l)) fr st)) .no) (fq fr none cap cap fun m=>fq fr af len m fun h=>fq fr aQ 0 h fun l=>.ok (.slice none (h-l) (m-l)) fr st)) .no:=rfl;obtain⟨b,g1,aM⟩:=ae.ak aa;obtain⟨vs,bc,cf,cL⟩:=qp aw ab g1;refine⟨_,⟨b,g1,rfl⟩,?_⟩;rw[e,aM,oS,Sym.en];unfold ay.gC;rw[Sym.gK,bc,kA];cases a8 with
 |true=>rw[cond_true,gz hn,fO.ak ht ae hq,fO.ak gU ae hp,pJ,zaj]
 |false=>
  rw[cond_false];rw[CW,fO.ak ht ae (by omega),fO.ak gU ae hp];by_cases gH:c=p
  ·rw[j0 gH];have:p=0:=by omega
   subst this;rw[zaX]
  ·rw[sM gH,pJ,zaj]
def aoB{l:ac bv}{j:Nat}{b5:d7}{mo:bv}(aa:bu s.env x=some (.s l))(af:bu s.env i=some (.i b5 (j:Int)))(hj:l[j]? =some mo):gq call (.uP x i) s (.i .u8 (mo.toNat:Int)) s.own s.n:=ln fun H ids st fr aw ae=>by
 have J:fr.ak x= .string ⟨⟨l⟩⟩:=ae.ak aa;have U:fr.ak i= .int b5 (j:Int):=ae.ak af;refine⟨_,rfl,?_⟩;have e:bK call (.uP x i) fr st=im (fr.ak x) (fun s=>gO (fr.ak i) (fun _ j=>hP j (fun j=>jt s.data.toList j 1 (fun bT=>one bT (fun b=>.ok (.int .u8 (.ofNat b.toNat)) fr st) .no) .no) .no) .no) .no:=rfl;obtain⟨aN,aD⟩:=zaf.1 hj;rw[e,J,Cr,U,nA,pn];show jt l j 1 _ _=_;rw[Ac (by omega),eX aN,aD];rfl
def aud{l:ac bv}(aa:bu s.env x=some (.s l))(gU:fO s aQ 0 p)(ht:fO s af l.length q)(hp:p<=q)(hq:q<=l.length):gq call (.tw x aQ af) s (.s ((l.drop p).take (q-p))) s.own s.n:=ln fun H ids st fr aw ae=>by
 have J:fr.ak x= .string ⟨⟨l⟩⟩:=ae.ak aa;refine⟨_,rfl,?_⟩;have e:bK call (.tw x aQ af) fr st=im (fr.ak x) (fun s=>fq fr af (db s.data.toList) (db s.data.toList) fun h=>fq fr aQ 0 h fun l=>jt s.data.toList l (h-l) (fun bT=>.ok (.string ⟨⟨bT⟩⟩) fr st) .no) .no:=rfl;rw[e,J,Cr];show fq fr af (db l) (db l) _=_;rw[fg,fO.ak ht ae hq,fO.ak gU ae hp,Ac (by show p+(q-p)<=l.length;omega)]
def ae5{l m:ac bv}(aa:bu s.env x=some (.s l))(aL:bu s.env y=some (.s m))(hl:l.length+m.length<=1099511627776):gq call (.bin .add x y) s (.s (l++m)) s.own s.n:=ln fun H ids st fr aw ae=>by
 have J:fr.ak x= .string ⟨⟨l⟩⟩:=ae.ak aa;have U:fr.ak y= .string ⟨⟨m⟩⟩:=ae.ak aL;refine⟨_,rfl,?_⟩;rw[EX,J,U,S4];show ek (db l+db m) (2^40) _ _=_;rw[fg,fg,gz (show _<=2^40 from hl),rz]
def arD{n:Int}(aa:bu s.env x=some (.i k m))(aL:bu s.env y=some (.i k n))(hn:n≠0):gq call (.bin .quo x y) s (.i k (k.wrap (m.tdiv n))) s.own s.n:=ln fun H ids st fr aw ae=>
 ⟨_,rfl,Bx (by decide) (by decide) (ae.ak aa) (ae.ak aL) (by show(if n=0 then none else _)=_;rw[zaa hn])⟩
def asg{n:Int}(aa:bu s.env x=some (.i k m))(aL:bu s.env y=some (.i k n))(hn:n≠0):gq call (.bin .rem x y) s (.i k (m.tmod n)) s.own s.n:=ln fun H ids st fr aw ae=>
 ⟨_,rfl,Bx (by decide) (by decide) (ae.ak aa) (ae.ak aL) (by show(if n=0 then none else _)=_;rw[zaa hn])⟩
def as9{k':d7}{m:Nat}(aa:bu s.env x=some (.i k (m:Int)))(aL:bu s.env y=some (.i k' (n:Int)))(hn:n<=k.bits):gq call (.bin .shr x y) s (.i k ((m/2^n:Nat):Int)) s.own s.n:=ln fun H ids st fr aw ae=>by
 obtain⟨v,J,U⟩:=Rm (call:=call) (k:=k) (a:=(m:Int)) (b:=(n:Int)) (r:=.i k ((m/2^n:Nat):Int)) (by show(match Nat.ble n k.bits with|true=>_|false=>_)=_;rw[zde hn]) (ae.ak aa) (ae.ak aL);exact⟨v,J _ _,U st⟩
end
def j1(H:bC)(st:ay)(b:Nat):bC:=fun c=>open Classical in if c=b then st.h.get b else H c
section
variable{H:bC}{ids:ac Nat}{st:ay}{own:ac bj}{n:Nat}
variable{k b:Nat}{o:bj}
def Ay(aw:Fit H ids st own n)(ab:own[k]? =some o)(hl:o.live=true)(hb:ids[k]? =some b):du H (j1 H st b):=fun c q hc=>by
 unfold j1;rw[zaa]
 ·exact hc
 ·intro e;rw[e,(aw.own k o b ab hb).2 hl]at hc;cases hc
def Fit.j1(aw:Fit H ids st own n)(ab:own[k]? =some o)(hl:o.live=true)(hb:ids[k]? =some b):Fit (Go.ar.j1 H st b) ids st (own.set k .x) n:=by
 refine⟨aw.wf,?_,by simp[aw.cE],aw.len,aw.c8,aw.lt,?_⟩
 ·intro c q hc;unfold Go.ar.j1 at hc;split at hc
  ·rename_i e;rw[e];exact hc
  ·exact aw.le c q hc
 ·intro j q c hj hc;rw[zaQ]at hj;by_cases je:k=j
  ·rw[zab je]at hj;split at hj<;>cases hj;exact⟨trivial,fun h=>by cases h⟩
  ·rw[zaa je]at hj;obtain⟨J,U⟩:=aw.own j q c hj hc;refine⟨v9 (Ay aw ab hl hb) (da.refl _) J,fun hq=> ?_⟩;unfold Go.ar.j1;rw[zaa]
   ·exact U hq
   ·intro e;subst e;have g1:=zaf.1 hb;have aM:=zaf.1 hc;exact je ((zct (h₀:=g1.1) (h₁:=aM.1) aw.c8).1 (g1.2.trans aM.2.symm))
def dN.j1{b1:bC}{i0:ac Nat}{aK:ay}(a0:dN b1 i0 aK H ids st)(aw:Fit H ids st own n)(ab:own[k]? =some o)(hl:o.live=true)(hb:ids[k]? =some b):dN b1 i0 aK (Go.ar.j1 H st b) ids st:=by
 refine⟨a0.hle.trans (Ay aw ab hl hb),?_,a0.hA,a0.ai,a0.lI,a0.new⟩;intro c hc hn;unfold Go.ar.j1;rw[zaa]
 ·exact a0.hold c hc hn
 ·intro e;subst e;rcases a0.new _ (zav hb)with h|h
  ·exact hn h
  ·omega
end
section
variable{aB:fl}{K:ac eE}{own:ac bj}{aH:Nat}{e:bO}
variable{z:Nat}{el:ce}{α:Type}{k o n c:Nat}{a8:Bool}{cs:ac aj}{p:dm}{R:α->ac aj}{l:ac α}
def Tw{t:Nat}(l':ac α)(aW:eb e t=some (.a5 k z o n c))(ab:own[k]? =some (.a el a8 z α R l))(hl:(l.drop o).take n=l')(hn:l'.length=n)(hc:n<=c)(hp:∀x,hQ (R x)=true)
 {H:bC} {ids:ac Nat} {st:ay} {fr:aP} (a0:dN aB.b1 aB.i0 aB.aK H ids st) (aw:Fit H ids st own aH) (ae:c9 fr H ids e):
 ∃bn,dN aB.b1 aB.i0 aB.aK bn ids st∧Fit bn ids st (own.set k .x) aH∧c9 fr bn ids ((t,.cc z α R l')::e):=by
 obtain⟨b,g1,aM⟩:=ae.get t _ aW;obtain⟨⟨vs,bc,cf,cL⟩,_⟩:=aw.own k _ b ab g1;have hle:=Ay aw ab rfl g1;refine⟨j1 H st b,a0.j1 aw ab rfl g1,aw.j1 ab rfl g1,(ae.mono hle (da.refl _)).pl,fun j q hj=> ?_⟩;rw[r8]at hj;cases hb:Nat.beq t j with
 |false=>rw[hb]at hj;exact(ae.mono hle (da.refl _)).get j q hj
 |true=>
  rw[hb]at hj;cases hj;rw[<-dD hb];refine .inr ⟨b,o*z,c,vs,el,(0,0),a8,by rw[hn];exact aM,by rw[hn];exact hc,by unfold j1;rw[zab rfl];exact bc,fun i x aa=> ?_⟩;rw[<-hl,zaG]at aa;split at aa
  ·rw[zaB]at aa;rw[<-zaj];exact my hle _ (da.refl _) (o2 _ (hp x) (cL _ x aa) [])
  ·cases aa
def arP(t:Nat)(l':ac α)(aW:eb e t=some (.a5 k z o n c))(ab:own[k]? =some (.a el a8 z α R l))(hl:(l.drop o).take n=l')(hn:l'.length=n)(hc:n<=c)(hp:∀x,hQ (R x)=true)
 (b5:aU.ok aB ⟨K,.c p,⟨own.set k .x,aH,(t,.cc z α R l')::e⟩⟩):aU.ok aB ⟨K,.c p,⟨own,aH,e⟩⟩:=fun H ids st fr a0 aw ae=>by
 obtain⟨bn,J,U,ag⟩:=Tw l' aW ab hl hn hc hp a0 aw ae;exact b5 bn ids st fr J U ag
def abb(t:Nat)(l':ac α){p:ac bz}(aW:eb e t=some (.a5 k z o n c))(ab:own[k]? =some (.a el a8 z α R l))(hl:(l.drop o).take n=l')(hn:l'.length=n)(hc:n<=c)(hp:∀x,hQ (R x)=true)
 (b5:aU.ok aB ⟨K,.o p,⟨own.set k .x,aH,(t,.cc z α R l')::e⟩⟩):aU.ok aB ⟨K,.o p,⟨own,aH,e⟩⟩:=fun H ids st fr a0 aw ae=>by
 obtain⟨bn,J,U,ag⟩:=Tw l' aW ab hl hn hc hp a0 aw ae;exact b5 bn ids st fr J U ag
def Rk(l:ac α)(ab:own[k]? =some (.c el cs))(dR:cs=l.flatMap R)(an:∀w,(R w).length=z){H:bC}{ids:ac Nat}{st:ay}(aw:Fit H ids st own aH):Fit H ids st (own.set k (.a el false z α R l)) aH:=by
 refine⟨aw.wf,aw.le,by simp[aw.cE],aw.len,aw.c8,aw.lt,?_⟩;intro j q c hj hc;rw[zaQ]at hj;by_cases je:k=j
 ·subst je;rw[zab rfl]at hj;split at hj<;>cases hj;obtain⟨⟨vs,ag,d⟩,az⟩:=aw.own k _ c ab hc;rw[dR]at d;have:=Ly an d;exact⟨⟨vs,ag,this.1,this.2⟩,fun _=>az rfl⟩
 ·rw[zaa je]at hj;exact aw.own j q c hj hc
def arK(k:Nat)(l:ac α)(ab:own[k]? =some (.c el cs))(dR:cs=l.flatMap R)(an:∀w,(R w).length=z)(b5:aU.ok aB ⟨K,.c p,⟨own.set k (.a el false z α R l),aH,e⟩⟩):aU.ok aB ⟨K,.c p,⟨own,aH,e⟩⟩:=fun H ids st fr a0 aw ae=>
 b5 H ids st fr a0 (Rk l ab dR an aw) ae
def aa8(k:Nat)(l:ac α){p:ac bz}(ab:own[k]? =some (.c el cs))(dR:cs=l.flatMap R)(an:∀w,(R w).length=z)(b5:aU.ok aB ⟨K,.o p,⟨own.set k (.a el false z α R l),aH,e⟩⟩):aU.ok aB ⟨K,.o p,⟨own,aH,e⟩⟩:=fun H ids st fr a0 aw ae=>
 b5 H ids st fr a0 (Rk l ab dR an aw) ae
end
structure bD where
 L:Type
 args:L->ac aj
 pre:L->Prop
 res:L->aj
 hp:bC->Prop:=fun _=>True
 hm:∀{H bn:bC},du H bn->hp H->hp bn:=by exact fun _ _=>trivial
def bD.spec(S:bD):Spec where
 L:=S.L×bC
 pre:=fun l vs st=>S.pre l.1∧S.hp l.2∧Fit l.2 [] st [] 0∧de l.2 (S.args l.1) [] vs
 post:=fun l vs st v st'=>∃bn,Fit bn [] st' [] 0∧dN l.2 [] st bn [] st'∧den bn (S.res l.1) [] v
def Fin(S:bD)(l:S.L)(res:ac h6)(x:dv)(s:cz):Prop:=(x= .norm∨x= .ret)∧∃r,tu s res=some r∧pt r=true∧bS r (S.res l)
where
 PQ (s:cz):h6->am aj
  |.tmp t=>eb s.env t
  |.cell a h7 n=>match eb s.env a with
   |some (.p k o)=>match s.own[k]? with
    |some (.c _ cs)=>xW cs o n (Jb h7)
    |_=>none
   |_=>none
 J2 (s:cz):ac h6->am (ac aj)
  |[]=>some []
  |r::rs=>match PQ s r with
   |some a=>match J2 s rs with
    |some as=>some (a::as)
    |none=>none
   |none=>none
 tu (s:cz) (l:ac h6):am aj:=match J2 s l with
  |some [a]=>some a
  |some as=>some (.bP as)
  |none=>none
variable{H:bC}{ids:ac Nat}{st:ay}{s:cz}{fr:aP}
def Fit.less{own:ac bj}{n:Nat}(h:Fit H ids st own n):Fit H [] st [] 0:=⟨h.wf,h.le,rfl,rfl,zdv,fun b hb=>by simp at hb,fun k o b ab=>by simp at ab⟩
def dN.refl(H:bC)(i:ac Nat)(st:ay):dN H i st H i st:=⟨du.refl _,fun _ _ _=>rfl,fun _ _ _=>rfl,b8 _,da.refl _,fun b hb=>.inl hb⟩
def dN.less{b1:bC}{aK:ay}(h:dN b1 [] aK H ids st):dN b1 [] aK H [] st:=⟨h.hle,h.hold,h.hA,h.ai,da.refl _,fun b hb=>.inl hb⟩
def asw(aw:Fit H ids st s.own s.n)(ae:c9 fr H ids s.env){r:h6}{a:aj}(h:Fin.PQ s r=some a):
 ∃v,den H a ids v∧∀vs:ac be,(h6.rec (motive:=fun _=>am (ac be)) (fun t=>some (fr.tmp t::vs)) (fun a agg n=>ik (fr.tmp a) (fun p=>bk p (fun ad=>st.load ad n (fun cs=>cond agg (some (.agg ⟨cs⟩::vs)) (one cs (fun v=>some (v::vs)) none)) none) none) none) r:am (ac be))=some (v::vs):=by
 cases r with
 |tmp t=>exact⟨_,ae.get t a h,fun vs=>rfl⟩
 |cell t h7 n=>
  simp only[Fin.PQ]at h;split at h<;>try cases h
  rename_i k o aW;split at h<;>try cases h
  rename_i el cs ab;obtain⟨b,g1,aM⟩:=ae.get t _ aW;obtain⟨⟨ws,bc,d⟩,_⟩:=aw.own k _ b ab g1;obtain⟨J,U⟩:=C7 h;have aA:=wb n (pR o d);have hl:=h9 (pR o d);have e:∀vs:ac be,ik (fr.tmp t) (fun p=>bk p (fun ad=>st.load ad n (fun cs=>cond h7 (some (.agg ⟨cs⟩::vs)) (one cs (fun v=>some (v::vs)) none)) none) none) none=cond h7 (some (.agg ⟨(ws.drop o).take n⟩::vs)) (one ((ws.drop o).take n) (fun v=>some (v::vs)) none):=fun vs=>by
   rw[aM,n7,Sym.en];unfold ay.load ay.gC;rw[Sym.gK,bc,kA,qw (by show n<=(ws.drop o).length;omega)]
  rcases Z6 U with⟨rfl,rfl⟩|⟨rfl,ag⟩
  ·exact⟨_,⟨_,rfl,aA⟩,fun vs=>e vs⟩
  ·rw[ag]at aA;obtain⟨v,us,aD,aA,hn⟩:=aA;cases hn;refine⟨v,aA,fun vs=>(e vs).trans ?_⟩;rw[aD];rfl
theorem PR{s:cz}{H:bC}{ids:ac Nat}{st:ay}{fr:aP}(aw:Fit H ids st s.own s.n)(ae:c9 fr H ids s.env):∀{rs:ac h6} {as:ac aj},Fin.J2 s rs=some as->∃vs,de H as ids vs∧o4 fr st rs=some vs
 |[],as,h=>by cases h;exact⟨[],rfl,rfl⟩
 |r::rs,as,h=>by
  unfold Fin.J2 at h;split at h<;>try cases h
  rename_i a J;split at h<;>try cases h
  rename_i as' U;obtain⟨v,g1,aM⟩:=asw aw ae J;obtain⟨vs,bc,cf⟩:=PR aw ae U;refine⟨v::vs,⟨v,vs,rfl,g1,bc⟩,?_⟩;show bk (o4 fr st rs) _ none=_;rw[cf];exact aM vs
def Fk{call:bG}(aw:Fit H ids st s.own s.n)(ae:c9 fr H ids s.env){rs:ac h6}{r:aj}(h:Fin.tu s rs=some r):∃v,den H r ids v∧gl call rs none fr st= .ret v st false:=by
 have e:∀vs,o4 fr st rs=some vs->gl call rs none fr st=one vs (fun v=>.ret v st false) (.ret (.tuple ⟨vs⟩) st false):=fun vs aD=>by
  unfold gl;rw[ae.pl.cS,ae.pl.cB];simp only[jD];show bk (o4 fr st rs) _ _=_;rw[aD];rfl
 unfold Fin.tu at h;split at h
 ·rename_i a ha;cases h;obtain⟨vs,⟨v,ws,rfl,J,U⟩,ag⟩:=PR aw ae ha;cases U;exact⟨v,J,(e _ ag).trans rfl⟩
 ·rename_i as hn ha;cases h;obtain⟨vs,J,ag⟩:=PR aw ae ha;refine⟨_,⟨vs,rfl,J⟩,(e _ ag).trans ?_⟩;have hl:=h9 J
  match vs,as,hl with
  |[],_,_=>rfl
  |[v],[a],_=>exact absurd ha (by intro _;exact hn a rfl)
  |_::_::_,_,_=>rfl
 ·cases h
def mA:Nat->ac aj->bO
 |_,[]=>[]
 |i,a::as=>(i,a)::mA (i+1) as
theorem SW:∀(as:ac aj) (i j:Nat) (a:aj),eb (mA i as) j=some a->i<=j∧as[j-i]? =some a
 |[],_,_,_,h=>by cases h
 |w::as,i,j,a,h=>by
  rw[mA,r8]at h;cases hb:Nat.beq i j with
  |true=>
   rw[hb]at h;have:=dD hb;subst this;cases h;exact⟨b8 _,by simp⟩
  |false=>
   rw[hb]at h;obtain⟨J,U⟩:=SW as (i+1) j a h;refine⟨by omega,?_⟩;have:j-i=(j-(i+1))+1:=by omega
   rw[this];simpa using U
def c9.zero{as:ac aj}{vs:ac be}(d:de H as ids vs):c9 (eL vs) H ids (mA 0 as):=by
 refine⟨vK.zero _,fun j a h=> ?_⟩;obtain⟨_,U⟩:=SW as 0 j a h;obtain⟨v,ag,az⟩:=wa d U;have hj:=(zaf.1 ag).1;have:(eL vs).tmp j=v:=by
  show Option.rec (motive:=fun _=>be) _ _ ((lV vs 0 .nil).get j)=v;rw[Ri,zab (by omega),ag]
 rw[this];exact az
variable{X:Ctx}
variable{S:bD}{xf:cM}
def LI{aZ:ao cM}(c5:Good X)(gJ:lU X aZ)(bY:ci->eY){f:ci}(aa:aZ.get f=some xf)(hl:∀l,(S.args l).length<=xf.aJ)
 (h:∀l,S.pre l->∀H aK,S.hp H->aU.ok ⟨b9 aZ (cg X bY) (bV+1),bV+1,f,H,[],aK,Fin S l xf.res⟩ ⟨[],.c xf.body,⟨[],0,mA 0 (S.args l)⟩⟩):bl X f S.spec:=by
 refine Sj c5 gJ bY aa (fun l vs st ⟨_,_,_,d⟩=>by rw[h9 d];exact hl l.1) ?_;rintro⟨l,H⟩ vs st ⟨hp,hh,aw,d⟩;refine(h l hp H st hh H [] st (eL vs) (dN.refl _ _ _) aw (c9.zero d)).mono ?_;rintro x fr st' ⟨bn,ids,s,a0,dp,ae,aa,r,J,U,hle⟩;obtain⟨v,ag,az⟩:=Fk (call:=b9 aZ (cg X bY) (bV+1)) dp ae J;exact⟨aa,v,az,bn,dp.less,a0.less,hle _ _ _ (Db _ U ag _)⟩
def agt{aZ:ao cM}(c5:Good X)(gJ:lU X aZ)(bY:ci->eY){f:ci}(aa:aZ.get f=some xf)(hl:∀l,(S.args l).length<=xf.aJ)
 (h:∀l,S.pre l->∀H aK,aU.ok ⟨b9 aZ (cg X bY) (bV+1),bV+1,f,H,[],aK,Fin S l xf.res⟩ ⟨[],.c xf.body,⟨[],0,mA 0 (S.args l)⟩⟩):bl X f S.spec:=LI c5 gJ bY aa hl fun l hp H aK _=>h l hp H aK
def RQ{aZ:ao cM}{bY:ci->eY}{g:ci}(hc:bl X g S.spec)(dw:bY g=S.spec.K){cq:ac bi}{as:ac aj}{n:Nat}(l:S.L)(ha:kG s.env cq=some as)(kE:hQ as=true)(he:hV as (S.args l))(hp:S.pre l){b1:bC}(hh:S.hp b1):
 xI b1 (b9 aZ (cg X bY) (n+1)) (.call (.func g) cq) s (S.res l) s.own s.n:=fun H ids st fr e5 aw ae=>by
 have aA:=he.den (o2 _ kE (ae.ey ha) []);obtain⟨v,st',J,U⟩:=hc _ st ⟨(l,H),hp,S.hm e5 hh,aw.less,aA⟩;obtain⟨v1,cu,g1,aM⟩:=I8 (X:=X) (K:=bY) (f:=g) ⟨v,st',by rw[dw];exact J,U⟩;rw[dw]at aM;obtain⟨bn,dp,cX,hH⟩:=aM (l,H) ⟨hp,S.hm e5 hh,aw.less,aA⟩;have bc:b9 aZ (cg X bY) (n+1) (.func (.func g) #[] #[]) (ey fr cq) none st= .ret v1 cu false:=by
  rw[rD];have e:fS (#[]:ap be).toList (fS (ey fr cq) (#[]:ap be).toList)=ey fr cq:=by simp
  rw[e,g1];rfl
 have hle:du H bn:=cX.hle;refine⟨v1,cu,ids,bn,?_,?_,ub (du.refl _) _ (da.nil _) hH,hle,da.refl _,?_,cX.ai,fun b hb _=>cX.hA b hb (by simp)⟩
 ·rw[u9];show nN (b9 aZ (cg X bY) (n+1) (.func (.func g) #[] #[]) (ey fr cq) none st) _ _=_;rw[bc];rfl
 ·refine⟨dp.wf,dp.le,aw.cE,aw.len,aw.c8,fun b hb=>fM (aw.lt b hb) cX.ai,fun k o b ab hb=> ?_⟩;obtain⟨ag,az⟩:=aw.own k o b ab hb;have aN:=aw.lt b (zav hb);rw[cX.hA b aN (by simp)];exact⟨v9 hle (da.refl _) ag,fun hl=>by rw[cX.hold b aN (by simp)];exact az hl⟩
 ·intro b1 i0 aK B;refine⟨B.hle.trans hle,fun b hb hn=> ?_,fun b hb hn=> ?_,zag B.ai cX.ai,B.lI,B.new⟩
  ·rw[cX.hold b (fM hb B.ai) (by simp)];exact B.hold b hb hn
  ·rw[cX.hA b (fM hb B.ai) (by simp)];exact B.hA b hb hn
section
variable{aZ:ao cM}{bY:ci->eY}{b4 n:Nat}{fn:ci}{b1:bC}{i0:ac Nat}{aK:ay}{Q:dv->cz->Prop}{K:ac eE}{own:ac bj}{aH:Nat}{e:bO}
variable{g:ci}{cq:ac bi}{as:ac aj}{d:Tmp}
def aX(hc:bl X g S.spec){xs:ac bz}(l:S.L)(hp:S.pre l)(k:aU.ok ⟨b9 aZ (cg X bY) (n+1),b4,fn,b1,i0,aK,Q⟩ ⟨K,.o xs,⟨own,aH,(d,S.res l)::e⟩⟩)
 (ha:kG e cq=some as:=by rfl) (he:hV as (S.args l):=by exact hV.refl _) (kE:hQ as=true:=by rfl) (dw:bY g=S.spec.K:=by rfl) (hh:S.hp b1:=by exact trivial):
 aU.ok ⟨b9 aZ (cg X bY) (n+1),b4,fn,b1,i0,aK,Q⟩ ⟨K,.o (⟨some d,.call (.func g) cq,none⟩::xs),⟨own,aH,e⟩⟩:=BY (d:=some d) (s:=⟨own,aH,e⟩) (RQ hc dw l ha kE he hp hh) k
def bQ(hc:bl X g S.spec){xs:ac (bz×cw)}{bA:ac bj}{a3:bO}{bd ca:Nat}(l:S.L)(hp:S.pre l)(k:aU.ok ⟨b9 aZ (cg X bY) (n+1),b4,fn,b1,i0,aK,Q⟩ ⟨K,.d xs bA (k9 d a3) (bd+1) aH,⟨own,aH,(d,S.res l)::e⟩⟩)
 (ha:kG e cq=some as:=by rfl) (he:hV as (S.args l):=by exact hV.refl _) (kE:hQ as=true:=by rfl) (dw:bY g=S.spec.K:=by rfl) (hh:S.hp b1:=by exact trivial):
 aU.ok ⟨b9 aZ (cg X bY) (n+1),b4,fn,b1,i0,aK,Q⟩ ⟨K,.d ((⟨some d,.call (.func g) cq,none⟩,.dX)::xs) bA a3 bd ca,⟨own,aH,e⟩⟩:=
 LJ (d:=some d) (s:=⟨own,aH,e⟩) (RQ hc dw l ha kE he hp hh) rfl (fun _ _ ab _=>⟨ab,by simp[jh]⟩) k
end
variable{l:S.L}{r:aj}{e:dv}
def b5:ac (Nat×eY)->ci->eY
 |[],_=>eY.no
 |p::l,g=>cond (Nat.beq p.1 g) p.2 (b5 l g)
def aii{res:ac h6}(J:Fin.tu s res=some r)(U:pt r=true)(ag:bS r (S.res l))(he:e= .ret∨e= .norm:=by first|exact .inl rfl|exact .inr rfl):Fin S l res e s:=⟨he.symm,r,J,U,ag⟩
def au{call:bG}{b4:Nat}{fn:ci}{b1:bC}{i0:ac Nat}{aK:ay}{res:ac h6}(J:Fin.tu s res=some r)(ag:bS r (S.res l))(U:pt r=true:=by rfl)(he:e= .ret∨e= .norm:=by first|exact .inl rfl|exact .inr rfl):aU.ok ⟨call,b4,fn,b1,i0,aK,Fin S l res⟩ ⟨[],.x e,s⟩:=eP (aii J U ag he)
end Go.ar
namespace Go.ar
open Sym
section
variable{aB:fl}{K:ac eE}{own bF:ac bj}{aH ck:Nat}{e:bO}{d:Tmp}{xs:ac bz}{x y i:bi}
variable{α:Type}{el:ce}{z n c j:Nat}{a8:Bool}{q cr o p:Nat}{aQ af:am bi}{a2:Nat}{a:aj}{cs:ac aj}{R:α->ac aj}{l:ac α}
def dr(q:α){b5:d7}(hj:l[j]? =some q)(k:aU.ok aB ⟨K,.o xs,⟨own,aH,(d,.ip (R q))::e⟩⟩)(aa:bu e x=some (.cc z α R l):=by rfl)(af:bu e i=some (.i b5 (j:Int)):=by rfl):aU.ok aB ⟨K,.o (⟨some d,.l8 z x i,none⟩::xs),⟨own,aH,e⟩⟩:=
 fJ (NH aa af hj) k
def vj{k0:Nat}{b5:d7}(k:aU.ok aB ⟨K,.o xs,⟨own,aH,(d,.gX k0 z (o+j) 0)::e⟩⟩)(aa:bu e x=some (.a5 k0 z o n c):=by rfl)(af:bu e i=some (.i b5 (j:Int)):=by rfl)(hj:j<n:=by omega):aU.ok aB ⟨K,.o (⟨some d,.l8 z x i,none⟩::xs),⟨own,aH,e⟩⟩:=
 fJ (XP aa af hj) k
def kK{k0:Nat}{b5:d7}(k:aU.ok aB ⟨K,.o xs,⟨own,aH,(d,.gX k0 z j 0)::e⟩⟩)(aa:bu e x=some (.a5 k0 z 0 n c):=by rfl)(af:bu e i=some (.i b5 (j:Int)):=by rfl)(hj:j<n:=by omega):aU.ok aB ⟨K,.o (⟨some d,.l8 z x i,none⟩::xs),⟨own,aH,e⟩⟩:=
 fJ (XP aa af hj) (by rw[zaC];exact k)
def tt{k0:Nat}(w:α)(hj:l[j]? =some w)(k:aU.ok aB ⟨K,.o xs,⟨own,aH,(d,a)::e⟩⟩)(aa:bu e x=some (.gX k0 z j q):=by rfl)(ab:own[k0]? =some (.a el a8 z α R l):=by rfl)(hq:(R w)[q]? =some a:=by rfl):aU.ok aB ⟨K,.o (⟨some d,.j8 x,none⟩::xs),⟨own,aH,e⟩⟩:=
 fJ (ao8 aa ab hj hq) k
def lN{k0:Nat}(w':α)(k:aU.ok aB ⟨K,.o xs,⟨bF,aH,e⟩⟩)(aa:bu e x=some (.gX k0 1 j 0):=by rfl)(aL:bu e y=some a:=by rfl)(ab:own[k0]? =some (.a el a8 1 α R l):=by rfl)(cT:R w'=[a]:=by rfl)(hc:tU a=true:=by rfl)(J:∀w,(R w).length=1:=by exact fun _=>rfl)
 (al:jk own k0 (.a el a8 1 α R (l.set j w')) some=some bF:=by rfl) (hj:j<l.length:=by first|omega|(simp;done)|(simp;omega)):aU.ok aB ⟨K,.o (⟨none,.store 1 x y,none⟩::xs),⟨own,aH,e⟩⟩:=by
 have:=kc al;cases this;exact ar0 (acy (s:=⟨own,aH,e⟩) w' aa aL ab cT hj hc J) k
def N6:ac be->am Nat
 |[]=>some 0
 |[_]=>some 1
 |[_,_]=>some 2
 |[_,_,_]=>some 3
 |[_,_,_,_]=>some 4
 |[_,_,_,_,_]=>some 5
 |[_,_,_,_,_,_]=>some 6
 |[_,_,_,_,_,_,_]=>some 7
 |l=>some l.length
def apj{l:ac be}(h:N6 l=some n):l.length=n:=by
 unfold N6 at h;split at h<;>cases h<;>rfl
def qk{jo:ac be}{k0 k':d7}(R:α->ac aj)(w:α)(k:aU.ok aB ⟨K,.o xs,⟨bF,ck,(d,.a5 aH z 0 n c)::e⟩⟩)(aa:bu e x=some (.i k0 (n:Int)):=by rfl)(aL:bu e y=some (.i k' (c:Int)):=by rfl)(an:N6 jo=some z:=by rfl)(cT:By jo=R w:=by rfl)
 (al:oQ own (.a el false z α R (List.replicate c w)) some=some bF:=by rfl) (ju:mS aH some=some ck:=by rfl) (hn:n<=c:=by omega) (hc:c*(cr+1)<=1099511627776:=by omega):aU.ok aB ⟨K,.o (⟨some d,.sb el cr jo x y,none⟩::xs),⟨own,aH,e⟩⟩:=by
 have J:=py al;have U:=nZ ju;cases J;cases U;exact fJ (mk (s:=⟨own,aH,e⟩) R w aa aL (apj an) cT hn hc) k
def JU{k0:Nat}(t:Nat)(l':ac α)(k:aU.ok aB ⟨K,.o xs,⟨bF,aH,(t,.cc z α R l')::e⟩⟩)(aW:eb e t=some (.a5 k0 z o n c):=by rfl)(ab:own[k0]? =some (.a el a8 z α R l):=by rfl)(hp:∀x,hQ (R x)=true:=by exact fun _=>rfl)
 (al:jk own k0 .x some=some bF:=by rfl) (hl:(l.drop o).take n=l':=by first|rfl|simp) (hn:l'.length=n:=by first|omega|(simp;done)|(simp;omega)) (hc:n<=c:=by omega):aU.ok aB ⟨K,.o xs,⟨own,aH,e⟩⟩:=by
 have J:=kc al;cases J;exact abb t l' aW ab hl hn hc hp k
def kb{k0:Nat}(t:Nat)(k:aU.ok aB ⟨K,.o xs,⟨bF,aH,(t,.cc z α R l)::e⟩⟩)(aW:eb e t=some (.a5 k0 z 0 n c):=by rfl)(ab:own[k0]? =some (.a el a8 z α R l):=by rfl)(hp:∀x,hQ (R x)=true:=by exact fun _=>rfl)
 (al:jk own k0 .x some=some bF:=by rfl) (hn:l.length=n:=by first|omega|(simp;done)|(simp;omega)) (hc:n<=c:=by omega):aU.ok aB ⟨K,.o xs,⟨own,aH,e⟩⟩:=
 JU t (l:=l) l k aW ab hp al (by rw[zap,zas (by omega)]) hn hc
def oN(k0:Nat)(R:α->ac aj)(l:ac α)(k:aU.ok aB ⟨K,.o xs,⟨bF,aH,e⟩⟩)(ab:own[k0]? =some (.c el cs):=by rfl)(an:∀w,(R w).length=z:=by exact fun _=>rfl)
 (al:jk own k0 (.a el false z α R l) some=some bF:=by rfl) (dR:cs=l.flatMap R:=by rfl):aU.ok aB ⟨K,.o xs,⟨own,aH,e⟩⟩:=by
 have J:=kc al;cases J;exact aa8 k0 l ab dR an k
def ar4{k0:Nat}(k:aU.ok aB ⟨K,.o xs,⟨own,aH,(d,.a5 k0 z (o+p) (q-p) (c-p))::e⟩⟩)(aa:bu e x=some (.a5 k0 z o n c):=by rfl)(ab:own[k0]? =some (.a el a8 z α R l):=by rfl)(gU:fO ⟨own,aH,e⟩ aQ 0 p:=by first|exact rfl|exact⟨_,rfl⟩)(ht:fO ⟨own,aH,e⟩ af n q:=by first|exact rfl|exact⟨_,rfl⟩)(hp:p<=q:=by omega)(hq:q<=n:=by omega)(hn:n<=c:=by omega)(hc:p<c∨p=0:=by omega):aU.ok aB ⟨K,.o (⟨some d,.oO z x aQ af none,none⟩::xs),⟨own,aH,e⟩⟩:=
 fJ (aub aa ab gU ht hp hq hn hc) k
def abe{k0:Nat}(k:aU.ok aB ⟨K,.o xs,⟨own,aH,(d,.a5 k0 z p (q-p) (c-p))::e⟩⟩)(aa:bu e x=some (.a5 k0 z 0 n c):=by rfl)(ab:own[k0]? =some (.a el a8 z α R l):=by rfl)(gU:fO ⟨own,aH,e⟩ aQ 0 p:=by first|exact rfl|exact⟨_,rfl⟩)(ht:fO ⟨own,aH,e⟩ af n q:=by first|exact rfl|exact⟨_,rfl⟩)(hp:p<=q:=by omega)(hq:q<=n:=by omega)(hn:n<=c:=by omega)(hc:p<c∨p=0:=by omega):aU.ok aB ⟨K,.o (⟨some d,.oO z x aQ af none,none⟩::xs),⟨own,aH,e⟩⟩:=
 ar4 (by rw[zaC];exact k) aa ab gU ht hp hq hn hc
def vh(R:α->ac aj)(l:ac α)(ah:m4 ⟨own,aH,e⟩ y R a2 l)(k:aU.ok aB ⟨K,.o xs,⟨bF,ck,(d,.a5 aH a2 0 l.length l.length)::e⟩⟩)(aa:bu e x=some .nl:=by rfl)
 (al:oQ own (.a el true a2 α R l) some=some bF:=by rfl) (ju:mS aH some=some ck:=by rfl) (h0:l≠[]:=by first|rfl|simp) (hb:(5*l.length+1792)*(cr+1)<=1125899906842624:=by first|omega|(simp;done)|(simp;omega)):aU.ok aB ⟨K,.o (⟨some d,.app el a2 cr x y,none⟩::xs),⟨own,aH,e⟩⟩:=by
 have J:=py al;have U:=nZ ju;cases J;cases U;exact fJ (K7 (s:=⟨own,aH,e⟩) aa (sD ah) h0 hb) k
def vg{k0:Nat}{g8:ac bj}(m:ac α)(ah:m4 ⟨own,aH,e⟩ y R a2 m)(k:aU.ok aB ⟨K,.o xs,⟨bF,ck,(d,.a5 aH a2 0 (n+m.length) (n+m.length))::e⟩⟩)(aa:bu e x=some (.a5 k0 a2 0 n c):=by rfl)(ab:own[k0]? =some (.a el true a2 α R l):=by rfl)
 (kD:jk own k0 .x some=some g8:=by rfl) (al:oQ g8 (.a el true a2 α R (l++m)) some=some bF:=by rfl) (ju:mS aH some=some ck:=by rfl) (h0:m≠[]:=by first|rfl|simp) (hn:n=l.length:=by first|omega|(simp;done)|(simp;omega)) (jf:n=c:=by omega) (hb:(5*(n+m.length)+1792)*(cr+1)<=1125899906842624:=by first|omega|(simp;done)|(simp;omega)):aU.ok aB ⟨K,.o (⟨some d,.app el a2 cr x y,none⟩::xs),⟨own,aH,e⟩⟩:=by
 have jK:=kc kD;cases jK;have J:=py al;have U:=nZ ju;cases J;cases U;have:=F5 (call:=aB.call) (s:=⟨own,aH,e⟩) (cr:=cr) aa ab (sD ah) h0 (by omega) (by omega) (by omega) hb;rw[hn,zbx]at this;rw[hn]at k;exact fJ this k
def aa6{k0:Nat}(m:ac α)(ah:m4 ⟨own,aH,e⟩ y R a2 m)(l':ac α)(k:aU.ok aB ⟨K,.o xs,⟨bF,aH,(d,.a5 k0 a2 0 (n+m.length) c)::e⟩⟩)(aa:bu e x=some (.a5 k0 a2 0 n c):=by rfl)(ab:own[k0]? =some (.a el false a2 α R l):=by rfl)
 (al:jk own k0 (.a el false a2 α R l') some=some bF:=by rfl) (h0:m≠[]:=by first|rfl|simp) (hn:n+m.length<=c:=by first|omega|(simp;done)|(simp;omega)) (hc:c<=l.length:=by first|omega|(simp;done)|(simp;omega)) (hb:(5*(n+m.length)+1792)*(cr+1)<=1125899906842624:=by first|omega|(simp;done)|(simp;omega)) (hl:l.take n++(m++l.drop (n+m.length))=l':=by first|rfl|simp):aU.ok aB ⟨K,.o (⟨some d,.app el a2 cr x y,none⟩::xs),⟨own,aH,e⟩⟩:=by
 subst hl;have J:=kc al;cases J;exact fJ (ad8 (s:=⟨own,aH,e⟩) aa ab (sD ah) h0 hn hc hb) k
def jj{k0:Nat}(l:ac α)(dR:cs=l.flatMap R)(aa:bu e x=some (.a5 k0 z 0 l.length c):=by rfl)(ab:own[k0]? =some (.c el cs):=by rfl)(an:∀w,(R w).length=z:=by exact fun _=>rfl)(hc:sG cs=true:=by rfl):m4 ⟨own,aH,e⟩ x R z l:=auh l aa rfl ab dR an hc rfl
def nu{l:ac bv}{b5:d7}(mo:bv)(hj:l[j]? =some mo)(k:aU.ok aB ⟨K,.o xs,⟨own,aH,(d,.i .u8 (mo.toNat:Int))::e⟩⟩)(aa:bu e x=some (.s l):=by rfl)(af:bu e i=some (.i b5 (j:Int)):=by rfl):aU.ok aB ⟨K,.o (⟨some d,.uP x i,none⟩::xs),⟨own,aH,e⟩⟩:=fJ (aoB aa af hj) k
def sk{l:ac bv}(l':ac bv)(k:aU.ok aB ⟨K,.o xs,⟨own,aH,(d,.s l')::e⟩⟩)(aa:bu e x=some (.s l):=by rfl)(gU:fO ⟨own,aH,e⟩ aQ 0 p:=by first|exact rfl|exact⟨_,rfl⟩)(ht:fO ⟨own,aH,e⟩ af l.length q:=by first|exact rfl|exact⟨_,rfl⟩)(hl:(l.drop p).take (q-p)=l':=by first|rfl|simp)(hp:p<=q:=by omega)(hq:q<=l.length:=by first|omega|(simp;done)|(simp;omega)):aU.ok aB ⟨K,.o (⟨some d,.tw x aQ af,none⟩::xs),⟨own,aH,e⟩⟩:=by
 subst hl;exact fJ (aud aa gU ht hp hq) k
def tr{l m:ac bv}(k:aU.ok aB ⟨K,.o xs,⟨own,aH,(d,.s (l++m))::e⟩⟩)(aa:bu e x=some (.s l):=by rfl)(aL:bu e y=some (.s m):=by rfl)(hl:l.length+m.length<=1099511627776:=by first|omega|(simp;done)|(simp;omega)):aU.ok aB ⟨K,.o (⟨some d,.bin .add x y,none⟩::xs),⟨own,aH,e⟩⟩:=fJ (ae5 aa aL hl) k
end
section
variable{aB:fl}{K:ac eE}{own:ac bj}{aH:Nat}{e:bO}{d:Tmp}{xs:ac bz}{x y:bi}
variable{m n:Nat}
def ar2(k:aU.ok aB ⟨K,.o xs,⟨own,aH,(d,.i .u64 ((m/n:Nat):Int))::e⟩⟩)(aa:bu e x=some (.i .u64 (m:Int)):=by rfl)(aL:bu e y=some (.i .u64 (n:Int)):=by rfl)(hn:n≠0:=by omega)(hm:m<18446744073709551616:=by omega):aU.ok aB ⟨K,.o (⟨some d,.bin .quo x y,none⟩::xs),⟨own,aH,e⟩⟩:=by
 have h:=arD (call:=aB.call) (s:=⟨own,aH,e⟩) aa aL (by omega);have aC:IntKind.u64.wrap ((m:Int).tdiv n)=((m/n:Nat):Int):=by
  show IntKind.u64.wrap ((m/n:Nat):Int)=_;have:=zaF m n;generalize m/n=q at *;exact ada (by omega) (by omega)
 rw[aC]at h;exact fJ h k
def ar3{k0:d7}(k:aU.ok aB ⟨K,.o xs,⟨own,aH,(d,.i k0 ((m%n:Nat):Int))::e⟩⟩)(aa:bu e x=some (.i k0 (m:Int)):=by rfl)(aL:bu e y=some (.i k0 (n:Int)):=by rfl)(hn:n≠0:=by omega):aU.ok aB ⟨K,.o (⟨some d,.bin .rem x y,none⟩::xs),⟨own,aH,e⟩⟩:=
 fJ (asg (s:=⟨own,aH,e⟩) aa aL (by omega)) k
def ar5{k0 ba:d7}(k:aU.ok aB ⟨K,.o xs,⟨own,aH,(d,.i k0 ((m/2^n:Nat):Int))::e⟩⟩)(aa:bu e x=some (.i k0 (m:Int)):=by rfl)(aL:bu e y=some (.i ba (n:Int)):=by rfl)(hn:n<=k0.bits:=by first|decide|(show _<=64;omega)):aU.ok aB ⟨K,.o (⟨some d,.bin .shr x y,none⟩::xs),⟨own,aH,e⟩⟩:=
 fJ (as9 (s:=⟨own,aH,e⟩) aa aL hn) k
end
variable{aB:fl}{K:ac eE}{s:cz}{n m:Int}{b:dm}{g hk:aU}{c:bb}{a:dm}{P:Prop}{k:d7}{p:Nat}{e bL:bO}{o:bj}
def Kk(d:Nat):aU->am aU
 |⟨K,c,⟨own,n,(t,a)::e⟩⟩=>match Nat.beq t d with
  |true=>none
  |false=>Ci ⟨K,c,⟨own,n,(t,a)::e⟩⟩
 |g=>Ci g
def acA(d:Nat)(h:Kk d g=some hk)(k:hk.ok aB):g.ok aB:=by
 unfold Kk at h;split at h
 ·split at h
  ·cases h
  ·exact xx h k
 ·exact xx h k
def R.mono{vI:ac eE}(h:∀x s,Sem aB K x s->Sem aB vI x s)(k:hW aB K c s)(dw:∀c0,KB aB vI c0->KB aB K c0:=by exact fun _ h=>h):hW aB vI c s:=by
 have up:∀x fr st,tL aB (Sem aB K) x fr st->tL aB (Sem aB vI) x fr st:=fun x fr st ⟨H,ids,s,J,U,ag,az⟩=>⟨H,ids,s,J,U,ag,h x s az⟩;cases c with
 |c c=>exact fun H ids st fr a0 aw ae=>(k H ids st fr a0 aw ae).mono up
 |o l=>exact fun H ids st fr a0 aw ae=>(k H ids st fr a0 aw ae).mono up
 |x e=>exact h e s k
 |d l bA a3 bd ca=>exact fun c0 hG H ids st fr fP ah a0 aw ae cp=>(k c0 (dw c0 hG) H ids st fr fP ah a0 aw ae cp).mono up
def cA{c:bi}[aA:Decidable P](ha:P->aU.ok aB ⟨K,.c a,s⟩)(hb:¬P->aU.ok aB ⟨K,.c b,s⟩)(hc:bu s.env c=some (.b (decide P)):=by rfl):aU.ok aB ⟨K,.c (.cond c a b),s⟩:=zk hc (fun h=>ha (zbI h)) (fun h=>hb (of_decide_eq_false h))
def BX{c:bi}[aA:Decidable P](ha:¬P->aU.ok aB ⟨K,.c a,s⟩)(hb:P->aU.ok aB ⟨K,.c b,s⟩)(hc:bu s.env c=some (.b (!decide P)):=by rfl):aU.ok aB ⟨K,.c (.cond c a b),s⟩:=zk hc (fun h=>ha (by simpa using h)) (fun h=>hb (by simpa using h))
def ij{L:Type _}(P:L->Prop)(T:L->cz)(J:aU.ok aB ⟨.b0 (xH aB.i0.length P T)::K,c,s⟩)(U:∀l,P l->aU.ok aB ⟨K,.c b,T l⟩):aU.ok aB ⟨.seq b::K,c,s⟩:=by
 refine R.mono (fun x s aa=> ?_) J;cases x with
 |norm=>obtain⟨f,l,hp,ah⟩:=aa;exact PF f _ ah (U l hp)
 |exit i=>exact aa
 |ret=>exact aa
 |a1 v=>exact aa
def e1(h:n=m:=by omega)(J: -9223372036854775808<=n:=by omega)(U:n<9223372036854775808:=by omega):some (aj.i .i64 (IntKind.i64.wrap n))=some (aj.i .i64 m):=by rw[hz J U,h]
def ct(h:n=m:=by omega)(J: -9223372036854775808<=n:=by omega)(U:n<9223372036854775808:=by omega):aj.i .i64 (IntKind.i64.wrap n)=aj.i .i64 m:=by rw[hz J U,h]
def l9(h:n=m:=by omega):some (aj.i k n)=some (aj.i k m):=by rw[h]
def fG(h:n=m:=by omega):aj.i k n=aj.i k m:=by rw[h]
def eD{own:ac bj}{n:Nat}(h:k5 [0] bL e)(al:∃bh,own[0]? =some bh∧gQ [0] o bh)(hp:pinned p [0] 0=true:=by rfl):Sub p [0] ⟨own,n,e⟩ ⟨[o],1,bL⟩:=⟨by simp,rfl,⟨al,trivial⟩,h,hp⟩
def pz{own:ac bj}{n:Nat}{q:bj}(h:k5 [0,1] bL e)(al:∃bh,own[0]? =some bh∧gQ [0,1] o bh)(hq:∃bh,own[1]? =some bh∧gQ [0,1] q bh)(hp:pinned p [0,1] 0=true:=by rfl):Sub p [0,1] ⟨own,n,e⟩ ⟨[o,q],2,bL⟩:=⟨by simp,rfl,⟨al,hq,trivial⟩,h,hp⟩
def axc(d:Nat)(k:hk.ok aB)(h:Kk d g=some hk:=by rfl):g.ok aB:=acA d h k
inductive zQ(d:Nat):aU->aU->Prop
 |o {g:aU}:zQ d g g
 |i {g g1 aM:aU} (h:Kk d g=some g1) (t:zQ d g1 aM):zQ d g aM
variable{q:bj}{aH:Nat}{aA:Decidable P}{j:Nat}{r:bj}
def auI{d:Nat}(h:zQ d g hk)(k:hk.ok aB):g.ok aB:=by
 induction h with
 |o=>exact k
 |i h _ a7=>exact acA d h (a7 k)
def aq(d:Nat)(k:hk.ok aB)(h:zQ d g hk:=by(repeat(apply zQ.i;exact rfl));exact .o):g.ok aB:=auI h k
def hF{n:Nat}(h:n<4611686018427387905:=by first|(show _-0<_;omega)|(show 0<_;omega)|omega):n<bV+1:=h
def dS{own:ac bj}(t:Nat)(h:P)(k:aU.ok aB ⟨K,c,⟨own,aH,(t,.b true)::e⟩⟩)(hl:eb e t=some (.b (decide P)):=by rfl)(hc:c.wR=false:=by rfl):aU.ok aB ⟨K,c,⟨own,aH,e⟩⟩:=ax t (.b true) hl (by rw[zac h]) k hc
def eu{own:ac bj}(t:Nat)(h:¬P)(k:aU.ok aB ⟨K,c,⟨own,aH,(t,.b false)::e⟩⟩)(hl:eb e t=some (.b (decide P)):=by rfl)(hc:c.wR=false:=by rfl):aU.ok aB ⟨K,c,⟨own,aH,e⟩⟩:=ax t (.b false) hl (by rw[zad h]) k hc
def dj{own:ac bj}{n:Nat}(h:k5 [] bL e:=by repeat first|exact trivial|refine⟨rfl,?_⟩)(hp:pinned p [] 0=true:=by rfl):Sub p [] ⟨own,n,e⟩ ⟨[],0,bL⟩:=kd h hp
def dI{own:ac bj}{n k:Nat}(h:k5 [k] bL e:=by repeat first|exact trivial|refine⟨rfl,?_⟩)(al:∃bh,own[k]? =some bh∧gQ [k] o bh:=by first|exact⟨_,rfl,rfl,fun _=>rfl⟩|exact⟨_,rfl,rfl⟩)(hp:pinned p [k] 0=true:=by rfl):Sub p [k] ⟨own,n,e⟩ ⟨[o],1,bL⟩:=⟨by simp,rfl,⟨al,trivial⟩,h,hp⟩
def jS{own:ac bj}{n k m:Nat}(h:k5 [k,m] bL e:=by repeat first|exact trivial|refine⟨rfl,?_⟩)(al:∃bh,own[k]? =some bh∧gQ [k,m] o bh:=by first|exact⟨_,rfl,rfl,fun _=>rfl⟩|exact⟨_,rfl,rfl⟩)(hq:∃bh,own[m]? =some bh∧gQ [k,m] q bh:=by first|exact⟨_,rfl,rfl,fun _=>rfl⟩|exact⟨_,rfl,rfl⟩)(ab:k≠m:=by decide)(hp:pinned p [k,m] 0=true:=by rfl):Sub p [k,m] ⟨own,n,e⟩ ⟨[o,q],2,bL⟩:=⟨by simpa using ab,rfl,⟨al,hq,trivial⟩,h,hp⟩
def rh{own:ac bj}{n k m:Nat}(h:k5 [k,m,j] bL e:=by repeat first|exact trivial|refine⟨rfl,?_⟩)(al:∃bh,own[k]? =some bh∧gQ [k,m,j] o bh:=by first|exact⟨_,rfl,rfl,fun _=>rfl⟩|exact⟨_,rfl,rfl⟩)(hq:∃bh,own[m]? =some bh∧gQ [k,m,j] q bh:=by first|exact⟨_,rfl,rfl,fun _=>rfl⟩|exact⟨_,rfl,rfl⟩)(aE:∃bh,own[j]? =some bh∧gQ [k,m,j] r bh:=by first|exact⟨_,rfl,rfl,fun _=>rfl⟩|exact⟨_,rfl,rfl⟩)(ab:[k,m,j].Nodup:=by decide)(hp:pinned p [k,m,j] 0=true:=by rfl):Sub p [k,m,j] ⟨own,n,e⟩ ⟨[o,q,r],3,bL⟩:=⟨ab,rfl,⟨al,hq,aE,trivial⟩,h,hp⟩
def sn{own:ac bj}{n k m i:Nat}{t:bj}(h:k5 [k,m,j,i] bL e:=by repeat first|exact trivial|refine⟨rfl,?_⟩)(al:∃bh,own[k]? =some bh∧gQ [k,m,j,i] o bh:=by first|exact⟨_,rfl,rfl,fun _=>rfl⟩|exact⟨_,rfl,rfl⟩)(hq:∃bh,own[m]? =some bh∧gQ [k,m,j,i] q bh:=by first|exact⟨_,rfl,rfl,fun _=>rfl⟩|exact⟨_,rfl,rfl⟩)(aE:∃bh,own[j]? =some bh∧gQ [k,m,j,i] r bh:=by first|exact⟨_,rfl,rfl,fun _=>rfl⟩|exact⟨_,rfl,rfl⟩)(aW:∃bh,own[i]? =some bh∧gQ [k,m,j,i] t bh:=by first|exact⟨_,rfl,rfl,fun _=>rfl⟩|exact⟨_,rfl,rfl⟩)(ab:[k,m,j,i].Nodup:=by decide)(hp:pinned p [k,m,j,i] 0=true:=by rfl):Sub p [k,m,j,i] ⟨own,n,e⟩ ⟨[o,q,r,t],4,bL⟩:=⟨ab,rfl,⟨al,hq,aE,aW,trivial⟩,h,hp⟩
section
variable{call:bG}{fr:aP}{H:bC}{ids:ac Nat}{e:bO}{x y i:bi}
variable{z:Nat}
def XO{α:Type}{R:α->ac aj}{l:ac α}{q:α}{b5:d7}(ae:c9 fr H ids e)(aa:bu e x=some (.cc z α R l))(af:bu e i=some (.i b5 (j:Int)))(hj:l[j]? =some q):∃v,den H (.ip (R q)) ids v∧∀st,bK call (.l8 z x i) fr st= .ok v fr st:=by
 have ag:fr.ak i= .int b5 (j:Int):=ae.ak af;have aN:=(zaf.1 hj).1;rcases ae.ak aa with⟨hl,_⟩|⟨b,o,c,vs,el,bg,a8,J,U,az,a4⟩
 ·subst hl;simp at aN
 ·refine⟨_,⟨b,o+j*z,vs,el,bg,a8,rfl,az,?_⟩,fun st=>IT J ag aN⟩;have aA:=a4 j q hj;have hl:=h9 aA;rw[<-hl];rw[show(vs.drop (o+j*z)).take ((vs.drop (o+j*z)).take z).length=(vs.drop (o+j*z)).take z by rw[zao,<-List.take_eq_take_min]];exact aA
def an9{k o n c:Nat}{b5:d7}(ae:c9 fr H ids e)(aa:bu e x=some (.a5 k z o n c))(af:bu e i=some (.i b5 (j:Int)))(hj:j<n):∃v,den H (.gX k z (o+j) 0) ids v∧∀st,bK call (.l8 z x i) fr st= .ok v fr st:=by
 obtain⟨b,J,U⟩:=ae.ak aa;have ag:fr.ak i= .int b5 (j:Int):=ae.ak af;exact⟨_,⟨b,J,by rw[zaj,zaX]⟩,fun st=>IT U ag hj⟩
end
section
variable{aB:fl}{K:ac eE}{own bA:ac bj}{aH bd ca back:Nat}{e a3:bO}{d:Tmp}{ts:ac Tmp}{xs:ac (bz×cw)}{x y i:bi}
variable{z:Nat}{α:Type}{el:ce}{a8:Bool}{R:α->ac aj}{l:ac α}
def eU(q:α){b5:d7}(hj:l[j]? =some q)(k:aU.ok aB ⟨K,.d xs bA ((d,.ip (R q))::a3) bd ca,⟨own,aH,(d,.ip (R q))::e⟩⟩)(aa:bu (ff ts a3) x=some (.cc z α R l):=by rfl)(af:bu (ff ts a3) i=some (.i b5 (j:Int)):=by rfl)(hb:back<bd:=by decide):aU.ok aB ⟨K,.d ((⟨some d,.l8 z x i,none⟩,.read back ts)::xs) bA a3 bd ca,⟨own,aH,e⟩⟩:=
 qx (d:=some d) hb (fun H ids st fr ae _ _=>let⟨v,J,U⟩:=XO ae aa af hj;⟨v,J,fun ch _ _=>U ch⟩) k
def agD{k0 o n c:Nat}{b5:d7}(k:aU.ok aB ⟨K,.d xs bA ((d,.gX k0 z (o+j) 0)::a3) bd ca,⟨own,aH,(d,.gX k0 z (o+j) 0)::e⟩⟩)(aa:bu (ff ts a3) x=some (.a5 k0 z o n c):=by rfl)(af:bu (ff ts a3) i=some (.i b5 (j:Int)):=by rfl)(hj:j<n:=by omega)(hb:back<bd:=by decide):aU.ok aB ⟨K,.d ((⟨some d,.l8 z x i,none⟩,.read back ts)::xs) bA a3 bd ca,⟨own,aH,e⟩⟩:=
 qx (d:=some d) hb (fun H ids st fr ae _ _=>let⟨v,J,U⟩:=an9 ae aa af hj;⟨v,J,fun ch _ _=>U ch⟩) k
def mv{k0 n c:Nat}{b5:d7}(k:aU.ok aB ⟨K,.d xs bA ((d,.gX k0 z j 0)::a3) bd ca,⟨own,aH,(d,.gX k0 z j 0)::e⟩⟩)(aa:bu (ff ts a3) x=some (.a5 k0 z 0 n c):=by rfl)(af:bu (ff ts a3) i=some (.i b5 (j:Int)):=by rfl)(hj:j<n:=by omega)(hb:back<bd:=by decide):aU.ok aB ⟨K,.d ((⟨some d,.l8 z x i,none⟩,.read back ts)::xs) bA a3 bd ca,⟨own,aH,e⟩⟩:=
 agD (by rw[zaC];exact k) aa af hj hb
def GJ{k0 q:Nat}(w:α){a:aj}(hj:l[j]? =some w)(k:aU.ok aB ⟨K,.d xs bA ((d,a)::a3) bd ca,⟨own,aH,(d,a)::e⟩⟩)(aa:bu (ff ts a3) x=some (.gX k0 z j q):=by rfl)(ab:bA[k0]? =some (.a el a8 z α R l):=by rfl)(hq:(R w)[q]? =some a:=by rfl)(hb:back<bd:=by decide):aU.ok aB ⟨K,.d ((⟨some d,.j8 x,none⟩,.read back ts)::xs) bA a3 bd ca,⟨own,aH,e⟩⟩:=
 qx (d:=some d) hb (fun H ids st fr ae hl al=>by
  obtain⟨b,J,U⟩:=ae.ak aa;obtain⟨vs,ag,az,a4⟩:=al k0 _ b ab rfl J;obtain⟨v,aD,aA⟩:=wa (a4 j w hj) hq;refine⟨v,aA,fun ch _ ah=>Bg U ((ah k0 _ b ab rfl J).trans ag) ?_⟩;rw[zaG]at aD;split at aD
  ·rw[zaB]at aD;exact aD
  ·cases aD) k
def o1{k0:Nat}{a:aj}{bF g8:ac bj}(w':α)(k:aU.ok aB ⟨K,.d xs g8 a3 (bd+1) aH,⟨bF,aH,e⟩⟩)(aa:bu e x=some (.gX k0 1 j 0):=by rfl)(aL:bu e y=some a:=by rfl)(ab:own[k0]? =some (.a el a8 1 α R l):=by rfl)(cT:R w'=[a]:=by rfl)(hc:tU a=true:=by rfl)(J:∀w,(R w).length=1:=by exact fun _=>rfl)
 (al:jk own k0 (.a el a8 1 α R (l.set j w')) some=some bF:=by rfl) (kD:E0 bA (some k0) some=some g8:=by rfl) (hj:j<l.length:=by first|omega|(simp;done)|(simp;omega)):aU.ok aB ⟨K,.d ((⟨none,.store 1 x y,none⟩,.dX)::xs) bA a3 bd ca,⟨own,aH,e⟩⟩:=by
 have h:=kc al;cases h;obtain⟨Ja,g1,aM,bc⟩:=OV kD;cases g1;exact v8 (d:=none) (s:=⟨own,aH,e⟩) (acy (s:=⟨own,aH,e⟩) w' aa aL ab cT hj hc J) aM (fun k o fF hl=>by
  have:=bc k o fF hl;simp only[jh,aa];exact this) k
end
structure kx where
 L:Type
 own:L->ac bj
 args:L->ac aj
 pre:L->Prop
 bF:L->ac bj
 res:L->aj
 hp:bC->Prop:=fun _=>True
 hm:∀{H bn:bC},du H bn->hp H->hp bn:=by exact fun _ _=>trivial
def kx.spec(S:kx):Spec where
 L:=S.L×bC×ac Nat
 pre:=fun l vs st=>S.pre l.1∧S.hp l.2.1∧Fit l.2.1 l.2.2 st (S.own l.1) (S.own l.1).length∧de l.2.1 (S.args l.1) l.2.2 vs
 post:=fun l vs st v st'=>∃bn,Fit bn l.2.2 st' (S.bF l.1) (S.own l.1).length∧dN l.2.1 l.2.2 st bn l.2.2 st'∧den bn (S.res l.1) l.2.2 v
def KF(S:kx)(l:S.L)(res:ac h6)(x:dv)(s:cz):Prop:=(x= .norm∨x= .ret)∧(∃r,Fin.tu s res=some r∧pt r=true∧bS r (S.res l))∧∃f,f.length=(S.own l).length∧Sub (S.own l).length f s ⟨S.bF l,(S.own l).length,[]⟩
def OZ{f ids i0:ac Nat}(ae:f.length=i0.length)(hp:pinned i0.length f 0=true)(af:da i0 ids):pick f ids=i0:=by
 apply zbw;intro k;by_cases ab:k<i0.length
 ·have J:=O0 hp k ab;rw[zaC]at J;have U:=af k _ (bm ab);rw[y8 J U,bm ab]
 ·rw[zbz (by simp[pick];omega),zbz (by omega)]
variable{X:Ctx}
variable{f:ci}{xf:cM}{S:kx}
def agq{aZ:ao cM}(c5:Good X)(gJ:lU X aZ)(bY:ci->eY)(aa:aZ.get f=some xf)(hl:∀l,(S.args l).length<=xf.aJ)
 (h:∀l,S.pre l->∀H i0 aK,S.hp H->i0.length=(S.own l).length->aU.ok ⟨b9 aZ (cg X bY) (bV+1),bV+1,f,H,i0,aK,KF S l xf.res⟩ ⟨[],.c xf.body,⟨S.own l,(S.own l).length,mA 0 (S.args l)⟩⟩):bl X f S.spec:=by
 refine Sj c5 gJ bY aa (fun l vs st ⟨_,_,_,d⟩=>by rw[h9 d];exact hl l.1) ?_;rintro⟨l,H,i0⟩ vs st ⟨hp,hh,aw,d⟩;simp only at hp hh aw d;refine(h l hp H i0 st hh aw.len H i0 st (eL vs) (dN.refl _ _ _) aw (c9.zero d)).mono ?_;rintro x fr st' ⟨bn,ids,s,a0,dp,ae,aa,⟨r,J,U,hle⟩,g,aR,ah⟩;obtain⟨v,ag,az⟩:=Fk (call:=b9 aZ (cg X bY) (bV+1)) dp ae J;have AU:i0.length=(S.own l).length:=aw.len;have eB:Sub i0.length g s ⟨S.bF l,(S.own l).length,[]⟩:=by rw[AU];exact ah
 have D8:=OZ (by omega) eB.Jd a0.lI;have ye:=eB.fit dp;have WJ:=eB.bT dp a0;rw[D8]at ye WJ;exact⟨aa,v,az,bn,ye,WJ,hle _ _ _ (Db _ U ag _)⟩
def agr{aZ:ao cM}(c5:Good X)(gJ:lU X aZ)(bY:ci->eY)(aa:aZ.get f=some xf)(hl:∀l,(S.args l).length<=xf.aJ)
 (h:∀l,S.pre l->∀H i0 aK,i0.length=(S.own l).length->aU.ok ⟨b9 aZ (cg X bY) (bV+1),bV+1,f,H,i0,aK,KF S l xf.res⟩ ⟨[],.c xf.body,⟨S.own l,(S.own l).length,mA 0 (S.args l)⟩⟩):bl X f S.spec:=agq c5 gJ bY aa hl fun l hp H i0 aK _ hl=>h l hp H i0 aK hl
mutual
theorem SB{H:bC}{f ids:ac Nat}(ae:∀k m:Nat,f[k]? =some m->m<ids.length):∀(a:aj) {v:be},den H a (pick f ids) v->den H (n2 f a) ids v
 |.i _ _,_,d=>d
 |.b _,_,d=>d
 |.s _,_,d=>d
 |.nl,_,d=>d
 |.v _,_,d=>d
 |.p k o,v,⟨b,e,d⟩=>by
  obtain⟨m,J,U⟩:=E2 ae e;unfold n2;rw[J];exact⟨b,U,d⟩
 |.gX k z j o,v,⟨b,e,d⟩=>by
  obtain⟨m,J,U⟩:=E2 ae e;unfold n2;rw[J];exact⟨b,U,d⟩
 |.a5 k z o n c,v,⟨b,e,d⟩=>by
  obtain⟨m,J,U⟩:=E2 ae e;unfold n2;rw[J];exact⟨b,U,d⟩
 |.cc _ _ _ _,_,d=>d
 |.jP _ _ _ _,_,d=>d
 |.a6 _ _ _ _,_,d=>d
 |.ip _,_,d=>d
 |.fn _ bB cs,_,⟨vs,ws,e,d1,d2⟩=>⟨vs,ws,e,Af ae bB d1,Af ae cs d2⟩
 |.agg cs,_,⟨vs,e,d⟩=>⟨vs,e,Af ae cs d⟩
 |.bP cs,_,⟨vs,e,d⟩=>⟨vs,e,Af ae cs d⟩
 |.bad,_,d=>d.elim
theorem Af{H:bC}{f ids:ac Nat}(ae:∀k m:Nat,f[k]? =some m->m<ids.length):∀(a:ac aj) {v:ac be},de H a (pick f ids) v->de H (rb f a) ids v
 |[],_,d=>d
 |a::as,_,⟨v,ws,e,d1,d2⟩=>⟨v,ws,e,SB ae a d1,Af ae as d2⟩
theorem E2{f ids:ac Nat}(ae:∀k m:Nat,f[k]? =some m->m<ids.length){k b:Nat}(h:(pick f ids)[k]? =some b):∃m,f[k]? =some m∧ids[m]? =some b:=by
 unfold pick at h;rw[zcs]at h;cases ab:f[k]? with
 |none=>rw[ab]at h;cases h
 |some m=>
  rw[ab]at h;have hm:=ae k m ab;have h:some ((ids[m]?).getD 0)=some b:=h;rw[bm hm]at h;exact⟨m,rfl,by rw[bm hm];exact h⟩
end
def Cv(f:ac Nat):bj->bj->Prop
 |.c el cs,o=>o= .c el (rb f cs)
 |.a el a8 z α R l,o=>o= .a el a8 z α R l∧∀x,hQ (R x)=true
 |.x,o=>o= .x
def Cv.den{H:bC}{f ids:ac Nat}(ae:∀k m:Nat,f[k]? =some m->m<ids.length){bh:bj}{eI:am bt}(h:Cv f o bh)(d:mx H (pick f ids) o eI):mx H ids bh eI∧bh.live=o.live:=by
 cases o with
 |c el cs=>cases h;obtain⟨vs,e,d⟩:=d;exact⟨⟨vs,e,Af ae cs d⟩,rfl⟩
 |a el a8 z α R l=>
  obtain⟨h,hp⟩:=h;cases h;obtain⟨vs,aC,e2,d⟩:=d;exact⟨⟨vs,aC,e2,fun i x aa=>o2 _ (hp x) (d i x aa) _⟩,rfl⟩
 |x=>cases h;exact⟨trivial,rfl⟩
def KA(f:ac Nat)(own bF:ac bj)(os:ac bj):Prop:=bF.length=own.length∧(∀j:Nat,j∉f->bF[j]? =own[j]?)∧∀(i k:Nat) (bh:bj),f[i]? =some k->bF[k]? =some bh->∃o,os[i]? =some o∧Cv f o bh
variable{bF:ac bj}{bY:ci->eY}{b1:bC}{i0:ac Nat}{aK:ay}{cq:ac bi}{as:ac aj}{bh:bj}{b4:Nat}{Q:dv->cz->Prop}{d:am Tmp}{xs:ac bz}
def aeF{k:Nat}{own:ac bj}(h:jk own k bh some=some bF)(hb:Cv [k] o bh):KA [k] own bF [o]:=by
 have:=kc h;cases this;refine⟨by simp,fun j hj=>zbc (by simpa using fun e=>hj (by simp[e])),fun i k' q ab hq=> ?_⟩;cases i with
 |zero=>
  simp at ab;subst ab;rw[zaQ]at hq;rw[zab rfl]at hq;split at hq<;>cases hq;exact⟨o,rfl,hb⟩
 |succ i=>simp at ab
def ae2{aZ:ao cM}{n:Nat}{own:ac bj}{g:ci}(hc:bl X g S.spec)(f:ac Nat)(l:S.L)(hp:S.pre l)(hh:S.hp b1)
 (ah:Sub 0 f ⟨own,aH,e⟩ ⟨S.own l,(S.own l).length,[]⟩) (hb:KA f own bF (S.bF l))
 (ha:kG e cq=some as) (he:as=rb f (S.args l)) (dw:bY g=S.spec.K) {H:bC} {ids:ac Nat} {st:ay} {fr:aP} (a0:dN b1 i0 aK H ids st) (aw:Fit H ids st own aH) (ae:c9 fr H ids e):
 ∃v st' c6 bn,bK (b9 aZ (cg X bY) (n+1)) (.call (.func g) cq) fr st= .ok v fr st'∧Fit bn c6 st' bF aH∧den bn (n2 f (S.res l)) c6 v∧du H bn∧da ids c6∧dN b1 i0 aK bn c6 st'∧st.ai<=st'.ai:=by
 subst he;have o8:=ah.fit aw;have aA:=x1 f _ (ae.ey ha);obtain⟨v,st',J,U⟩:=hc _ st ⟨(l,H,pick f ids),hp,S.hm a0.hle hh,o8,aA⟩;obtain⟨v1,cu,g1,aM⟩:=I8 (X:=X) (K:=bY) (f:=g) ⟨v,st',by rw[dw];exact J,U⟩;rw[dw]at aM;obtain⟨bn,dp,cX,hH⟩:=aM (l,H,pick f ids) ⟨hp,S.hm a0.hle hh,o8,aA⟩;simp only at dp cX hH;have aN:∀k m:Nat,f[k]? =some m->m<ids.length:=fun k m ab=>by
  have hl:(S.own l).length=f.length:=ah.own.len;have J:=(zaf.1 ab).1;obtain⟨fz,bh,U,ag,_⟩:=ah.own.get (bm (show k<(S.own l).length by omega));rw[ab]at U;cases U;rw[aw.len,<-aw.cE];exact(zaf.1 ag).1
 have D3:∀(j b:Nat),j∉f->ids[j]? =some b->b∉pick f ids:=fun j b hj hb hm=>by
  obtain⟨k,ab⟩:=zcu.1 hm;obtain⟨m,ag,az⟩:=E2 aN ab;have aC:=zaf.1 hb;have e2:=zaf.1 az;have:=(zct (h₀:=aC.1) (h₁:=e2.1) aw.c8).1 (aC.2.trans e2.2.symm);exact hj (this▸zav ag)
 have bc:b9 aZ (cg X bY) (n+1) (.func (.func g) #[] #[]) (ey fr cq) none st= .ret v1 cu false:=by
  rw[rD];have e:fS (#[]:ap be).toList (fS (ey fr cq) (#[]:ap be).toList)=ey fr cq:=by simp
  rw[e,g1];rfl
 have hle:du H bn:=cX.hle;refine⟨v1,cu,ids,bn,?_,?_,SB aN _ hH,hle,da.refl _,?_,cX.ai⟩
 ·rw[u9];show nN (b9 aZ (cg X bY) (n+1) (.func (.func g) #[] #[]) (ey fr cq) none st) _ _=_;rw[bc];rfl
 ·obtain⟨hL,p3,ame⟩:=hb;refine⟨dp.wf,dp.le,by rw[hL];exact aw.cE,aw.len,aw.c8,fun b hb=>fM (aw.lt b hb) cX.ai,fun j o b hj qI=> ?_⟩;by_cases MW:j∈f
  ·obtain⟨i,af⟩:=zcu.1 MW;obtain⟨ho,am7,uA⟩:=ame i j o af hj;have No:=y8 af qI;obtain⟨ag,az⟩:=dp.own i ho b am7 No;obtain⟨a4,cl⟩:=uA.den aN ag;exact⟨a4,fun hl=>az (by rw[<-cl];exact hl)⟩
  ·have hj:bF[j]? =some o:=hj;rw[p3 j MW]at hj;obtain⟨ag,az⟩:=aw.own j o b hj qI;have Xm:=aw.lt b (zav qI);have kU:=D3 j b MW qI;rw[cX.hA b Xm kU];exact⟨v9 hle (da.refl _) ag,fun hl=>by rw[cX.hold b Xm kU];exact az hl⟩
 ·have AR:∀b,b∈pick f ids->b∈ids:=fun b hb=>by
   obtain⟨k,ab⟩:=zcu.1 hb;obtain⟨m,_,az⟩:=E2 aN ab;exact zav az
  have qM:∀b,b<aK.ai->b∉i0->b∉pick f ids:=fun b hb hn hm=>by
   rcases a0.new b (AR b hm)with h|h
   ·exact hn h
   ·have h:aK.ai<=b:=h;omega
  refine⟨a0.hle.trans hle,fun b hb hn=> ?_,fun b hb hn=> ?_,zag a0.ai cX.ai,a0.lI,a0.new⟩
  ·rw[cX.hold b (fM hb a0.ai) (qM b hb hn)];exact a0.hold b hb hn
  ·rw[cX.hA b (fM hb a0.ai) (qM b hb hn)];exact a0.hA b hb hn
def ae1{aZ:ao cM}{n:Nat}{fn:ci}{own:ac bj}{g:ci}(hc:bl X g S.spec)(f:ac Nat)(l:S.L)(hp:S.pre l)
 (ah:Sub 0 f ⟨own,aH,e⟩ ⟨S.own l,(S.own l).length,[]⟩) (hb:KA f own bF (S.bF l)) (k:aU.ok ⟨b9 aZ (cg X bY) (n+1),b4,fn,b1,i0,aK,Q⟩ ⟨K,.o xs,⟨bF,aH,fj d (n2 f (S.res l)) e⟩⟩)
 (ha:kG e cq=some as) (he:as=rb f (S.args l)) (dw:bY g=S.spec.K) (hh:S.hp b1):
 aU.ok ⟨b9 aZ (cg X bY) (n+1),b4,fn,b1,i0,aK,Q⟩ ⟨K,.o (⟨d,.call (.func g) cq,none⟩::xs),⟨own,aH,e⟩⟩:=fun H ids st fr a0 aw ae=>by
 obtain⟨v,st',c6,bn,cv,cF,dU,iE,vb,Jm,_⟩:=ae2 (n:=n) hc f l hp hh ah hb ha he dw a0 aw ae;exact su cv (k bn c6 st' _ Jm cF ((ae.mono iE vb).fj d dU))
def aa9{aZ:ao cM}{n:Nat}{fn:ci}{own:ac bj}{g:ci}(hc:bl X g S.spec)(k0:Nat)(l:S.L)(hp:S.pre l)
 (k:aU.ok ⟨b9 aZ (cg X bY) (n+1),b4,fn,b1,i0,aK,Q⟩ ⟨K,.o xs,⟨bF,aH,fj d (n2 [k0] (S.res l)) e⟩⟩) (al:S.own l=[o]:=by rfl) (hx:S.bF l=[bh]:=by rfl)
 (ab:∃qe,own[k0]? =some qe∧gQ [k0] o qe:=by exact⟨_,rfl,rfl,fun _=>rfl⟩) (ah:jk own k0 bh some=some bF:=by rfl) (hb:Cv [k0] bh bh:=by exact⟨rfl,fun _=>rfl⟩)
 (ha:kG e cq=some as:=by rfl) (he:as=rb [k0] (S.args l):=by rfl) (dw:bY g=S.spec.K:=by rfl) (hh:S.hp b1:=by first|exact trivial|assumption):
 aU.ok ⟨b9 aZ (cg X bY) (n+1),b4,fn,b1,i0,aK,Q⟩ ⟨K,.o (⟨d,.call (.func g) cq,none⟩::xs),⟨own,aH,e⟩⟩:=
 ae1 hc [k0] l hp ⟨by simp,by rw[al];rfl,by rw[al];exact⟨ab,trivial⟩,trivial,rfl⟩ (by rw[hx];exact aeF ah hb) k ha he dw hh
end Go.ar
namespace Go.ar
open Sym
set_option maxRecDepth 10000
section
variable{aB:fl}{K:ac eE}{own bF:ac bj}{aH:Nat}{e:bO}
def PE{k0 z n c:Nat}(t:Nat){el:ce}{a8:Bool}{α:Type}{R:α->ac aj}{l:ac α}{p:dm}(k:aU.ok aB ⟨K,.c p,⟨bF,aH,(t,.cc z α R l)::e⟩⟩)(aW:eb e t=some (.a5 k0 z 0 n c):=by rfl)(ab:own[k0]? =some (.a el a8 z α R l):=by rfl)(hp:∀x,hQ (R x)=true:=by exact fun _=>rfl)
 (al:jk own k0 .x some=some bF:=by rfl) (hn:l.length=n:=by first|omega|(simp;done)|(simp;omega)) (hc:n<=c:=by omega):aU.ok aB ⟨K,.c p,⟨own,aH,e⟩⟩:=by
 have J:=kc al;cases J;exact arP t l aW ab (by rw[zap,zas (by omega)]) hn hc hp k
end
section
variable{call:bG}{s:cz}{x y:bi}
def afs{k z n c:Nat}{el:ce}{a8:Bool}{α:Type}{R:α->ac aj}{l m:ac α}(aa:bu s.env x=some (.a5 k z 0 n c))(ab:s.own[k]? =some (.a el a8 z α R l))(ah:m4 s y R z m)(J:m.length<=n)(U:n<=l.length)(an:0<z):
 gq call (.rF z x y) s (.i .i64 (m.length:Nat)) (s.own.set k (.a el a8 z α R (m++l.drop m.length))) s.n:=fun H ids st fr aw ae=>by
 obtain⟨b,g1,aM⟩:=ae.ak aa;obtain⟨vs,bc,cf,cL⟩:=qp aw ab g1;have e:bK call (.rF z x y) fr st=il (fr.ak x) (fun a dl _=>il (fr.ak y) (fun b a5 _=>bk a (fun a=>bk b (fun b=>st.load b (Nat.mul (ek a5 dl a5 dl) z) (fun vs=>cond (hf vs) (st.store a vs (fun st=>.ok (.int .i64 (.ofNat (ek a5 dl a5 dl))) fr st) .no) .no) .no) (dQ a5 0 (.ok (.int .i64 0) fr st) .no)) (dQ dl 0 (.ok (.int .i64 0) fr st) .no)) .no) .no:=rfl;rw[e,aM,oS,zau];rcases ah H ids st fr aw ae with⟨rfl,bE,cv⟩|⟨eW,o,bE,ws,Al,bg,ui,cv,cF,dU,iE,vb⟩
 ·refine⟨.int .i64 0,st,ids,H,by rw[cv,oS,Sym.en,Sym.gK,j0 rfl],?_,rfl,du.refl _,da.refl _,fun _ _ _ B=>B,b8 _,fun _ _ _=>rfl⟩;rw[show([]++l.drop ([]:ac α).length)=l by simp,show s.own.set k (.a el a8 z α R l)=s.own from ?_]
  ·exact aw
  ·apply zbw;intro i;rw[zaQ];split
   ·rename_i h;subst h;rw[ab];simp[(zaf.1 ab).1]
   ·rfl
 ·have HN:((ws.drop o).take (m.length*z)).length=m.length*z:=by simp at dU ⊢;omega
  have awF:m.length*z<=l.length*z:=iq z (by omega);have j2:=tV iE (z3 (n:=m.length) ⟨cf,cL⟩);have aA:vs.take 0++((ws.drop o).take (m.length*z)++vs.drop (0+((ws.drop o).take (m.length*z)).length))=(ws.drop o).take (m.length*z)++vs.drop (m.length*z):=by rw[HN];simp
  refine⟨_,_,ids,H,?_,aw.hd ab rfl g1 (eI:=.cells ((ws.drop o).take (m.length*z)++vs.drop (m.length*z)) el (0,0) a8) ⟨_,rfl,j2.1,j2.2⟩,rfl,du.refl _,da.refl _,fun _ _ _ B=>B.hd (zav g1) _,b8 _,fun awc _ cd=>ao.gf _ _ (fun e=>cd k (by simp[jh,aa]) (e▸g1))⟩;rw[cv,oS,Sym.en,Sym.en,gz J];show ay.load st ⟨eW,o,none⟩ (m.length*z) _ _=_;unfold ay.load ay.gC;rw[Sym.gK,cF,kA,qw dU,vb,cond_true];unfold ay.store ay.gC;rw[Sym.gK,bc,kA,gz (b8 _),q5,zab (by show 0+_<=_;rw[HN,cf];omega),ks,aA];rfl
end
section
variable{aB:fl}{K:ac eE}{own bF:ac bj}{aH:Nat}{e:bO}{d:Tmp}{xs:ac bz}{x y:bi}
def arN{k0 z n c:Nat}{el:ce}{a8:Bool}{α:Type}{R:α->ac aj}{l:ac α}(m:ac α)(ah:m4 ⟨own,aH,e⟩ y R z m)(k:aU.ok aB ⟨K,.o xs,⟨bF,aH,(d,.i .i64 (m.length:Nat))::e⟩⟩)(aa:bu e x=some (.a5 k0 z 0 n c):=by rfl)(ab:own[k0]? =some (.a el a8 z α R l):=by rfl)
 (al:jk own k0 (.a el a8 z α R (m++l.drop m.length)) some=some bF:=by rfl) (J:m.length<=n:=by omega) (U:n<=l.length:=by first|omega|(simp;done)|(simp;omega)) (an:0<z:=by decide):aU.ok aB ⟨K,.o (⟨some d,.rF z x y,none⟩::xs),⟨own,aH,e⟩⟩:=by
 have h:=kc al;cases h;exact fJ (afs (s:=⟨own,aH,e⟩) aa ab ah J U an) k
end
section
variable{aB:fl}{K:ac eE}{own bA:ac bj}{aH bd ca back:Nat}{e a3:bO}{d:Tmp}{ts:ac Tmp}{xs:ac (bz×cw)}{x y i:bi}
variable{m n:Nat}
def agF(k:aU.ok aB ⟨K,.d xs bA ((d,.i .u64 ((m/n:Nat):Int))::a3) bd ca,⟨own,aH,(d,.i .u64 ((m/n:Nat):Int))::e⟩⟩)(aa:bu (ff ts a3) x=some (.i .u64 (m:Int)):=by rfl)(aL:bu (ff ts a3) y=some (.i .u64 (n:Int)):=by rfl)(hb:back<bd:=by decide)(hn:n≠0:=by omega)(hm:m<18446744073709551616:=by omega):aU.ok aB ⟨K,.d ((⟨some d,.bin .quo x y,none⟩,.read back ts)::xs) bA a3 bd ca,⟨own,aH,e⟩⟩:=
 qx (d:=some d) (a:=.i .u64 ((m/n:Nat):Int)) hb (fun H ids st fr ae _ _=>⟨.int .u64 ((m/n:Nat):Int),rfl,fun ch _ _=>by
  rw[Zt (ae.ak aa) (ae.ak aL) hn];have:=zaF m n;generalize m/n=q at *;rw[ada (by omega) (by omega)]⟩) k
def agH{k0:d7}(k:aU.ok aB ⟨K,.d xs bA ((d,.i k0 ((m%n:Nat):Int))::a3) bd ca,⟨own,aH,(d,.i k0 ((m%n:Nat):Int))::e⟩⟩)(aa:bu (ff ts a3) x=some (.i k0 (m:Int)):=by rfl)(aL:bu (ff ts a3) y=some (.i k0 (n:Int)):=by rfl)(hb:back<bd:=by decide)(hn:n≠0:=by omega):aU.ok aB ⟨K,.d ((⟨some d,.bin .rem x y,none⟩,.read back ts)::xs) bA a3 bd ca,⟨own,aH,e⟩⟩:=
 qx (d:=some d) (a:=.i k0 ((m%n:Nat):Int)) hb (fun H ids st fr ae _ _=>⟨.int k0 ((m%n:Nat):Int),rfl,fun ch _ _=>aqi (ae.ak aa) (ae.ak aL) hn⟩) k
def agJ{z p q:Nat}{α:Type}{R:α->ac aj}{l:ac α}{aQ af:am bi}(l':ac α)(k:aU.ok aB ⟨K,.d xs bA ((d,.cc z α R l')::a3) bd ca,⟨own,aH,(d,.cc z α R l')::e⟩⟩)(aa:bu (ff ts a3) x=some (.cc z α R l):=by rfl)(gU:fO ⟨[],0,ff ts a3⟩ aQ 0 p:=by first|exact rfl|exact⟨_,rfl⟩)(ht:fO ⟨[],0,ff ts a3⟩ af l.length q:=by first|exact rfl|exact⟨_,rfl⟩)(hb:back<bd:=by decide)(hl:(l.drop p).take (q-p)=l':=by first|rfl|simp)(hp:p<=q:=by omega)(hq:q<=l.length:=by first|omega|(simp;done)|(simp;omega)):aU.ok aB ⟨K,.d ((⟨some d,.oO z x aQ af none,none⟩,.read back ts)::xs) bA a3 bd ca,⟨own,aH,e⟩⟩:=by
 subst hl;refine qx (d:=some d) hb (fun H ids st fr ae _ _=> ?_) k;obtain⟨v,J,U⟩:=ab4 (call:=aB.call) (s:=⟨[],0,ff ts a3⟩) aa gU ht hp hq ae;exact⟨v,J,fun ch hle _=>U ch hle⟩
end
section
variable{call:bG}{s:cz}{x y:bi}
variable{a2 cr k n c:Nat}{el:ce}{α:Type}{R:α->ac aj}{l:ac α}
def K6{a8:Bool}(aa:bu s.env x=some (.a5 k a2 0 n c))(ab:s.own[k]? =some (.a el a8 a2 α R l))(ah:vL call el cr s y R a2 [])(jf:n<=c)(hc:c<=l.length)(hb:(5*n+1792)*(cr+1)<=1125899906842624):
 gq call (.app el a2 cr x y) s (.a5 k a2 0 n c) s.own s.n:=fun H ids st fr aw ae=>by
 obtain⟨b,g1,aM⟩:=ae.ak aa;obtain⟨vs,bc,cf,cL⟩:=qp aw ab g1;obtain⟨new,J,U,ag⟩:=ah H ids st fr aw ae x _ _ _ aM;have Hv:c*a2<=l.length*a2:=iq a2 hc;refine⟨_,st,ids,H,?_,aw,⟨b,g1,rfl⟩,du.refl _,da.refl _,fun _ _ _ B=>B,b8 _,fun _ _ _=>rfl⟩;rw[ag];unfold jJ ay.gC;simp only[zcS,zcT,Sym.en,Sym.gK,bc,kA,zau,List.length_nil,zaX];rw[gz (show(5*n+1792)*Nat.succ cr<=2^50 from hb),gz (b8 _),gz jf,gz (by rw[fg,cf];show 0+c*a2<=_;omega),j0 rfl,j0 rfl]
def Q2{m:ac α}(aa:bu s.env x=some (.a5 k a2 0 n c))(ab:s.own[k]? =some (.a el false a2 α R l))(ah:vL call el cr s y R a2 m)(h0:m≠[])(jf:n<=c)(HR:c<n+m.length)(hc:c<=l.length)(hb:(5*(n+m.length)+1792)*(cr+1)<=1125899906842624):
 gq call (.app el a2 cr x y) s (.a5 s.n a2 0 (n+m.length) (n+m.length)) (s.own++[.a el true a2 α R (l.take n++m)]) (s.n+1):=fun H ids st fr aw ae=>by
 obtain⟨b,g1,aM⟩:=ae.ak aa;obtain⟨vs,bc,cf,cL⟩:=qp aw ab g1;obtain⟨new,J,U,ag⟩:=ah H ids st fr aw ae x _ _ _ aM;have hl:0<m.length:=zaN.2 h0;have j2:=tV (Gm ⟨cf,cL⟩ n (by omega)) J;have lz:=Gk (du.refl H) (da.app ids [st.ai]) j2;have Hv:c*a2<=l.length*a2:=iq a2 hc;have D4:n*a2<=l.length*a2:=iq a2 (by omega);refine⟨.slice (some ⟨st.ai,0,none⟩) (n+m.length) (n+m.length),_,_,H,?_,aw.add (eI:=.cells (vs.take (n*a2)++new) el (0,0) true) ⟨_,rfl,lz.1,lz.2⟩,⟨st.ai,by rw[<-aw.len,zaL (b8 _)];simp,by rw[zau]⟩,du.refl _,da.app _ _,fun _ _ _ B=>B.add _,zbb _,fun b hb _=>BD hb⟩;rw[ag];unfold jJ ay.gC;simp only[zcS,zcT,Sym.en,Sym.gK,bc,kA,zau];rw[gz (show(5*(n+m.length)+1792)*Nat.succ cr<=2^50 from hb),gz (b8 _),gz jf,gz (by rw[fg,cf];show 0+c*a2<=_;omega),j0 rfl,sM (by omega),cond_false,apb (by omega),qw (by simp;omega),gV,rz,zap]
end
section
variable{aB:fl}{K:ac eE}{own bF:ac bj}{aH ck:Nat}{e:bO}{d:Tmp}{xs:ac bz}{x y:bi}
variable{a2 cr n c:Nat}{el:ce}{α:Type}{R:α->ac aj}{l:ac α}
def arF{k0:Nat}{a8:Bool}(ah:m4 ⟨own,aH,e⟩ y R a2 ([]:ac α))(k:aU.ok aB ⟨K,.o xs,⟨own,aH,(d,.a5 k0 a2 0 n c)::e⟩⟩)(aa:bu e x=some (.a5 k0 a2 0 n c):=by rfl)(ab:own[k0]? =some (.a el a8 a2 α R l):=by rfl)
 (jf:n<=c:=by omega) (hc:c<=l.length:=by first|omega|(simp;done)|(simp;omega)) (hb:(5*n+1792)*(cr+1)<=1125899906842624:=by omega):aU.ok aB ⟨K,.o (⟨some d,.app el a2 cr x y,none⟩::xs),⟨own,aH,e⟩⟩:=fJ (K6 (s:=⟨own,aH,e⟩) aa ab (sD ah) jf hc hb) k
def aa7{k0:Nat}(m:ac α)(ah:m4 ⟨own,aH,e⟩ y R a2 m)(l':ac α)(k:aU.ok aB ⟨K,.o xs,⟨bF,ck,(d,.a5 aH a2 0 (n+m.length) (n+m.length))::e⟩⟩)(aa:bu e x=some (.a5 k0 a2 0 n c):=by rfl)(ab:own[k0]? =some (.a el false a2 α R l):=by rfl)
 (al:oQ own (.a el true a2 α R l') some=some bF:=by rfl) (ju:mS aH some=some ck:=by rfl) (h0:m≠[]:=by first|rfl|simp) (jf:n<=c:=by omega) (HR:c<n+m.length:=by first|omega|(simp;done)|(simp;omega)) (hc:c<=l.length:=by first|omega|(simp;done)|(simp;omega))
 (hb:(5*(n+m.length)+1792)*(cr+1)<=1125899906842624:=by first|omega|(simp;done)|(simp;omega)) (hl:l.take n++m=l':=by first|rfl|simp):aU.ok aB ⟨K,.o (⟨some d,.app el a2 cr x y,none⟩::xs),⟨own,aH,e⟩⟩:=by
 subst hl;have J:=py al;have U:=nZ ju;cases J;cases U;exact fJ (Q2 (s:=⟨own,aH,e⟩) aa ab (sD ah) h0 jf HR hc hb) k
end
section
variable{aB:fl}{K:ac eE}{own bA:ac bj}{aH bd ca back:Nat}{e a3:bO}{d:Tmp}{ts:ac Tmp}{xs:ac (bz×cw)}{x y:bi}
def Sr{m n:Nat}(k:aU.ok aB ⟨K,.d xs bA ((d,.i .i64 ((m/n:Nat):Int))::a3) bd ca,⟨own,aH,(d,.i .i64 ((m/n:Nat):Int))::e⟩⟩)(aa:bu (ff ts a3) x=some (.i .i64 (m:Int)):=by rfl)(aL:bu (ff ts a3) y=some (.i .i64 (n:Int)):=by rfl)(hb:back<bd:=by decide)(hn:n≠0:=by omega)(hm:m<9223372036854775808:=by omega):aU.ok aB ⟨K,.d ((⟨some d,.bin .quo x y,none⟩,.read back ts)::xs) bA a3 bd ca,⟨own,aH,e⟩⟩:=
 qx (d:=some d) (a:=.i .i64 ((m/n:Nat):Int)) hb (fun H ids st fr ae _ _=>⟨.int .i64 ((m/n:Nat):Int),rfl,fun ch _ _=>by
  rw[Zt (ae.ak aa) (ae.ak aL) hn];have:=zaF m n;generalize m/n=q at *;rw[hz (by omega) (by omega)]⟩) k
end
def pw{aB:fl}{K:ac eE}{i:Nat}{c:bb}{s:cz}{b:dm}{L:Type _}(P:L->Prop)(T:L->cz)(J:aU.ok aB ⟨.cH i:: .b0 (xH aB.i0.length P T)::K,c,s⟩)(U:∀l,P l->aU.ok aB ⟨K,.c b,T l⟩):aU.ok aB ⟨.cH i:: .seq b::K,c,s⟩:=by
 have up:∀s,xH aB.i0.length P T s->Sem aB (.seq b::K) .norm s:=fun s aa=>by
  obtain⟨f,l,hp,ah⟩:=aa;exact PF f _ ah (U l hp)
 refine R.mono (fun x s aa=> ?_) J;cases x with
 |norm=>exact up s aa
 |exit j=>
  show if j=i then Sem aB (.seq b::K) .norm s else Sem aB (.seq b::K) (.exit j) s;have aa:if j=i then Sem aB (.b0 (xH aB.i0.length P T)::K) .norm s else Sem aB (.b0 (xH aB.i0.length P T)::K) (.exit j) s:=aa;split
  ·rename_i h;rw[zab h]at aa;exact up s aa
  ·rename_i h;rw[zaa h]at aa;exact aa
 |ret=>exact aa
 |a1 v=>exact aa
def axd{own:ac bj}{n p:Nat}{e bL:bO}{o q r:bj}(h:k5 [0,1,2] bL e)(al:∃bh,own[0]? =some bh∧gQ [0,1,2] o bh)(hq:∃bh,own[1]? =some bh∧gQ [0,1,2] q bh)(aE:∃bh,own[2]? =some bh∧gQ [0,1,2] r bh)(hp:pinned p [0,1,2] 0=true:=by rfl):Sub p [0,1,2] ⟨own,n,e⟩ ⟨[o,q,r],3,bL⟩:=⟨by simp,rfl,⟨al,hq,aE,trivial⟩,h,hp⟩
def lu(c:bv):ac aj:=[.i .u8 (c.toNat:Int)]
theorem Lw{H:bC}{ids:ac Nat}:∀{l:ac bv} {vs:ac be},kf H ids lu 1 l vs->bytesOf vs=some l
 |[],vs,h=>by
  have:vs=[]:=zbu (by rw[h.1];simp);subst this;rfl
 |c::l,vs,h=>by
  have J:=h.2 0 c (by simp);rw[zau,zap]at J;have U:=z3 h 1;obtain⟨v,ws,aC,e2,b3⟩:=J;have e2:v= .int .u8 (c.toNat:Int):=e2;have b3:ws=[]:=b3;subst e2 b3;have aD:vs= .int .u8 (c.toNat:Int)::vs.drop 1:=by
   conv=>lhs;rw[<-zbl 1 vs,aC]
   rfl
  have a7:=Lw (l:=l) (vs:=vs.drop 1) (by simpa using U);rw[aD];show bk (bytesOf (vs.drop 1)) (fun bT=>some (UInt8.ofNat ((c.toNat:Int)).toNat::bT)) none=_;rw[a7];show some (UInt8.ofNat ((c.toNat:Int)).toNat::l)=_;rw[zbR,UInt8.ofNat_toNat]
theorem R4(H:bC)(ids:ac Nat):∀l:ac bv,kf H ids lu 1 l (lQ l)∧hf (lQ l)=true
 |[]=>⟨z4 _ _ _ _,rfl⟩
 |c::l=>by
  obtain⟨J,U⟩:=R4 H ids l;exact⟨tV (l:=[c]) (m:=l) (vs:=[.int .u8 (c.toNat:Int)]) (Gl ⟨_,[],rfl,rfl,rfl⟩ rfl) J,U⟩
section
variable{call:bG}{s:cz}{x y:bi}
def ae6{k o n c:Nat}{el:ce}{a8:Bool}{l:ac bv}(aa:bu s.env x=some (.a5 k 1 o n c))(ab:s.own[k]? =some (.a el a8 1 bv lu l))(hn:o+n<=l.length):gq call (.z1 x) s (.s ((l.drop o).take n)) s.own s.n:=ln fun H ids st fr aw ae=>by
 obtain⟨b,g1,aM⟩:=ae.ak aa;obtain⟨vs,bc,cf,cL⟩:=qp aw ab g1;have j2:kf H ids lu 1 ((l.drop o).take n) ((vs.drop o).take n):=by
  have:=Gm (z3 (⟨cf,cL⟩:kf H ids lu 1 l vs) o) n (by simp;omega)
  rwa [zaZ,zaZ]at this
 refine⟨_,rfl,?_⟩;show IX x call fr st=_;unfold IX;rw[aM,oS,zaZ,Sym.en];unfold ay.load ay.gC;rw[Sym.gK,bc,kA,qw (by show n<=(vs.drop o).length;rw[zaA,cf];omega)];show bk (bytesOf ((vs.drop o).take n)) _ _=_;rw[Lw j2];rfl
end
section
variable{aB:fl}{K:ac eE}{own:ac bj}{aH:Nat}{e:bO}{d:Tmp}{xs:ac bz}{x y:bi}
def PD{k0 n c:Nat}{el:ce}{a8:Bool}{l:ac bv}(l':ac bv)(k:aU.ok aB ⟨K,.o xs,⟨own,aH,(d,.s l')::e⟩⟩)(aa:bu e x=some (.a5 k0 1 0 n c):=by rfl)(ab:own[k0]? =some (.a el a8 1 bv lu l):=by rfl)(hn:n<=l.length:=by first|omega|(simp;done)|(simp;omega))(hl:l.take n=l':=by first|rfl|simp):aU.ok aB ⟨K,.o (⟨some d,.z1 x,none⟩::xs),⟨own,aH,e⟩⟩:=by
 have:=ae6 (call:=aB.call) (s:=⟨own,aH,e⟩) aa ab (by omega);rw[zap,hl]at this;exact fJ this k
end
section
variable{aB:fl}{K:ac eE}{own bA:ac bj}{aH bd ca back:Nat}{e a3:bO}{d:Tmp}{ts:ac Tmp}{xs:ac (bz×cw)}{x y:bi}
variable{l:ac bv}{p q:Nat}{aQ af:am bi}
def auc{call:bG}{s:cz}{H:bC}{ids:ac Nat}{fr:aP}{st:ay}(ae:c9 fr H ids s.env)(aa:bu s.env x=some (.s l))(gU:fO s aQ 0 p)(ht:fO s af l.length q)(hp:p<=q)(hq:q<=l.length):bK call (.tw x aQ af) fr st= .ok (.string ⟨⟨(l.drop p).take (q-p)⟩⟩) fr st:=by
 have J:fr.ak x= .string ⟨⟨l⟩⟩:=ae.ak aa;have e:bK call (.tw x aQ af) fr st=im (fr.ak x) (fun s=>fq fr af (db s.data.toList) (db s.data.toList) fun h=>fq fr aQ 0 h fun l=>jt s.data.toList l (h-l) (fun bT=>.ok (.string ⟨⟨bT⟩⟩) fr st) .no) .no:=rfl;rw[e,J,Cr];show fq fr af (db l) (db l) _=_;rw[fg,fO.ak ht ae hq,fO.ak gU ae hp,Ac (by show p+(q-p)<=l.length;omega)]
def GK(l':ac bv)(k:aU.ok aB ⟨K,.d xs bA ((d,.s l')::a3) bd ca,⟨own,aH,(d,.s l')::e⟩⟩)(aa:bu (ff ts a3) x=some (.s l):=by rfl)(gU:fO ⟨[],0,ff ts a3⟩ aQ 0 p:=by first|exact rfl|exact⟨_,rfl⟩)(ht:fO ⟨[],0,ff ts a3⟩ af l.length q:=by first|exact rfl|exact⟨_,rfl⟩)(hb:back<bd:=by decide)(hl:(l.drop p).take (q-p)=l':=by first|rfl|simp)(hp:p<=q:=by omega)(hq:q<=l.length:=by first|omega|(simp;done)|(simp;omega)):aU.ok aB ⟨K,.d ((⟨some d,.tw x aQ af,none⟩,.read back ts)::xs) bA a3 bd ca,⟨own,aH,e⟩⟩:=by
 subst hl;exact qx (d:=some d) (a:=.s ((l.drop p).take (q-p))) hb (fun H ids st fr ae _ _=>⟨_,rfl,fun ch _ _=>auc (s:=⟨[],0,ff ts a3⟩) ae aa gU ht hp hq⟩) k
end
