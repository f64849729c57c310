/- Rules for what a function computes on abstract states (part 1); no condition. -/
import Derived.Test.YthdlbilidpgknaaGreatDoorM1
import Derived.Test.YthdlbilidpgknaaGreatDoorM3
noncomputable section
set_option linter.all false
namespace Go.aj
namespace Sym
section
variable{α β:Type}
variable{a b:Nat}
def AD(r:aS)(k:be->aP->aw->cW)(p:be->aw->cW):cW:=aS.rec (motive:=fun _=>cW) k p .no r
def NM(v:be)(fr:aP)(st:aw)(k:be->aP->aw->cW)(p:be->aw->cW):AD (.ok v fr st) k p=k v fr st:=rfl
def aoK(v:be)(st:aw)(k:be->aP->aw->cW)(p:be->aw->cW):AD (.ba v st) k p=p v st:=rfl
def aoJ(k:be->aP->aw->cW)(p:be->aw->cW):AD .no k p= .no:=rfl
def xr(r:dL)(k:be->aw->aS)(p:be->aw->aS):aS:=dL.rec (motive:=fun _=>aS) (fun v st _=>k v st) (fun v st _=>p v st) .no r
def agD(v:be)(st:aw)(t:Bool)(k p:be->aw->aS):xr (.ret v st t) k p=k v st:=rfl
def agC(v:be)(st:aw)(t:Bool)(k p:be->aw->aS):xr (.ba v st t) k p=p v st:=rfl
def aa9(fr:aP)(st:aw)(k:aP->aw->cW):pE (.out .norm fr st) k=k fr st:=rfl
def adw(id i:Nat)(fr:aP)(st:aw):Fs id (.out (.exit i) fr st)=if i=id then .out .norm fr st else .out (.exit i) fr st:=by
 show dW i id _ _=_;rw[o5]
@[congr] theorem avW {v v':be} (h:v=v') (k:f5->β) (z:β):hM v k z=hM v' k z:=by rw[h]
@[congr] theorem avV {v v':be} (h:v=v') (k:am Addr->Nat->Nat->β) (z:β):hL v k z=hL v' k z:=by rw[h]
def mb(a:d7)(n:Int)(k:d7->Int->β)(z:β):gp (.int a n) k z=k a n:=rfl
def Bj(s:f5)(k:f5->β)(z:β):hM (.string s) k z=k s:=rfl
def qE(a:am Addr)(k:am Addr->β)(z:β):iy (.pointer a) k z=k a:=rfl
def oe(a:am Addr)(n c:Nat)(k:am Addr->Nat->Nat->β)(z:β):hL (.slice a n c) k z=k a n c:=rfl
def atB(x:ap be)(k:ap be->β)(z:β):rO (.agg x) k z=k x:=rfl
def atC(x:ap be)(k:ap be->β)(z:β):qF (.tuple x) k z=k x:=rfl
@[congr] theorem avL {o bf:am α} (h:o=bf) (k:α->β) (z:β):bd o k z=bd bf k z:=by rw[h]
def eO(a:α)(k:α->β)(z:β):bd (some a) k z=k a:=rfl
def hZ(k:α->β)(z:β):bd (none:am α) k z=z:=rfl
@[congr] theorem avI {a a' b dN:Nat} (h:a=a') (az:b=dN) (x y:β):dY a b x y=dY a' dN x y:=by rw[h,az]
def fW(h:a<=b)(x y:β):dY a b x y=x:=by rw[qi,zab h]
def anA(h:¬a<=b)(x y:β):dY a b x y=y:=by rw[qi,zaa h]
def jU(h:a=b)(x y:β):dW a b x y=x:=by rw[o5,zab h]
def r2(h:¬a=b)(x y:β):dW a b x y=y:=by rw[o5,zaa h]
def nW(n:Nat)(k:Nat->β)(z:β):g9 (n:Int) k z=k n:=rfl
def an6{n:Int}(h:0<=n)(k:Nat->β)(z:β):g9 n k z=k n.toNat:=by
 obtain⟨m,rfl⟩:=Int.eq_ofNat_of_zero_le h;rfl
def zw{l:ac α}{o n:Nat}(h:o+n<=l.length)(k:ac α->β)(z:β):iD l o n k z=k ((l.drop o).take n):=by
 unfold iD;rw[zB,Ez,zab (by simp;omega)];rfl
end
def F3(fr:aP)(t:Tmp):fr.af (.tmp t)=fr.tmp t:=rfl
def Be(fr:aP)(d:Tmp)(v:be)(j:Nat):(fr.put (some d) v).tmp j=if j=d then v else fr.tmp j:=by
 rw[rM];by_cases h:j=d
 ·subst h;simp
 ·rw[zaa h,zaa (by simpa using fun e=>h e.symm)]
section
variable(call:bL)(cm:Nat)(fn:ci)(fr:aP)(st:aw)
variable{β:Type}
def F2(d:am Tmp)(o:c7)(xs:ac bE):iY call (⟨d,o,none⟩::xs) fr st=
 AD (bP call o fr st) (fun v fr st=>iY call xs (fr.put d v) st) (fun v st=>cond o.mX (.out (.ba v) fr st) .no):=rfl
def vo(v:be)(b:Bool)(yes hy z:β):β:=ns v (fun c=>cond c (cond b yes hy) (cond b hy yes)) (qF v (fun _=>hy) z)
def ajY(x y z:β):vo (.bool true) true x y z=x:=rfl
def ajX(x y z:β):vo (.bool true) false x y z=y:=rfl
def ajW(x y z:β):vo (.bool false) true x y z=y:=rfl
def ajV(x y z:β):vo (.bool false) false x y z=x:=rfl
def ajZ(b:Bool)(x y z:β)(a:ap be):vo (.tuple a) b x y z=y:=rfl
def Ld(d:am Tmp)(o:c7)(t:Tmp)(b:Bool)(xs:ac bE):iY call (⟨d,o,some (t,b)⟩::xs) fr st=
 vo (fr.tmp t) b (AD (bP call o fr st) (fun v fr st=>iY call xs (fr.put d v) st) (fun v st=>cond o.mX (.out (.ba v) fr st) .no)) (iY call xs (fr.put d undef) st) .no:=rfl
def Lb(a b:dp):dB call cm fn (.seq a b) fr st=pE (dB call cm fn a fr st) (dB call cm fn b):=rfl
def La(c:bi)(a b:dp):dB call cm fn (.cond c a b) fr st=Q4 (fr.af c) (dB call cm fn a fr st) (dB call cm fn b fr st):=rfl
def RM(i:Nat)(a:dp):dB call cm fn (.block i a) fr st=Fs i (dB call cm fn a fr st):=rfl
def Lc(b:dp)(n:Nat)(fr:aP)(st:aw):cW:=
 Nat.rec (motive:=fun _=>aP->aw->cW) (fun _ _=>.no) (fun _ aZ fr st=>pE (dB call cm fn b fr st) aZ) n fr st
def af7(b:dp)(n:Nat):Lc call cm fn b (n+1) fr st=pE (dB call cm fn b fr st) (Lc call cm fn b n):=rfl
end
section
variable(call:bL)(fr:aP)(st:aw)
def Yy(c a b:bi):bP call (.pick c a b) fr st=ns (fr.af c) (fun t=>.ok (cond t (fr.af a) (fr.af b)) fr st) .no:=rfl
def Yp(x:bi):bP call (.oE x) fr st=hL (fr.af x) (fun _ n _=>.ok (.int .i64 (n:Int)) fr st) (sP (fr.af x) (.ok (.int .i64 (.ofNat 0)) fr st) .no):=rfl
def aoV(x:bi):bP call (.tY x) fr st=hM (fr.af x) (fun s=>.ok (.int .i64 (s.data.toList.length:Int)) fr st) .no:=by
 show hM (fr.af x) (fun s=>gd (df s.data.toList) fun n=>aS.ok (.int .i64 (.ofNat n)) fr st) aS.no=_;simp only[zM,fs];rfl
def AG(f:bi)(args:ac bi):bP call (.call f args) fr st=xr (call (fr.af f) (eC fr args) none st) (fun v st=>.ok v fr st) (fun v st=>.ba v st):=rfl
def aoS(a7:Nat)(x i:bi):bP call (.lW a7 x i) fr st=
 hL (fr.af x) (fun b len _=>bd b (fun a=>gp (fr.af i) (fun _ j=>g9 j (fun j=>dY (j+1) len (.ok (.pointer (some (a.add (j*a7)))) fr st) .no) .no) .no) .no) .no:=rfl
def aoW(x:bi):bP call (.lZ x) fr st=iy (fr.af x) (fun p=>bd p (fun a=>st.load a 1 (fun vs=>one vs (fun v=>.ok v fr st) .no) .no) .no) .no:=rfl
def aoX(n:Nat)(x:bi):bP call (.qk n x) fr st=iy (fr.af x) (fun p=>bd p (fun a=>st.load a n (fun vs=>.ok (.agg ⟨vs⟩) fr st) .no) .no) .no:=rfl
def aoO(k:d7)(x:bi):bP call (.tb k x) fr st=gp (fr.af x) (fun _ n=>.ok (.int k (k.wrap n)) fr st) .no:=by
 show gp (fr.af x) (fun _ n=>hY k (oh k n) fun v=>aS.ok v fr st) aS.no=_;simp only[ib,kt]
def DV(op:BinOp)(x y:bi):bP call (.bin op x y) fr st=Cg op (fr.af x) (fr.af y) (fun v=>.ok v fr st):=rfl
def K9(op:BinOp)(k wR:d7)(a b:Int)(c:be->aS):Cg op (.int k a) (.int wR b) c=zH op k a wR b c:=rfl
def RL(op:BinOp)(a b:f5)(c:be->aS):Cg op (.string a) (.string b) c=BI op a b c:=rfl
def ang(k:d7):jE k k=true:=by cases k<;>rfl
end
end Sym
end Go.aj
namespace Go.aj
open Sym
def W(r:cW)(Q:dM->aP->aw->Prop):Prop:=∃e fr st,r= .out e fr st∧Q e fr st
variable{Q:dM->aP->aw->Prop}{r:cW}
def W.mk{e:dM}{fr:aP}{st:aw}(h:Q e fr st):W (.out e fr st) Q:=⟨e,fr,st,rfl,h⟩
def W.of_eq{dG:cW}(e:r=dG)(h:W dG Q):W r Q:=by rw[e];exact h
def W.mono{Bt:dM->aP->aw->Prop}(h:W r Q)(hq:∀e fr st,Q e fr st->Bt e fr st):W r Bt:=
 let⟨e,fr,st,h1,h2⟩:=h;⟨e,fr,st,h1,hq _ _ _ h2⟩
def acB(call:bL)(cm:Nat)(fn:ci)(b:dp)(Q:dM->aP->aw->Prop):dM->aP->aw->Prop
 |.norm,fr,st=>W (dB call cm fn b fr st) Q
 |e,fr,st=>Q e fr st
def ace(id:Nat)(Q:dM->aP->aw->Prop):dM->aP->aw->Prop
 |.exit i,fr,st=>if i=id then Q .norm fr st else Q (.exit i) fr st
 |e,fr,st=>Q e fr st
def Round(ey:Nat->aP->aw->Prop)(m:Nat)(Q:dM->aP->aw->Prop):dM->aP->aw->Prop
 |.norm,fr,st=>∃fj,fj<m∧ey fj fr st
 |e,fr,st=>Q e fr st
section
variable{call:bL}{cm:Nat}{fn:ci}{fr:aP}{st:aw}{Q:dM->aP->aw->Prop}
variable{a b:dp}{c:bi}{t:Bool}{v:be}{i:Nat}{d:Tmp}
def at3(h:W (dB call cm fn a fr st) (acB call cm fn b Q)):W (dB call cm fn (.seq a b) fr st) Q:=by
 obtain⟨e,aC,st',h1,h2⟩:=h;rw[Lb,h1];cases e with
 |norm=>exact h2
 |exit i=>exact .mk h2
 |ret=>exact .mk h2
 |ba v=>exact .mk h2
def aua(h:Q .norm fr st):W (dB call cm fn .skip fr st) Q:=.mk h
def atP(h:Q (.exit i) fr st):W (dB call cm fn (.exit i) fr st) Q:=.mk h
def at0(h:Q .ret fr st):W (dB call cm fn .ret fr st) Q:=.mk h
def at2(h:W (dB call cm fn a fr st) Q):W (dB call cm fn (.scope a) fr st) Q:=h
def atL(h:W (dB call cm fn a fr st) (ace i Q)):W (dB call cm fn (.block i a) fr st) Q:=by
 obtain⟨e,aC,st',h1,h2⟩:=h;rw[RM,h1];cases e with
 |norm=>exact .mk h2
 |exit j=>
  rw[adw];have h3:(if j=i then Q .norm aC st' else Q (.exit j) aC st'):=h2;split at h3
  ·rw[zab (by assumption)];exact .mk h3
  ·rw[zaa (by assumption)];exact .mk h3
 |ret=>exact .mk h2
 |ba v=>exact .mk h2
def atZ{ops:ac bE}(h:W (iY call ops fr st) Q):W (dB call cm fn (.yD ops) fr st) Q:=h
def atU(h:Q .norm fr st):W (iY call [] fr st) Q:=.mk h
def atQ(hc:fr.af c= .bool t)(ha:t=true->W (dB call cm fn a fr st) Q)(hb:t=false->W (dB call cm fn b fr st) Q):W (dB call cm fn (.cond c a b) fr st) Q:=by
 rw[La,hc];cases t
 ·exact hb rfl
 ·exact ha rfl
def aub(hc:fr.af c= .bool t)(aN:t=true)(ha:W (dB call cm fn a fr st) Q):W (dB call cm fn (.cond c a b) fr st) Q:=by
 rw[La,hc,aN];exact ha
def atO(hc:fr.af c= .bool t)(aN:t=false)(hb:W (dB call cm fn b fr st) Q):W (dB call cm fn (.cond c a b) fr st) Q:=by
 rw[La,hc,aN];exact hb
theorem abQ{b:dp}(ey:Nat->aP->aw->Prop)
 (b4:∀m fr st,ey m fr st->W (dB call cm fn b fr st) (Round ey m Q)):∀(n m:Nat) (fr:aP) (st:aw),m<n->ey m fr st->W (Lc call cm fn b n fr st) Q
 |0,m,_,_,h,_=>by omega
 |n+1,m,fr,st,h,hi=>by
  obtain⟨e,aC,st',h1,h2⟩:=b4 m fr st hi;rw[af7,h1];cases e with
  |norm=>
   obtain⟨fj,hm,h3⟩:=h2;exact abQ ey b4 n fj aC st' (by omega) h3
  |exit i=>exact .mk h2
  |ret=>exact .mk h2
  |ba v=>exact .mk h2
def atS(ey:Nat->aP->aw->Prop)(m:Nat)(hm:m<cm)(h0:ey m fr st)
 (b4:∀m fr st,ey m fr st->W (dB call cm fn b fr st) (Round ey m Q)):W (dB call cm fn (.loop b) fr st) Q:=
 abQ ey b4 cm m fr st hm h0
def E:(fr.put (some d) v).af (.tmp d)=v:=by rw[F3,Be,zab rfl]
def N{j:Tmp}{x:be}(h:fr.af (.tmp j)=x)(cl:Nat.beq j d=false:=by rfl):(fr.put (some d) v).af (.tmp j)=x:=by
 rw[F3,Be,zaa];exact h;intro e;subst e;simp at cl
def C:fr.af (.const v)=v:=rfl
section
variable{xs:ac bE}{d:am Tmp}{o:c7}{x y i:bi}
def uL{st':aw}(h:bP call o fr st= .ok v fr st')(k:W (iY call xs (fr.put d v) st') Q):W (iY call (⟨d,o,none⟩::xs) fr st) Q:=by
 rw[F2,h,NM];exact k
def atX{t:Tmp}{b c:Bool}(aJ:fr.af (.tmp t)= .bool c)(hc:c=b)(k:W (iY call (⟨d,o,none⟩::xs) fr st) Q):W (iY call (⟨d,o,some (t,b)⟩::xs) fr st) Q:=by
 subst hc;rw[Ld,show fr.tmp t= .bool c from aJ];rw[F2]at k;cases c
 ·rw[ajV];exact k
 ·rw[ajY];exact k
def atV{t:Tmp}{b c:Bool}(aJ:fr.af (.tmp t)= .bool c)(hc:c= !b)(k:W (iY call xs (fr.put d undef) st) Q):W (iY call (⟨d,o,some (t,b)⟩::xs) fr st) Q:=by
 subst hc;rw[Ld,show fr.tmp t= .bool (!b)from aJ];cases b
 ·rw[show vo (.bool (!false)) false _ _ cW.no=_ from ajX _ _ _];exact k
 ·rw[show vo (.bool (!true)) true _ _ cW.no=_ from ajW _ _ _];exact k
def atW{t:Tmp}{b:Bool}{a:ap be}(aJ:fr.af (.tmp t)= .tuple a)(k:W (iY call xs (fr.put d undef) st) Q):W (iY call (⟨d,o,some (t,b)⟩::xs) fr st) Q:=by
 rw[Ld,show fr.tmp t= .tuple a from aJ,ajZ];exact k
end
section
variable{x y i c a b:bi}
variable{n m:Nat}{k:d7}{p:Addr}
def v7{p:am Addr}(h:fr.af x= .slice p n m):bP call (.oE x) fr st= .ok (.int .i64 (n:Int)) fr st:=by rw[Yp,h];rfl
def aoz(h:fr.af x= .chan none):bP call (.oE x) fr st= .ok (.int .i64 0) fr st:=by rw[Yp,h];rfl
def aox{k':d7}{n:Int}(h:fr.af x= .int k' n):bP call (.tb k x) fr st= .ok (.int k (k.wrap n)) fr st:=by rw[aoO,h];rfl
def aoy{a7:Nat}{j:Int}(h:fr.af x= .slice (some p) n m)(az:fr.af i= .int k j)(h0:0<=j)(h1:j<n):
 bP call (.lW a7 x i) fr st= .ok (.pointer (some (p.add (j.toNat*a7)))) fr st:=by
 rw[aoS,h,az];show g9 j (fun j=>dY (j+1) n _ _) _=_;rw[an6 h0,fW (by omega)]
def aoA{cs:ac be}{el:ce}{a8:Nat×Nat}{aX:Bool}(h:fr.af x= .pointer (some p))(hp:p.spot=none)(ai:st.h.get p.block=some (.cells cs el a8 aX))(aF:cs[p.off]? =some v):
 bP call (.lZ x) fr st= .ok v fr st:=by
 rw[aoW,h];show st.load p 1 _ _=_;unfold aw.load aw.gH;rw[hp,ai];show iD cs p.off 1 _ _=_;have aV:p.off<cs.length:=by
  rcases zan p.off cs.length with h|h
  ·exact h
  ·rw[zbG h]at aF;cases aF
 rw[zw (by omega)];have:(cs.drop p.off).take 1=[v]:=by
  rw[bF aV]at aF;cases aF;rw[hB aV];rfl
 rw[this];rfl
end
end
end Go.aj
namespace Go.aj
open Sym
variable{X:Ctx}
structure gu where
 r:ac be->aw->be->aw->Prop
 p:ac be->aw->be->aw->Prop
def gu.no:gu:=⟨fun _ _ _ _=>False,fun _ _ _ _=>False⟩
def acu(X:Ctx)(f:ci)(as:ac be)(st:aw)(v:be)(st':aw):Prop:=
 ∀(ι:bt) (as':ac be) (w:co),bM ι as as'->bn X ι st w->
  (∀as w,(callFunc f as).run X.P w= .ok (.enter f as) w)∧
  ∀(K:CallKind) (bq:Bool->ac Frame),kL ⟨f,K,none⟩ none ι bq->jR X ι w ⟨f,K,none⟩ bq (lone (Frame.enter X.P f as'.toArray K) (bq false) w) (.ba v st' false)
def dc(X:Ctx)(K:ci->gu):oj:=fun f as st=>
 open Classical in if h:∃p:be×aw,(K f).r as st p.1 p.2∧fZ X f ⟨as,st,p.1,p.2⟩then some (.ret (Classical.choose h).1 (Classical.choose h).2 false)
 else if h:∃p:be×aw,(K f).p as st p.1 p.2∧acu X f as st p.1 p.2 then some (.ba (Classical.choose h).1 (Classical.choose h).2 false)else none
def ao3(K:ci->gu):uV X (dc X K):=by
 intro f as st r hr ι as' w ha hw _;unfold dc at hr;split at hr
 ·rename_i h;cases hr;exact(Classical.choose_spec h).2 ι as' w ha hw
 ·split at hr
  ·rename_i h;cases hr;exact(Classical.choose_spec h).2 ι as' w ha hw
  ·cases hr
def N0{K:ci->gu}{f:ci}{as:ac be}{st:aw}(h:∃v st',(K f).r as st v st'∧fZ X f ⟨as,st,v,st'⟩):
 ∃v st',dc X K f as st=some (.ret v st' false)∧(K f).r as st v st':=by
 obtain⟨v,st',h1,h2⟩:=h;have hp:∃p:be×aw,(K f).r as st p.1 p.2∧fZ X f ⟨as,st,p.1,p.2⟩:=⟨(v,st'),h1,h2⟩;refine⟨(Classical.choose hp).1,(Classical.choose hp).2,?_,(Classical.choose_spec hp).1⟩;unfold dc;rw[dif_pos hp]
structure Spec where
 L:Type
 pre:L->ac be->aw->Prop
 post:L->ac be->aw->be->aw->Prop
def Spec.K(S:Spec):gu:=⟨fun as st v st'=>∀l,S.pre l as st->S.post l as st v st',fun _ _ _ _=>False⟩
instance:Coe Spec gu:=⟨Spec.K⟩
def a9(X:Ctx)(f:ci)(S:Spec):Prop:=∀as st,(∃l,S.pre l as st)->∃v st',S.K.r as st v st'∧fZ X f ⟨as,st,v,st'⟩
def bQ:Nat:=4611686018427387904
def Z9{bl:an dh}(du:Good X)(jd:oo X bl){K:ci->gu}{f:ci}{xf:dh}(J:bl.get f=some xf){n:Nat}{as:ac be}{st:aw}{v:be}{st':aw}
 (h:pQ (cX bl (dc X K) n) n f xf as none st= .ret v st' false):fZ X f ⟨as,st,v,st'⟩:=by
 obtain⟨Fn,c,ok⟩:=jd f xf J;obtain⟨nf,ln⟩:=KE du jd (ao3 (X:=X) K) n;intro ι as' w ha hw;refine⟨ok.enters,fun y4 bq hr=> ?_⟩;have:=QJ du ln nf (fun b aO bq _=>OG ln b aO bq) ok n (K:=y4) (bq:=bq) ha hw hr;rw[h]at this;exact this
structure wY(fr:aP):Prop where
 c1:fr.c1=[]
 ba:fr.ba=none
 cF:fr.cF=false
variable{f:ci}{xf:dh}
def wY.put{fr:aP}(h:wY fr)(d:am Tmp)(v:be):wY (fr.put d v):=by
 obtain⟨h1,h2,h3,au⟩:=wk fr d v;exact⟨h1.trans h.c1,h2.trans h.ba,h3.trans h.cF⟩
def gf(as:ac be):aP:=⟨oq as 0 .nil,[],none,false,none⟩
def wY.zero(as:ac be):wY (gf as):=⟨rfl,rfl,rfl⟩
def Ft{call:bL}{n:Nat}{as:ac be}{st:aw}{Post:be->aw->Prop}(hl:as.length<=xf.aO)
 (h:W (dB call n f xf.body (gf as) st) (fun e fr st'=>(e= .norm∨e= .ret)∧∃v,ov call xf.res none fr st'= .ret v st' false∧Post v st')):
 ∃v st',pQ call n f xf as none st= .ret v st' false∧Post v st':=by
 obtain⟨e,fr,st',h1,he,v,h2,h3⟩:=h;refine⟨v,st',?_,h3⟩;unfold pQ;rw[qi,zab (by rw[fs];exact hl)];show cW.rec (motive:=fun _=>dL) _ _ (dB call n f xf.body (gf as) st)=_;rw[h1];rcases he with rfl|rfl
 ·exact h2
 ·exact h2
def Rb{bl:an dh}(du:Good X)(jd:oo X bl)(K:ci->gu)(J:bl.get f=some xf){S:Spec}(hl:∀l as st,S.pre l as st->as.length<=xf.aO)
 (h:∀l as st,S.pre l as st->W (dB (cX bl (dc X K) (bQ+1)) (bQ+1) f xf.body (gf as) st)
  (fun e fr st'=>(e= .norm∨e= .ret)∧∃v,ov (cX bl (dc X K) (bQ+1)) xf.res none fr st'= .ret v st' false∧S.post l as st v st')):a9 X f S:=by
 intro as st ⟨l,hp⟩;obtain⟨v,st',h1,h2⟩:=Ft (Post:=S.post l as st) (hl l as st hp) (h l as st hp);refine⟨v,st',fun l' lk=> ?_,Z9 du jd J h1⟩;obtain⟨v2,dz,aG,aI⟩:=Ft (Post:=S.post l' as st) (hl l' as st lk) (h l' as st lk);rw[h1]at aG;cases aG;exact aI
section
variable{call:bL}{fr:aP}{st:aw}{x y i:bi}
def kO{β:Type}(cs:ac be)(e:ce)(a8:Nat×Nat)(aX:Bool)(k:ac be->ce->Nat×Nat->Bool->β)(z:β):BN (some (.cells cs e a8 aX)) k z=k cs e a8 aX:=rfl
end
def eG:ac Nat->ac Nat
 |[]=>[]
 |d::ds=>match eG ds with
  |[]=>if d=0 then[]else[d]
  |r=>d::r
end Go.aj
namespace Go.aj
open Sym
section
variable{call:bL}{fr:aP}{st:aw}{Q:dM->aP->aw->Prop}{cm:Nat}{fn:ci}
variable{ops:ac (bE×cw)}{dd:sY}{ae:ac (an bD)}{c a b:bi}{t:Bool}{u:be}{n:Int}
def O{ts:ac Tmp}{j:Tmp}{x:be}(h:fr.af (.tmp j)=x)(hj:ts.contains j=true:=by rfl):(fr.only ts).af (.tmp j)=x:=by
 rw[F3,Yd,zab (by simpa using hj)];exact h
def atN{b6 dU ms:ac Nat}(h:W (hT call (tc call ms (df ops)) ops [st.h] (pv fr dU) st) Q):W (dB call cm fn (.tk ops b6 dU ms) fr st) Q:=h
def abP(h:Q .norm fr st):W (hT call dd [] ae fr st) Q:=.mk h
theorem aaj{o:c7}{f:aP}{v:be}{ag:Nat}:∀(n:Nat) (ae:ac (an bD)),n<=ae.length->(∀h∈ae.take n,∃nJ bm,bP call o f ⟨h,ag⟩= .ok v nJ bm)->sameAt call o f v ag n ae=true
 |0,_,_,_=>rfl
 |n+1,[],h,_=>by simp at h
 |n+1,h::ae,hl,hh=>by
  obtain⟨nJ,bm,e⟩:=hh h (by simp);show aS.rec (motive:=fun _=>Bool) (fun v' _ _=>cond (dA v v') (sameAt call o f v ag n ae) false) (fun _ _=>false) false (bP call o f ⟨h,ag⟩)=true;rw[e];show cond (dA v v) (sameAt call o f v ag n ae) false=true;rw[Bk];exact aaj n ae (by simpa using hl) fun az hm=>hh az (by simp[hm])
def atM{o:c7}{d:am Tmp}{ts:ac Tmp}{back:Nat}{v:be}(dq:∀h∈st.h::ae.take (back+1),bP call o (fr.only ts) ⟨h,st.ag⟩= .ok v (fr.only ts) ⟨h,st.ag⟩)(hl:back<ae.length)
 (k:W (hT call dd ops ae (fr.put d v) st) Q):W (hT call dd ((⟨d,o,none⟩,.read back ts)::ops) ae fr st) Q:=by
 refine W.of_eq ?_ k;show l5 fr.t ts (fun t=>hs ⟨t,[],none,false,none⟩ none
  (aS.rec (motive:=fun _=>cW) (fun v _ _=>cond (sameAt call o ⟨t,[],none,false,none⟩ v st.ag (Nat.succ back) ae) (hT call dd ops ae (fr.put d v) st) .no) (fun _ _=>.no) .no (bP call o ⟨t,[],none,false,none⟩ st))
  (hT call dd ops ae (fr.put d undef) st) .no)=_
 rw[qs];have e:=dq st.h (by simp);have e:bP call o ⟨DU fr.t ts,[],none,false,none⟩ st= .ok v (fr.only ts) st:=e;show aS.rec (motive:=fun _=>cW) _ _ _ (bP call o ⟨DU fr.t ts,[],none,false,none⟩ st)=_;rw[e];show cond (sameAt call o (fr.only ts) v st.ag (Nat.succ back) ae) _ _=_;rw[aaj _ _ (by omega) fun h hm=>⟨_,_,dq h (by simp[hm])⟩];rfl
def aoC(hc:fr.af c= .bool t)(aN:t=true)(ha:fr.af a=u):bP call (.pick c a b) fr st= .ok u fr st:=by
 rw[Yy,hc,ha,aN];rfl
def aoB(hc:fr.af c= .bool t)(aN:t=false)(hb:fr.af b=u):bP call (.pick c a b) fr st= .ok u fr st:=by
 rw[Yy,hc,hb,aN];rfl
def HZ{x i:bi}{a7 id off n m j:Nat}{k:d7}(h:fr.af x= .slice (some ⟨id,off,none⟩) n m)(az:fr.af i= .int k (j:Int))(hj:j<n):
 bP call (.lW a7 x i) fr st= .ok (.pointer (some ⟨id,off+j*a7,none⟩)) fr st:=by
 rw[aoy h az (by omega) (by omega)];rw[zbX];congr 3;unfold Addr.add;split
 ·rename_i h0;rw[h0];rfl
 ·rfl
def gL(h: -9223372036854775808<=n)(az:n<9223372036854775808):IntKind.i64.wrap n=n:=by
 rw[<-kt];show wO 18446744073709551616 9223372036854775808 n=n;rw[wP _ _ _ (by decide)];split<;>omega
def abB(h:0<=n)(az:n<18446744073709551616):IntKind.u64.wrap n=n:=by
 rw[<-kt];show yS 18446744073709551616 n=n;rw[rP _ _ (by decide)];omega
end
abbrev Env:=ac (Nat×be)
def ie(L:ac Nat)(e:Env):Env:=e.filter fun p=>L.any (Nat.beq p.1)
abbrev acv:=dM->Env->aw->Prop
end Go.aj
namespace Go.aj
open Sym
variable{X:Ctx}
theorem Qf:∀(vs:ac be) (i:Nat) (t:an be) (j:Nat),(oq vs i t).get j=if i<=j∧j<i+vs.length then vs[j-i]? else t.get j
 |[],i,t,j=>by rw[zaa (by simp)];rfl
 |v::vs,i,t,j=>by
  have e:oq (v::vs) i t=oq vs (i+1) (t.set i v):=by
   show an.ik (Nat.succ i) t i v (fun t=>oq vs (Nat.succ i) t)=_;rw[an.yG]
  rw[e,Qf vs (i+1) _ j,an.ep];by_cases U:j=i
  ·subst U;rw[zaa (by omega),zab rfl,zab (by simp)];simp
  ·rw[zaa U];by_cases h1:i+1<=j∧j<i+1+vs.length
   ·rw[zab h1,zab (by simp;omega)];have:j-i=(j-(i+1))+1:=by omega
    rw[this];simp
   ·rw[zaa h1,zaa (by simp;omega)]
end Go.aj
namespace Go.aj
open Sym
section
variable{call:bL}{fr:aP}{st:aw}{x y i:bi}
variable{k:d7}{m n:Nat}
def Ax{op:BinOp}{m n:Int}{v:be}(h1:op≠.shl)(h2:op≠.shr)(h:fr.af x= .int k m)(az:fr.af y= .int k n)(aF:rk op k m n=some v):bP call (.bin op x y) fr st= .ok v fr st:=by
 rw[DV,h,az,K9];have:zH op k m k n (fun v=>aS.ok v fr st)=cond (jE k k) (zh op k m n (fun v=>aS.ok v fr st)) .no:=by
  cases op<;>first|rfl|(exact absurd rfl h1)|(exact absurd rfl h2)
 rw[this,ang,Ks,aF];rfl
def Yb(h:fr.af x= .int k (m:Int))(az:fr.af y= .int k (n:Int))(hn:n≠0):bP call (.bin .quo x y) fr st= .ok (.int k (k.wrap ((m/n:Nat):Int))) fr st:=
 Ax (by decide) (by decide) h az (by
  show(if(n:Int)=0 then none else _)=_;rw[zaa (by omega)];rfl)
def aoD(h:fr.af x= .int k (m:Int))(az:fr.af y= .int k (n:Int))(hn:n≠0):bP call (.bin .rem x y) fr st= .ok (.int k ((m%n:Nat):Int)) fr st:=
 Ax (by decide) (by decide) h az (by
  show(if(n:Int)=0 then none else _)=_;rw[zaa (by omega)];rfl)
end
section
variable{call:bL}{cm:Nat}{fn:ci}{e:Env}{st:aw}{Q:acv}
variable{fr:aP}{t:Tmp}{b:Bool}{yes hy z:cW}
def Pq(h:fr.tmp t= .bool b):hs fr (some (t,b)) yes hy z=yes:=by
 show ns (fr.tmp t) (fun c=>cond c (cond b yes hy) (cond b hy yes)) _=_;rw[h];cases b<;>rfl
def aud(h:fr.tmp t= .bool (!b)):hs fr (some (t,b)) yes hy z=hy:=by
 show ns (fr.tmp t) (fun c=>cond c (cond b yes hy) (cond b hy yes)) _=_;rw[h];cases b<;>rfl
end
end Go.aj
namespace Go.aj
inductive ab:Type 1
 |i (k:IntKind) (n:Int)
 |b (t:Bool)
 |s (l:List UInt8)
 |nl
 |v (x:Value)
 |p (k o:Nat)
 |gA (k z j o:Nat)
 |aY (k z o n c:Nat)
 |cc (z:Nat) (α:Type) (R:α->List ab) (l:List α)
 |hK (z:Nat) (α:Type) (R:α->List ab) (l:List α)
 |cn (z:Nat) (α:Type) (R:α->List ab) (l:List α)
 |ip (cs:List ab)
 |fn (f:Fn) (bB cs:List ab)
 |agg (cs:List ab)
 |bu (cs:List ab)
 |bad
abbrev bz:=Nat->am bD
mutual
def den(H:bz):ab->ac Nat->be->Prop
 |.i k n,_,v=>v= .int k n
 |.b t,_,v=>v= .bool t
 |.s l,_,v=>v= .string ⟨⟨l⟩⟩
 |.nl,_,v=>v= .slice none 0 0
 |.v x,_,v=>v=x
 |.p k o,ids,v=>∃b,ids[k]? =some b∧v= .pointer (some ⟨b,o,none⟩)
 |.gA k z j o,ids,v=>∃b,ids[k]? =some b∧v= .pointer (some ⟨b,j*z+o,none⟩)
 |.aY k z o n c,ids,v=>∃b,ids[k]? =some b∧v= .slice (some ⟨b,o*z,none⟩) n c
 |.cc z _ R l,_,v=>(l=[]∧v= .slice none 0 0)∨∃b o c vs el a8 aX,v= .slice (some ⟨b,o,none⟩) l.length c∧l.length<=c∧H b=some (.cells vs el a8 aX)∧∀i x,l[i]? =some x->db H (R x) [] ((vs.drop (o+i*z)).take z)
 |.hK z _ R l,_,v=>(l=[]∧v= .slice none 0 0)∨(l≠[]∧∃b o c vs el a8 aX,v= .slice (some ⟨b,o,none⟩) l.length c∧l.length<=c∧H b=some (.cells vs el a8 aX)∧∀i x,l[i]? =some x->db H (R x) [] ((vs.drop (o+i*z)).take z))
 |.cn z _ R l,_,v=>(l=[]∧v= .chan none)∨(l=[]∧v= .slice none 0 0)∨∃b o c vs el a8 aX,v= .slice (some ⟨b,o,none⟩) l.length c∧l.length<=c∧H b=some (.cells vs el a8 aX)∧∀i x,l[i]? =some x->db H (R x) [] ((vs.drop (o+i*z)).take z)
 |.ip cs,_,v=>∃b o vs el a8 aX,v= .pointer (some ⟨b,o,none⟩)∧H b=some (.cells vs el a8 aX)∧db H cs [] ((vs.drop o).take cs.length)
 |.fn f bB cs,ids,v=>∃vs ws,v= .func f ⟨vs⟩ ⟨ws⟩∧db H bB ids vs∧db H cs ids ws
 |.agg cs,ids,v=>∃vs,v= .agg ⟨vs⟩∧db H cs ids vs
 |.bu cs,ids,v=>∃vs,v= .tuple ⟨vs⟩∧db H cs ids vs
 |.bad,_,_=>False
def db(H:bz):ac ab->ac Nat->ac be->Prop
 |[],_,vs=>vs=[]
 |c::cs,ids,vs=>∃v ws,vs=v::ws∧den H c ids v∧db H cs ids ws
end
def dg(H br:bz):Prop:=∀b o,H b=some o->br b=some o
def dg.refl(H:bz):dg H H:=fun _ _ h=>h
def dg.trans{H br PL:bz}(h:dg H br)(az:dg br PL):dg H PL:=fun b o e=>az b o (h b o e)
def c5(i j:ac Nat):Prop:=∀k b:Nat,i[k]? =some b->j[k]? =some b
def c5.refl(i:ac Nat):c5 i i:=fun _ _ h=>h
def c5.nil(i:ac Nat):c5 [] i:=fun k b h=>by simp at h
def c5.app(i j:ac Nat):c5 i (i++j):=fun k b h=>by
 rw[zaV (zae.1 h).1];exact h
mutual
theorem ti{H br:bz}(h:dg H br):∀(a:ab) {i j:ac Nat} {v:be},c5 i j->den H a i v->den br a j v
 |.i _ _,_,_,_,_,d=>d
 |.b _,_,_,_,_,d=>d
 |.s _,_,_,_,_,d=>d
 |.nl,_,_,_,_,d=>d
 |.v _,_,_,_,_,d=>d
 |.p _ _,_,_,_,hi,⟨b,e,d⟩=>⟨b,hi _ _ e,d⟩
 |.gA _ _ _ _,_,_,_,hi,⟨b,e,d⟩=>⟨b,hi _ _ e,d⟩
 |.aY _ _ _ _ _,_,_,_,hi,⟨b,e,d⟩=>⟨b,hi _ _ e,d⟩
 |.cc _ _ _ _,_,_,_,_,.inl d=>.inl d
 |.cc _ _ R _,_,_,_,_,.inr ⟨b,o,c,vs,el,a8,aX,aq,e2,bV,eQ⟩=>.inr ⟨b,o,c,vs,el,a8,aX,aq,e2,h _ _ bV,fun i x J=>lL h (R x) (c5.refl _) (eQ i x J)⟩
 |.hK _ _ _ _,_,_,_,_,.inl d=>.inl d
 |.hK _ _ R _,_,_,_,_,.inr ⟨hn,b,o,c,vs,el,a8,aX,aq,e2,bV,eQ⟩=>.inr ⟨hn,b,o,c,vs,el,a8,aX,aq,e2,h _ _ bV,fun i x J=>lL h (R x) (c5.refl _) (eQ i x J)⟩
 |.cn _ _ _ _,_,_,_,_,.inl d=>.inl d
 |.cn _ _ _ _,_,_,_,_,.inr (.inl d)=>.inr (.inl d)
 |.cn _ _ R _,_,_,_,_,.inr (.inr ⟨b,o,c,vs,el,a8,aX,aq,e2,bV,eQ⟩)=>.inr (.inr ⟨b,o,c,vs,el,a8,aX,aq,e2,h _ _ bV,fun i x J=>lL h (R x) (c5.refl _) (eQ i x J)⟩)
 |.ip cs,_,_,_,_,⟨b,o,vs,el,a8,aX,aq,e2,bV⟩=>⟨b,o,vs,el,a8,aX,aq,h _ _ e2,lL h cs (c5.refl _) bV⟩
 |.fn _ bB cs,_,_,_,hi,⟨vs,ws,e,d1,d2⟩=>⟨vs,ws,e,lL h bB hi d1,lL h cs hi d2⟩
 |.agg cs,_,_,_,hi,⟨vs,e,d⟩=>⟨vs,e,lL h cs hi d⟩
 |.bu cs,_,_,_,hi,⟨vs,e,d⟩=>⟨vs,e,lL h cs hi d⟩
 |.bad,_,_,_,_,d=>d.elim
theorem lL{H br:bz}(h:dg H br):∀(a:ac ab) {i j:ac Nat} {v:ac be},c5 i j->db H a i v->db br a j v
 |[],_,_,_,_,d=>d
 |a::as,_,_,_,hi,⟨v,ws,e,d1,d2⟩=>⟨v,ws,e,ti h a hi d1,lL h as hi d2⟩
end
mutual
def lA(f:ac Nat):ab->ab
 |.p k o=>match f[k]? with|some j=>.p j o|none=>.bad
 |.gA k z j o=>match f[k]? with|some m=>.gA m z j o|none=>.bad
 |.aY k z o n c=>match f[k]? with|some m=>.aY m z o n c|none=>.bad
 |.fn g bB cs=>.fn g (n7 f bB) (n7 f cs)
 |.agg cs=>.agg (n7 f cs)
 |.bu cs=>.bu (n7 f cs)
 |.i k n=>.i k n
 |.b t=>.b t
 |.s l=>.s l
 |.nl=>.nl
 |.v x=>.v x
 |.cc z α R l=>.cc z α R l
 |.hK z α R l=>.hK z α R l
 |.cn z α R l=>.cn z α R l
 |.ip cs=>.ip cs
 |.bad=>.bad
def n7(f:ac Nat):ac ab->ac ab
 |[]=>[]
 |a::as=>lA f a::n7 f as
end
def pick(f ids:ac Nat):ac Nat:=f.map (fun k=>(ids[k]?).getD 0)
def yr{f ids:ac Nat}{k m b:Nat}(aa:f[k]? =some m)(hb:ids[m]? =some b):(pick f ids)[k]? =some b:=by
 unfold pick;rw[zco,aa];simp[hb]
mutual
theorem Rr{H:bz}(f:ac Nat){ids:ac Nat}:∀(a:ab) {v:be},den H (lA f a) ids v->den H a (pick f ids) v
 |.i _ _,_,d=>d
 |.b _,_,d=>d
 |.s _,_,d=>d
 |.nl,_,d=>d
 |.v _,_,d=>d
 |.p k o,v,d=>by
  unfold lA at d;cases h:f[k]? with
  |none=>rw[h]at d;exact d.elim
  |some j=>rw[h]at d;obtain⟨b,e,d⟩:=d;exact⟨b,yr h e,d⟩
 |.gA k z j o,v,d=>by
  unfold lA at d;cases h:f[k]? with
  |none=>rw[h]at d;exact d.elim
  |some j=>rw[h]at d;obtain⟨b,e,d⟩:=d;exact⟨b,yr h e,d⟩
 |.aY k z o n c,v,d=>by
  unfold lA at d;cases h:f[k]? with
  |none=>rw[h]at d;exact d.elim
  |some j=>rw[h]at d;obtain⟨b,e,d⟩:=d;exact⟨b,yr h e,d⟩
 |.cc _ _ _ _,_,d=>d
 |.hK _ _ _ _,_,d=>d
 |.cn _ _ _ _,_,d=>d
 |.ip _,_,d=>d
 |.fn _ bB cs,_,⟨vs,ws,e,d1,d2⟩=>⟨vs,ws,e,xh f bB d1,xh f cs d2⟩
 |.agg cs,_,⟨vs,e,d⟩=>⟨vs,e,xh f cs d⟩
 |.bu cs,_,⟨vs,e,d⟩=>⟨vs,e,xh f cs d⟩
 |.bad,_,d=>d.elim
theorem xh{H:bz}(f:ac Nat){ids:ac Nat}:∀(a:ac ab) {v:ac be},db H (n7 f a) ids v->db H a (pick f ids) v
 |[],_,d=>d
 |a::as,_,⟨v,ws,e,d1,d2⟩=>⟨v,ws,e,Rr f a d1,xh f as d2⟩
end
mutual
def qv:ab->Bool
 |.p _ _|.gA _ _ _ _|.aY _ _ _ _ _=>false
 |.fn _ bB cs=>iN bB&&iN cs
 |.agg cs=>iN cs
 |.bu cs=>iN cs
 |_=>true
def iN:ac ab->Bool
 |[]=>true
 |a::as=>qv a&&iN as
end
mutual
theorem FM{H:bz}{ids:ac Nat}:∀(a:ab) {v:be},qv a=true->den H a ids v->∀j,den H a j v
 |.i _ _,_,_,d,_=>d
 |.b _,_,_,d,_=>d
 |.s _,_,_,d,_=>d
 |.nl,_,_,d,_=>d
 |.v _,_,_,d,_=>d
 |.p _ _,_,h,_,_=>by cases h
 |.gA _ _ _ _,_,h,_,_=>by cases h
 |.aY _ _ _ _ _,_,h,_,_=>by cases h
 |.cc _ _ _ _,_,_,d,_=>d
 |.hK _ _ _ _,_,_,d,_=>d
 |.cn _ _ _ _,_,_,d,_=>d
 |.ip _,_,_,d,_=>d
 |.fn _ bB cs,_,h,⟨vs,ws,e,d1,d2⟩,j=>by
  have h:(iN bB&&iN cs)=true:=h;rw[bX]at h;exact⟨vs,ws,e,o3 bB h.1 d1 j,o3 cs h.2 d2 j⟩
 |.agg cs,_,h,⟨vs,e,d⟩,j=>⟨vs,e,o3 cs h d j⟩
 |.bu cs,_,h,⟨vs,e,d⟩,j=>⟨vs,e,o3 cs h d j⟩
 |.bad,_,_,d,_=>d.elim
theorem o3{H:bz}{ids:ac Nat}:∀(a:ac ab) {v:ac be},iN a=true->db H a ids v->∀j,db H a j v
 |[],_,_,d,_=>d
 |a::as,_,h,⟨v,ws,e,d1,d2⟩,j=>by
  have h:(qv a&&iN as)=true:=h;rw[bX]at h;exact⟨v,ws,e,FM a h.1 d1 j,o3 as h.2 d2 j⟩
end
variable{v:be}
def s9:ab->Bool
 |.v x=>mY x
 |.agg _|.bu _|.bad=>false
 |_=>true
def rW:ac ab->Bool
 |[]=>true
 |a::as=>s9 a&&rW as
def QS{H:bz}{ids:ac Nat}{a:ab}(h:s9 a=true)(d:den H a ids v):mY v=true:=by
 cases a<;>first
  |(cases h;done)
  |(obtain⟨b,_,rfl⟩:=d;rfl;done)
  |(rcases d with⟨_,rfl⟩|⟨b,o,c,_,_,_,_,rfl,_⟩<;>rfl;done)
  |(rcases d with⟨_,rfl⟩|⟨_,b,o,c,_,_,_,_,rfl,_⟩<;>rfl;done)
  |(rcases d with⟨_,rfl⟩|⟨_,rfl⟩|⟨b,o,c,_,_,_,_,rfl,_⟩<;>rfl;done)
  |(obtain⟨b,o,c,_,_,_,rfl,_⟩:=d;rfl;done)
  |(obtain⟨b,_,rfl,_⟩:=d;rfl;done)
  |(have kf:=d;unfold den at kf;subst kf;first|rfl|exact h)
def adJ(h:mY v=true):iB v=[v]:=by
 cases v<;>first|rfl|cases h
theorem BO{H:bz}{ids:ac Nat}:∀{as:ac ab} {vs:ac be},rW as=true->db H as ids vs->gZ vs=true
 |[],_,_,d=>by cases d;rfl
 |a::as,_,h,⟨v,ws,e,d1,d2⟩=>by
  subst e;have h:(s9 a&&rW as)=true:=h;rw[bX]at h;show cond (mY v) (gZ ws) false=true;rw[QS h.1 d1,BO h.2 d2];rfl
theorem h6{H:bz}{ids:ac Nat}:∀{as:ac ab} {vs:ac be},db H as ids vs->vs.length=as.length
 |[],_,d=>by cases d;rfl
 |a::as,_,⟨v,ws,e,d1,d2⟩=>by subst e;simp[h6 d2]
theorem vb{H:bz}{ids:ac Nat}:∀{as:ac ab} {vs:ac be} {k:Nat} {a:ab},db H as ids vs->as[k]? =some a->∃v,vs[k]? =some v∧den H a ids v
 |[],_,_,_,_,h=>by simp at h
 |a::as,_,0,_,⟨v,ws,e,d1,d2⟩,h=>by subst e;simp at h;subst h;exact⟨v,rfl,d1⟩
 |a::as,_,k+1,c,⟨v,ws,e,d1,d2⟩,h=>by
  subst e;obtain⟨u,h1,h2⟩:=vb (k:=k) (a:=c) d2 (by simpa using h);exact⟨u,by simpa using h1,h2⟩
theorem zy{H:bz}{ids:ac Nat}:∀{as bS:ac ab} {vs ws:ac be},db H as ids vs->db H bS ids ws->db H (as++bS) ids (vs++ws)
 |[],_,_,_,d,kf=>by cases d;exact kf
 |a::as,_,_,_,⟨v,ws,e,d1,d2⟩,kf=>by subst e;exact⟨v,_,rfl,d1,zy d2 kf⟩
theorem o2{H:bz}{ids:ac Nat}:∀{as:ac ab} {vs:ac be} (n:Nat),db H as ids vs->db H (as.drop n) ids (vs.drop n)
 |_,_,0,d=>d
 |[],_,n+1,d=>by cases d;exact rfl
 |a::as,_,n+1,⟨v,ws,e,d1,d2⟩=>by subst e;exact o2 n d2
theorem vd{H:bz}{ids:ac Nat}:∀{as:ac ab} {vs:ac be} (n:Nat),db H as ids vs->db H (as.take n) ids (vs.take n)
 |_,_,0,d=>rfl
 |[],_,n+1,d=>by cases d;exact rfl
 |a::as,_,n+1,⟨v,ws,e,d1,d2⟩=>by subst e;exact⟨v,_,rfl,d1,vd n d2⟩
def bZ(a b:ab):Prop:=∀(H:bz) (i:ac Nat) (v:be),den H a i v->den H b i v
variable{z:Nat}{α:Type}{a b:ab}{as bS:ac ab}{R:α->ac ab}{l:ac α}
def kJ:ac ab->ac ab->Prop
 |[],[]=>True
 |a::as,b::bS=>bZ a b∧kJ as bS
 |_,_=>False
def bZ.refl(a:ab):bZ a a:=fun _ _ _ d=>d
def bZ.of(h:a=b):bZ a b:=h▸bZ.refl a
def kJ.refl:∀l:ac ab,kJ l l
 |[]=>trivial
 |a::as=>⟨bZ.refl a,kJ.refl as⟩
def kJ.den{H:bz}{i:ac Nat}:∀{as bS:ac ab} {vs:ac be},kJ as bS->db H as i vs->db H bS i vs
 |[],[],_,_,d=>d
 |[],_::_,_,h,_=>h.elim
 |_::_,[],_,h,_=>h.elim
 |_::_,_::_,_,⟨h1,h2⟩,⟨v,ws,e,d1,d2⟩=>⟨v,ws,e,h1 _ _ _ d1,kJ.den h2 d2⟩
def bZ.agg(h:kJ as bS):bZ (.agg as) (.agg bS):=fun _ _ _ ⟨vs,e,d⟩=>⟨vs,e,h.den d⟩
def bZ.bu(h:kJ as bS):bZ (.bu as) (.bu bS):=fun _ _ _ ⟨vs,e,d⟩=>⟨vs,e,h.den d⟩
def bZ.nl:bZ .nl (.cc z α R []):=fun _ _ _ d=>.inl ⟨rfl,d⟩
def bZ.NC:bZ .nl (.hK z α R []):=fun _ _ _ d=>.inl ⟨rfl,d⟩
def bZ.nG(h:l≠[]):bZ (.cn z α R l) (.cc z α R l):=fun _ _ _ d=>d.elim (fun d=>absurd d.1 h) id
def bZ.cn:bZ (.cc z α R l) (.cn z α R l):=fun _ _ _ d=>.inr d
def bZ.auE:bZ (.hK z α R l) (.cc z α R l):=fun _ _ _ d=>d.elim .inl (fun d=>.inr d.2)
def bZ.hK(h:l≠[]):bZ (.cc z α R l) (.hK z α R l):=fun _ _ _ d=>d.elim .inl (fun d=>.inr ⟨h,d⟩)
def bZ.trans{c:ab}(h:bZ a b)(az:bZ b c):bZ a c:=fun H i v d=>az H i v (h H i v d)
open Sym
section
abbrev bO:=ac (Nat×ab)
def dZ:bO->Nat->am ab
 |[],_=>none
 |(i,a)::l,j=>cond (Nat.beq i j) (some a) (dZ l j)
def qj(p:Nat×ab)(l:bO)(j:Nat):dZ (p::l) j=cond (Nat.beq p.1 j) (some p.2) (dZ l j):=rfl
def DR:be->ab
 |.int k n=>.i k n
 |.bool t=>.b t
 |.string ⟨⟨l⟩⟩=>.s l
 |.slice none 0 0=>.nl
 |x=>.v x
def v8:ac be->ac ab
 |[]=>[]
 |v::vs=>DR v::v8 vs
def ae7(H:bz)(ids:ac Nat)(v:be):den H (DR v) ids v:=by
 unfold DR;split<;>rfl
theorem vc(H:bz)(ids:ac Nat):∀vs:ac be,db H (v8 vs) ids vs
 |[]=>rfl
 |v::vs=>⟨v,vs,rfl,ae7 H ids v,vc H ids vs⟩
def NH:be->am ab
 |.agg ⟨l⟩=>some (.agg (v8 l))
 |.int k n=>some (.i k n)
 |.bool t=>some (.b t)
 |.string ⟨⟨l⟩⟩=>some (.s l)
 |.slice none 0 0=>some .nl
 |.tuple ⟨[]⟩=>some (.bu [])
 |x=>some (.v x)
def aoG(h:NH v=some a)(H:bz)(ids:ac Nat):den H a ids v:=by
 unfold NH at h;split at h<;>cases h
 ·exact⟨_,rfl,vc H ids _⟩
 all_goals first|rfl|exact⟨[],rfl,rfl⟩
def bj(e:bO):bi->am ab
 |.tmp j=>dZ e j
 |.const v=>NH v
 |.global g=>some (.v (.pointer (some ⟨g,0,none⟩)))
 |.func f=>some (.v (.func (.func f) #[] #[]))
def k4(e:bO):ac bi->am (ac ab)
 |[]=>some []
 |x::xs=>match bj e x with
  |some a=>match k4 e xs with
   |some as=>some (a::as)
   |none=>none
  |none=>none
structure c3(fr:aP)(H:bz)(ids:ac Nat)(e:bO):Prop where
 pl:wY fr
 get:∀j a,dZ e j=some a->den H a ids (fr.tmp j)
variable{fr:aP}{H:bz}{ids:ac Nat}{e:bO}
def c3.af(h:c3 fr H ids e){x:bi}(J:bj e x=some a):den H a ids (fr.af x):=by
 cases x with
 |tmp j=>exact h.get j a J
 |const w=>exact aoG J H ids
 |global g=>cases J;rfl
 |func f=>cases J;rfl
theorem c3.eC{fr:aP}{H:bz}{ids:ac Nat}{e:bO}(h:c3 fr H ids e):∀{xs:ac bi} {as:ac ab},k4 e xs=some as->db H as ids (eC fr xs)
 |[],_,J=>by cases J;rfl
 |x::xs,_,J=>by
  unfold k4 at J;cases h1:bj e x with
  |none=>rw[h1]at J;cases J
  |some a=>
   cases h2:k4 e xs with
   |none=>rw[h1,h2]at J;cases J
   |some as=>
    rw[h1,h2]at J;cases J;exact⟨_,_,rfl,h.af h1,h.eC h2⟩
def c3.put(h:c3 fr H ids e)(d:Tmp)(aF:den H a ids v):c3 (fr.put (some d) v) H ids ((d,a)::e):=by
 refine⟨h.pl.put _ _,fun j w hj=> ?_⟩;rw[qj]at hj;rw[Be];cases hb:Nat.beq d j with
 |true=>
  rw[hb]at hj;rw[zab (ek hb).symm];cases hj;exact aF
 |false=>
  rw[hb]at hj;rw[zaa (fun e=>by rw[e,zaL]at hb;cases hb)];exact h.get j w hj
def nF(d:Nat):bO->bO
 |[]=>[]
 |p::l=>cond (Nat.beq p.1 d) (nF d l) (p::nF d l)
theorem HC(d:Nat):∀(e:bO) (j:Nat) (a:ab),dZ (nF d e) j=some a->j≠d∧dZ e j=some a
 |[],_,_,h=>by cases h
 |p::e,j,a,h=>by
  unfold nF at h;cases hb:Nat.beq p.1 d with
  |true=>
   rw[hb]at h;obtain⟨h1,h2⟩:=HC d e j a h;refine⟨h1,?_⟩;rw[qj];have:Nat.beq p.1 j=false:=by
    cases hc:Nat.beq p.1 j with
    |false=>rfl
    |true=>exact absurd ((ek hc).symm.trans (ek hb)) h1
   rw[this];exact h2
  |false=>
   rw[hb]at h;have h:cond (Nat.beq p.1 j) (some p.2) (dZ (nF d e) j)=some a:=h;rw[qj];cases hc:Nat.beq p.1 j with
   |true=>
    rw[hc]at h;refine⟨fun e=> ?_,h⟩;rw[<-e,hc]at hb;cases hb
   |false=>rw[hc]at h;exact HC d e j a h
def c3.afq(h:c3 fr H ids e)(d:Tmp)(v:be):c3 (fr.put (some d) v) H ids (nF d e):=by
 refine⟨h.pl.put _ _,fun j w hj=> ?_⟩;obtain⟨h1,h2⟩:=HC d e j w hj;rw[Be,zaa h1];exact h.get j w h2
def c3.mono{br:bz}{cY:ac Nat}(h:c3 fr H ids e)(hh:dg H br)(hi:c5 ids cY):c3 fr br cY e:=⟨h.pl,fun j a hj=>ti hh a hi (h.get j a hj)⟩
def eN(L:ac Nat):bO->bO
 |[]=>[]
 |p::l=>cond (L.any (Nat.beq p.1)) (p::eN L l) (eN L l)
theorem Nb(L:ac Nat):∀(e:bO) (j:Nat) (a:ab),dZ (eN L e) j=some a->L.contains j=true∧dZ e j=some a
 |[],_,_,h=>by cases h
 |p::e,j,a,h=>by
  unfold eN at h;cases hb:L.any (Nat.beq p.1)with
  |true=>
   rw[hb]at h;have h:cond (Nat.beq p.1 j) (some p.2) (dZ (eN L e) j)=some a:=h;rw[qj];cases hc:Nat.beq p.1 j with
   |true=>
    rw[hc]at h;refine⟨?_,h⟩;obtain⟨x,J,bJ⟩:=zeh.1 hb;rw[<-ek hc,ek bJ];simpa using J
   |false=>rw[hc]at h;exact Nb L e j a h
  |false=>
   rw[hb]at h;obtain⟨h1,h2⟩:=Nb L e j a h;refine⟨h1,?_⟩;rw[qj];have:Nat.beq p.1 j=false:=by
    cases hc:Nat.beq p.1 j with
    |false=>rfl
    |true=>
     rw[ek hc]at hb;rw[List.any_eq_false]at hb;exact absurd (zaL j) (hb j (by simpa using h1))
   rw[this];exact h2
def c3.only(h:c3 fr H ids e)(ts:ac Tmp):c3 (fr.only ts) H ids (eN ts e):=
 ⟨⟨rfl,rfl,rfl⟩,fun j a hj=>by
   obtain⟨h1,h2⟩:=Nb ts e j a hj;have:=O (ts:=ts) (fr:=fr) (j:=j) (x:=fr.tmp j) rfl h1;rw[F3]at this;rw[this];exact h.get j a h2⟩
def qK(op:BinOp)(k:d7)(a b:Int):am ab:=
 match op with
 |.add=>some (.i k (k.wrap (a+b)))
 |.sub=>some (.i k (k.wrap (a-b)))
 |.mul=>some (.i k (k.wrap (a*b)))
 |.quo=>if b=0 then none else some (.i k (k.wrap (a.tdiv b)))
 |.rem=>if b=0 then none else some (.i k (a.tmod b))
 |.and=>some (.i k (k.wrap (BitVec.ofInt k.bits a&&&BitVec.ofInt k.bits b).toNat))
 |.or=>some (.i k (k.wrap (BitVec.ofInt k.bits a|||BitVec.ofInt k.bits b).toNat))
 |.xor=>some (.i k (k.wrap (BitVec.ofInt k.bits a^^^BitVec.ofInt k.bits b).toNat))
 |.andNot=>some (.i k (k.wrap (BitVec.ofInt k.bits a&&& ~~~(BitVec.ofInt k.bits b)).toNat))
 |.eql=>some (.b (decide (a=b)))
 |.neq=>some (.b (decide (a≠b)))
 |.lss=>some (.b (decide (a<b)))
 |.leq=>some (.b (decide (a<=b)))
 |.gtr=>some (.b (decide (b<a)))
 |.geq=>some (.b (decide (b<=a)))
 |_=>none
def zb(op:BinOp)(k:d7)(M:Nat)(a b:Int):am ab:=
 match op with
 |.add=>match a,b with
  |.ofNat m,.ofNat n=>some (.i k (((m+n)%M:Nat):Int))
  |a,b=>qK .add k a b
 |.sub=>match a,b with
  |.ofNat m,.ofNat n=>some (.i k (((m+(M*n-n))%M:Nat):Int))
  |a,b=>qK .sub k a b
 |.mul=>match a,b with
  |.ofNat m,.ofNat n=>some (.i k ((m*n%M:Nat):Int))
  |a,b=>qK .mul k a b
 |.quo=>match a,b with
  |.ofNat m,.ofNat n=>if n=0 then none else some (.i k ((m/n%M:Nat):Int))
  |a,b=>qK .quo k a b
 |.rem=>match a,b with
  |.ofNat m,.ofNat n=>if n=0 then none else some (.i k ((m%n:Nat):Int))
  |a,b=>qK .rem k a b
 |.and=>match a,b with
  |.ofNat m,.ofNat n=>some (.i k (((m%M)&&&(n%M):Nat):Int))
  |a,b=>qK .and k a b
 |.or=>match a,b with
  |.ofNat m,.ofNat n=>some (.i k (((m%M)|||(n%M):Nat):Int))
  |a,b=>qK .or k a b
 |op=>qK op k a b
def J2(op:BinOp)(k:d7)(a b:Int):am ab:=
 match k with
 |.u8=>zb op .u8 256 a b
 |.u16=>zb op .u16 65536 a b
 |.u32=>zb op .u32 4294967296 a b
 |.u64=>zb op .u64 18446744073709551616 a b
 |k=>qK op k a b
def zc(k:d7)(M:Nat)(n:Int):am ab:=
 match n with
 |.ofNat m=>some (.i k ((m%M:Nat):Int))
 |n=>some (.i k (k.wrap n))
def J5(k:d7)(n:Int):am ab:=
 match k with
 |.u8=>zc .u8 256 n
 |.u16=>zc .u16 65536 n
 |.u32=>zc .u32 4294967296 n
 |.u64=>zc .u64 18446744073709551616 n
 |k=>some (.i k (k.wrap n))
def zg(k:d7)(M:Nat)(a b:Int):am ab:=
 match a,b with
 |.ofNat m,.ofNat n=>some (.i k ((m*2^n%M:Nat):Int))
 |_,_=>none
def Kn(k:d7)(a b:Int):am ab:=
 match b with
 |.ofNat n=>match Nat.ble n k.bits with
  |true=>some (.i k (k.wrap (a*2^n)))
  |false=>none
 |_=>none
def Km(k:d7)(a b:Int):am ab:=
 match k with
 |.u8=>zg .u8 256 a b
 |.u16=>zg .u16 65536 a b
 |.u32=>zg .u32 4294967296 a b
 |.u64=>zg .u64 18446744073709551616 a b
 |k=>Kn k a b
def Ko(k:d7)(a b:Int):am ab:=
 match b with
 |.ofNat n=>match Nat.ble n k.bits with
  |true=>match a with
   |.ofNat m=>some (.i k ((m/2^n:Nat):Int))
   |a=>some (.i k (a.fdiv (2^n)))
  |false=>none
 |_=>none
def PR(op:BinOp)(k k':d7)(a b:Int):am ab:=
 match op with
 |.shl=>Km k a b
 |.shr=>Ko k a b
 |op=>match jE k k' with
  |true=>J2 op k a b
  |false=>none
def J3(op:BinOp):ab->ab->am ab
 |.i k a,.i k' b=>PR op k k' a b
 |.s x,.s y=>match op with
  |.eql=>some (.b (x==y))
  |.neq=>some (.b (!(x==y)))
  |_=>none
 |_,_=>none
def Kq(op:UnOp):ab->am ab
 |.i k n=>match op with
  |.neg=>some (.i k (k.wrap (-n)))
  |.xor=>some (.i k (k.wrap (BitVec.ofInt k.bits (if k.signed then -1 else k.max)^^^BitVec.ofInt k.bits n).toNat))
  |_=>none
 |.b t=>match op with
  |.not=>some (.b (!t))
  |_=>none
 |_=>none
def kd(neg:Bool)(b:Bool):Bool:=cond neg (!b) b
def J9(neg:Bool):oP->ab->ab->am ab
 |.sC,.b x,.b y=>some (.b (kd neg (x==y)))
 |.sC,.i k x,.i k' y=>match jE k k' with
  |true=>some (.b (kd neg (decide (x=y))))
  |false=>none
 |.sC,.s x,.s y=>some (.b (kd neg (x==y)))
 |.kF,.nl,.nl=>some (.b (kd neg true))
 |.kF,.hK _ _ _ l,.nl=>some (.b (kd neg l.isEmpty))
 |.kF,.aY _ _ _ _ _,.nl=>some (.b (kd neg false))
 |.kF,.nl,.aY _ _ _ _ _=>some (.b (kd neg false))
 |.ptr,.p _ _,.v (.pointer none)=>some (.b (kd neg false))
 |.ptr,.gA _ _ _ _,.v (.pointer none)=>some (.b (kd neg false))
 |.ptr,.ip _,.v (.pointer none)=>some (.b (kd neg false))
 |.v3,.fn _ _ _,.v .nilFunc=>some (.b (kd neg false))
 |_,_,_=>none
def Ff(e:bO)(k:d7):ac bi->Int->am ab
 |[],m=>some (.i k m)
 |x::xs,m=>match bj e x with
  |some (.i k' y)=>match jE k k' with
   |true=>Ff e k xs (max m y)
   |false=>none
  |_=>none
def Fg(e:bO)(k:d7):ac bi->Int->am ab
 |[],m=>some (.i k m)
 |x::xs,m=>match bj e x with
  |some (.i k' y)=>match jE k k' with
   |true=>Fg e k xs (min m y)
   |false=>none
  |_=>none
def Ju{β:Type _}:ac ab->Nat->(ac ab->am β)->am β
 |_,0,K=>K []
 |[],_+1,_=>none
 |a::as,n+1,K=>Ju as n fun r=>K (a::r)
def Du:ac ab->Nat->Bool
 |[],0=>true
 |_::as,n+1=>Du as n
 |_,_=>false
def xb{β:Type _}(cs:ac ab)(o n:Nat)(K:ac ab->am β):am β:=
 match o with
 |0=>match Du cs n with
  |true=>K cs
  |false=>Ju cs n K
 |o=>Ju (cs.drop o) n K
def Ih(hF:Bool):ac ab->am ab
 |[a]=>match hF with
  |true=>some (.agg [a])
  |false=>some a
 |cs=>match hF with
  |true=>some (.agg cs)
  |false=>none
def Kc(e:bO):c7->am ab
 |.l1 x=>bj e x
 |.jZ x=>bj e x
 |.bin op x y=>match bj e x with
  |some a=>match bj e y with
   |some b=>J3 op a b
   |none=>none
  |none=>none
 |.eqv neg t x y=>match bj e x with
  |some a=>match bj e y with
   |some b=>J9 neg t a b
   |none=>none
  |none=>none
 |.un op x=>match bj e x with
  |some a=>Kq op a
  |none=>none
 |.tb k x=>match bj e x with
  |some (.i _ n)=>J5 k n
  |_=>none
 |.w7 x=>match bj e x with
  |some (.s l)=>some (.s l)
  |_=>none
 |.uc f bB cs=>match k4 e bB with
  |some as=>match k4 e cs with
   |some bS=>some (.fn f as bS)
   |none=>none
  |none=>none
 |.xo x i=>match bj e x with
  |some (.bu vs)=>vs[i]?
  |_=>none
 |.oE x=>match bj e x with
  |some .nl=>some (.i .i64 0)
  |some (.aY _ _ _ n _)=>some (.i .i64 (n:Int))
  |some (.cc _ _ _ l)=>some (.i .i64 (l.length:Int))
  |some (.hK _ _ _ l)=>some (.i .i64 (l.length:Int))
  |some (.cn _ _ _ l)=>some (.i .i64 (l.length:Int))
  |_=>none
 |.tY x=>match bj e x with
  |some (.s l)=>some (.i .i64 (l.length:Int))
  |_=>none
 |.x2 n=>some (.i .i64 (n:Int))
 |.xp off x=>match bj e x with
  |some (.p k o)=>some (.p k (o+off))
  |some (.gA k z j o)=>some (.gA k z j (o+off))
  |some (.ip cs)=>some (.ip (cs.drop off))
  |_=>none
 |.o7 off a7 hF x=>match bj e x with
  |some (.agg cs)=>xb cs off a7 (Ih hF)
  |_=>none
 |.sw x=>match bj e x with
  |some (.p k o)=>some (.p k o)
  |some (.gA k z j o)=>some (.gA k z j o)
  |some (.ip cs)=>some (.ip cs)
  |some (.v (.func (.func g) a b))=>some (.v (.func (.func g) a b))
  |_=>none
 |.pick c x y=>match bj e c with
  |some (.b true)=>bj e x
  |some (.b false)=>bj e y
  |_=>none
 |.eX x xs=>match bj e x with
  |some (.i k n)=>Ff e k xs n
  |_=>none
 |.yb x xs=>match bj e x with
  |some (.i k n)=>Fg e k xs n
  |_=>none
 |_=>none
end
section
variable{call:bL}{fr:aP}{x y i:bi}
variable{k:d7}
def WN{k':d7}(h:jE k k'=true):k=k':=by cases k<;>cases k'<;>first|rfl|cases h
def s5{op:BinOp}{a b:Int}{r:ab}(h:qK op k a b=some r)(h1:op≠.shl)(h2:op≠.shr)(J:fr.af x= .int k a)(aA:fr.af y= .int k b):
 ∃v,(∀H ids,den H r ids v)∧∀st,bP call (.bin op x y) fr st= .ok v fr st:=by
 have key:∀v,rk op k a b=some v->(∀H ids,den H r ids v)->∃v,(∀H ids,den H r ids v)∧∀st,bP call (.bin op x y) fr st= .ok v fr st:=
  fun v e d=>⟨v,d,fun st=>Ax h1 h2 J aA e⟩
 cases op<;>simp only[qK]at h
 case quo=>split at h<;>cases h;rename_i hb;exact key _ (by simp only[rk,zaa hb]) fun _ _=>rfl
 case rem=>split at h<;>cases h;rename_i hb;exact key _ (by simp only[rk,zaa hb]) fun _ _=>rfl
 all_goals first
  |(cases h;done)
  |(cases h;exact key _ rfl fun _ _=>rfl)
  |(cases h;exact key _ rfl fun _ _=>by show Value.bool _=Value.bool _;congr 1;rw[zaZ];simp)
def w1(k:d7)(M:Nat):Prop:=(∀n:Int,k.wrap n=n%(M:Int))∧M=2^k.bits
variable{r:ab}{k':d7}{H:bz}{ids:ac Nat}{op:BinOp}{n M:Nat}{cs:ac ab}{o:Nat}
def Pg:w1 .u8 256:=⟨fun n=>by rw[<-kt];exact rP _ _ (by decide),rfl⟩
def Pd:w1 .u16 65536:=⟨fun n=>by rw[<-kt];exact rP _ _ (by decide),rfl⟩
def Pe:w1 .u32 4294967296:=⟨fun n=>by rw[<-kt];exact rP _ _ (by decide),rfl⟩
def Pf:w1 .u64 18446744073709551616:=⟨fun n=>by rw[<-kt];exact rP _ _ (by decide),rfl⟩
def E9(kX:w1 k M){a b:Int}(h:zb op k M a b=some r)(h1:op≠.shl)(h2:op≠.shr)(J:fr.af x= .int k a)(aA:fr.af y= .int k b):
 ∃v,(∀H ids,den H r ids v)∧∀st,bP call (.bin op x y) fr st= .ok v fr st:=by
 have hp:0<M:=by rw[kX.2];exact zah _
 have key:∀v,rk op k a b=some v->(∀H ids,den H r ids v)->∃v,(∀H ids,den H r ids v)∧∀st,bP call (.bin op x y) fr st= .ok v fr st:=
  fun v e d=>⟨v,d,fun st=>Ax h1 h2 J aA e⟩
 have xm:∀{m n:Int},m=n->∀(H:bz) (ids:ac Nat),den H (.i k n) ids (.int k m):=fun e _ _=>by rw[e];rfl
 have wn:∀n:Nat,k.wrap (n:Int)=((n%M:Nat):Int):=fun n=>by rw[kX.1];rfl
 have avK:∀n:Nat,n%M<2^k.bits:=fun n=>by rw[<-kX.2];exact zaf _ hp
 unfold zb at h;split at h
 ·split at h
  ·rename_i m n;cases h;exact key _ rfl (xm (wn (m+n)))
  ·exact s5 h h1 h2 J aA
 ·split at h
  ·rename_i m n;cases h;refine key _ rfl (xm ?_);rw[kX.1];have e:((m+(M*n-n):Nat):Int)=((m:Int)-n)+M*n:=by
    have:n<=M*n:=Nat.le_mul_of_pos_left n hp;rw[zdA,Int.ofNat_sub this,zap];omega
   rw[Int.natCast_emod,e,Int.add_mul_emod_self_left];rfl
  ·exact s5 h h1 h2 J aA
 ·split at h
  ·rename_i m n;cases h;exact key _ rfl (xm (wn (m*n)))
  ·exact s5 h h1 h2 J aA
 ·split at h
  ·rename_i m n;split at h<;>cases h;rename_i hn;refine key (.int k (k.wrap ((m:Int).tdiv n))) (by show(if(n:Int)=0 then none else _)=_;rw[zaa (by omega)];rfl) (xm ?_);exact wn (m/n)
  ·exact s5 h h1 h2 J aA
 ·split at h
  ·rename_i m n;split at h<;>cases h;rename_i hn;exact key (.int k ((m:Int).tmod n)) (by show(if(n:Int)=0 then none else _)=_;rw[zaa (by omega)];rfl) (xm rfl)
  ·exact s5 h h1 h2 J aA
 ·split at h
  ·rename_i m n;cases h;refine key _ rfl (xm ?_);show k.wrap ((BitVec.ofInt k.bits (m:Int)&&&BitVec.ofInt k.bits (n:Int)).toNat:Nat)=_;rw[BitVec.toNat_and,zbC,zbC,zdB,zdB,<-kX.2,wn,dJ];rw[kX.2];exact Nat.and_lt_two_pow _ (by rw[<-kX.2];exact zaf _ hp)
  ·exact s5 h h1 h2 J aA
 ·split at h
  ·rename_i m n;cases h;refine key _ rfl (xm ?_);show k.wrap ((BitVec.ofInt k.bits (m:Int)|||BitVec.ofInt k.bits (n:Int)).toNat:Nat)=_;rw[BitVec.toNat_or,zbC,zbC,zdB,zdB,<-kX.2,wn,dJ];rw[kX.2];exact Nat.or_lt_two_pow (by rw[<-kX.2];exact zaf _ hp) (by rw[<-kX.2];exact zaf _ hp)
  ·exact s5 h h1 h2 J aA
 ·exact s5 h h1 h2 J aA
def acG{a b:Int}(h:J2 op k a b=some r)(h1:op≠.shl)(h2:op≠.shr)(J:fr.af x= .int k a)(aA:fr.af y= .int k b):
 ∃v,(∀H ids,den H r ids v)∧∀st,bP call (.bin op x y) fr st= .ok v fr st:=by
 unfold J2 at h;split at h
 ·exact E9 Pg h h1 h2 J aA
 ·exact E9 Pd h h1 h2 J aA
 ·exact E9 Pe h h1 h2 J aA
 ·exact E9 Pf h h1 h2 J aA
 ·exact s5 h h1 h2 J aA
def acH{n:Int}(h:J5 k n=some r)(H:bz)(ids:ac Nat):den H r ids (.int k (k.wrap n)):=by
 have u:∀{k:d7} {M:Nat},w1 k M->zc k M n=some r->den H r ids (.int k (k.wrap n)):=fun kX h=>by
  unfold zc at h;split at h<;>cases h
  ·show Value.int _ _=Value.int _ _;rw[kX.1];rfl
  ·rfl
 unfold J5 at h;split at h
 ·exact u Pg h
 ·exact u Pd h
 ·exact u Pe h
 ·exact u Pf h
 ·cases h;rfl
def Jg{a:Int}(J:fr.af x= .int k a)(aA:fr.af y= .int k' (n:Int))(st:aw):bP call (.bin .shl x y) fr st= .ok (.int k (k.wrap (a*2^(min n k.bits)))) fr st:=by
 rw[DV,J,aA,K9];show g9 (n:Int) (fun n=>hY k (yI k a n) (fun v=>aS.ok v fr st)) aS.no=_;rw[nW,ib];have:yI k a n=k.wrap (a*2^(min n k.bits)):=by
  unfold yI;rw[kt,Nr];simp
 rw[this]
def Fm(kX:w1 k M){a b:Int}(h:zg k M a b=some r)(J:fr.af x= .int k a)(aA:fr.af y= .int k' b):
 ∃v,(∀H ids,den H r ids v)∧∀st,bP call (.bin .shl x y) fr st= .ok v fr st:=by
 unfold zg at h;split at h
 ·rename_i m n;cases h;refine⟨_,fun H ids=> ?_,fun st=>Jg J aA st⟩;show Value.int _ _=Value.int _ _;congr 1;have e:((m:Int)*2^(min n k.bits))=((m*2^(min n k.bits):Nat):Int):=by simp
  show k.wrap ((m:Int)*2^(min n k.bits))=_;rw[e,kX.1,<-Int.natCast_emod];congr 1;rcases Nat.le_total n k.bits with hn|hn
  ·rw[zaA hn]
  ·rw[Nat.min_eq_right hn,<-kX.2];have:2^n=M*2^(n-k.bits):=by rw[kX.2,<-zal];congr 1;omega
   rw[this,zej,<-zar,zaj m M,zar,Nat.mul_mod_right]
 ·cases h
def ac9{a b:Int}(h:Kn k a b=some r)(J:fr.af x= .int k a)(aA:fr.af y= .int k' b):
 ∃v,(∀H ids,den H r ids v)∧∀st,bP call (.bin .shl x y) fr st= .ok v fr st:=by
 unfold Kn at h;cases b with
 |negSucc n=>cases h
 |ofNat n=>
  simp only at h;split at h<;>cases h;rename_i hn;refine⟨_,fun _ _=> ?_,fun st=>Jg J aA st⟩;rw[zaA (jN hn)];rfl
def ada{a b:Int}(h:Km k a b=some r)(J:fr.af x= .int k a)(aA:fr.af y= .int k' b):
 ∃v,(∀H ids,den H r ids v)∧∀st,bP call (.bin .shl x y) fr st= .ok v fr st:=by
 unfold Km at h;split at h
 ·exact Fm Pg h J aA
 ·exact Fm Pd h J aA
 ·exact Fm Pe h J aA
 ·exact Fm Pf h J aA
 ·exact ac9 h J aA
def Kp{a b:Int}(h:Ko k a b=some r)(J:fr.af x= .int k a)(aA:fr.af y= .int k' b):
 ∃v,(∀H ids,den H r ids v)∧∀st,bP call (.bin .shr x y) fr st= .ok v fr st:=by
 unfold Ko at h;cases b with
 |negSucc n=>cases h
 |ofNat n=>
  simp only at h;split at h<;>try cases h
  rename_i hn;have hn:=jN hn;have e:∀st,bP call (.bin .shr x y) fr st= .ok (.int k (uD k a n)) fr st:=fun st=>by
   rw[DV,J,aA,K9];show g9 (n:Int) (fun n=>hY k (uD k a n) (fun v=>aS.ok v fr st)) aS.no=_;rw[nW,ib]
  refine⟨_,?_,e⟩;intro H ids;cases a with
  |ofNat m=>
   cases h;show Value.int _ _=Value.int _ _;congr 1;show uD k (m:Int) n=_;unfold uD;rw[nW,zaA hn];rfl
  |negSucc m=>
   cases h;show Value.int _ _=Value.int _ _;congr 1;unfold uD;rw[zaA hn];rfl
def acF(h:J3 op a b=some r)(J:den H a ids (fr.af x))(aA:den H b ids (fr.af y)):
 ∃v,(∀H ids,den H r ids v)∧∀st,bP call (.bin op x y) fr st= .ok v fr st:=by
 unfold J3 at h;split at h
 ·rename_i k m k' n;have J:fr.af x= .int k m:=J;have aA:fr.af y= .int k' n:=aA;unfold PR at h;split at h
  ·exact ada h J aA
  ·exact Kp h J aA
  ·rename_i h1 h2;split at h
   ·rename_i U;cases WN U;exact acG h (by simpa using h1) (by simpa using h2) J aA
   ·cases h
 ·rename_i l m;have J:fr.af x= .string ⟨⟨l⟩⟩:=J;have aA:fr.af y= .string ⟨⟨m⟩⟩:=aA;have e:∀st,bP call (.bin op x y) fr st=BI op ⟨⟨l⟩⟩ ⟨⟨m⟩⟩ (fun v=>.ok v fr st):=fun st=>by rw[DV,J,aA,RL]
  split at h<;>cases h
  ·exact⟨_,fun _ _=>rfl,e⟩
  ·exact⟨_,fun _ _=>rfl,e⟩
 ·cases h
def adf{op:UnOp}(h:Kq op a=some r)(J:den H a ids (fr.af x)):
 ∃v,(∀H ids,den H r ids v)∧∀st,bP call (.un op x) fr st= .ok v fr st:=by
 unfold Kq at h;split at h
 ·rename_i k n;have J:fr.af x= .int k n:=J;have e:∀st,bP call (.un op x) fr st=zI op (.int k n) (fun v=>.ok v fr st):=fun st=>by
   have:bP call (.un op x) fr st=zI op (fr.af x) (fun v=>.ok v fr st):=rfl;rw[this,J]
  split at h<;>cases h
  ·refine⟨_,fun _ _=>rfl,fun st=> ?_⟩;rw[e];simp only[zI,mb,ib,kt,Nu]
  ·refine⟨_,fun _ _=>rfl,fun st=> ?_⟩;rw[e];simp only[zI,mb,ib]
 ·rename_i t;have J:fr.af x= .bool t:=J;split at h<;>cases h;refine⟨_,fun _ _=>rfl,fun st=> ?_⟩;have:bP call (.un .not x) fr st=zI .not (fr.af x) (fun v=>.ok v fr st):=rfl;rw[this,J];rfl
 ·cases h
def acJ{neg:Bool}{t:oP}(h:J9 neg t a b=some r)(J:den H a ids (fr.af x))(aA:den H b ids (fr.af y)):
 ∃v,(∀H ids,den H r ids v)∧∀st,bP call (.eqv neg t x y) fr st= .ok v fr st:=by
 have key:∀c,kS 8 t (fr.af x) (fr.af y)=some c->r= .b (kd neg c)->∃v,(∀H ids,den H r ids v)∧∀st,bP call (.eqv neg t x y) fr st= .ok v fr st:=by
  intro c hc hr;subst hr;refine⟨_,fun _ _=>rfl,fun st=> ?_⟩;show bd (kS 8 t (fr.af x) (fr.af y)) (fun b=>aS.ok (.bool (cond neg (!b) b)) fr st) .no=_;rw[hc];rfl
 unfold J9 at h;split at h
 ·cases h;exact key _ (by rw[show fr.af x=_ from J,show fr.af y=_ from aA];simp only[kS,zG]) rfl
 ·split at h<;>cases h;rename_i U;cases WN U;refine key _ ?_ rfl;rw[show fr.af x=_ from J,show fr.af y=_ from aA];simp only[kS,zG];simp only[if_true];congr 1
 ·cases h;exact key _ (by rw[show fr.af x=_ from J,show fr.af y=_ from aA];simp only[kS,zG]) rfl
 ·cases h;exact key true (by rw[show fr.af x=_ from J,show fr.af y=_ from aA];simp[kS,o6]) rfl
 ·cases h;rcases J with⟨rfl,J⟩|⟨hn,b,o,c,vs,el,a8,aX,J,_⟩
  ·exact key true (by rw[J,show fr.af y=_ from aA];simp[kS,o6]) rfl
  ·exact key false (by rw[J,show fr.af y=_ from aA];simp[kS,o6]) (by rw[zdC.2 hn])
 ·cases h;obtain⟨b,_,J⟩:=J;exact key false (by rw[J,show fr.af y=_ from aA];simp[kS,o6]) rfl
 ·cases h;obtain⟨b,_,aA⟩:=aA;exact key false (by rw[show fr.af x=_ from J,aA];simp[kS,o6]) rfl
 ·cases h;obtain⟨b,_,J⟩:=J;exact key false (by rw[J,show fr.af y=_ from aA];simp[kS,r3]) rfl
 ·cases h;obtain⟨b,_,J⟩:=J;exact key false (by rw[J,show fr.af y=_ from aA];simp[kS,r3]) rfl
 ·cases h;obtain⟨b,o,vs,el,a8,aX,J,_⟩:=J;exact key false (by rw[J,show fr.af y=_ from aA];simp[kS,r3]) rfl
 ·cases h;obtain⟨b,o,J,_⟩:=J;exact key false (by rw[J,show fr.af y=_ from aA];simp[kS,zF]) rfl
 ·cases h
theorem P1{H:bz}{ids:ac Nat}{e:bO}(aa:c3 fr H ids e){k:d7}:∀{xs:ac bi} {m:Int} {r:ab},Ff e k xs m=some r->∃n,r= .i k n∧Dz k fr xs m=some n
 |[],m,r,h=>by cases h;exact⟨m,rfl,rfl⟩
 |x::xs,m,r,h=>by
  unfold Ff at h;split at h<;>try cases h
  rename_i k' z J;split at h<;>try cases h
  rename_i U;obtain⟨n,h1,h2⟩:=P1 aa h;refine⟨n,h1,?_⟩;have aF:fr.af x= .int k' z:=aa.af J;show gp (fr.af x) (fun k' y=>cond (jE k k') (Dz k fr xs (cond (mD y m) m y)) none) none=_;rw[aF,mb,U,cond_true,<-h2];congr 1;rw[sq];by_cases aE:z<=m
  ·rw[zad aE,cond_true];omega
  ·rw[zac aE,cond_false];omega
theorem P2{H:bz}{ids:ac Nat}{e:bO}(aa:c3 fr H ids e){k:d7}:∀{xs:ac bi} {m:Int} {r:ab},Fg e k xs m=some r->∃n,r= .i k n∧DA k fr xs m=some n
 |[],m,r,h=>by cases h;exact⟨m,rfl,rfl⟩
 |x::xs,m,r,h=>by
  unfold Fg at h;split at h<;>try cases h
  rename_i k' z J;split at h<;>try cases h
  rename_i U;obtain⟨n,h1,h2⟩:=P2 aa h;refine⟨n,h1,?_⟩;have aF:fr.af x= .int k' z:=aa.af J;show gp (fr.af x) (fun k' y=>cond (jE k k') (DA k fr xs (cond (mD m y) m y)) none) none=_;rw[aF,mb,U,cond_true,<-h2];congr 1;rw[sq];by_cases aE:m<=z
  ·rw[zad aE,cond_true];omega
  ·rw[zac aE,cond_false];omega
theorem O4{β:Type _}{r:β}:∀{cs:ac ab} {n:Nat} {K:ac ab->am β},Ju cs n K=some r->n<=cs.length∧K (cs.take n)=some r
 |cs,0,K,h=>by
  have h:K []=some r:=by cases cs<;>exact h
  exact⟨zag _,by simpa using h⟩
 |[],n+1,K,h=>by cases h
 |a::as,n+1,K,h=>by
  obtain⟨h1,h2⟩:=O4 (cs:=as) (n:=n) h;exact⟨by simpa using h1,by simpa using h2⟩
theorem Hz:∀{cs:ac ab} {n:Nat},Du cs n=true->cs.length=n
 |[],0,_=>rfl
 |[],n+1,h=>by cases h
 |_::_,0,h=>by cases h
 |a::as,n+1,h=>by simp[Hz (cs:=as) (n:=n) h]
def BY{β:Type _}{r:β}{K:ac ab->am β}(h:xb cs o n K=some r):n<=(cs.drop o).length∧K ((cs.drop o).take n)=some r:=by
 unfold xb at h;split at h
 ·split at h
  ·rename_i hl;have:=Hz hl;refine⟨by simp;omega,?_⟩;rw[zaq,zay (by omega)];exact h
  ·exact O4 h
 ·exact O4 h
def rY{β:Type}(h:n<=(l.drop o).length)(k:ac α->β)(z:β):iD l o n k z=k ((l.drop o).take n):=by
 unfold iD;rw[zB,Ez,zab h];rfl
def YK{hF:Bool}(h:Ih hF cs=some r):(hF=true∧r= .agg cs)∨(hF=false∧cs=[r]):=by
 unfold Ih at h;split at h<;>split at h<;>cases h
 ·exact .inl ⟨rfl,rfl⟩
 ·exact .inr ⟨rfl,rfl⟩
 ·exact .inl ⟨rfl,rfl⟩
def pJ(b o n:Nat):(⟨b,o,none⟩:Addr).add n=⟨b,o+n,none⟩:=by
 unfold Addr.add;split
 ·rename_i h;rw[h];rfl
 ·rfl
def acX{e:bO}(aa:c3 fr H ids e){o:c7}(h:Kc e o=some r):∃v,den H r ids v∧∀st,bP call o fr st= .ok v fr st:=by
 have up:∀{r:ab} {o:c7},(∃v,(∀H ids,den H r ids v)∧∀st,bP call o fr st= .ok v fr st)->∃v,den H r ids v∧∀st,bP call o fr st= .ok v fr st:=fun⟨v,h1,h2⟩=>⟨v,h1 _ _,h2⟩;cases o<;>simp only[Kc]at h
 case l1 x=>exact⟨_,aa.af h,fun st=>rfl⟩
 case jZ x=>exact⟨_,aa.af h,fun st=>rfl⟩
 case bin op x y=>
  split at h<;>try cases h
  split at h<;>try cases h
  rename_i J _ _ aA;exact up (acF h (aa.af J) (aa.af aA))
 case eqv neg t x y=>
  split at h<;>try cases h
  split at h<;>try cases h
  rename_i J _ _ aA;exact up (acJ h (aa.af J) (aa.af aA))
 case un op x=>
  split at h<;>try cases h
  rename_i J;exact up (adf h (aa.af J))
 case tb k x=>
  split at h<;>try (cases h;done)
  rename_i k' n J;have J:fr.af x= .int k' n:=aa.af J;exact⟨_,acH h H ids,fun st=>aox J⟩
 case w7 x=>
  split at h<;>try cases h
  rename_i l J;have J:fr.af x= .string ⟨⟨l⟩⟩:=aa.af J;refine⟨_,rfl,fun st=> ?_⟩;show hM (fr.af x) _ _=_;rw[J];rfl
 case uc f bB cs=>
  split at h<;>try cases h
  split at h<;>try cases h
  rename_i h1 _ _ h2;exact⟨_,⟨_,_,rfl,aa.eC h1,aa.eC h2⟩,fun st=>rfl⟩
 case xo x i=>
  split at h<;>try cases h
  rename_i vs J;obtain⟨ws,J,al⟩:=aa.af J;obtain⟨v,aF,al⟩:=vb al h;refine⟨v,al,fun st=> ?_⟩;show qF (fr.af x) (fun vs=>iD vs.toList i 1 (fun l=>one l (fun v=>aS.ok v fr st) .no) .no) .no=_;rw[J,atC];obtain⟨aV,Ha⟩:=zae.1 aF;show iD ws i 1 _ _=_;rw[zw (by omega),hB aV,Ha];rfl
 case oE x=>
  split at h<;>try cases h
  ·rename_i J;have J:fr.af x= .slice none 0 0:=aa.af J;exact⟨_,rfl,fun st=>v7 J⟩
  ·rename_i J;obtain⟨b,_,J⟩:=aa.af J;exact⟨_,rfl,fun st=>v7 J⟩
  ·rename_i J;rcases aa.af J with⟨hl,J⟩|⟨b,o,c,vs,el,a8,aX,J,_⟩
   ·rw[hl];exact⟨_,rfl,fun st=>v7 J⟩
   ·exact⟨_,rfl,fun st=>v7 J⟩
  ·rename_i J;rcases aa.af J with⟨hl,J⟩|⟨_,b,o,c,vs,el,a8,aX,J,_⟩
   ·rw[hl];exact⟨_,rfl,fun st=>v7 J⟩
   ·exact⟨_,rfl,fun st=>v7 J⟩
  ·rename_i J;rcases aa.af J with⟨hl,J⟩|⟨hl,J⟩|⟨b,o,c,vs,el,a8,aX,J,_⟩
   ·rw[hl];exact⟨_,rfl,fun st=>aoz J⟩
   ·rw[hl];exact⟨_,rfl,fun st=>v7 J⟩
   ·exact⟨_,rfl,fun st=>v7 J⟩
 case tY x=>
  split at h<;>try cases h
  rename_i l J;have J:fr.af x= .string ⟨⟨l⟩⟩:=aa.af J;exact⟨_,rfl,fun st=>by rw[aoV,J,Bj]⟩
 case x2 n=>cases h;exact⟨_,rfl,fun st=>rfl⟩
 case xp off x=>
  have e:∀{b o:Nat},fr.af x= .pointer (some ⟨b,o,none⟩)->∀st,bP call (.xp off x) fr st= .ok (.pointer (some ⟨b,o+off,none⟩)) fr st:=fun J st=>by
   show iy (fr.af x) (fun p=>bd p (fun a=>aS.ok (.pointer (some (a.add off))) fr st) .no) .no=_;rw[J,qE];show aS.ok (.pointer (some (Addr.add _ off))) fr st=_;rw[pJ]
  split at h<;>try cases h
  ·rename_i J;obtain⟨b,hb,J⟩:=aa.af J;exact⟨_,⟨b,hb,rfl⟩,e J⟩
  ·rename_i k z j o J;obtain⟨b,hb,J⟩:=aa.af J;exact⟨_,⟨b,hb,by rw[zbT]⟩,e J⟩
  ·rename_i cs J;obtain⟨b,o,vs,el,a8,aX,J,hb,al⟩:=aa.af J;refine⟨_,⟨b,o+off,vs,el,a8,aX,rfl,hb,?_⟩,e J⟩;have:=o2 off al;rw[zek,zbu]at this;rw[zaE];exact this
 case o7 off a7 hF x=>
  split at h<;>try cases h
  rename_i cs J;obtain⟨ws,J,al⟩:=aa.af J;obtain⟨h1,h2⟩:=BY h;have al:=vd a7 (o2 off al);have hl:=h6 al;have e:∀st,bP call (.o7 off a7 hF x) fr st=bd (cond hF (some (.agg ⟨(ws.drop off).take a7⟩)) (one ((ws.drop off).take a7) (fun v=>some v) none)) (fun v=>.ok v fr st) .no:=fun st=>by
   show rO (fr.af x) (fun cs=>bd (uk off a7 hF cs.toList) (fun v=>aS.ok v fr st) .no) .no=_;rw[J,atB];show bd (uk off a7 hF ws) _ _=_;unfold uk;rw[rY (by rw[zas,zas,zaA h1]at hl;omega)]
  rcases YK h2 with⟨rfl,rfl⟩|⟨rfl,h3⟩
  ·exact⟨_,⟨_,rfl,al⟩,fun st=>by rw[e];rfl⟩
  ·rw[h3]at al;obtain⟨v,us,aF,al,hn⟩:=al;cases hn;rw[aF]at e;exact⟨v,al,fun st=>by rw[e];rfl⟩
 case sw x=>
  have e:∀{a:Addr},fr.af x= .pointer (some a)->∀st,bP call (.sw x) fr st= .ok (.pointer (some a)) fr st:=fun J st=>by
   show iy (fr.af x) (fun p=>bd p (fun a=>aS.ok (.pointer (some a)) fr st) .no) _=_;rw[J];rfl
  split at h<;>try cases h
  ·rename_i J;obtain⟨b,hb,J⟩:=aa.af J;exact⟨_,⟨b,hb,rfl⟩,e J⟩
  ·rename_i J;obtain⟨b,hb,J⟩:=aa.af J;exact⟨_,⟨b,hb,rfl⟩,e J⟩
  ·rename_i J;obtain⟨b,o,vs,el,a8,aX,J,al⟩:=aa.af J;exact⟨_,⟨b,o,vs,el,a8,aX,rfl,al⟩,e J⟩
  ·rename_i g a b J;have J:fr.af x= .func (.func g) a b:=aa.af J;refine⟨_,rfl,fun st=> ?_⟩;have:bP call (.sw x) fr st=iy (fr.af x) (fun p=>bd p (fun a=>aS.ok (.pointer (some a)) fr st) .no) (yO (fr.af x) (fun f a b=>match f with|.func g=>.ok (.func (.func g) a b) fr st|_=>.no) .no):=rfl;rw[this,J];rfl
 case pick c x y=>
  split at h
  ·rename_i hc;exact⟨_,aa.af h,fun st=>aoC (aa.af hc) rfl rfl⟩
  ·rename_i hc;exact⟨_,aa.af h,fun st=>aoB (aa.af hc) rfl rfl⟩
  ·cases h
 case eX x xs=>
  split at h<;>try cases h
  rename_i k n J;have J:fr.af x= .int k n:=aa.af J;obtain⟨m,rfl,hm⟩:=P1 aa h;refine⟨_,rfl,fun st=> ?_⟩;show gp (fr.af x) (fun k n=>bd (Dz k fr xs n) (fun m=>hY k m fun v=>aS.ok v fr st) .no) .no=_;rw[J,mb,hm,Sym.eO,ib]
 case yb x xs=>
  split at h<;>try cases h
  rename_i k n J;have J:fr.af x= .int k n:=aa.af J;obtain⟨m,rfl,hm⟩:=P2 aa h;refine⟨_,rfl,fun st=> ?_⟩;show gp (fr.af x) (fun k n=>bd (DA k fr xs n) (fun m=>hY k m fun v=>aS.ok v fr st) .no) .no=_;rw[J,mb,hm,Sym.eO,ib]
 all_goals cases h
end
inductive ay:Type 1
 |c (el:TypeId) (cs:List ab)
 |a (el:TypeId) (aX:Bool) (z:Nat) (α:Type) (R:α->List ab) (l:List α)
 |x
def ay.live:ay->Bool
 |.x=>false
 |_=>true
def m1(H:bz)(ids:ac Nat):ay->am bD->Prop
 |.c el cs,ej=>∃vs,ej=some (.cells vs el (0,0) false)∧db H cs ids vs
 |.a el aX z _ R l,ej=>∃vs,ej=some (.cells vs el (0,0) aX)∧vs.length=l.length*z∧∀i x,l[i]? =some x->db H (R x) ids ((vs.drop (i*z)).take z)
 |.x,_=>True
def xe{H br:bz}{i j:ac Nat}(h:dg H br)(hi:c5 i j):∀{o:ay} {ej:am bD},m1 H i o ej->m1 br j o ej
 |.c _ _,_,⟨vs,e,d⟩=>⟨vs,e,lL h _ hi d⟩
 |.a _ _ _ _ _ _,_,⟨vs,e,cj,d⟩=>⟨vs,e,cj,fun k x J=>lL h _ hi (d k x J)⟩
 |.x,_,_=>trivial
structure cG where
 own:ac ay
 n:Nat
 env:bO
structure Fit(H:bz)(ids:ac Nat)(st:aw)(own:ac ay)(n:Nat):Prop where
 wf:∀i,st.ag<=i->st.h.get i=none
 le:∀b o,H b=some o->st.h.get b=some o
 cE:own.length=n
 len:ids.length=n
 bU:ids.Nodup
 lt:∀b∈ids,b<st.ag
 own:∀(k:Nat) (o:ay) (b:Nat),own[k]? =some o->ids[k]? =some b->m1 H ids o (st.h.get b)∧(o.live=true->H b=none)
structure ed(cd:bz)(i0:ac Nat)(aH:aw)(H:bz)(ids:ac Nat)(st:aw):Prop where
 hle:dg cd H
 hold:∀b,b<aH.ag->b∉i0->H b=cd b
 ie:∀b,b<aH.ag->b∉i0->st.h.get b=aH.h.get b
 ag:aH.ag<=st.ag
 mB:c5 i0 ids
 new:∀b∈ids,b∈i0∨aH.ag<=b
variable{H:bz}{ids:ac Nat}{st:aw}{n:Nat}{o:ay}{ej:bD}{cd:bz}{i0:ac Nat}{aH:aw}
def Fit.aV{own:ac ay}(h:Fit H ids st own n){b:Nat}{o:bD}(hb:H b=some o):b<st.ag:=by
 rcases zan b st.ag with az|az
 ·exact az
 ·have:=h.le b o hb;rw[h.wf b az]at this;cases this
def Fit.sc{own:ac ay}(h:Fit H ids st own n){b:Nat}(hb:st.ag<=b):H b=none:=by
 cases e:H b with
 |none=>rfl
 |some o=>have:=h.aV e;omega
def Fit.add{own:ac ay}(h:Fit H ids st own n)(d:m1 H (ids++[st.ag]) o (some ej)):
 Fit H (ids++[st.ag]) ⟨st.h.set st.ag ej,st.ag+1⟩ (own++[o]) (n+1):=by
 have vC:st.ag∉ids:=fun hm=>by have:=h.lt _ hm;omega
 refine⟨?_,?_,by simp[h.cE],by simp[h.len],?_,?_,?_⟩
 ·intro i hi;show(st.h.set st.ag ej).get i=none;have hi:st.ag+1<=i:=hi;rw[an.h7 _ _ (by omega)];exact h.wf i (by omega)
 ·intro b bf hb;show(st.h.set st.ag ej).get b=_;have:=h.aV hb;rw[an.h7 _ _ (by omega)];exact h.le b bf hb
 ·rw[List.nodup_append];refine⟨h.bU,by simp,?_⟩;intro a ha b hb;simp at hb;subst hb;exact fun e=>vC (e▸ha)
 ·intro b hb;simp at hb;show b<st.ag+1;rcases hb with hb|hb
  ·have:=h.lt b hb;omega
  ·omega
 ·intro k bf b U hb;show m1 _ _ _ ((st.h.set st.ag ej).get b)∧_;by_cases vz:k<own.length
  ·rw[zaV vz]at U;rw[zaV (by rw[h.len,<-h.cE];exact vz)]at hb;obtain⟨h1,h2⟩:=h.own k bf b U hb;have:b≠st.ag:=fun e=>vC (e▸zaz hb);rw[an.h7 _ _ this];exact⟨xe (dg.refl _) (c5.app _ _) h1,h2⟩
  ·have fi:=(zae.1 U).1;simp at fi;have vz:k=own.length:=by omega
   subst vz;rw[zaM (bY _)]at U;have hl:own.length=ids.length:=by rw[h.len,h.cE]
   rw[hl,zaM (bY _)]at hb;simp at U hb;subst U hb;rw[an.q0];exact⟨d,fun _=>h.sc (bY _)⟩
def ed.add(h:ed cd i0 aH H ids st)(ej:bD):ed cd i0 aH H (ids++[st.ag]) ⟨st.h.set st.ag ej,st.ag+1⟩:=by
 refine⟨h.hle,h.hold,?_,by have:=h.ag;show aH.ag<=st.ag+1;omega,fun k b e=>c5.app _ _ k b (h.mB k b e),?_⟩
 ·intro b hb hn;show(st.h.set st.ag ej).get b=_;have:=h.ag;rw[an.h7 _ _ (by omega)];exact h.ie b hb hn
 ·intro b hb;simp at hb;rcases hb with hb|hb
  ·exact h.new b hb
  ·right;rw[hb];exact h.ag
def Fit.gP{own:ac ay}(h:Fit H ids st own n){k b:Nat}{bf:ay}(U:own[k]? =some o)(hl:o.live=true)(hb:ids[k]? =some b)(d:m1 H ids bf (some ej)):
 Fit H ids ⟨st.h.set b ej,st.ag⟩ (own.set k bf) n:=by
 have aV:b<st.ag:=h.lt b (zaz hb);have dv:H b=none:=(h.own k o b U hb).2 hl;refine⟨?_,?_,by simp[h.cE],h.len,h.bU,h.lt,?_⟩
 ·intro i hi;show(st.h.set b ej).get i=none;have hi:st.ag<=i:=hi;rw[an.h7 _ _ (by omega)];exact h.wf i hi
 ·intro c q hc;show(st.h.set b ej).get c=_;rw[an.h7 _ _ (fun e=>by rw[e,dv]at hc;cases hc)];exact h.le c q hc
 ·intro j q c hj hc;show m1 _ _ _ ((st.h.set b ej).get c)∧_;rw[zbr]at hj;by_cases mv:k=j
  ·subst mv;rw[hb]at hc;cases hc;rw[zab rfl]at hj;split at hj<;>cases hj;rw[an.q0];exact⟨d,fun _=>dv⟩
  ·rw[zaa mv]at hj;have:c≠b:=fun e=>by
    subst e;have h1:=(zae.1 hb);have h2:=(zae.1 hc);exact mv ((zcB (h₀:=h1.1) (h₁:=h2.1) h.bU).1 (h1.2.trans h2.2.symm))
   rw[an.h7 _ _ this];exact h.own j q c hj hc
def ed.gP(h:ed cd i0 aH H ids st){b:Nat}(hb:b∈ids)(ej:bD):ed cd i0 aH H ids ⟨st.h.set b ej,st.ag⟩:=by
 refine⟨h.hle,h.hold,?_,h.ag,h.mB,h.new⟩;intro c hc hn;show(st.h.set b ej).get c=_;rw[an.h7 _ _ (fun e=>by
  subst e;rcases h.new _ hb with h1|h1
  ·exact hn h1
  ·omega)]
 exact h.ie c hc hn
section
def u1(own:ac ay)(e:bO):c7->am ab
 |.lZ x=>match bj e x with
  |some (.p k o)=>match own[k]? with
   |some (.c _ cs)=>cs[o]?
   |_=>none
  |some (.gA k z j o)=>match own[k]? with
   |some (.c _ cs)=>cs[j*z+o]?
   |_=>none
  |some (.ip cs)=>cs[0]?
  |_=>none
 |.qk n x=>match bj e x with
  |some (.p k o)=>match own[k]? with
   |some (.c _ cs)=>xb cs o n fun l=>some (.agg l)
   |_=>none
  |some (.gA k z j o)=>match own[k]? with
   |some (.c _ cs)=>xb cs (j*z+o) n fun l=>some (.agg l)
   |_=>none
  |some (.ip cs)=>xb cs 0 n fun l=>some (.agg l)
  |_=>none
 |_=>none
def qh(e:bO):c7->am Nat
 |.lZ x|.qk _ x=>match bj e x with
  |some (.p k _)|some (.gA k _ _ _)=>some k
  |_=>none
 |_=>none
end
section
variable{call:bL}{fr:aP}{x y i:bi}
variable{vs:ac be}{el:ce}{a8:Nat×Nat}{aX:Bool}{e:bO}{r:ab}
def Ag{b o:Nat}(h:fr.af x= .pointer (some ⟨b,o,none⟩))(ai:st.h.get b=some (.cells vs el a8 aX))(aF:vs[o]? =some v):bP call (.lZ x) fr st= .ok v fr st:=aoA h rfl ai aF
def M4{b o:Nat}(h:fr.af x= .pointer (some ⟨b,o,none⟩))(ai:st.h.get b=some (.cells vs el a8 aX))(hl:n<=(vs.drop o).length):bP call (.qk n x) fr st= .ok (.agg ⟨(vs.drop o).take n⟩) fr st:=by
 rw[aoX,h];show st.load ⟨b,o,none⟩ n _ _=_;unfold aw.load aw.gH;rw[Sym.hZ,ai,kO,rY hl]
def as7{o:Nat}{v:α}(h:((l.drop o).take n)[0]? =some v):l[o]? =some v:=by
 have:=(zae.1 h).1;rw[zaJ]at h;split at h
 ·simpa using h
 ·cases h
def Ka{own:ac ay}(aa:c3 fr H ids e)(q5:own.length<=ids.length)(av:∀(k:Nat) (o:ay) (b:Nat),own[k]? =some o->o.live=true->ids[k]? =some b->m1 H ids o (st.h.get b)){o:c7}(h:u1 own e o=some r):
 ∃v,den H r ids v∧∀dz:aw,((∀b o,H b=some o->dz.h.get b=some o)∨∃k,qh e o=some k)->(∀k b,qh e o=some k->ids[k]? =some b->dz.h.get b=st.h.get b)->bP call o fr dz= .ok v fr dz:=by
 have obj:∀{k:Nat} {el:ce} {cs:ac ab},own[k]? =some (.c el cs)->∃b vs,ids[k]? =some b∧st.h.get b=some (.cells vs el (0,0) false)∧db H cs ids vs:=fun{k el cs} U=>by
  have aV:=(zae.1 U).1;have hi:k<ids.length:=by omega
  obtain⟨vs,h1,h2⟩:=av k _ _ U rfl (bF hi);exact⟨_,vs,bF hi,h1,h2⟩
 cases o<;>simp only[u1]at h
 case lZ x=>
  split at h<;>try cases h
  ·rename_i k o J;split at h<;>try cases h
   rename_i el cs U;obtain⟨b,vs,hb,eR,al⟩:=obj U;obtain⟨v,aF,al⟩:=vb al h;obtain⟨dN,h1,h2⟩:=aa.af J;rw[hb]at h1;cases h1;exact⟨v,al,fun dz _ h3=>Ag h2 ((h3 k b (by simp[qh,J]) hb).trans eR) aF⟩
  ·rename_i k z j o J;split at h<;>try cases h
   rename_i el cs U;obtain⟨b,vs,hb,eR,al⟩:=obj U;obtain⟨v,aF,al⟩:=vb al h;obtain⟨dN,h1,h2⟩:=aa.af J;rw[hb]at h1;cases h1;exact⟨v,al,fun dz _ h3=>Ag h2 ((h3 k b (by simp[qh,J]) hb).trans eR) aF⟩
  ·rename_i cs J;obtain⟨b,o,vs,el,a8,aX,h1,h2,al⟩:=aa.af J;obtain⟨v,aF,al⟩:=vb al h;refine⟨v,ti (dg.refl _) _ (c5.nil _) al,fun dz h3 _=> ?_⟩;rcases h3 with h3|⟨k,h3⟩
   ·exact Ag h1 (h3 _ _ h2) (as7 aF)
   ·simp[qh,J]at h3
 case qk m x=>
  split at h<;>try cases h
  ·rename_i k o J;split at h<;>try cases h
   rename_i el cs U;obtain⟨b,vs,hb,eR,al⟩:=obj U;obtain⟨r7,mr⟩:=BY h;cases mr;obtain⟨dN,h1,h2⟩:=aa.af J;rw[hb]at h1;cases h1;have hl:=h6 (o2 o al);exact⟨_,⟨_,rfl,vd m (o2 o al)⟩,fun dz _ h3=>M4 h2 ((h3 k b (by simp[qh,J]) hb).trans eR) (by omega)⟩
  ·rename_i k z j o J;split at h<;>try cases h
   rename_i el cs U;obtain⟨b,vs,hb,eR,al⟩:=obj U;obtain⟨r7,mr⟩:=BY h;cases mr;obtain⟨dN,h1,h2⟩:=aa.af J;rw[hb]at h1;cases h1;have hl:=h6 (o2 (j*z+o) al);exact⟨_,⟨_,rfl,vd m (o2 (j*z+o) al)⟩,fun dz _ h3=>M4 h2 ((h3 k b (by simp[qh,J]) hb).trans eR) (by omega)⟩
  ·rename_i cs J;obtain⟨b,o,vs,el,a8,aX,h1,h2,al⟩:=aa.af J;obtain⟨r7,mr⟩:=BY h;cases mr;have hl:=h6 al;rw[zaq]at r7;have g6:=vd m al;rw[zdD,zaA r7]at g6;refine⟨.agg ⟨(vs.drop o).take m⟩,⟨_,rfl,?_⟩,fun dz h3 _=> ?_⟩
   ·rw[zaq];exact lL (dg.refl _) _ (c5.nil _) g6
   rcases h3 with h3|⟨k,h3⟩
   ·exact M4 h1 (h3 _ _ h2) (by rw[zas]at hl;omega)
   ·simp[qh,J]at h3
 all_goals cases h
def anx{own:ac ay}{o:c7}{k:Nat}(h:u1 own e o=some r)(U:qh e o=some k):∃bf,own[k]? =some bf∧bf.live=true:=by
 cases o<;>simp only[qh]at U
 case lZ x=>
  simp only[u1]at h;split at U<;>cases U
  ·rename_i J;rw[J]at h;simp only at h;split at h<;>try cases h
   exact⟨_,by assumption,rfl⟩
  ·rename_i J;rw[J]at h;simp only at h;split at h<;>try cases h
   exact⟨_,by assumption,rfl⟩
 case qk n x=>
  simp only[u1]at h;split at U<;>cases U
  ·rename_i J;rw[J]at h;simp only at h;split at h<;>try cases h
   exact⟨_,by assumption,rfl⟩
  ·rename_i J;rw[J]at h;simp only at h;split at h<;>try cases h
   exact⟨_,by assumption,rfl⟩
 all_goals cases U
end
section
variable{β:Type _}
def NF(v:be)(K:ab->am β):am β:=
 match v with
 |.int k n=>K (.i k n)
 |.bool t=>K (.b t)
 |.string ⟨⟨l⟩⟩=>K (.s l)
 |.slice none 0 0=>K .nl
 |x=>K (.v x)
def Ay:ac be->(ac ab->am β)->am β
 |[],K=>K []
 |v::vs,K=>NF v fun a=>Ay vs fun r=>K (a::r)
def u5:ab->am (ac ab)
 |.agg cs=>some cs
 |a=>match s9 a with
  |true=>some [a]
  |false=>none
def yv:ac ab->Nat->ac ab->(ac ab->am β)->am β
 |cs,0,[],K=>K cs
 |_::cs,0,d::ds,K=>yv cs 0 ds fun r=>K (d::r)
 |c::cs,n+1,ds,K=>yv cs n ds fun r=>K (c::r)
 |[],_,_,_=>none
def zJ(e:bO):ac (Nat×Nat×bi)->ac ab->(ac ab->am β)->am β
 |[],cs,K=>K cs
 |(o,a7,x)::ps,cs,K=>match bj e x with
  |some a=>match u5 a with
   |some ds=>match Du ds a7 with
    |true=>yv cs o ds fun cs'=>zJ e ps cs' K
    |false=>none
   |none=>none
  |none=>none
def qC:ac ay->ay->(ac ay->am β)->am β
 |[],o,K=>K [o]
 |a::as,o,K=>qC as o fun r=>K (a::r)
def kq:ac ay->Nat->ay->(ac ay->am β)->am β
 |[],_,_,_=>none
 |_::as,0,o,K=>K (o::as)
 |a::as,n+1,o,K=>kq as n o fun r=>K (a::r)
def aow:ac Nat:=[1,2,3,4,5,6,7,8,9,10,11,12,13,14,15,16,17,18,19,20,21,22,23,24,25,26,27,28,29,30,31,32]
def X2:ac Nat->Nat->am Nat
 |[],_=>none
 |a::_,0=>some a
 |_::as,n+1=>X2 as n
def nX(n:Nat)(K:Nat->am β):am β:=
 match X2 aow n with
 |some m=>match Nat.beq m (n+1)with
  |true=>K m
  |false=>K (n+1)
 |none=>K (n+1)
def ape:ac (Nat×Nat×bi)->Nat
 |(_,a7,_)::_=>a7
 |[]=>1
def Jl(own:ac ay)(aK:Nat)(e:bO)(k o n:Nat)(x:bi)(K:ab->ac ay->Nat->am β):am β:=
 match own[k]? with
 |some (.c el cs)=>match bj e x with
  |some a=>match u5 a with
   |some ds=>match Du ds n with
    |true=>match rW ds with
     |true=>yv cs o ds fun cs'=>kq own k (.c el cs') fun bC=>K (.bu []) bC aK
     |false=>none
    |false=>none
   |none=>none
  |none=>none
 |_=>none
def Fe(own:ac ay)(aK:Nat)(e:bO)(K:ab->ac ay->Nat->am β):c7->am β
 |.alloc z el=>Ay z fun cs=>qC own (.c el cs) fun bC=>nX aK fun b0=>K (.p aK 0) bC b0
 |.box el x=>match bj e x with
  |some a=>match u5 a with
   |some ds=>qC own (.c el ds) fun bC=>nX aK fun b0=>K (.p aK 0) bC b0
   |none=>none
  |none=>none
 |.oX el len z ps=>Ay z fun cs=>zJ e ps cs fun cs'=>qC own (.c el cs') fun bC=>nX aK fun b0=>K (.aY aK (ape ps) 0 len len) bC b0
 |.build z ps=>Ay z fun cs=>zJ e ps cs fun cs'=>K (.agg cs') own aK
 |.store n a x=>match bj e a with
  |some (.p k o)=>Jl own aK e k o n x K
  |some (.gA k z j o)=>Jl own aK e k (j*z+o) n x K
  |_=>none
 |_=>none
def BD(e:bO):c7->am ab
 |.build z ps=>Ay z fun cs=>zJ e ps cs fun cs'=>some (.agg cs')
 |o=>Kc e o
def kE(e:bO):c7->am Nat
 |.store _ a _=>match bj e a with
  |some (.p k _)|some (.gA k _ _ _)=>some k
  |_=>none
 |.app _ _ _ x _|.qR _ x _=>match bj e x with
  |some (.aY k _ _ _ _)=>some k
  |_=>none
 |.sO _ x _=>match bj e x with
  |some (.p k _)=>some k
  |_=>none
 |_=>none
end
section
variable{β:Type _}{r:β}
variable{ds:ac ab}
def aoF{K:ab->am β}(h:NF v K=some r):K (DR v)=some r:=by
 unfold NF at h;unfold DR;split at h<;>first|exact h|(split<;>first|exact h|(exfalso;simp_all))
theorem DS:∀{vs:ac be} {K:ac ab->am β},Ay vs K=some r->K (v8 vs)=some r
 |[],_,h=>h
 |_::vs,_,h=>DS (vs:=vs) (aoF h)
def Fx(h:u5 a=some ds)(d:den H a ids v):tT v=false∧db H ds ids (iB v):=by
 unfold u5 at h;split at h
 ·cases h;obtain⟨vs,rfl,d⟩:=d;exact⟨rfl,d⟩
 ·split at h<;>cases h;rename_i hc;have:=QS hc d;refine⟨?_,?_⟩
  ·cases v<;>first|rfl|(cases this;done)|(rename_i r;cases r<;>first|rfl|cases this)
  ·rw[adJ this];exact⟨v,[],rfl,d,rfl⟩
theorem It:∀{cs:ac ab} {n:Nat} {ds:ac ab} {K:ac ab->am β},yv cs n ds K=some r->n+ds.length<=cs.length∧K (cs.take n++(ds++cs.drop (n+ds.length)))=some r
 |cs,0,[],K,h=>by
  have h:K cs=some r:=by cases cs<;>exact h
  exact⟨by simp,by simpa using h⟩
 |[],0,d::ds,K,h=>by cases h
 |c::cs,0,d::ds,K,h=>by
  have h:yv cs 0 ds (fun r=>K (d::r))=some r:=h;obtain⟨h1,h2⟩:=It h;refine⟨by simp at h1 ⊢;omega,?_⟩;simp at h2;simpa using h2
 |[],n+1,ds,K,h=>by cases ds<;>cases h
 |c::cs,n+1,ds,K,h=>by
  have h:yv cs n ds (fun r=>K (c::r))=some r:=by cases ds<;>exact h
  obtain⟨h1,h2⟩:=It h;refine⟨by simp;omega,?_⟩;rw[show n+1+ds.length=(n+ds.length)+1 by omega];simpa using h2
def KZ{cs:ac ab}{vs ws:ac be}(n:Nat)(d:db H cs ids vs)(kf:db H ds ids ws):
 db H (cs.take n++(ds++cs.drop (n+ds.length))) ids (vs.take n++(ws++vs.drop (n+ws.length))):=by
 rw[h6 kf];exact zy (vd n d) (zy kf (o2 _ d))
theorem rK:∀{own:ac ay} {o:ay} {K:ac ay->am β},qC own o K=some r->K (own++[o])=some r
 |[],_,_,h=>h
 |_::as,_,_,h=>rK (own:=as) h
theorem lB:∀{own:ac ay} {k:Nat} {o:ay} {K:ac ay->am β},kq own k o K=some r->K (own.set k o)=some r
 |[],_,_,_,h=>by cases h
 |_::_,0,_,_,h=>h
 |_::as,k+1,_,_,h=>lB (own:=as) (k:=k) h
def pr{K:Nat->am β}(h:nX n K=some r):K (n+1)=some r:=by
 unfold nX at h;split at h
 ·split at h
  ·rename_i hb;rw[<-ek hb];exact h
  ·exact h
 ·exact h
def Cl(e:bO):ac (Nat×Nat×bi)->ac ab->am (ac ab)
 |[],cs=>some cs
 |(o,a7,x)::ps,cs=>match bj e x with
  |some a=>match u5 a with
   |some ds=>if ds.length=a7∧o+ds.length<=cs.length then Cl e ps (cs.take o++(ds++cs.drop (o+ds.length)))else none
   |none=>none
  |none=>none
theorem F4{e:bO}:∀{ps:ac (Nat×Nat×bi)} {cs:ac ab} {K:ac ab->am β},zJ e ps cs K=some r->∃cs',Cl e ps cs=some cs'∧K cs'=some r
 |[],cs,K,h=>⟨cs,rfl,h⟩
 |(o,a7,x)::ps,cs,K,h=>by
  unfold zJ at h;unfold Cl;split at h<;>try cases h
  split at h<;>try cases h
  split at h<;>try cases h
  rename_i hl;obtain⟨h1,h2⟩:=It h;rw[zab ⟨Hz hl,h1⟩];exact F4 h2
theorem F5{fr:aP}{H:bz}{ids:ac Nat}{e:bO}(aa:c3 fr H ids e):∀{ps:ac (Nat×Nat×bi)} {cs cs':ac ab} {vs:ac be},Cl e ps cs=some cs'->db H cs ids vs->
 ∃fY,db H cs' ids fY∧∀c,ou fr ps vs c=c fY
 |[],cs,_,vs,h,d=>by cases h;exact⟨vs,d,fun _=>rfl⟩
 |(o,a7,x)::ps,cs,cs',vs,h,d=>by
  unfold Cl at h;split at h<;>try cases h
  rename_i a J;split at h<;>try cases h
  rename_i ds gJ;split at h<;>try cases h
  rename_i hl;obtain⟨hl,h1⟩:=hl;obtain⟨hp,d2⟩:=Fx gJ (aa.af J);have mw:=h6 d2;have Mb:=h6 d;obtain⟨fY,aI,a4⟩:=F5 aa h (KZ o d d2);refine⟨fY,aI,fun c=> ?_⟩;have hu:ou fr ((o,a7,x)::ps) vs c=cond (tT (fr.af x)) .no (dW (df (iB (fr.af x))) a7 (dY (o+a7) (df vs) (qw vs o (iB (fr.af x)) (fun cs'=>ou fr ps cs' c) .no) .no) .no):=rfl;rw[hu,hp,cond_false,fs,fs,jU (by omega),fW (by omega),rD,zab (by omega),a4]
end
def Kd{call:bL}{fr:aP}{e:bO}(aa:c3 fr H ids e){o:c7}{r:ab}(h:BD e o=some r):∃v,den H r ids v∧∀st,bP call o fr st= .ok v fr st:=by
 unfold BD at h;split at h
 ·rename_i z ps;obtain⟨cs',aG,aI⟩:=F4 (DS h);cases aI;obtain⟨fY,d,a4⟩:=F5 aa aG (vc H ids z);refine⟨.agg ⟨fY⟩,⟨_,rfl,d⟩,fun st=> ?_⟩;have:bP call (.build z ps) fr st=ou fr ps z fun cs=>.ok (.agg ⟨cs⟩) fr st:=rfl;rw[this,a4]
 ·exact acX aa h
def fE(call:bL)(o:c7)(s:cG)(a:ab)(bC:ac ay)(b0:Nat):Prop:=
 ∀(H:bz) (ids:ac Nat) (st:aw) (fr:aP),Fit H ids st s.own s.n->c3 fr H ids s.env->
  ∃v st' cY br,bP call o fr st= .ok v fr st'∧Fit br cY st' bC b0∧den br a cY v∧dg H br∧c5 ids cY∧(∀cd i0 aH,ed cd i0 aH H ids st->ed cd i0 aH br cY st')∧
   st.ag<=st'.ag∧∀b,b<st.ag->(∀k,kE s.env o=some k->ids[k]? ≠some b)->st'.h.get b=st.h.get b
def y7(cd:bz)(call:bL)(o:c7)(s:cG)(a:ab)(bC:ac ay)(b0:Nat):Prop:=
 ∀(H:bz) (ids:ac Nat) (st:aw) (fr:aP),dg cd H->Fit H ids st s.own s.n->c3 fr H ids s.env->
  ∃v st' cY br,bP call o fr st= .ok v fr st'∧Fit br cY st' bC b0∧den br a cY v∧dg H br∧c5 ids cY∧(∀cd i0 aH,ed cd i0 aH H ids st->ed cd i0 aH br cY st')∧
   st.ag<=st'.ag∧∀b,b<st.ag->(∀k,kE s.env o=some k->ids[k]? ≠some b)->st'.h.get b=st.h.get b
def fE.g{call:bL}{o:c7}{s:cG}{bC:ac ay}{b0:Nat}(h:fE call o s a bC b0):y7 cd call o s a bC b0:=fun H ids st fr _ av aa=>h H ids st fr av aa
def y8(call:bL)(o:c7)(s:cG)(a:ab)(bC:ac ay)(b0:Nat):Prop:=
 ∀(H:bz) (ids:ac Nat) (st:aw) (fr:aP),Fit H ids st s.own s.n->c3 fr H ids s.env->
  ∃v st' cY,bP call o fr st= .ok v fr st'∧Fit H cY st' bC b0∧den H a cY v∧c5 ids cY∧(∀cd i0 aH,ed cd i0 aH H ids st->ed cd i0 aH H cY st')∧
   st.ag<=st'.ag∧∀b,b<st.ag->(∀k,kE s.env o=some k->ids[k]? ≠some b)->st'.h.get b=st.h.get b
def y8.to{call:bL}{o:c7}{s:cG}{bC:ac ay}{b0:Nat}(h:y8 call o s a bC b0):fE call o s a bC b0:=fun H ids st fr av aa=>
 let⟨v,st',cY,h1,h2,h3,au,aW,ch,dt⟩:=h H ids st fr av aa
 ⟨v,st',cY,H,h1,h2,h3,dg.refl _,au,aW,ch,dt⟩
section
variable{call:bL}{β:Type _}{r:β}
variable{s:cG}{K:ab->ac ay->Nat->am β}
def Nv{own:ac ay}(av:Fit H ids st own n){el:ce}{cs:ac ab}{vs:ac be}(d:db H cs ids vs):
 Fit H (ids++[st.ag]) ⟨st.h.set st.ag (.cells vs el (0,0) false),st.ag+1⟩ (own++[.c el cs]) (n+1)∧(ids++[st.ag])[n]? =some st.ag:=by
 refine⟨av.add ⟨vs,rfl,lL (dg.refl _) _ (c5.app _ _) d⟩,?_⟩;rw[<-av.len,zaM (bY _)];simp
def yn{b:Nat}(hb:b<st.ag):(an.set st.h st.ag ej).get b=st.h.get b:=an.h7 _ _ (by omega)
def aaN{k o m:Nat}{a x:bi}(h:Jl s.own s.n s.env k o m x K=some r)(hm:kE s.env (.store m a x)=some k)
 (ha:∀{H:bz} {ids:ac Nat} {fr:aP},c3 fr H ids s.env->∃b,ids[k]? =some b∧fr.af a= .pointer (some ⟨b,o,none⟩)):∃a' bC b0,K a' bC b0=some r∧y8 call (.store m a x) s a' bC b0:=by
 unfold Jl at h;split at h<;>try cases h
 rename_i el cs U;split at h<;>try cases h
 rename_i c J;split at h<;>try cases h
 rename_i ds gJ;split at h<;>try cases h
 rename_i hl;split at h<;>try cases h
 rename_i hc;obtain⟨h1,h2⟩:=It h;have h3:=lB h2;refine⟨_,_,_,h3,?_⟩;intro H ids st fr av aa;obtain⟨b,hb,aF⟩:=ha aa;obtain⟨⟨vs,eR,d⟩,_⟩:=av.own k _ b U hb;obtain⟨hp,d2⟩:=Fx gJ (aa.af J);have hl:=Hz hl;have mw:=h6 d2;have Mb:=h6 d;refine⟨undef,_,ids,?_,av.gP U rfl hb ⟨_,rfl,KZ o d d2⟩,⟨[],rfl,rfl⟩,c5.refl _,fun _ _ _ B=>B.gP (zaz hb) _,bY _,?_⟩
 ·have:bP call (.store m a x) fr st=iy (fr.af a) (fun p=>bd p (fun a=>dW (df (iB (fr.af x))) m (cond (gZ (iB (fr.af x))) (st.store a (iB (fr.af x)) (fun st=>aS.ok undef fr st) .no) .no) .no) .no) .no:=rfl;rw[this,aF,qE,Sym.eO,fs,jU (by omega),BO hc d2,cond_true];unfold aw.store aw.gH;rw[Sym.hZ,eR,kO,fW (bY _),rD,zab (by show o+_<=_;omega),j5]
 ·intro dN _ cl;show(st.h.set b _).get dN=_;exact an.h7 _ _ (fun e=>cl k hm (e▸hb))
def PW{o:c7}(h:Fe s.own s.n s.env K o=some r):∃a bC b0,K a bC b0=some r∧y8 call o s a bC b0:=by
 cases o<;>simp only[Fe]at h
 case alloc z el=>
  refine⟨_,_,_,pr (rK (DS h)),?_⟩;intro H ids st fr av aa;obtain⟨h1,h2⟩:=Nv av (el:=el) (vc H ids z);refine⟨_,_,_,?_,h1,⟨_,h2,rfl⟩,c5.app _ _,fun _ _ _ B=>B.add _,zbh _,fun b hb _=>yn hb⟩;have:bP call (.alloc z el) fr st=st.jg (.cells z el (0,0) false) fun id st=>.ok (.pointer (some ⟨id,0,none⟩)) fr st:=rfl;rw[this,gz]
 case box el x=>
  split at h<;>try cases h
  rename_i a J;split at h<;>try cases h
  rename_i ds gJ;refine⟨_,_,_,pr (rK h),?_⟩;intro H ids st fr av aa;obtain⟨hp,d⟩:=Fx gJ (aa.af J);obtain⟨h1,h2⟩:=Nv av (el:=el) d;refine⟨_,_,_,?_,h1,⟨_,h2,rfl⟩,c5.app _ _,fun _ _ _ B=>B.add _,zbh _,fun b hb _=>yn hb⟩;have:bP call (.box el x) fr st=cond (tT (fr.af x)) .no (st.jg (.cells (iB (fr.af x)) el (0,0) false) fun id st=>.ok (.pointer (some ⟨id,0,none⟩)) fr st):=rfl;rw[this,hp,cond_false,gz]
 case oX el len z ps=>
  obtain⟨cs',aG,aI⟩:=F4 (DS h);refine⟨_,_,_,pr (rK aI),?_⟩;intro H ids st fr av aa;obtain⟨fY,d,a4⟩:=F5 aa aG (vc H ids z);obtain⟨h1,h2⟩:=Nv av (el:=el) d;refine⟨_,_,_,?_,h1,⟨_,h2,rfl⟩,c5.app _ _,fun _ _ _ B=>B.add _,zbh _,fun b hb _=>yn hb⟩;have:bP call (.oX el len z ps) fr st=ou fr ps z fun cs=>st.jg (.cells cs el (0,0) false) fun id st=>.ok (.slice (some ⟨id,0,none⟩) len len) fr st:=rfl;rw[this,a4,gz,zav]
 case build z ps=>
  obtain⟨cs',aG,aI⟩:=F4 (DS h);refine⟨_,_,_,aI,?_⟩;intro H ids st fr av aa;obtain⟨fY,d,a4⟩:=F5 aa aG (vc H ids z);refine⟨.agg ⟨fY⟩,st,ids,?_,av,⟨_,rfl,d⟩,c5.refl _,fun _ _ _ B=>B,bY _,fun b hb _=>rfl⟩;have:bP call (.build z ps) fr st=ou fr ps z fun cs=>.ok (.agg ⟨cs⟩) fr st:=rfl;rw[this,a4]
 case store m a x=>
  split at h<;>try cases h
  ·rename_i k o ha;exact aaN h (by simp[kE,ha]) fun aa=>by obtain⟨b,h1,h2⟩:=aa.af ha;exact⟨b,h1,h2⟩
  ·rename_i k z j o ha;exact aaN h (by simp[kE,ha]) fun aa=>by obtain⟨b,h1,h2⟩:=aa.af ha;exact⟨b,h1,h2⟩
 all_goals cases h
end
structure fu where
 call:bL
 cm:Nat
 fn:ci
 cd:bz
 i0:ac Nat
 aH:aw
 Q:dM->cG->Prop
inductive eH where
 |seq (c:dp)
 |cC (i:Nat)
 |b3 (PM:cG->Prop)
 |B9 (ms:List Nat) (n:Nat)
inductive bq where
 |c (c:dp)
 |o (l:List bE)
 |x (e:dM)
 |d (l:List (bE×cw)) (bN:List ay) (a0:bO) (bb b7:Nat)
variable(ax:fu)
def uU(Q:dM->cG->Prop):dM->aP->aw->Prop:=fun x fr st=>∃H ids s,ed ax.cd ax.i0 ax.aH H ids st∧Fit H ids st s.own s.n∧c3 fr H ids s.env∧Q x s
def PQ(Q:dM->cG->Prop)(c:dp)(s:cG):Prop:=∀H ids st fr,ed ax.cd ax.i0 ax.aH H ids st->Fit H ids st s.own s.n->c3 fr H ids s.env->W (dB ax.call ax.cm ax.fn c fr st) (uU ax Q)
def acy(Q:dM->cG->Prop)(l:ac bE)(s:cG):Prop:=∀H ids st fr,ed ax.cd ax.i0 ax.aH H ids st->Fit H ids st s.own s.n->c3 fr H ids s.env->W (iY ax.call l fr st) (uU ax Q)
structure acA(fy H:bz)(ids:ac Nat)(st:aw)(bN:ac ay)(a0:bO)(bb b7:Nat)(ae:ac (an bD))(fr:aP):Prop where
 len:ae.length=bb
 hle:dg fy H
 gf:∀j a,dZ a0 j=some a->den fy a ids (fr.tmp j)
 qq:bN.length<=ids.length
 yh:b7<=ids.length
 bN:∀(k:Nat) (o:ay) (b:Nat),bN[k]? =some o->o.live=true->ids[k]? =some b->m1 fy ids o (st.h.get b)∧∀h∈ae,h.get b=st.h.get b
 old:∀h∈ae,∀b o,fy b=some o->h.get b=some o
 top:∀h,ae.head?=some h->(∀b o,H b=some o->h.get b=some o)∧∀k b:Nat,k<b7->ids[k]? =some b->h.get b=st.h.get b
def JK(K:ac eH)(dd:sY):Prop:=
 match K with
 |.B9 ms n::_=>dd=tc ax.call ms n
 |_=>True
def acx(C:sY->Prop)(Q:dM->cG->Prop)(l:ac (bE×cw))(bN:ac ay)(a0:bO)(bb b7:Nat)(s:cG):Prop:=∀dd,C dd->∀H ids st fr fy ae,ed ax.cd ax.i0 ax.aH H ids st->Fit H ids st s.own s.n->c3 fr H ids s.env->acA fy H ids st bN a0 bb b7 ae fr->W (hT ax.call dd l ae fr st) (uU ax Q)
def Sem:ac eH->dM->cG->Prop
 |[]=>ax.Q
 |.seq c::K=>fun x s=>match x with
  |.norm=>PQ ax (Sem K) c s
  |x=>Sem K x s
 |.cC i::K=>fun x s=>match x with
  |.exit j=>if j=i then Sem K .norm s else Sem K (.exit j) s
  |x=>Sem K x s
 |.b3 PM::K=>fun x s=>match x with
  |.norm=>PM s
  |x=>Sem K x s
 |.B9 _ _::K=>Sem K
def g3(K:ac eH)(c:bq)(s:cG):Prop:=
 match c with
 |.c c=>PQ ax (Sem ax K) c s
 |.o l=>acy ax (Sem ax K) l s
 |.x e=>Sem ax K e s
 |.d l bN a0 bb b7=>acx ax (JK ax K) (Sem ax K) l bN a0 bb b7 s
structure aU where
 K:ac eH
 c:bq
 s:cG
def aU.ok(g:aU):Prop:=g3 ax g.K g.c g.s
def fx(d:am Tmp)(a:ab)(e:bO):bO:=
 match d with
 |none=>e
 |some d=>(d,a)::e
section
def BE(own:ac ay)(n:Nat)(e:bO)(o:c7)(K:ab->ac ay->Nat->am aU):am aU:=
 match BD e o with
 |some a=>K a own n
 |none=>match u1 own e o with
  |some a=>K a own n
  |none=>Fe own n e K o
def tl(d:am Tmp)(e:bO):bO:=
 match d with
 |none=>e
 |some d=>nF d e
def K3:ac Nat->bO->bO
 |[],e=>e
 |d::ds,e=>K3 ds (nF d e)
def DW{β:Type _}(bN:ac ay)(m:am Nat)(K:ac ay->am β):am β:=
 match m with
 |none=>K bN
 |some k=>match bN[k]? with
  |some _=>kq bN k .x K
  |none=>K bN
def Qe(bN:ac ay)(e:bO)(o:c7):am ab:=
 match BD e o with
 |some a=>some a
 |none=>u1 bN e o
def zC{β:Type _}(d:Nat):bO->(bO->am β)->am β
 |[],K=>K []
 |p::l,K=>match Nat.beq p.1 d with
  |true=>zC d l K
  |false=>zC d l fun r=>K (p::r)
def pV(K:ac eH)(d:am Tmp)(l:ac (bE×cw))(bN:ac ay)(a0:bO)(bb b7:Nat)(own:ac ay)(n:Nat)(a:ab)(e:bO)(nx:am ab):am aU:=
 match d with
 |none=>some ⟨K,.d l bN a0 bb b7,⟨own,n,e⟩⟩
 |some d=>match nx with
  |some nx=>some ⟨K,.d l bN ((d,nx)::a0) bb b7,⟨own,n,(d,a)::e⟩⟩
  |none=>zC d a0 fun aft=>some ⟨K,.d l bN aft bb b7,⟨own,n,(d,a)::e⟩⟩
def K5(K:ac eH)(d:am Tmp)(o:c7)(c:cw)(l:ac (bE×cw))(bN:ac ay)(a0:bO)(bb b7:Nat)(own:ac ay)(n:Nat)(e:bO):am aU:=
 match c with
 |.ez=>BE own n e o fun a bC b0=>DW bN (kE e o) fun iw=>nX bb fun KO=>pV K d l iw a0 KO b0 bC b0 a e none
 |.hG ts=>Fe own n (eN ts e) (fun a bC b0=>match kE (eN ts e) o with
  |none=>pV K d l bN a0 bb b7 bC b0 a e none
  |some _=>none) o
 |.read back ts=>match Nat.ble (back+1) bb with
  |true=>match Qe bN (eN ts a0) o with
   |some nx=>pV K d l bN a0 bb b7 own n nx e (some nx)
   |none=>match BD (eN ts e) o with
    |some a=>pV K d l bN a0 bb b7 own n a e none
    |none=>match back with
     |0=>match u1 own (eN ts e) o with
      |some a=>match qh (eN ts e) o with
       |none=>pV K d l bN a0 bb b7 own n a e none
       |some k=>match Nat.ble (k+1) b7 with
        |true=>pV K d l bN a0 bb b7 own n a e none
        |false=>none
      |none=>none
     |_=>none
  |false=>none
def FB(c:cw)(e:bO):bO:=
 match c with
 |.ez=>e
 |.hG ts=>eN ts e
 |.read _ ts=>eN ts e
def B8(K:ac eH)(d:am Tmp)(c:cw)(l:ac (bE×cw))(bN:ac ay)(a0:bO)(bb b7:Nat)(own:ac ay)(n:Nat)(e:bO):am aU:=
 match c with
 |.ez=>nX bb fun KO=>pV K d l bN a0 KO n own n (.bu []) e none
 |_=>pV K d l bN a0 bb b7 own n (.bu []) e none
def DQ(K:ac eH)(l:ac bE)(d:am Tmp)(own:ac ay)(n:Nat)(e:bO):am aU:=
 match d with
 |none=>some ⟨K,.o l,⟨own,n,e⟩⟩
 |some d=>some ⟨K,.o l,⟨own,n,(d,.bu [])::e⟩⟩
def M8{β:Type _}:ac (bE×cw)->Nat->(Nat->am β)->am β
 |[],n,K=>K n
 |_::l,n,K=>nX n fun n=>M8 l n K
def K4{β:Type _}:ac Nat->bO->(bO->am β)->am β
 |[],e,K=>K e
 |d::ds,e,K=>zC d e fun cj=>K4 ds cj K
def Bb:aU->am aU
 |⟨K,.c .skip,s⟩=>some ⟨K,.x .norm,s⟩
 |⟨K,.c (.yD l),s⟩=>some ⟨K,.o l,s⟩
 |⟨K,.c (.seq a b),s⟩=>some ⟨.seq b::K,.c a,s⟩
 |⟨K,.c (.block i a),s⟩=>some ⟨.cC i::K,.c a,s⟩
 |⟨K,.c (.exit i),s⟩=>some ⟨K,.x (.exit i),s⟩
 |⟨K,.c .ret,s⟩=>some ⟨K,.x .ret,s⟩
 |⟨K,.c (.scope a),s⟩=>some ⟨K,.c a,s⟩
 |⟨K,.c (.cond c a b),s⟩=>match bj s.env c with
  |some (.b true)=>some ⟨K,.c a,s⟩
  |some (.b false)=>some ⟨K,.c b,s⟩
  |_=>none
 |⟨K,.o [],s⟩=>some ⟨K,.x .norm,s⟩
 |⟨K,.o (⟨some d,o,none⟩::l),⟨own,n,e⟩⟩=>BE own n e o fun a bC b0=>some ⟨K,.o l,⟨bC,b0,(d,a)::e⟩⟩
 |⟨K,.o (⟨none,o,none⟩::l),⟨own,n,e⟩⟩=>BE own n e o fun _ bC b0=>some ⟨K,.o l,⟨bC,b0,e⟩⟩
 |⟨K,.o (⟨d,o,some (t,b)⟩::l),⟨own,n,e⟩⟩=>match dZ e t with
  |some (.b true)=>match b with
   |true=>some ⟨K,.o (⟨d,o,none⟩::l),⟨own,n,e⟩⟩
   |false=>DQ K l d own n e
  |some (.b false)=>match b with
   |false=>some ⟨K,.o (⟨d,o,none⟩::l),⟨own,n,e⟩⟩
   |true=>DQ K l d own n e
  |some (.bu _)=>DQ K l d own n e
  |_=>none
 |⟨K,.c (.tk l _ dU ms),⟨own,n,e⟩⟩=>K4 dU e fun cj=>M8 l 0 fun m=>some ⟨.B9 ms m::K,.d l own cj 1 n,⟨own,n,cj⟩⟩
 |⟨.B9 _ _::K,.d [] _ _ _ _,s⟩=>some ⟨K,.x .norm,s⟩
 |⟨K,.d [] _ _ _ _,s⟩=>some ⟨K,.x .norm,s⟩
 |⟨K,.d ((⟨d,o,none⟩,c)::l) bN a0 bb b7,⟨own,n,e⟩⟩=>K5 K d o c l bN a0 bb b7 own n e
 |⟨K,.d ((⟨d,o,some (t,b)⟩,c)::l) bN a0 bb b7,⟨own,n,e⟩⟩=>match dZ (FB c e) t with
  |some (.b true)=>match b with
   |true=>some ⟨K,.d ((⟨d,o,none⟩,c)::l) bN a0 bb b7,⟨own,n,e⟩⟩
   |false=>B8 K d c l bN a0 bb b7 own n e
  |some (.b false)=>match b with
   |false=>some ⟨K,.d ((⟨d,o,none⟩,c)::l) bN a0 bb b7,⟨own,n,e⟩⟩
   |true=>B8 K d c l bN a0 bb b7 own n e
  |some (.bu _)=>B8 K d c l bN a0 bb b7 own n e
  |_=>none
 |⟨.seq c::K,.x .norm,s⟩=>some ⟨K,.c c,s⟩
 |⟨.seq _::K,.x (.exit i),s⟩=>some ⟨K,.x (.exit i),s⟩
 |⟨.seq _::K,.x .ret,s⟩=>some ⟨K,.x .ret,s⟩
 |⟨.cC _::K,.x .norm,s⟩=>some ⟨K,.x .norm,s⟩
 |⟨.cC i::K,.x (.exit j),s⟩=>match Nat.beq j i with
  |true=>some ⟨K,.x .norm,s⟩
  |false=>some ⟨K,.x (.exit j),s⟩
 |⟨.cC _::K,.x .ret,s⟩=>some ⟨K,.x .ret,s⟩
 |⟨.b3 _::K,.x (.exit i),s⟩=>some ⟨K,.x (.exit i),s⟩
 |⟨.b3 _::K,.x .ret,s⟩=>some ⟨K,.x .ret,s⟩
 |⟨.seq _::K,.x (.ba v),s⟩=>some ⟨K,.x (.ba v),s⟩
 |⟨.cC _::K,.x (.ba v),s⟩=>some ⟨K,.x (.ba v),s⟩
 |⟨.b3 _::K,.x (.ba v),s⟩=>some ⟨K,.x (.ba v),s⟩
 |⟨.B9 _ _::K,.x e,s⟩=>some ⟨K,.x e,s⟩
 |_=>none
end
section
variable{ax:fu}{K:ac eH}{s:cG}
variable{d:am Tmp}{a0:bO}{bN:ac ay}{b7:Nat}{g:aU}{bC:ac ay}{b0:Nat}{fr:aP}{e:bO}{back:Nat}{c:cw}{t:Bool}{fy:bz}{iw:ac ay}
def c3.fx(h:c3 fr H ids e)(d:am Tmp)(aF:den H a ids v):c3 (fr.put d v) H ids (Go.aj.fx d a e):=by
 cases d with
 |none=>exact h
 |some d=>exact h.put d aF
def Kk{call:bL}{o:c7}{C:ab->ac ay->Nat->am aU}{r:aU}(h:BE s.own s.n s.env o C=some r):∃a bC b0,C a bC b0=some r∧fE call o s a bC b0:=by
 unfold BE at h;split at h
 ·rename_i a ha;refine⟨a,_,_,h,fun H ids st fr av aa=> ?_⟩;obtain⟨v,al,he⟩:=Kd (call:=call) aa ha;exact⟨v,st,ids,H,he st,av,al,dg.refl _,c5.refl _,fun _ _ _ B=>B,bY _,fun _ _ _=>rfl⟩
 ·split at h
  ·rename_i a ha;refine⟨a,_,_,h,fun H ids st fr av aa=> ?_⟩;obtain⟨v,al,he⟩:=Ka (call:=call) aa (by rw[av.len,av.cE];exact bY _) (fun k o b U _ hb=>(av.own k o b U hb).1) ha;exact⟨v,st,ids,H,he st (.inl av.le) (fun _ _ _ _=>rfl),av,al,dg.refl _,c5.refl _,fun _ _ _ B=>B,bY _,fun _ _ _=>rfl⟩
  ·obtain⟨a,bC,b0,h1,h2⟩:=PW (call:=call) h;exact⟨a,bC,b0,h1,h2.to⟩
def Ek{o:c7}{l:ac bE}(h:y7 ax.cd ax.call o s a bC b0)(k:g3 ax K (.o l) ⟨bC,b0,fx d a s.env⟩):g3 ax K (.o (⟨d,o,none⟩::l)) s:=by
 intro H ids st fr a5 av aa;obtain⟨v,st',cY,br,h1,h2,h3,ch,au,aW,_⟩:=h H ids st fr a5.hle av aa;exact uL h1 (k br cY st' _ (aW _ _ _ a5) h2 ((aa.mono ch au).fx d h3))
def I0{o:c7}{l:ac bE}(h:fE ax.call o s a bC b0)(k:g3 ax K (.o l) ⟨bC,b0,fx d a s.env⟩):g3 ax K (.o (⟨d,o,none⟩::l)) s:=Ek h.g k
def xg(h:∀j a,dZ a0 j=some a->den fy a ids (fr.tmp j))(d:am Tmp)(v:be):∀j a,dZ (tl d a0) j=some a->den fy a ids ((fr.put d v).tmp j):=by
 cases d with
 |none=>exact h
 |some d=>
  intro j a hj;obtain⟨h1,h2⟩:=HC d a0 j a hj;rw[Be,zaa h1];exact h j a h2
def ae8(h:∀j a,dZ a0 j=some a->den fy a ids (fr.tmp j))(d:am Tmp)(aF:den fy b ids v):∀j a,dZ (fx d b a0) j=some a->den fy a ids ((fr.put d v).tmp j):=by
 cases d with
 |none=>exact h
 |some d=>
  intro j a hj;have hj:cond (Nat.beq d j) (some b) (dZ a0 j)=some a:=hj;rw[Be];cases hb:Nat.beq d j with
  |true=>
   rw[hb]at hj;rw[zab (ek hb).symm];cases hj;exact aF
  |false=>
   rw[hb]at hj;rw[zaa (fun e=>by rw[e,zaL]at hb;cases hb)];exact h j a hj
theorem FW{β:Type _}{r:β}{d:Nat}:∀{e:bO} {C:bO->am β},zC d e C=some r->C (nF d e)=some r
 |[],_,h=>h
 |p::l,C,h=>by
  unfold zC at h;unfold nF;cases hb:Nat.beq p.1 d with
  |true=>rw[hb]at h;exact FW (e:=l) h
  |false=>rw[hb]at h;exact FW (e:=l) h
theorem W3{β:Type _}{r:β}:∀{l:ac (bE×cw)} {n:Nat} {C:Nat->am β},M8 l n C=some r->C (n+df l)=some r
 |[],_,_,h=>h
 |x::l,n,C,h=>by
  have h:=W3 (l:=l) (pr h);have e:n+df (x::l)=n+1+df l:=by
   rw[fs,fs,zau];omega
  rw[e];exact h
theorem Rx{β:Type _}{r:β}:∀{ds:ac Nat} {e:bO} {C:bO->am β},K4 ds e C=some r->C (K3 ds e)=some r
 |[],_,_,h=>h
 |_::ds,_,_,h=>Rx (ds:=ds) (FW h)
def xc{l:ac (bE×cw)}{bb:Nat}{own:ac ay}(h:pV K d l bN a0 bb b7 own n a e none=some g)(k:g.ok ax):g3 ax K (.d l bN (tl d a0) bb b7) ⟨own,n,fx d a e⟩:=by
 unfold pV at h;split at h
 ·cases h;exact k
 ·have:=FW h;cases this;exact k
def aeZ{l:ac (bE×cw)}{bb:Nat}{own:ac ay}(h:pV K d l bN a0 bb b7 own n a e (some a)=some g)(k:g.ok ax):g3 ax K (.d l bN (fx d a a0) bb b7) ⟨own,n,fx d a e⟩:=by
 unfold pV at h;split at h
 ·cases h;exact k
 ·cases h;exact k
def ND{l:ac bE}{own:ac ay}(h:DQ K l d own n e=some g)(k:g.ok ax):g3 ax K (.o l) ⟨own,n,fx d (.bu []) e⟩:=by
 unfold DQ at h;split at h
 ·cases h;exact k
 ·cases h;exact k
def N2{β:Type _}{r:β}{m:am Nat}{C:ac ay->am β}(h:DW bN m C=some r):∃iw,C iw=some r∧iw.length=bN.length∧∀(k:Nat) (o:ay),iw[k]? =some o->o.live=true->bN[k]? =some o∧m≠some k:=by
 unfold DW at h;split at h
 ·exact⟨_,h,rfl,fun k o U _=>⟨U,by simp⟩⟩
 ·rename_i m;split at h
  ·refine⟨_,lB h,by simp,fun k o U hl=> ?_⟩;rw[zbr]at U;by_cases L9:m=k
   ·rw[zab L9]at U;split at U<;>cases U;cases hl
   ·rw[zaa L9]at U;exact⟨U,by simpa using L9⟩
  ·rename_i hn;refine⟨_,h,rfl,fun k o U hl=>⟨U,fun e=> ?_⟩⟩;cases e;rw[hn]at U;cases U
def KV{o:c7}{l:ac (bE×cw)}{bb:Nat}(h:y7 ax.cd ax.call o s a bC b0)(hl:iw.length=bN.length)(h1:∀(k:Nat) (bf:ay),iw[k]? =some bf->bf.live=true->bN[k]? =some bf∧kE s.env o≠some k)
 (k:g3 ax K (.d l iw (tl d a0) (bb+1) b0) ⟨bC,b0,fx d a s.env⟩):g3 ax K (.d ((⟨d,o,none⟩,.ez)::l) bN a0 bb b7) s:=by
 intro dd hV H ids st fr fy ae a5 av aa cb;obtain⟨v,st',cY,br,aG,aI,a4,b2,cx,ef,fR,o8⟩:=h H ids st fr a5.hle av aa;have zX:∀(k:Nat) (b:Nat),k<ids.length->cY[k]? =some b->ids[k]? =some b:=fun k b U hb=>by
  have:=cx k _ (bF U);rw[hb]at this;rw[bF U,this]
 have GP:∀(k:Nat) (b:Nat),kE s.env o≠some k->ids[k]? =some b->st'.h.get b=st.h.get b:=fun k b U hb=>by
  refine o8 b (av.lt b (zaz hb)) fun k' fi cU=> ?_;have aq:=zae.1 hb;have e2:=zae.1 cU;have:=(zcB (h₀:=aq.1) (h₁:=e2.1) av.bU).1 (aq.2.trans e2.2.symm);exact U (this▸fi)
 have gx:=k dd hV br cY st' (fr.put d v) fy (st'.h::ae) (ef _ _ _ a5) aI ((aa.mono b2 cx).fx d a4) ⟨by simp[cb.len],cb.hle.trans b2,xg (fun j a hj=>ti (dg.refl _) _ cx (cb.gf j a hj)) d v,?_,by rw[aI.len];exact bY _,?_,?_,?_⟩
 ·refine W.of_eq ?_ gx;show aS.rec (motive:=fun _=>cW) (fun v aC st'=>dY st.ag st'.ag (hT ax.call dd l (st'.h::ae) (aP.put ⟨fr.t,aC.c1,aC.ba,aC.cF,aC.b3⟩ d v) st') .no) (fun v st'=>cond o.mX (cond (dd l (st.h::ae) (fr.put d undef) st) (.out (.ba v) fr st') .no) .no) .no (bP ax.call o fr st)=_;rw[aG];show dY st.ag st'.ag _ _=_;rw[fW fR]
 ·rw[hl];have:ids.length<=cY.length:=by
   rcases zan cY.length ids.length with aV|lR
   ·have:=cx cY.length _ (bF aV);simp at this
   ·exact lR
  exact zai cb.qq this
 ·intro k bf b U vB hb;obtain⟨h2,h3⟩:=h1 k bf U vB;have L8:k<ids.length:=fC (zae.1 h2).1 cb.qq;have hb:=zX k b L8 hb;obtain⟨au,aW⟩:=cb.bN k bf b h2 vB hb;have e:=GP k b h3 hb;rw[e];refine⟨xe (dg.refl _) cx au,fun h hm=> ?_⟩;rcases zao.1 hm with rfl|hm
  ·exact e
  ·exact aW h hm
 ·intro h hm b bf hb;rcases zao.1 hm with rfl|hm
  ·exact aI.le _ _ (b2 _ _ (cb.hle _ _ hb))
  ·exact cb.old h hm b bf hb
 ·intro h hm;simp at hm;subst hm;exact⟨aI.le,fun _ _ _ _=>rfl⟩
def KU{o:c7}{l:ac (bE×cw)}{bb:Nat}(h:fE ax.call o s a bC b0)(hl:iw.length=bN.length)(h1:∀(k:Nat) (bf:ay),iw[k]? =some bf->bf.live=true->bN[k]? =some bf∧kE s.env o≠some k)
 (k:g3 ax K (.d l iw (tl d a0) (bb+1) b0) ⟨bC,b0,fx d a s.env⟩):g3 ax K (.d ((⟨d,o,none⟩,.ez)::l) bN a0 bb b7) s:=KV h.g hl h1 k
def MO{i j:ac Nat}(h:c5 i j):i.length<=j.length:=by
 rcases zan j.length i.length with aV|lR
 ·have:=h j.length _ (bF aV);simp at this
 ·exact lR
def Rf{o:c7}{ts:ac Tmp}{l:ac (bE×cw)}{bb:Nat}(h:y8 ax.call o ⟨s.own,s.n,eN ts s.env⟩ a bC b0)(hm:kE (eN ts s.env) o=none)
 (k:g3 ax K (.d l bN (tl d a0) bb b7) ⟨bC,b0,fx d a s.env⟩):g3 ax K (.d ((⟨d,o,none⟩,.hG ts)::l) bN a0 bb b7) s:=by
 intro dd hV H ids st fr fy ae a5 av aa cb;obtain⟨v,st',cY,aG,aI,a4,cx,ef,fR,o8⟩:=h H ids st (fr.only ts) av (aa.only ts);have zX:∀(k:Nat) (b:Nat),k<ids.length->cY[k]? =some b->ids[k]? =some b:=fun k b U hb=>by
  have:=cx k _ (bF U);rw[hb]at this;rw[bF U,this]
 have GP:∀(k:Nat) (b:Nat),ids[k]? =some b->st'.h.get b=st.h.get b:=fun k b hb=>o8 b (av.lt b (zaz hb)) fun k' fi=>by rw[hm]at fi;cases fi
 have gx:=k dd hV H cY st' (fr.put d v) fy ae (ef _ _ _ a5) aI ((aa.mono (dg.refl _) cx).fx d a4) ⟨cb.len,cb.hle,xg (fun j a hj=>ti (dg.refl _) _ cx (cb.gf j a hj)) d v,zai cb.qq (MO cx),zai cb.yh (MO cx),?_,cb.old,?_⟩
 ·refine W.of_eq ?_ gx;show l5 fr.t ts (fun t=>aS.rec (motive:=fun _=>cW) (fun v _ st'=>hT ax.call dd l ae (fr.put d v) st') (fun _ _=>.no) .no (bP ax.call o ⟨t,[],none,false,none⟩ st))=_;rw[qs];have e:bP ax.call o ⟨DU fr.t ts,[],none,false,none⟩ st= .ok v (fr.only ts) st':=aG;rw[e]
 ·intro k bf b U vB hb;have L8:k<ids.length:=fC (zae.1 U).1 cb.qq;have hb:=zX k b L8 hb;obtain⟨au,aW⟩:=cb.bN k bf b U vB hb;rw[GP k b hb];exact⟨xe (dg.refl _) cx au,aW⟩
 ·intro h lU;obtain⟨h1,h2⟩:=cb.top h lU;refine⟨h1,fun k b U hb=> ?_⟩;have hb:=zX k b (fC U cb.yh) hb;rw[GP k b hb];exact h2 k b U hb
def OE{dd:sY}{o:c7}{ts:ac Tmp}{l:ac (bE×cw)}{ae:ac (an bD)}{Q:dM->aP->aw->Prop}(h1:bP ax.call o (fr.only ts) st= .ok v (fr.only ts) st)(h2:∀h∈ae.take (back+1),bP ax.call o (fr.only ts) ⟨h,st.ag⟩= .ok v (fr.only ts) ⟨h,st.ag⟩)(hl:back<ae.length)
 (k:W (hT ax.call dd l ae (fr.put d v) st) Q):W (hT ax.call dd ((⟨d,o,none⟩,.read back ts)::l) ae fr st) Q:=by
 refine atM (fun h hm=> ?_) hl k;rcases zao.1 hm with rfl|hm
 ·exact h1
 ·exact h2 h hm
def o1{o:c7}{ts:ac Tmp}{l:ac (bE×cw)}{bb:Nat}(hb:back<bb)
 (h:∀(H:bz) (ids:ac Nat) (st:aw) (fr:aP),c3 fr H ids (eN ts a0)->bN.length<=ids.length->(∀(k:Nat) (o:ay) (b:Nat),bN[k]? =some o->o.live=true->ids[k]? =some b->m1 H ids o (st.h.get b))->
  ∃v,den H a ids v∧∀dz:aw,(∀b o,H b=some o->dz.h.get b=some o)->(∀(k:Nat) (o:ay) (b:Nat),bN[k]? =some o->o.live=true->ids[k]? =some b->dz.h.get b=st.h.get b)->bP ax.call o fr dz= .ok v fr dz)
 (k:g3 ax K (.d l bN (fx d a a0) bb b7) ⟨s.own,s.n,fx d a s.env⟩):g3 ax K (.d ((⟨d,o,none⟩,.read back ts)::l) bN a0 bb b7) s:=by
 intro dd hV H ids st fr fy ae a5 av aa cb;have q2:c3 fr fy ids a0:=⟨aa.pl,cb.gf⟩;obtain⟨v,h1,h2⟩:=h fy ids st (fr.only ts) (q2.only ts) cb.qq (fun k o b U hl hb=>(cb.bN k o b U hl hb).1);have gx:=k dd hV H ids st (fr.put d v) fy ae a5 av (aa.fx d (ti cb.hle _ (c5.refl _) h1)) ⟨cb.len,cb.hle,ae8 cb.gf d h1,cb.qq,cb.yh,cb.bN,cb.old,cb.top⟩;refine OE (h2 st (fun b o akx=>av.le _ _ (cb.hle _ _ akx)) (fun _ _ _ _ _ _=>rfl)) (fun h hm=> ?_) (by rw[cb.len];exact hb) gx;have hm:=zbH hm;exact h2 ⟨h,st.ag⟩ (cb.old h hm) (fun k o b U hl hb=>(cb.bN k o b U hl hb).2 h hm)
def aeT{o:c7}{ts:ac Tmp}{l:ac (bE×cw)}{bb:Nat}(hb:back<bb)
 (h:∀(H:bz) (ids:ac Nat) (fr:aP),c3 fr H ids (eN ts s.env)->∃v,den H a ids v∧∀st,bP ax.call o fr st= .ok v fr st)
 (k:g3 ax K (.d l bN (tl d a0) bb b7) ⟨s.own,s.n,fx d a s.env⟩):g3 ax K (.d ((⟨d,o,none⟩,.read back ts)::l) bN a0 bb b7) s:=by
 intro dd hV H ids st fr fy ae a5 av aa cb;obtain⟨v,h1,h2⟩:=h H ids (fr.only ts) (aa.only ts);have gx:=k dd hV H ids st (fr.put d v) fy ae a5 av (aa.fx d h1) ⟨cb.len,cb.hle,xg cb.gf d v,cb.qq,cb.yh,cb.bN,cb.old,cb.top⟩;exact OE (h2 st) (fun h hm=>h2 _) (by rw[cb.len];exact hb) gx
def aeS{o:c7}{ts:ac Tmp}{l:ac (bE×cw)}{bb:Nat}(hb:0<bb)
 (h:∀(H:bz) (ids:ac Nat) (st:aw) (fr:aP),Fit H ids st s.own s.n->c3 fr H ids (eN ts s.env)->∃v,den H a ids v∧∀dz:aw,(∀b o,H b=some o->dz.h.get b=some o)->(∀k b:Nat,k<b7->ids[k]? =some b->dz.h.get b=st.h.get b)->bP ax.call o fr dz= .ok v fr dz)
 (k:g3 ax K (.d l bN (tl d a0) bb b7) ⟨s.own,s.n,fx d a s.env⟩):g3 ax K (.d ((⟨d,o,none⟩,.read 0 ts)::l) bN a0 bb b7) s:=by
 intro dd hV H ids st fr fy ae a5 av aa cb;obtain⟨v,h1,h2⟩:=h H ids st (fr.only ts) av (aa.only ts);have gx:=k dd hV H ids st (fr.put d v) fy ae a5 av (aa.fx d h1) ⟨cb.len,cb.hle,xg cb.gf d v,cb.qq,cb.yh,cb.bN,cb.old,cb.top⟩;refine OE (h2 st av.le (fun _ _ _ _=>rfl)) (fun h hm=> ?_) (by rw[cb.len];exact hb) gx;have hl:=cb.len
 match ae,hl,hm with
 |[],hl,_=>simp at hl;omega
 |h0::ae,_,hm=>
  simp at hm;subst hm;obtain⟨aG,aI⟩:=cb.top h rfl;exact h2 ⟨h,st.ag⟩ aG aI
def afr{o:c7}{l:ac (bE×cw)}{bb:Nat}(h:K5 K d o c l bN a0 bb b7 s.own s.n s.env=some g)(k:g.ok ax):g3 ax K (.d ((⟨d,o,none⟩,c)::l) bN a0 bb b7) s:=by
 unfold K5 at h;split at h
 ·obtain⟨a,bC,b0,h1,h2⟩:=Kk (call:=ax.call) h;obtain⟨iw,h3,au,aW⟩:=N2 h1;exact KU h2 au aW (xc (pr h3) k)
 ·rename_i ts;obtain⟨a,bC,b0,h1,h2⟩:=PW (call:=ax.call) (s:=⟨s.own,s.n,eN ts s.env⟩) h;split at h1
  ·rename_i hm;exact Rf h2 hm (xc h1 k)
  ·cases h1
 ·rename_i back ts;split at h<;>try cases h
  rename_i hb;have hb:back<bb:=jN hb;split at h
  ·rename_i nx ha;refine o1 hb (fun H ids st fr aa hl ai=> ?_) (aeZ h k);unfold Qe at ha;split at ha
   ·rename_i J;cases ha;obtain⟨v,h1,h2⟩:=Kd (call:=ax.call) aa J;exact⟨v,h1,fun dz _ _=>h2 dz⟩
   ·obtain⟨v,h1,h2⟩:=Ka (call:=ax.call) aa hl ai ha;refine⟨v,h1,fun dz aG aI=>h2 dz (.inl aG) fun k b U hb=> ?_⟩;obtain⟨bf,fi,ck⟩:=anx ha U;exact aI k bf b fi ck hb
  ·split at h
   ·rename_i a ha;exact aeT hb (fun H ids fr aa=>Kd aa ha) (xc h k)
   ·split at h<;>try cases h
    split at h<;>try cases h
    rename_i a ha;have key:(∀k,qh (eN ts s.env) o=some k->k<b7)->aU.ok ax ⟨K,.d l bN (tl d a0) bb b7,⟨s.own,s.n,fx d a s.env⟩⟩->g3 ax K (.d ((⟨d,o,none⟩,.read 0 ts)::l) bN a0 bb b7) s:=fun U k=>by
     refine aeS hb (fun H ids st fr av aa=> ?_) k;obtain⟨v,h1,h2⟩:=Ka (call:=ax.call) aa (by rw[av.len,av.cE];exact bY _) (fun k o b U _ hb=>(av.own k o b U hb).1) ha;exact⟨v,h1,fun dz aG aI=>h2 dz (.inl aG) fun k b fi cU=>aI k b (U k fi) cU⟩
    split at h
    ·rename_i hn;exact key (fun k U=>by rw[hn]at U;cases U) (xc h k)
    ·rename_i bK hn;split at h
     ·rename_i aV;exact key (fun k U=>by rw[hn]at U;cases U;exact jN aV) (xc h k)
     ·cases h
def K2{o:c7}{t:Tmp}{b:Bool}{l:ac (bE×cw)}{bb:Nat}(aJ:dZ (FB c s.env) t=some (.b (!b))∨∃vs,dZ (FB c s.env) t=some (.bu vs))(h:B8 K d c l bN a0 bb b7 s.own s.n s.env=some g)(k:g.ok ax):g3 ax K (.d ((⟨d,o,some (t,b)⟩,c)::l) bN a0 bb b7) s:=by
 have want:∀{fr:aP} {H:bz} {ids:ac Nat} {e:bO} {y n z:cW},c3 fr H ids e->(dZ e t=some (.b (!b))∨∃vs,dZ e t=some (.bu vs))->hs fr (some (t,b)) y n z=n:=fun{fr H ids e y n z} aa aJ=>by
  rcases aJ with aJ|⟨vs,aJ⟩
  ·exact aud (aa.get _ _ aJ)
  ·obtain⟨ws,aF,_⟩:=aa.get _ _ aJ;show ns (fr.tmp t) (fun c=>cond c (cond b y n) (cond b n y)) (qF (fr.tmp t) (fun _=>n) z)=_;rw[aF];rfl
 unfold B8 at h;intro dd hV H ids st fr fy ae a5 av aa cb;split at h
 ·have k:=xc (pr h) k;have gx:=k dd hV H ids st (fr.put d undef) fy (st.h::ae) a5 av (aa.fx d ⟨[],rfl,rfl⟩) ⟨by simp[cb.len],cb.hle,xg cb.gf d _,cb.qq,by rw[av.len];exact bY _,fun k o b U hl hb=> ?_,fun h hm=> ?_,fun h hm=> ?_⟩
  ·refine W.of_eq ?_ gx;show hs fr (some (t,b)) _ (hT ax.call dd l (st.h::ae) (fr.put d undef) st) _=_;exact want aa aJ
  ·obtain⟨h1,h2⟩:=cb.bN k o b U hl hb;refine⟨h1,fun h hm=> ?_⟩;rcases zao.1 hm with rfl|hm
   ·rfl
   ·exact h2 h hm
  ·rcases zao.1 hm with rfl|hm
   ·exact fun b o hb=>av.le _ _ (cb.hle _ _ hb)
   ·exact cb.old h hm
  ·simp at hm;subst hm;exact⟨av.le,fun _ _ _ _=>rfl⟩
 ·rename_i cl;have k:=xc h k;have gx:=k dd hV H ids st (fr.put d undef) fy ae a5 av (aa.fx d ⟨[],rfl,rfl⟩) ⟨cb.len,cb.hle,xg cb.gf d _,cb.qq,cb.yh,cb.bN,cb.old,cb.top⟩;refine W.of_eq ?_ gx;cases c with
  |ez=>exact absurd rfl cl
  |hG ts=>
   show l5 fr.t ts (fun hk=>hs ⟨hk,[],none,false,none⟩ (some (t,b)) _ _ _)=_;rw[qs];exact want (aa.only ts) aJ
  |read back ts=>
   show l5 fr.t ts (fun hk=>hs ⟨hk,[],none,false,none⟩ (some (t,b)) _ _ _)=_;rw[qs];exact want (aa.only ts) aJ
def Rw{o:c7}{t:Tmp}{b:Bool}{l:ac (bE×cw)}{bb:Nat}(aJ:dZ (FB c s.env) t=some (.b b))(k:g3 ax K (.d ((⟨d,o,none⟩,c)::l) bN a0 bb b7) s):g3 ax K (.d ((⟨d,o,some (t,b)⟩,c)::l) bN a0 bb b7) s:=by
 intro dd hV H ids st fr fy ae a5 av aa cb;refine W.of_eq ?_ (k dd hV H ids st fr fy ae a5 av aa cb);cases c with
 |ez=>
  show hs fr (some (t,b)) _ _ _=hs fr none _ _ _;exact Pq (aa.get _ _ aJ)
 |hG ts=>
  show l5 fr.t ts (fun hk=>hs ⟨hk,[],none,false,none⟩ (some (t,b)) _ _ _)=l5 fr.t ts (fun hk=>hs ⟨hk,[],none,false,none⟩ none _ _ _);rw[qs,qs];exact Pq ((aa.only ts).get _ _ aJ)
 |read back ts=>
  show l5 fr.t ts (fun hk=>hs ⟨hk,[],none,false,none⟩ (some (t,b)) _ _ _)=l5 fr.t ts (fun hk=>hs ⟨hk,[],none,false,none⟩ none _ _ _);rw[qs,qs];exact Pq ((aa.only ts).get _ _ aJ)
def c3.YQ:∀(dU:ac Tmp) {fr:aP} {e:bO},c3 fr H ids e->c3 (pv fr dU) H ids (K3 dU e)
 |[],_,_,h=>h
 |d::dU,_,_,h=>c3.YQ dU (h.afq d ih)
def Jr{gC:aU}(h:Bb g=some gC)(k:gC.ok ax):g.ok ax:=by
 unfold Bb at h;split at h
 ·cases h;exact fun H ids st fr a5 av aa=>aua ⟨H,ids,_,a5,av,aa,k⟩
 ·cases h;exact fun H ids st fr a5 av aa=>atZ (k H ids st fr a5 av aa)
 ·cases h;intro H ids st fr a5 av aa;refine at3 ((k H ids st fr a5 av aa).mono ?_);rintro x aC st' ⟨br,cY,bm,et,eh,eD,hq⟩;cases x with
  |norm=>exact hq br cY st' aC et eh eD
  |exit i=>exact⟨br,cY,bm,et,eh,eD,hq⟩
  |ret=>exact⟨br,cY,bm,et,eh,eD,hq⟩
  |ba v=>exact⟨br,cY,bm,et,eh,eD,hq⟩
 ·cases h;rename_i i a s;intro H ids st fr a5 av aa;refine atL ((k H ids st fr a5 av aa).mono ?_);rintro x aC st' ⟨br,cY,bm,et,eh,eD,hq⟩;cases x with
  |norm=>exact⟨br,cY,bm,et,eh,eD,hq⟩
  |exit j=>
   show(if j=i then _ else _);have hq:(if j=i then _ else _):=hq;split at hq
   ·rw[zab (by assumption)];exact⟨br,cY,bm,et,eh,eD,hq⟩
   ·rw[zaa (by assumption)];exact⟨br,cY,bm,et,eh,eD,hq⟩
  |ret=>exact⟨br,cY,bm,et,eh,eD,hq⟩
  |ba v=>exact⟨br,cY,bm,et,eh,eD,hq⟩
 ·cases h;exact fun H ids st fr a5 av aa=>atP ⟨H,ids,_,a5,av,aa,k⟩
 ·cases h;exact fun H ids st fr a5 av aa=>at0 ⟨H,ids,_,a5,av,aa,k⟩
 ·cases h;exact fun H ids st fr a5 av aa=>at2 (k H ids st fr a5 av aa)
 ·split at h<;>cases h
  ·rename_i hc;exact fun H ids st fr a5 av aa=>aub (aa.af hc) rfl (k H ids st fr a5 av aa)
  ·rename_i hc;exact fun H ids st fr a5 av aa=>atO (aa.af hc) rfl (k H ids st fr a5 av aa)
 ·cases h;exact fun H ids st fr a5 av aa=>atU ⟨H,ids,_,a5,av,aa,k⟩
 ·rename_i K d o l own n e;obtain⟨a,bC,b0,h1,h2⟩:=Kk (call:=ax.call) (s:=⟨own,n,e⟩) h;cases h1;exact I0 (s:=⟨own,n,e⟩) (d:=some d) h2 k
 ·rename_i K o l own n e;obtain⟨a,bC,b0,h1,h2⟩:=Kk (call:=ax.call) (s:=⟨own,n,e⟩) h;cases h1;exact I0 (s:=⟨own,n,e⟩) (d:=none) h2 k
 ·rename_i K d o t b l own n e;have on:∀{b:Bool},dZ e t=some (.b b)->g3 ax K (.o (⟨d,o,none⟩::l)) ⟨own,n,e⟩->g3 ax K (.o (⟨d,o,some (t,b)⟩::l)) ⟨own,n,e⟩:=fun aJ k H ids st fr a5 av aa=>atX (aa.get _ _ aJ) rfl (k H ids st fr a5 av aa);have off:∀{b:Bool},dZ e t=some (.b (!b))->g3 ax K (.o l) ⟨own,n,fx d (.bu []) e⟩->g3 ax K (.o (⟨d,o,some (t,b)⟩::l)) ⟨own,n,e⟩:=fun aJ k H ids st fr a5 av aa=>atV (aa.get _ _ aJ) rfl (k H ids st _ a5 av (aa.fx d ⟨[],rfl,rfl⟩));split at h
  ·rename_i aJ;cases b
   ·exact off aJ (ND h k)
   ·cases h;exact on aJ k
  ·rename_i aJ;cases b
   ·cases h;exact on aJ k
   ·exact off aJ (ND h k)
  ·rename_i aJ;have k:=ND h k;intro H ids st fr a5 av aa;obtain⟨vs,aF,_⟩:=aa.get _ _ aJ;exact atW aF (k H ids st _ a5 av (aa.fx d ⟨[],rfl,rfl⟩))
  ·cases h
 ·rename_i K l b6 dU ms own n e;have h:=W3 (Rx h);cases h;intro H ids st fr a5 av aa;have aa:=aa.YQ dU;exact atN (k _ (show tc ax.call ms (df l)=tc ax.call ms (0+df l) by rw[zaw]) H ids st _ H [st.h] a5 av aa ⟨rfl,dg.refl _,aa.get,by rw[av.len,<-av.cE];exact bY _,by rw[av.len];exact bY _,fun k o b U hl hb=>⟨(av.own k o b U hb).1,fun h hm=>by simp at hm;rw[hm]⟩,fun h hm=>by simp at hm;subst hm;exact av.le,fun h hm=>by simp at hm;subst hm;exact⟨av.le,fun _ _ _ _=>rfl⟩⟩)
 ·cases h;exact fun dd hV H ids st fr fy ae a5 av aa cb=>abP ⟨H,ids,_,a5,av,aa,k⟩
 ·cases h;exact fun dd hV H ids st fr fy ae a5 av aa cb=>abP ⟨H,ids,_,a5,av,aa,k⟩
 ·exact afr (s:=⟨_,_,_⟩) h k
 ·split at h
  ·rename_i aJ;split at h
   ·cases h;exact Rw (s:=⟨_,_,_⟩) aJ k
   ·exact K2 (s:=⟨_,_,_⟩) (.inl aJ) h k
  ·rename_i aJ;split at h
   ·cases h;exact Rw (s:=⟨_,_,_⟩) aJ k
   ·exact K2 (s:=⟨_,_,_⟩) (.inl aJ) h k
  ·rename_i aJ;exact K2 (s:=⟨_,_,_⟩) (.inr ⟨_,aJ⟩) h k
  ·cases h
 ·cases h;exact k
 ·cases h;exact k
 ·cases h;exact k
 ·cases h;exact k
 ·split at h<;>cases h
  ·rename_i hb;show(if _ then _ else _);rw[zab (ek hb)];exact k
  ·rename_i hb;show(if _ then _ else _);rw[zaa (fun e=>by rw[e,zaL]at hb;cases hb)];exact k
 ·cases h;exact k
 ·cases h;exact k
 ·cases h;exact k
 ·cases h;exact k
 ·cases h;exact k
 ·cases h;exact k
 ·cases h;exact k
 ·cases h
def yB{c:bi}{a b:dp}(hc:bj s.env c=some (.b t))(ha:t=true->aU.ok ax ⟨K,.c a,s⟩)(hb:t=false->aU.ok ax ⟨K,.c b,s⟩):aU.ok ax ⟨K,.c (.cond c a b),s⟩:=fun H ids st fr a5 av aa=>
 atQ (aa.af hc) (fun h=>ha h H ids st fr a5 av aa) (fun h=>hb h H ids st fr a5 av aa)
def ZO{c:bi}{a b:dp}(hc:bj s.env c=some (.b t))(aN:t=true)(ha:aU.ok ax ⟨K,.c a,s⟩):aU.ok ax ⟨K,.c (.cond c a b),s⟩:=yB hc (fun _=>ha) (fun h=>by rw[aN]at h;cases h)
def aqa{c:bi}{a b:dp}(hc:bj s.env c=some (.b t))(aN:t=false)(hb:aU.ok ax ⟨K,.c b,s⟩):aU.ok ax ⟨K,.c (.cond c a b),s⟩:=yB hc (fun h=>by rw[aN]at h;cases h) (fun _=>hb)
def aqe{L:Type _}{b:dp}(ey:L->cG->Prop)(fh:L->Nat)(km:L)(h0:ey km s)(hm:fh km<ax.cm)(h:∀l bm,ey l bm->aU.ok ax ⟨.b3 (fun t=>∃l',fh l'<fh l∧ey l' t)::K,.c b,bm⟩):aU.ok ax ⟨K,.c (.loop b),s⟩:=by
 intro H ids st fr a5 av aa;refine atS (fun m fr st=>∃l H ids s,fh l=m∧ey l s∧ed ax.cd ax.i0 ax.aH H ids st∧Fit H ids st s.own s.n∧c3 fr H ids s.env) (fh km) hm ⟨km,H,ids,s,rfl,h0,a5,av,aa⟩ ?_;rintro m fr st ⟨l,H,ids,bm,rfl,hi,a5,av,aa⟩;refine(h l bm hi H ids st fr a5 av aa).mono ?_;rintro x aC st' ⟨br,cY,bm,et,eh,eD,hq⟩;cases x with
 |norm=>obtain⟨l',h1,h2⟩:=hq;exact⟨_,h1,l',br,cY,bm,rfl,h2,et,eh,eD⟩
 |exit i=>exact⟨br,cY,bm,et,eh,eD,hq⟩
 |ret=>exact⟨br,cY,bm,et,eh,eD,hq⟩
 |ba v=>exact⟨br,cY,bm,et,eh,eD,hq⟩
end
def gW{ax:fu}{g gC:aU}(k:gC.ok ax)(h:Bb g=some gC:=by rfl):g.ok ax:=Jr h k
inductive y9:aU->aU->Prop
 |o {g:aU}:y9 g g
 |i {g aG aI:aU} (h:Bb g=some aG) (t:y9 aG aI):y9 g aI
variable{g gC:aU}
def asZ{ax:fu}(h:y9 g gC)(k:gC.ok ax):g.ok ax:=by
 induction h with
 |o=>exact k
 |i h _ aZ=>exact Jr h (aZ k)
def I{ax:fu}(k:gC.ok ax)(h:y9 g gC:=by(repeat(apply y9.i;exact rfl));exact .o):g.ok ax:=asZ h k
end Go.aj
namespace Go.aj
open Sym
variable{f:ac Nat}
def kM(f:ac Nat):bO->bO->Prop
 |[],_=>True
 |p::l,e=>dZ e p.1=some (lA f p.2)∧kM f l e
def kM.get:∀{l e:bO},kM f l e->∀{j:Nat} {a:ab},dZ l j=some a->dZ e j=some (lA f a)
 |[],_,_,_,_,h=>by cases h
 |p::l,e,ae,j,v,h=>by
  rw[qj]at h;cases hb:Nat.beq p.1 j with
  |true=>rw[hb]at h;cases h;rw[<-ek hb];exact ae.1
  |false=>rw[hb]at h;exact kM.get ae.2 h
def e8(f:ac Nat):ay->ay->Prop
 |.c el cs,o=>o= .c el (n7 f cs)
 |.a el aX z α R l,o=>o= .a el aX z α R l∧∀x,iN (R x)=true
 |.x,_=>True
def uX(f:ac Nat)(own:ac ay):ac Nat->ac ay->Prop
 |[],[]=>True
 |m::ms,o::os=>(∃bf,own[m]? =some bf∧e8 f o bf)∧uX f own ms os
 |_,_=>False
def uX.len{own:ac ay}:∀{ms:ac Nat} {os:ac ay},uX f own ms os->os.length=ms.length
 |[],[],_=>rfl
 |[],_::_,h=>h.elim
 |_::_,[],h=>h.elim
 |_::ms,_::os,h=>by simp[uX.len h.2]
def uX.get{own:ac ay}:∀{ms:ac Nat} {os:ac ay},uX f own ms os->∀{k:Nat} {o:ay},os[k]? =some o->∃m bf,ms[k]? =some m∧own[m]? =some bf∧e8 f o bf
 |[],[],_,_,_,h=>by simp at h
 |[],_::_,h,_,_,_=>h.elim
 |_::_,[],h,_,_,_=>h.elim
 |m::ms,o::os,⟨⟨bf,h1,h2⟩,h3⟩,0,q,h=>by simp at h;subst h;exact⟨m,bf,rfl,h1,h2⟩
 |m::ms,o::os,⟨_,h3⟩,k+1,q,h=>uX.get h3 (by simpa using h)
def pinned:Nat->ac Nat->Nat->Bool
 |0,_,_=>true
 |n+1,m::f,k=>Nat.beq m k&&pinned n f (k+1)
 |_+1,[],_=>false
theorem N6:∀{n:Nat} {f:ac Nat} {k:Nat},pinned n f k=true->∀i,i<n->f[i]? =some (k+i)
 |0,_,_,_,i,h=>by omega
 |n+1,[],k,h,_,_=>by cases h
 |n+1,m::f,k,h,i,hi=>by
  have h:(Nat.beq m k&&pinned n f (k+1))=true:=h;rw[bX]at h;cases i with
  |zero=>simp[ek h.1]
  |succ i=>rw[show k+(i+1)=(k+1)+i by omega];simpa using N6 h.2 i (by omega)
structure Sub(p:Nat)(f:ac Nat)(s t:cG):Prop where
 bU:f.Nodup
 n:t.n=f.length
 own:uX f s.own f t.own
 env:kM f t.env s.env
 Ij:pinned p f 0=true
section
variable{H:bz}{ids:ac Nat}{st:aw}{fr:aP}{s t:cG}{f:ac Nat}
variable{o bf:ay}{p:Nat}
def ae6{ej:am bD}(h:e8 f o bf)(d:m1 H ids bf ej):m1 H (pick f ids) o ej:=by
 cases o with
 |c el cs=>cases h;obtain⟨vs,e,d⟩:=d;exact⟨vs,e,xh f cs d⟩
 |a el aX z α R l=>
  obtain⟨h,hp⟩:=h;cases h;obtain⟨vs,aq,e2,d⟩:=d;exact⟨vs,aq,e2,fun i x J=>o3 _ (hp x) (d i x J) _⟩
 |x=>trivial
def e8.live(h:e8 f o bf)(hl:o.live=true):bf.live=true:=by
 cases o with
 |c el cs=>cases h;rfl
 |a el aX z α R l=>cases h.1;rfl
 |x=>cases hl
def Sub.fit(h:Sub p f s t)(av:Fit H ids st s.own s.n):Fit H (pick f ids) st t.own t.n:=by
 have aJ:∀{k m:Nat},f[k]? =some m->(∃o,s.own[m]? =some o)->∃b,ids[m]? =some b∧(pick f ids)[k]? =some b:=fun{k m} U ⟨o,ai⟩=>by
  have aV:=(zae.1 ai).1;have hi:m<ids.length:=by rw[av.len,<-av.cE];exact aV
  exact⟨_,bF hi,yr U (bF hi)⟩
 have eu:∀k m:Nat,f[k]? =some m->∃o,s.own[m]? =some o:=fun k m U=>by
  have hl:=h.own.len;have aV:=(zae.1 U).1;obtain⟨fj,bf,h1,h2,_⟩:=h.own.get (bF (show k<t.own.length by omega));rw[U]at h1;cases h1;exact⟨bf,h2⟩
 have fT:(pick f ids).length=f.length:=by simp[pick]
 refine⟨av.wf,av.le,by rw[h.n,h.own.len],by rw[h.n,fT],?_,?_,?_⟩
 ·rw[List.Nodup,zcA];intro i j hi hj sa;rw[fT]at hi hj;obtain⟨b,h1,h2⟩:=aJ (bF hi) (eu _ _ (bF hi));obtain⟨c,h3,au⟩:=aJ (bF hj) (eu _ _ (bF hj));have aq:=(zae.1 h2).2;have e2:=(zae.1 au).2;rw[aq,e2];intro e;subst e;have aG:=zae.1 h1;have aI:=zae.1 h3;have:=(zcB (h₀:=aG.1) (h₁:=aI.1) av.bU).1 (aG.2.trans aI.2.symm);have:=(zcB (h₀:=hi) (h₁:=hj) h.bU).1 this;omega
 ·intro b hb;obtain⟨k,U⟩:=zcp.1 hb;have aV:=(zae.1 U).1;rw[fT]at aV;obtain⟨c,h1,h2⟩:=aJ (bF aV) (eu _ _ (bF aV));rw[U]at h2;cases h2;exact av.lt _ (zaz h1)
 ·intro k o b U hb;obtain⟨m,bf,h1,h2,h3⟩:=h.own.get U;obtain⟨c,au,aW⟩:=aJ h1 ⟨bf,h2⟩;rw[hb]at aW;cases aW;obtain⟨aG,aI⟩:=av.own m bf b h2 au;exact⟨ae6 h3 aG,fun hl=>aI (h3.live hl)⟩
def Sub.R0(h:Sub p f s t)(aa:c3 fr H ids s.env):c3 fr H (pick f ids) t.env:=⟨aa.pl,fun j a hj=>Rr f a (aa.get j _ (h.env.get hj))⟩
def Sub.bS{cd:bz}{i0:ac Nat}{aH:aw}(h:Sub i0.length f s t)(av:Fit H ids st s.own s.n)(a5:ed cd i0 aH H ids st):ed cd i0 aH H (pick f ids) st:=by
 refine⟨a5.hle,a5.hold,a5.ie,a5.ag,?_,?_⟩
 ·intro k b U;have aV:=(zae.1 U).1;have:=N6 h.Ij k aV;rw[zaw]at this;exact yr this (a5.mB k b U)
 ·intro b hb;obtain⟨k,U⟩:=zcp.1 hb;unfold pick at U;rw[zco]at U;cases GH:f[k]? with
  |none=>rw[GH]at U;cases U
  |some m=>
   rw[GH]at U;have U:some ((ids[m]?).getD 0)=some b:=U;have hl:=h.own.len;have aV:=(zae.1 GH).1;obtain⟨fj,bf,h1,h2,_⟩:=h.own.get (bF (show k<t.own.length by omega));rw[GH]at h1;cases h1;have hi:m<ids.length:=by rw[av.len,<-av.cE];exact(zae.1 h2).1
   rw[bF hi]at U;cases U;exact a5.new _ (dV hi)
end
section
variable{ax:fu}{K:ac eH}{s t:cG}{f:ac Nat}
def uU.sub{Q Bt:dM->cG->Prop}{x:dM}{fr:aP}{st:aw}(hq:∀s,Q x s->∃f t,Sub ax.i0.length f s t∧Bt x t)(h:uU ax Q x fr st):uU ax Bt x fr st:=by
 obtain⟨H,ids,s,a5,av,aa,h⟩:=h;obtain⟨f,t,ae,az⟩:=hq s h;exact⟨H,_,t,ae.bS av a5,ae.fit av,ae.R0 aa,az⟩
def OB{c:dp}(f:ac Nat)(t:cG)(h:Sub ax.i0.length f s t)(k:aU.ok ax ⟨K,.c c,t⟩):aU.ok ax ⟨K,.c c,s⟩:=fun H ids st fr a5 av aa=>k H _ st fr (h.bS av a5) (h.fit av) (h.R0 aa)
def wU(p:Nat){L:Type _}(P:L->Prop)(T:L->cG)(s:cG):Prop:=∃f l,P l∧Sub p f s (T l)
variable{e:bO}{a:ab}{aK:Nat}{L:Type _}{p:Nat}{c:bq}
def c6{b:dp}(P:L->Prop)(T:L->cG)(fh:L->Nat)(f0:ac Nat)(km:L)(hH:P km)(hm:fh km<ax.cm)(h0:Sub ax.i0.length f0 s (T km))
 (h:∀l,P l->aU.ok ax ⟨.b3 (wU ax.i0.length (fun l'=>fh l'<fh l∧P l') T)::K,.c b,T l⟩):aU.ok ax ⟨K,.c (.loop b),s⟩:=
 aqe (fun l s=>P l∧∃f,Sub ax.i0.length f s (T l)) fh km ⟨hH,f0,h0⟩ hm fun l bm ⟨hp,f,ae⟩=>OB f _ ae (by
  refine fun H ids st fr a5 av aa=>(h l hp H ids st fr a5 av aa).mono ?_;rintro x aC st' ⟨br,cY,bm,et,eh,eD,hq⟩;refine⟨br,cY,bm,et,eh,eD,?_⟩;cases x with
  |norm=>obtain⟨nJ,l',⟨h1,h2⟩,h3⟩:=hq;exact⟨l',h1,h2,nJ,h3⟩
  |exit i=>exact hq
  |ret=>exact hq
  |ba v=>exact hq)
def a1{P:L->Prop}{T:L->cG}(f:ac Nat)(l:L)(hH:P l)(h:Sub p f s (T l)):aU.ok ax ⟨.b3 (wU p P T)::K,.x .norm,s⟩:=⟨f,l,hH,h⟩
def j3{e:dM}(h:ax.Q e s):aU.ok ax ⟨[],.x e,s⟩:=h
def pk{fr:aP}{H:bz}{ids:ac Nat}{t:Nat}{b:ab}(h:dZ e t=some a)(hn:∀H ids v,den H a ids v->den H b ids v)(aa:c3 fr H ids e):c3 fr H ids ((t,b)::e):=⟨aa.pl,fun j c hj=>by
 rw[qj]at hj;cases hb:Nat.beq t j with
 |true=>rw[hb]at hj;cases hj;rw[<-ek hb];exact hn _ _ _ (aa.get t _ h)
 |false=>rw[hb]at hj;exact aa.get j c hj⟩
def bq.vO:bq->Bool
 |.x _=>true
 |_=>false
def ah(t:Nat)(b:ab){own:ac ay}(h:dZ e t=some a)(iu:a=b)(cf:aU.ok ax ⟨K,c,⟨own,aK,(t,b)::e⟩⟩)(hc:c.vO=false:=by rfl):aU.ok ax ⟨K,c,⟨own,aK,e⟩⟩:=by
 subst iu;cases c with
 |c c=>exact fun H ids st fr a5 av az=>cf H ids st fr a5 av (pk h (fun _ _ _ d=>d) az)
 |o l=>exact fun H ids st fr a5 av az=>cf H ids st fr a5 av (pk h (fun _ _ _ d=>d) az)
 |x e=>cases hc
 |d l bN a0 bb b7=>exact fun dd hV H ids st fr fy ae a5 av az cb=>cf dd hV H ids st fr fy ae a5 av (pk h (fun _ _ _ d=>d) az) cb
def Ej(t:Nat)(b:ab){own:ac ay}(h:dZ e t=some a)(iu:bZ a b)(cf:aU.ok ax ⟨K,c,⟨own,aK,(t,b)::e⟩⟩)(hc:c.vO=false:=by rfl):aU.ok ax ⟨K,c,⟨own,aK,e⟩⟩:=by
 cases c with
 |c c=>exact fun H ids st fr a5 av az=>cf H ids st fr a5 av (pk h iu az)
 |o l=>exact fun H ids st fr a5 av az=>cf H ids st fr a5 av (pk h iu az)
 |x e=>cases hc
 |d l bN a0 bb b7=>exact fun dd hV H ids st fr fy ae a5 av az cb=>cf dd hV H ids st fr fy ae a5 av (pk h iu az) cb
def cu(t:Nat)(b:ab){own bN:ac ay}{bb b7:Nat}{a0:bO}{l:ac (bE×cw)}(h:dZ e t=some a)(h0:dZ a0 t=some a)(iu:a=b)(cf:aU.ok ax ⟨K,.d l bN ((t,b)::a0) bb b7,⟨own,aK,(t,b)::e⟩⟩):aU.ok ax ⟨K,.d l bN a0 bb b7,⟨own,aK,e⟩⟩:=by
 subst iu;exact fun dd hV H ids st fr fy ae a5 av az cb=>cf dd hV H ids st fr fy ae a5 av (pk h (fun _ _ _ d=>d) az) ⟨cb.len,cb.hle,(pk (fr:=fr) h0 (fun _ _ _ d=>d) ⟨az.pl,cb.gf⟩).get,cb.qq,cb.yh,cb.bN,cb.old,cb.top⟩
def iO{own:ac ay}{n:Nat}{cj:bO}(h:kM [] cj e)(hp:pinned p [] 0=true:=by rfl):Sub p [] ⟨own,n,e⟩ ⟨[],0,cj⟩:=⟨zdE,rfl,trivial,h,hp⟩
end
section
variable{ax:fu}{K:ac eH}{own bC:ac ay}{aK b0:Nat}{e:bO}
variable{o:c7}{l:ac bE}{a:ab}
def er{d:Tmp}(h:fE ax.call o ⟨own,aK,e⟩ a bC b0)(k:aU.ok ax ⟨K,.o l,⟨bC,b0,(d,a)::e⟩⟩):aU.ok ax ⟨K,.o (⟨some d,o,none⟩::l),⟨own,aK,e⟩⟩:=I0 (d:=some d) h k
def aqh(h:fE ax.call o ⟨own,aK,e⟩ a bC b0)(k:aU.ok ax ⟨K,.o l,⟨bC,b0,e⟩⟩):aU.ok ax ⟨K,.o (⟨none,o,none⟩::l),⟨own,aK,e⟩⟩:=I0 (d:=none) h k
end
section
variable{call:bL}{s:cG}{x y i:bi}{a b:ab}
variable{z j k:Nat}{α:Type}{el:ce}{aX:Bool}{q:Nat}{H:bz}{ids:ac Nat}{ds:ac ab}{R:α->ac ab}{l:ac α}{w:α}
def j0{o:c7}(h:∀H ids st fr,Fit H ids st s.own s.n->c3 fr H ids s.env->∃v,den H a ids v∧bP call o fr st= .ok v fr st):fE call o s a s.own s.n:=fun H ids st fr av aa=>
 let⟨v,h1,h2⟩:=h H ids st fr av aa
 ⟨v,st,ids,H,h2,av,h1,dg.refl _,c5.refl _,fun _ _ _ B=>B,bY _,fun _ _ _=>rfl⟩
def Wq{o n c:Nat}{cf:d7}(J:bj s.env x=some (.aY k z o n c))(hi:bj s.env i=some (.i cf (j:Int)))(hj:j<n):fE call (.lW z x i) s (.gA k z (o+j) 0) s.own s.n:=j0 fun H ids st fr av aa=>by
 obtain⟨b,h1,h2⟩:=aa.af J;have h3:fr.af i= .int cf (j:Int):=aa.af hi;exact⟨_,⟨b,h1,by rw[zam,zaQ]⟩,HZ h2 h3 hj⟩
def MJ{q:α}{cf:d7}(J:bj s.env x=some (.cc z α R l))(hi:bj s.env i=some (.i cf (j:Int)))(hj:l[j]? =some q):fE call (.lW z x i) s (.ip (R q)) s.own s.n:=j0 fun H ids st fr av aa=>by
 have h3:fr.af i= .int cf (j:Int):=aa.af hi;have aV:=(zae.1 hj).1;rcases aa.af J with⟨hl,_⟩|⟨b,o,c,vs,el,a8,aX,h1,h2,au,aW⟩
 ·subst hl;simp at aV
 ·refine⟨_,⟨b,o+j*z,vs,el,a8,aX,rfl,au,?_⟩,HZ h1 h3 aV⟩;have al:=aW j q hj;have hl:=h6 al;rw[<-hl];rw[show(vs.drop (o+j*z)).take ((vs.drop (o+j*z)).take z).length=(vs.drop (o+j*z)).take z by rw[zas,<-List.take_eq_take_min]];exact al
def pL{st:aw}(av:Fit H ids st s.own s.n)(U:s.own[k]? =some (.a el aX z α R l)){b:Nat}(hb:ids[k]? =some b):∃vs,st.h.get b=some (.cells vs el (0,0) aX)∧vs.length=l.length*z∧∀i x,l[i]? =some x->db H (R x) ids ((vs.drop (i*z)).take z):=(av.own k _ b U hb).1
def anw(J:bj s.env x=some (.gA k z j q))(U:s.own[k]? =some (.a el aX z α R l))(hj:l[j]? =some w)(hq:(R w)[q]? =some a):fE call (.lZ x) s a s.own s.n:=j0 fun H ids st fr av aa=>by
 obtain⟨b,h1,h2⟩:=aa.af J;obtain⟨vs,h3,au,aW⟩:=pL av U h1;obtain⟨v,aF,al⟩:=vb (aW j w hj) hq;refine⟨v,al,Ag h2 h3 ?_⟩;rw[zaJ]at aF;split at aF
 ·rw[zaF]at aF;exact aF
 ·cases aF
def adM{v:be}(h:u5 a=some ds)(hc:rW ds=true)(d:den H a ids v):db H ds ids (iB v)∧gZ (iB v)=true:=by
 obtain⟨_,d2⟩:=Fx h d;exact⟨d2,BO hc d2⟩
def adR{vs ws:ac be}(i:Nat)(aF:(j+1)*z<=vs.length)(hq:q+ws.length<=z):
 ((vs.take (j*z+q)++(ws++vs.drop (j*z+q+ws.length))).drop (i*z)).take z=if i=j then((vs.drop (j*z)).take z).take q++(ws++((vs.drop (j*z)).take z).drop (q+ws.length))else(vs.drop (i*z)).take z:=by
 rw[zam,zaH]at aF;apply zbD;intro p;rw[zaJ,zaF];by_cases hp:p<z
 ·rw[zab hp];have get:∀m,(vs.take (j*z+q)++(ws++vs.drop (j*z+q+ws.length)))[m]? =if m<j*z+q then vs[m]? else if m<j*z+q+ws.length then ws[m-(j*z+q)]? else vs[m]? :=by
   intro m;by_cases h1:m<j*z+q
   ·rw[zab h1,zaV (by simp;omega),zaJ,zab h1]
   ·rw[zaa h1,zaM (by simp;omega),zas,zaA (by omega)];by_cases h2:m<j*z+q+ws.length
    ·rw[zab h2,zaV (by omega)]
    ·rw[zaa h2,zaM (by omega),zaF];congr 1;omega
  rw[get];by_cases sa:i=j
  ·subst sa;rw[zab rfl];by_cases h1:p<q
   ·rw[zab (by omega),zaV (by simp;omega),zaJ,zab h1,zaJ,zab hp,zaF]
   ·rw[zaa (by omega),zaM (by simp;omega)];have e:(((vs.drop (i*z)).take z).take q).length=q:=by simp;omega
    rw[e];by_cases h2:p<q+ws.length
    ·rw[zab (by omega),zaV (by omega)];congr 1;omega
    ·rw[zaa (by omega),zaM (by omega),zaF,zaJ,zab (by omega),zaF];congr 1;omega
  ·rw[zaa sa,zaJ,zab hp,zaF];have:i*z+p<j*z∨j*z+z<=i*z+p:=by
    rcases Nat.lt_or_gt_of_ne sa with h|h
    ·left;have:(i+1)*z<=j*z:=fK z h;rw[zam,zaH]at this;omega
    ·right;have:(j+1)*z<=i*z:=fK z h;rw[zam,zaH]at this;omega
   rcases this with h|h
   ·rw[zab (by omega)]
   ·rw[zaa (by omega),zaa (by omega)]
 ·rw[zaa hp]
  symm
  rw[zeS];split
  ·simp;omega
  ·simp;omega
def asQ{m:Nat}(w':α)(J:bj s.env x=some (.gA k z j q))(aA:bj s.env y=some a)(hc:u5 a=some ds)(hl:ds.length=m)(eL:rW ds=true)
 (U:s.own[k]? =some (.a el aX z α R l)) (hj:l[j]? =some w) (cL:R w'=(R w).take q++(ds++(R w).drop (q+ds.length))) (aE:q+m<=z):
 fE call (.store m x y) s (.bu []) (s.own.set k (.a el aX z α R (l.set j w'))) s.n:=fun H ids st fr av aa=>by
 obtain⟨b,h1,h2⟩:=aa.af J;obtain⟨vs,h3,au,aW⟩:=pL av U h1;obtain⟨d2,bI⟩:=adM hc eL (aa.af aA);have mw:=h6 d2;have aV:=(zae.1 hj).1;have C9:(j+1)*z<=vs.length:=by rw[au];exact fK z aV
 have amg:=C9;rw[zam,zaH]at amg;refine⟨undef,⟨st.h.set b (.cells (vs.take (j*z+q)++(iB (fr.af y)++vs.drop (j*z+q+(iB (fr.af y)).length))) el (0,0) aX),st.ag⟩,ids,H,?_,av.gP U rfl h1 ⟨_,rfl,?_,?_⟩,⟨[],rfl,rfl⟩,dg.refl _,c5.refl _,fun _ _ _ B=>B.gP (zaz h1) _,bY _,?_⟩
 ·have:bP call (.store m x y) fr st=iy (fr.af x) (fun p=>bd p (fun a=>dW (df (iB (fr.af y))) m (cond (gZ (iB (fr.af y))) (st.store a (iB (fr.af y)) (fun st=>aS.ok undef fr st) .no) .no) .no) .no) .no:=rfl;rw[this,h2,qE,Sym.eO,fs,jU (by omega),bI,cond_true];unfold aw.store aw.gH;rw[Sym.hZ,h3,kO,fW (bY _),rD,zab (by show j*z+q+_<=_;omega),j5]
 ·simp only[zaG,zas,zaE,zbv];rw[<-au];omega
 ·intro i p hp;rw[adR i C9 (by omega)];rw[zbr]at hp;by_cases sa:j=i
  ·subst sa;rw[zab rfl,zab aV]at hp;cases hp;rw[zab rfl,cL];exact KZ q (aW j w hj) d2
  ·rw[zaa sa]at hp;rw[zaa (Ne.symm sa)];exact aW i p hp
 ·intro dN _ cl;exact an.h7 _ _ (fun e=>cl k (by simp[kE,J]) (e▸h1))
def aaT(w':α)(J:bj s.env x=some (.gA k 1 j 0))(aA:bj s.env y=some a)(U:s.own[k]? =some (.a el aX 1 α R l))(cL:R w'=[a])(hj:j<l.length)(hc:s9 a=true)(h1:∀w,(R w).length=1):
 fE call (.store 1 x y) s (.bu []) (s.own.set k (.a el aX 1 α R (l.set j w'))) s.n:=by
 refine asQ (w:=l[j]) w' J aA (ds:=[a]) ?_ rfl ?_ U (bF hj) ?_ (by decide)
 ·cases a<;>first|rfl|cases hc|(show(match s9 _ with|true=>_|false=>_)=_;rw[hc])
 ·show(s9 a&&true)=true;rw[hc];rfl
 ·rw[cL];have:=h1 l[j];rw[show(R l[j]).drop (0+[a].length)=[] by apply zca;simp;omega];rfl
end
set_option maxRecDepth 10000
section
variable{call:bL}{s:cG}{x y i:bi}{a b:ab}
def jw(H:bz)(ids:ac Nat){α:Type}(R:α->ac ab)(z:Nat)(l:ac α)(vs:ac be):Prop:=vs.length=l.length*z∧∀i x,l[i]? =some x->db H (R x) ids ((vs.drop (i*z)).take z)
variable{α:Type}{z:Nat}{H:bz}{ids:ac Nat}{vs:ac be}{R:α->ac ab}{l:ac α}
def zq(H:bz)(ids:ac Nat)(R:α->ac ab)(z:Nat):jw H ids R z [] []:=⟨by simp,fun i x h=>by simp at h⟩
def ta{m:ac α}{ws:ac be}(h:jw H ids R z l vs)(az:jw H ids R z m ws):jw H ids R z (l++m) (vs++ws):=by
 refine⟨by rw[zaG,zaG,h.1,az.1,zam],fun i x J=> ?_⟩;by_cases hi:i<l.length
 ·rw[zaV hi]at J;have h1:=h.2 i x J;have hle:(i+1)*z<=vs.length:=by rw[h.1];exact fK z hi
  rw[zam,zaH]at hle;rw[zel (by omega),zcY (by simp;omega)];exact h1
 ·rw[zaM (by omega)]at J;have h1:=az.2 _ x J;have e:i*z=vs.length+(i-l.length)*z:=by rw[h.1,<-zam];congr 1;omega
  rw[e,<-zbu,List.drop_left];exact h1
def FA(h:jw H ids R z l vs)(n:Nat)(hn:n<=l.length):jw H ids R z (l.take n) (vs.take (n*z)):=by
 have CW:n*z<=l.length*z:=fK z hn;refine⟨by rw[zas,zas,h.1,zaA CW,zaA hn],fun i x J=> ?_⟩;rw[zaJ]at J;split at J
 ·rename_i hi;have hle:(i+1)*z<=n*z:=fK z hi;rw[zam,zaH]at hle;rw[zek,zdD,zaA (by omega)];exact h.2 i x J
 ·cases J
def zp(h:jw H ids R z l vs)(n:Nat):jw H ids R z (l.drop n) (vs.drop (n*z)):=by
 refine⟨by rw[zaE,zaE,h.1,Nat.sub_mul],fun i x J=> ?_⟩;rw[zaF]at J;rw[zbu,<-zam];exact h.2 _ x J
def Fz{w:α}(h:db H (R w) ids vs)(aE:(R w).length=z):jw H ids R z [w] vs:=by
 have hl:=h6 h;refine⟨by simp;omega,fun i x J=> ?_⟩;cases i with
 |zero=>simp at J;subst J;rw[zav,zaq,zay (by omega)];exact h
 |succ i=>simp at J
theorem KK{H:bz}{ids:ac Nat}{α:Type}{R:α->ac ab}{w:α}{gq:ac be}(h:db H (R w) ids gq):∀n,jw H ids R gq.length (List.replicate n w) (kQ gq n)
 |0=>zq _ _ _ _
 |n+1=>by
  have e:kQ gq (n+1)=gq++kQ gq n:=by show gG gq (kQ gq n)=_;rw[qM]
  rw[e,zem,<-List.singleton_append];exact ta (Fz h (by rw[h6 h])) (KK h n)
theorem KL{H:bz}{ids:ac Nat}{α:Type}{R:α->ac ab}{z:Nat}(aE:∀w,(R w).length=z):∀{l:ac α} {vs:ac be},db H (l.flatMap R) ids vs->jw H ids R z l vs
 |[],vs,d=>by cases d;exact zq _ _ _ _
 |w::l,vs,d=>by
  rw[zdF]at d;have h1:=vd z d;have h2:=o2 z d;rw[zen (aE w)]at h1;rw[zdG (aE w)]at h2;rw[<-zbn z vs];exact ta (l:=[w]) (Fz h1 (aE w)) (KL aE h2)
def mk{el:ce}{cJ n c:Nat}{gq:ac be}{k k':d7}(R:α->ac ab)(w:α)(J:bj s.env x=some (.i k (n:Int)))(aA:bj s.env y=some (.i k' (c:Int)))(aE:gq.length=z)(cL:v8 gq=R w)(hn:n<=c)(hc:c*(cJ+1)<=1099511627776):
 fE call (.po el cJ gq x y) s (.aY s.n z 0 n c) (s.own++[.a el false z α R (List.replicate c w)]) (s.n+1):=fun H ids st fr av aa=>by
 have h1:fr.af x= .int k (n:Int):=aa.af J;have h2:fr.af y= .int k' (c:Int):=aa.af aA;subst aE;have al:=vc H (ids++[st.ag]) gq;rw[cL]at al;have ja:=KK al c;refine⟨_,_,_,H,?_,av.add (ej:=.cells (kQ gq c) el (0,0) false) ⟨_,rfl,ja.1,ja.2⟩,⟨st.ag,by rw[<-av.len,zaM (bY _)];simp,rfl⟩,dg.refl _,c5.app _ _,fun _ _ _ B=>B.add _,zbh _,fun b hb _=>yn hb⟩;show sB el cJ gq x y call fr st=_;unfold sB;rw[h1,h2,mb,mb,nW,nW,fW hn,fW (show Nat.mul c (Nat.succ cJ)<=2^40 from hc),gz,zav]
def qJ(s:cG)(x:bi){α:Type}(R:α->ac ab)(z:Nat)(l:ac α):Prop:=∀(H:bz) (ids:ac Nat) (st:aw) (fr:aP),Fit H ids st s.own s.n->c3 fr H ids s.env->
 (l=[]∧∃c,fr.af x= .slice none 0 c)∨∃b o c vs el a8 aX,fr.af x= .slice (some ⟨b,o,none⟩) l.length c∧st.h.get b=some (.cells vs el a8 aX)∧l.length*z<=(vs.drop o).length∧jw H ids R z l ((vs.drop o).take (l.length*z))∧gZ ((vs.drop o).take (l.length*z))=true
variable{o:Nat}
theorem P0:∀(vs:ac be) (n:Nat),gZ vs=true->gZ (vs.take n)=true
 |[],n,_=>by simp[gZ]
 |v::vs,0,_=>rfl
 |v::vs,n+1,h=>by
  have h:cond (mY v) (gZ vs) false=true:=h;show cond (mY v) (gZ (vs.take n)) false=true;cases aF:mY v with
  |false=>rw[aF]at h;cases h
  |true=>rw[aF]at h;exact P0 vs n h
theorem PZ:∀(vs ws:ac be),gZ vs=true->gZ ws=true->gZ (vs++ws)=true
 |[],ws,_,h=>h
 |v::vs,ws,h,az=>by
  have h:cond (mY v) (gZ vs) false=true:=h;show cond (mY v) (gZ (vs++ws)) false=true;cases aF:mY v with
  |false=>rw[aF]at h;cases h
  |true=>rw[aF]at h;exact PZ vs ws h az
def asp{k n c:Nat}{el:ce}{cs:ac ab}(l:ac α)(J:bj s.env x=some (.aY k z o l.length c))(ai:o=0)(U:s.own[k]? =some (.c el cs))(eL:cs=l.flatMap R)(aE:∀w,(R w).length=z)(hc:rW cs=true)(hn:l.length=n):qJ s x R z l:=by
 intro H ids st fr av aa;subst ai;obtain⟨b,h1,h2⟩:=aa.af J;obtain⟨⟨vs,h3,d⟩,_⟩:=av.own k _ b U h1;rw[eL]at d;have ja:=KL aE d;have bI:=BO (eL▸hc) d;rw[zav]at h2;refine .inr ⟨b,0,c,vs,el,_,_,h2,h3,by simp[ja.1],?_,P0 _ _ (by simpa using bI)⟩;rw[zaq,zay (by rw[ja.1];exact bY _)];exact ja
def amG(aE:∀w,(R w).length=z):∀{l:ac α},(∀i x,l[i]? =some x->db H (R x) [] ((vs.drop (o+i*z)).take z))->∀n,n<=l.length->n*z<=(vs.drop o).length∧jw H [] R z (l.take n) ((vs.drop o).take (n*z)):=by
 intro l h n
 induction n with
 |zero=>intro _;exact⟨by simp,by simpa using zq _ _ _ _⟩
 |succ n aZ=>
  intro hn;obtain⟨h1,h2⟩:=aZ (by omega);have aJ:l[n]? =some l[n]:=bF (by omega);have h3:=h n _ aJ;have hl:=h6 h3;rw[aE,zas]at hl;rw[<-zbu,zaE]at hl;have hle:(n+1)*z<=(vs.drop o).length:=by
   rw[zam,zaH];rcases zcC z with h0|h0
   ·subst h0;simp
   ·omega
  refine⟨hle,?_⟩;rw[zba (by omega)];have e:(vs.drop o).take ((n+1)*z)=(vs.drop o).take (n*z)++(vs.drop (o+n*z)).take z:=by
   rw[zam,zaH,List.take_add,zbu]
  rw[e];exact ta h2 (Fz h3 (aE _))
def Fy{br:bz}{i j:ac Nat}(hh:dg H br)(hi:c5 i j)(h:jw H i R z l vs):jw br j R z l vs:=⟨h.1,fun k x J=>lL hh _ hi (h.2 k x J)⟩
theorem QU{H:bz}{ids:ac Nat}{α:Type}{R:α->ac ab}{z:Nat}(aE:∀w,(R w).length=z)(hc:∀w,rW (R w)=true):∀{l:ac α} {vs:ac be},jw H ids R z l vs->gZ vs=true
 |[],vs,h=>by
  have:vs=[]:=zbB (by rw[h.1];simp);subst this;rfl
 |w::l,vs,h=>by
  rw[<-zbn z vs];have h1:=h.2 0 w (by simp);rw[zav,zaq]at h1;have h2:=zp h 1;rw[zaH]at h2;exact PZ _ _ (BO (hc w) h1) (QU aE hc (l:=l) h2)
def Jk(J:bj s.env x=some (.cc z α R l))(aE:∀w,(R w).length=z)(hc:∀w,rW (R w)=true):qJ s x R z l:=by
 intro H ids st fr av aa;rcases aa.af J with⟨hl,h1⟩|⟨b,o,c,vs,el,a8,aX,h1,h2,au,aW⟩
 ·exact .inl ⟨hl,0,h1⟩
 ·obtain⟨aG,aI⟩:=amG aE aW l.length (bY _);rw[zbY]at aI;exact .inr ⟨b,o,c,vs,el,a8,aX,h1,av.le _ _ au,aG,Fy (dg.refl _) (c5.nil _) aI,QU aE hc aI⟩
def uW(call:bL)(el:ce)(cJ:Nat)(s:cG)(y:bi){α:Type}(R:α->ac ab)(z:Nat)(l:ac α):Prop:=∀(H:bz) (ids:ac Nat) (st:aw) (fr:aP),Fit H ids st s.own s.n->c3 fr H ids s.env->∀(x:bi) (p:am Addr) (n c:Nat),fr.af x= .slice p n c->
 ∃new,jw H ids R z l new∧gZ new=true∧bP call (.app el z cJ x y) fr st=iX fr st el z cJ p n c l.length new
variable{a7 cJ:Nat}{el:ce}{k n c:Nat}{m:ac α}
def BC(ae:qJ s y R a7 l):uW call el cJ s y R a7 l:=fun H ids st fr av aa x p n c J=>by
 have e:bP call (.app el a7 cJ x y) fr st=hL (fr.af x) (fun base len cap=>hL (fr.af y) (fun b n _=>bd b (fun b=>st.load b (Nat.mul n a7) (fun new=>cond (gZ new) (iX fr st el a7 cJ base len cap n new) .no) .no) (dW n 0 (iX fr st el a7 cJ base len cap 0 []) .no)) (sP (fr.af y) (iX fr st el a7 cJ base len cap 0 []) (hM (fr.af y) (fun s=>dW a7 1 (iX fr st el a7 cJ base len cap (df s.data.toList) (lb s.data.toList)) .no) .no))) .no:=rfl;rw[e,J,oe];rcases ae H ids st fr av aa with⟨rfl,bT,h1⟩|⟨b,o,bT,vs,RC,a8,aX,h1,h2,h3,au,aW⟩
 ·refine⟨[],zq _ _ _ _,rfl,?_⟩;rw[h1,oe,Sym.hZ,jU rfl];rfl
 ·refine⟨_,au,aW,?_⟩;rw[h1,oe,Sym.eO];show st.load ⟨b,o,none⟩ (l.length*a7) _ _=_;unfold aw.load aw.gH;rw[Sym.hZ,h2,kO,rY h3,aW];rfl
def P5(J:bj s.env x=some .nl)(ae:uW call el cJ s y R a7 l)(h0:l≠[])(hb:(5*l.length+1792)*(cJ+1)<=1125899906842624):
 fE call (.app el a7 cJ x y) s (.aY s.n a7 0 l.length l.length) (s.own++[.a el true a7 α R l]) (s.n+1):=fun H ids st fr av aa=>by
 obtain⟨new,h1,h2,h3⟩:=ae H ids st fr av aa x _ _ _ (show fr.af x= .slice none 0 0 from aa.af J);have kV:=Fy (dg.refl H) (c5.app ids [st.ag]) h1;have hl:0<l.length:=zbf.2 h0;refine⟨_,_,_,H,?_,av.add (ej:=.cells new el (0,0) true) ⟨_,rfl,kV.1,kV.2⟩,⟨st.ag,by rw[<-av.len,zaM (bY _)];simp,rfl⟩,dg.refl _,c5.app _ _,fun _ _ _ B=>B.add _,zbh _,fun b hb _=>yn hb⟩;rw[h3];unfold iX;simp only[zcZ,zda,zaw];rw[fW (show(5*l.length+1792)*Nat.succ cJ<=2^50 from hb),Sym.hZ,jU rfl,jU rfl,r2 (by omega),gz,zav]
def P4(J:bj s.env x=some (.aY k a7 0 n c))(U:s.own[k]? =some (.a el true a7 α R l))(ae:uW call el cJ s y R a7 m)(h0:m≠[])(hn:n<=l.length)(kD:n<=c)(hc:c<=l.length)(hb:(5*(n+m.length)+1792)*(cJ+1)<=1125899906842624):
 fE call (.app el a7 cJ x y) s (.aY s.n a7 0 (n+m.length) (n+m.length)) (s.own.set k .x++[.a el true a7 α R (l.take n++m)]) (s.n+1):=fun H ids st fr av aa=>by
 obtain⟨b,aG,aI⟩:=aa.af J;obtain⟨vs,a4,b2,cx⟩:=pL av U aG;obtain⟨new,h1,h2,h3⟩:=ae H ids st fr av aa x _ _ _ aI;have hl:0<m.length:=zbf.2 h0;have p2:Fit H ids ⟨st.h.set b .dead,st.ag⟩ (s.own.set k .x) s.n:=av.gP U rfl aG trivial;have ja:=ta (FA ⟨b2,cx⟩ n hn) h1;have kV:=Fy (dg.refl H) (c5.app ids [st.ag]) ja;have GD:c*a7<=l.length*a7:=fK a7 hc;have CW:n*a7<=l.length*a7:=fK a7 hn;have au1:b<st.ag:=av.lt b (zaz aG);refine⟨.slice (some ⟨st.ag,0,none⟩) (n+m.length) (n+m.length),_,_,H,?_,p2.add (ej:=.cells (vs.take (n*a7)++new) el (0,0) true) ⟨_,rfl,kV.1,kV.2⟩,⟨st.ag,by rw[<-av.len,zaM (bY _)];simp,by rw[zav]⟩,dg.refl _,c5.app _ _,fun _ _ _ B=>(B.gP (zaz aG) .dead).add _,zbh _,?_⟩
 ·rw[h3];unfold iX aw.gH;simp only[zcZ,zda,Sym.eO,Sym.hZ,a4,kO,zav];rw[fW (show(5*(n+m.length)+1792)*Nat.succ cJ<=2^50 from hb),fW (bY _),fW kD,fW (by rw[fs,b2];show 0+c*a7<=_;omega),jU rfl,r2 (by omega),cond_true,rY (by simp;omega),j5,gz,qM,zaq]
 ·intro dN cU cl;show((st.h.set b .dead).set st.ag _).get dN=_;rw[an.h7 _ _ (by omega)];exact an.h7 _ _ (fun e=>cl k (by simp[kE,J]) (e▸aG))
def acS(J:bj s.env x=some (.aY k a7 0 n c))(U:s.own[k]? =some (.a el false a7 α R l))(ae:uW call el cJ s y R a7 m)(h0:m≠[])(hn:n+m.length<=c)(hc:c<=l.length)(hb:(5*(n+m.length)+1792)*(cJ+1)<=1125899906842624):
 fE call (.app el a7 cJ x y) s (.aY k a7 0 (n+m.length) c) (s.own.set k (.a el false a7 α R (l.take n++(m++l.drop (n+m.length))))) s.n:=fun H ids st fr av aa=>by
 obtain⟨b,aG,aI⟩:=aa.af J;obtain⟨vs,a4,b2,cx⟩:=pL av U aG;obtain⟨new,h1,h2,h3⟩:=ae H ids st fr av aa x _ _ _ aI;have hl:0<m.length:=zbf.2 h0;have ja:=ta (FA ⟨b2,cx⟩ n (by omega)) (ta h1 (zp ⟨b2,cx⟩ (n+m.length)));have GD:c*a7<=l.length*a7:=fK a7 hc;have CW:(n+m.length)*a7<=l.length*a7:=fK a7 (by omega);have e:n*a7+new.length=(n+m.length)*a7:=by rw[h1.1,zam]
 refine⟨.slice (some ⟨b,0,none⟩) (n+m.length) c,_,ids,H,?_,av.gP U rfl aG (ej:=.cells (vs.take (n*a7)++(new++vs.drop (n*a7+new.length))) el (0,0) false) ⟨_,rfl,by rw[e];exact ja.1,by rw[e];exact ja.2⟩,⟨b,aG,by rw[zav]⟩,dg.refl _,c5.refl _,fun _ _ _ B=>B.gP (zaz aG) _,bY _,?_⟩
 ·rw[h3];unfold iX aw.gH;simp only[zcZ,zda,Sym.eO,Sym.hZ,a4,kO,zav,zaw];rw[fW (show(5*(n+m.length)+1792)*Nat.succ cJ<=2^50 from hb),fW (bY _),fW (by omega),fW (by rw[fs,b2];exact GD),jU rfl,r2 (by omega),cond_false,fW hn,rD,zab (by rw[e,b2];exact CW),j5]
 ·intro dN _ cl;exact an.h7 _ _ (fun e=>cl k (by simp[kE,J]) (e▸aG))
end
section
variable{call:bL}{s:cG}{x y i:bi}{a b:ab}
def fc(s:cG)(x:am bi)(dflt n:Nat):Prop:=
 match x with
 |none=>n=dflt
 |some x=>∃cf,bj s.env x=some (.i cf (n:Int))
variable{n p q:Nat}{aM hi:am bi}{k:d7}{z:Nat}{α:Type}{m:Int}{H:bz}{ids:ac Nat}{fr:aP}{k':d7}{R:α->ac ab}{l:ac α}
def fc.af{x:am bi}{dflt y:Nat}(h:fc s x dflt n)(aa:c3 fr H ids s.env)(aA:n<=y)(k:Nat->aS):e9 fr x dflt y k=k n:=by
 cases x with
 |none=>cases h;rfl
 |some x=>
  obtain⟨cf,h⟩:=h;have h:fr.af x= .int cf (n:Int):=aa.af h;show gp (fr.af x) (fun _ n=>g9 n (fun n=>dY n y (k n) .no) .no) .no=_;rw[h,mb,nW,fW aA]
def BM(fr:aP)(d y:Nat)(k:Nat->aS):e9 fr none d y k=k d:=rfl
def aaF(J:bj s.env x=some (.cc z α R l))(fo:fc s aM 0 p)(fI:fc s hi l.length q)(hp:p<=q)(hq:q<=l.length)(aa:c3 fr H ids s.env):
 ∃v,den H (.cc z α R ((l.drop p).take (q-p))) ids v∧∀st:aw,(∀b o,H b=some o->st.h.get b=some o)->bP call (.nm z x aM hi none) fr st= .ok v fr st:=by
 have hl:((l.drop p).take (q-p)).length=q-p:=by simp;omega
 have e:∀st:aw,bP call (.nm z x aM hi none) fr st=hL (fr.af x) (fun b len cap=>bd b (fun a=>st.gH a (fun _ _ _ aX=>cond aX (dY len cap (e9 fr hi len len fun h=>e9 fr aM 0 h fun l=>.ok (.slice (some (a.add (l*z))) (h-l) (cap-l)) fr st) .no) (e9 fr none cap cap fun m=>e9 fr hi len m fun h=>e9 fr aM 0 h fun l=>.ok (.slice (some (dW m l a (a.add (l*z)))) (h-l) (m-l)) fr st)) .no) (e9 fr none cap cap fun m=>e9 fr hi len m fun h=>e9 fr aM 0 h fun l=>.ok (.slice none (h-l) (m-l)) fr st)) .no:=fun st=>rfl;rcases aa.af J with⟨hn,h1⟩|⟨b,o,c,vs,el,a8,aX,h1,h2,au,aW⟩
 ·subst hn;simp at hq;subst hq;have:p=0:=by omega
  subst this;refine⟨.slice none 0 0,.inl ⟨by simp,rfl⟩,fun st _=> ?_⟩;rw[e,h1,oe,Sym.hZ];rw[BM,fc.af (dflt:=0) fI aa (bY _),fc.af fo aa (bY _)]
 ·have e2:∀st:aw,(∀b o,H b=some o->st.h.get b=some o)->bP call (.nm z x aM hi none) fr st=cond aX (dY l.length c (e9 fr hi l.length l.length fun h=>e9 fr aM 0 h fun l=>.ok (.slice (some ((⟨b,o,none⟩:Addr).add (l*z))) (h-l) (c-l)) fr st) .no) (e9 fr none c c fun m=>e9 fr hi l.length m fun h=>e9 fr aM 0 h fun l=>.ok (.slice (some (dW m l ⟨b,o,none⟩ ((⟨b,o,none⟩:Addr).add (l*z)))) (h-l) (m-l)) fr st):=fun st hle=>by
   rw[e,h1,oe,Sym.eO];unfold aw.gH;rw[Sym.hZ,hle _ _ au,kO]
  have chunk:∀i x,((l.drop p).take (q-p))[i]? =some x->db H (R x) [] ((vs.drop (o+p*z+i*z)).take z):=fun i x J=>by
   rw[zaJ]at J;split at J
   ·rw[zaF]at J;have:=aW _ x J;rw[zam]at this;rw[zbT];exact this
   ·cases J
  cases aX with
  |true=>
   exact⟨_,.inr ⟨b,o+p*z,c-p,vs,el,a8,true,by rw[hl],by rw[hl];omega,au,chunk⟩,fun st hle=>by rw[e2 st hle,cond_true,fW h2,fc.af fI aa hq,fc.af fo aa hp,pJ]⟩
  |false=>
   have bV:∀st:aw,(∀b o,H b=some o->st.h.get b=some o)->bP call (.nm z x aM hi none) fr st= .ok (.slice (some (dW c p ⟨b,o,none⟩ ((⟨b,o,none⟩:Addr).add (p*z)))) (q-p) (c-p)) fr st:=fun st hle=>by
    rw[e2 st hle,cond_false,BM,fc.af fI aa (by omega),fc.af fo aa hp]
   by_cases hc:c=p
   ·have Mv:q=p:=by omega
    refine⟨_,.inr ⟨b,o,c-p,vs,el,a8,false,by rw[hl],by rw[hl];omega,au,fun i x J=> ?_⟩,fun st hle=>by rw[bV st hle,jU hc]⟩;rw[Mv]at J;simp at J
   ·exact⟨_,.inr ⟨b,o+p*z,c-p,vs,el,a8,false,by rw[hl],by rw[hl];omega,au,chunk⟩,fun st hle=>by rw[bV st hle,r2 hc,pJ]⟩
def OY(J:bj s.env x=some (.cc z α R l))(fo:fc s aM 0 p)(fI:fc s hi l.length q)(hp:p<=q)(hq:q<=l.length):
 fE call (.nm z x aM hi none) s (.cc z α R ((l.drop p).take (q-p))) s.own s.n:=j0 fun H ids st fr av aa=>
 let⟨v,h1,h2⟩:=aaF J fo fI hp hq aa
 ⟨v,h1,h2 st av.le⟩
def asj{k o c:Nat}{el:ce}{aX:Bool}(J:bj s.env x=some (.aY k z o n c))(U:s.own[k]? =some (.a el aX z α R l))(fo:fc s aM 0 p)(fI:fc s hi n q)(hp:p<=q)(hq:q<=n)(hn:n<=c)(hc:p<c∨p=0):
 fE call (.nm z x aM hi none) s (.aY k z (o+p) (q-p) (c-p)) s.own s.n:=j0 fun H ids st fr av aa=>by
 have e:bP call (.nm z x aM hi none) fr st=hL (fr.af x) (fun b len cap=>bd b (fun a=>st.gH a (fun _ _ _ aX=>cond aX (dY len cap (e9 fr hi len len fun h=>e9 fr aM 0 h fun l=>.ok (.slice (some (a.add (l*z))) (h-l) (cap-l)) fr st) .no) (e9 fr none cap cap fun m=>e9 fr hi len m fun h=>e9 fr aM 0 h fun l=>.ok (.slice (some (dW m l a (a.add (l*z)))) (h-l) (m-l)) fr st)) .no) (e9 fr none cap cap fun m=>e9 fr hi len m fun h=>e9 fr aM 0 h fun l=>.ok (.slice none (h-l) (m-l)) fr st)) .no:=rfl;obtain⟨b,aG,aI⟩:=aa.af J;obtain⟨vs,a4,b2,cx⟩:=pL av U aG;refine⟨_,⟨b,aG,rfl⟩,?_⟩;rw[e,aI,oe,Sym.eO];unfold aw.gH;rw[Sym.hZ,a4,kO];cases aX with
 |true=>rw[cond_true,fW hn,fc.af fI aa hq,fc.af fo aa hp,pJ,zam]
 |false=>
  rw[cond_false];rw[BM,fc.af fI aa (by omega),fc.af fo aa hp];by_cases gi:c=p
  ·rw[jU gi];have:p=0:=by omega
   subst this;rw[zaQ]
  ·rw[r2 gi,pJ,zam]
def am4{l:ac bv}{j:Nat}{cf:d7}{qQ:bv}(J:bj s.env x=some (.s l))(hi:bj s.env i=some (.i cf (j:Int)))(hj:l[j]? =some qQ):fE call (.tU x i) s (.i .u8 (qQ.toNat:Int)) s.own s.n:=j0 fun H ids st fr av aa=>by
 have h1:fr.af x= .string ⟨⟨l⟩⟩:=aa.af J;have h2:fr.af i= .int cf (j:Int):=aa.af hi;refine⟨_,rfl,?_⟩;have e:bP call (.tU x i) fr st=hM (fr.af x) (fun s=>gp (fr.af i) (fun _ j=>g9 j (fun j=>iD s.data.toList j 1 (fun bS=>one bS (fun b=>.ok (.int .u8 (.ofNat b.toNat)) fr st) .no) .no) .no) .no) .no:=rfl;obtain⟨aV,aF⟩:=zae.1 hj;rw[e,h1,Bj,h2,mb,nW];show iD l j 1 _ _=_;rw[zw (by omega),hB aV,aF];rfl
def asm{l:ac bv}(J:bj s.env x=some (.s l))(fo:fc s aM 0 p)(fI:fc s hi l.length q)(hp:p<=q)(hq:q<=l.length):fE call (.sL x aM hi) s (.s ((l.drop p).take (q-p))) s.own s.n:=j0 fun H ids st fr av aa=>by
 have h1:fr.af x= .string ⟨⟨l⟩⟩:=aa.af J;refine⟨_,rfl,?_⟩;have e:bP call (.sL x aM hi) fr st=hM (fr.af x) (fun s=>e9 fr hi (df s.data.toList) (df s.data.toList) fun h=>e9 fr aM 0 h fun l=>iD s.data.toList l (h-l) (fun bS=>.ok (.string ⟨⟨bS⟩⟩) fr st) .no) .no:=rfl;rw[e,h1,Bj];show e9 fr hi (df l) (df l) _=_;rw[fs,fc.af fI aa hq,fc.af fo aa hp,zw (by show p+(q-p)<=l.length;omega)]
def adH{l m:ac bv}(J:bj s.env x=some (.s l))(aA:bj s.env y=some (.s m))(hl:l.length+m.length<=1099511627776):fE call (.bin .add x y) s (.s (l++m)) s.own s.n:=j0 fun H ids st fr av aa=>by
 have h1:fr.af x= .string ⟨⟨l⟩⟩:=aa.af J;have h2:fr.af y= .string ⟨⟨m⟩⟩:=aa.af aA;refine⟨_,rfl,?_⟩;rw[DV,h1,h2,RL];show dY (df l+df m) (2^40) _ _=_;rw[fs,fs,fW (show _<=2^40 from hl),qM]
def apZ{n:Int}(J:bj s.env x=some (.i k m))(aA:bj s.env y=some (.i k n))(hn:n≠0):fE call (.bin .quo x y) s (.i k (k.wrap (m.tdiv n))) s.own s.n:=j0 fun H ids st fr av aa=>
 ⟨_,rfl,Ax (by decide) (by decide) (aa.af J) (aa.af aA) (by show(if n=0 then none else _)=_;rw[zaa hn])⟩
def aqs{n:Int}(J:bj s.env x=some (.i k m))(aA:bj s.env y=some (.i k n))(hn:n≠0):fE call (.bin .rem x y) s (.i k (m.tmod n)) s.own s.n:=j0 fun H ids st fr av aa=>
 ⟨_,rfl,Ax (by decide) (by decide) (aa.af J) (aa.af aA) (by show(if n=0 then none else _)=_;rw[zaa hn])⟩
def arb(J:bj s.env x=some (.i k m))(aA:bj s.env y=some (.i k' (n:Int)))(hn:n<=k.bits):fE call (.bin .shl x y) s (.i k (k.wrap (m*2^n))) s.own s.n:=j0 fun H ids st fr av aa=>
 ⟨_,rfl,by rw[Jg (aa.af J) (aa.af aA),zaA hn]⟩
def arj{m:Nat}(J:bj s.env x=some (.i k (m:Int)))(aA:bj s.env y=some (.i k' (n:Int)))(hn:n<=k.bits):fE call (.bin .shr x y) s (.i k ((m/2^n:Nat):Int)) s.own s.n:=j0 fun H ids st fr av aa=>by
 obtain⟨v,h1,h2⟩:=Kp (call:=call) (k:=k) (a:=(m:Int)) (b:=(n:Int)) (r:=.i k ((m/2^n:Nat):Int)) (by show(match Nat.ble n k.bits with|true=>_|false=>_)=_;rw[zcQ hn]) (aa.af J) (aa.af aA);exact⟨v,h1 _ _,h2 st⟩
end
def jo(H:bz)(st:aw)(b:Nat):bz:=fun c=>open Classical in if c=b then st.h.get b else H c
section
variable{H:bz}{ids:ac Nat}{st:aw}{own:ac ay}{n:Nat}
variable{k b:Nat}{o:ay}
def zN(av:Fit H ids st own n)(U:own[k]? =some o)(hl:o.live=true)(hb:ids[k]? =some b):dg H (jo H st b):=fun c q hc=>by
 unfold jo;rw[zaa]
 ·exact hc
 ·intro e;rw[e,(av.own k o b U hb).2 hl]at hc;cases hc
def Fit.jo(av:Fit H ids st own n)(U:own[k]? =some o)(hl:o.live=true)(hb:ids[k]? =some b):Fit (Go.aj.jo H st b) ids st (own.set k .x) n:=by
 refine⟨av.wf,?_,by simp[av.cE],av.len,av.bU,av.lt,?_⟩
 ·intro c q hc;unfold Go.aj.jo at hc;split at hc
  ·rename_i e;rw[e];exact hc
  ·exact av.le c q hc
 ·intro j q c hj hc;rw[zbr]at hj;by_cases mv:k=j
  ·rw[zab mv]at hj;split at hj<;>cases hj;exact⟨trivial,fun h=>by cases h⟩
  ·rw[zaa mv]at hj;obtain⟨h1,h2⟩:=av.own j q c hj hc;refine⟨xe (zN av U hl hb) (c5.refl _) h1,fun hq=> ?_⟩;unfold Go.aj.jo;rw[zaa]
   ·exact h2 hq
   ·intro e;subst e;have aG:=zae.1 hb;have aI:=zae.1 hc;exact mv ((zcB (h₀:=aG.1) (h₁:=aI.1) av.bU).1 (aG.2.trans aI.2.symm))
def ed.jo{cd:bz}{i0:ac Nat}{aH:aw}(a5:ed cd i0 aH H ids st)(av:Fit H ids st own n)(U:own[k]? =some o)(hl:o.live=true)(hb:ids[k]? =some b):ed cd i0 aH (Go.aj.jo H st b) ids st:=by
 refine⟨a5.hle.trans (zN av U hl hb),?_,a5.ie,a5.ag,a5.mB,a5.new⟩;intro c hc hn;unfold Go.aj.jo;rw[zaa]
 ·exact a5.hold c hc hn
 ·intro e;subst e;rcases a5.new _ (zaz hb)with h|h
  ·exact hn h
  ·omega
end
section
variable{ax:fu}{K:ac eH}{own:ac ay}{aK:Nat}{e:bO}
variable{z:Nat}{el:ce}{α:Type}{k o n c:Nat}{aX:Bool}{p:ac bE}{cs:ac ab}{R:α->ac ab}{l:ac α}
def R1{t:Nat}(l':ac α)(aN:dZ e t=some (.aY k z o n c))(U:own[k]? =some (.a el aX z α R l))(hl:(l.drop o).take n=l')(hn:l'.length=n)(hc:n<=c)(hp:∀x,iN (R x)=true)
 {H:bz} {ids:ac Nat} {st:aw} {fr:aP} (a5:ed ax.cd ax.i0 ax.aH H ids st) (av:Fit H ids st own aK) (aa:c3 fr H ids e):
 ∃br,ed ax.cd ax.i0 ax.aH br ids st∧Fit br ids st (own.set k .x) aK∧c3 fr br ids ((t,.cc z α R l')::e):=by
 obtain⟨b,aG,aI⟩:=aa.get t _ aN;obtain⟨⟨vs,a4,b2,cx⟩,_⟩:=av.own k _ b U aG;have hle:=zN av U rfl aG;refine⟨jo H st b,a5.jo av U rfl aG,av.jo U rfl aG,(aa.mono hle (c5.refl _)).pl,fun j q hj=> ?_⟩;rw[qj]at hj;cases hb:Nat.beq t j with
 |false=>rw[hb]at hj;exact(aa.mono hle (c5.refl _)).get j q hj
 |true=>
  rw[hb]at hj;cases hj;rw[<-ek hb];refine .inr ⟨b,o*z,c,vs,el,(0,0),aX,by rw[hn];exact aI,by rw[hn];exact hc,by unfold jo;rw[zab rfl];exact a4,fun i x J=> ?_⟩;rw[<-hl,zaJ]at J;split at J
  ·rw[zaF]at J;rw[<-zam];exact lL hle _ (c5.refl _) (o3 _ (hp x) (cx _ x J) [])
  ·cases J
def aqb(t:Nat)(l':ac α){p:dp}(aN:dZ e t=some (.aY k z o n c))(U:own[k]? =some (.a el aX z α R l))(hl:(l.drop o).take n=l')(hn:l'.length=n)(hc:n<=c)(hp:∀x,iN (R x)=true)
 (cf:aU.ok ax ⟨K,.c p,⟨own.set k .x,aK,(t,.cc z α R l')::e⟩⟩):aU.ok ax ⟨K,.c p,⟨own,aK,e⟩⟩:=fun H ids st fr a5 av aa=>by
 obtain⟨br,h1,h2,h3⟩:=R1 l' aN U hl hn hc hp a5 av aa;exact cf br ids st fr h1 h2 h3
def ZJ(t:Nat)(l':ac α)(aN:dZ e t=some (.aY k z o n c))(U:own[k]? =some (.a el aX z α R l))(hl:(l.drop o).take n=l')(hn:l'.length=n)(hc:n<=c)(hp:∀x,iN (R x)=true)
 (cf:aU.ok ax ⟨K,.o p,⟨own.set k .x,aK,(t,.cc z α R l')::e⟩⟩):aU.ok ax ⟨K,.o p,⟨own,aK,e⟩⟩:=fun H ids st fr a5 av aa=>by
 obtain⟨br,h1,h2,h3⟩:=R1 l' aN U hl hn hc hp a5 av aa;exact cf br ids st fr h1 h2 h3
def ac5(l:ac α)(U:own[k]? =some (.c el cs))(eL:cs=l.flatMap R)(aE:∀w,(R w).length=z){H:bz}{ids:ac Nat}{st:aw}(av:Fit H ids st own aK):Fit H ids st (own.set k (.a el false z α R l)) aK:=by
 refine⟨av.wf,av.le,by simp[av.cE],av.len,av.bU,av.lt,?_⟩;intro j q c hj hc;rw[zbr]at hj;by_cases mv:k=j
 ·subst mv;rw[zab rfl]at hj;split at hj<;>cases hj;obtain⟨⟨vs,h3,d⟩,au⟩:=av.own k _ c U hc;rw[eL]at d;have:=KL aE d;exact⟨⟨vs,h3,this.1,this.2⟩,fun _=>au rfl⟩
 ·rw[zaa mv]at hj;exact av.own j q c hj hc
def ZH(k:Nat)(l:ac α)(U:own[k]? =some (.c el cs))(eL:cs=l.flatMap R)(aE:∀w,(R w).length=z)(cf:aU.ok ax ⟨K,.o p,⟨own.set k (.a el false z α R l),aK,e⟩⟩):aU.ok ax ⟨K,.o p,⟨own,aK,e⟩⟩:=fun H ids st fr a5 av aa=>
 cf H ids st fr a5 (ac5 l U eL aE av) aa
end
structure bh where
 L:Type
 args:L->ac ab
 pre:L->Prop
 res:L->ab
 hp:bz->Prop:=fun _=>True
 hm:∀{H br:bz},dg H br->hp H->hp br:=by exact fun _ _=>trivial
def bh.spec(S:bh):Spec where
 L:=S.L×bz
 pre:=fun l vs st=>S.pre l.1∧S.hp l.2∧Fit l.2 [] st [] 0∧db l.2 (S.args l.1) [] vs
 post:=fun l vs st v st'=>∃br,Fit br [] st' [] 0∧ed l.2 [] st br [] st'∧den br (S.res l.1) [] v
def Fin(S:bh)(l:S.L)(res:ac iU)(x:dM)(s:cG):Prop:=(x= .norm∨x= .ret)∧∃r,wC s res=some r∧qv r=true∧bZ r (S.res l)
where
 OJ (s:cG):iU->am ab
  |.tmp t=>dZ s.env t
  |.cell a hF n=>match dZ s.env a with
   |some (.p k o)=>match s.own[k]? with
    |some (.c _ cs)=>xb cs o n (Ih hF)
    |_=>none
   |_=>none
 I5 (s:cG):ac iU->am (ac ab)
  |[]=>some []
  |r::rs=>match OJ s r with
   |some a=>match I5 s rs with
    |some as=>some (a::as)
    |none=>none
   |none=>none
 wC (s:cG) (l:ac iU):am ab:=match I5 s l with
  |some [a]=>some a
  |some as=>some (.bu as)
  |none=>none
variable{H:bz}{ids:ac Nat}{st:aw}{s:cG}{fr:aP}
def Fit.less{own:ac ay}{n:Nat}(h:Fit H ids st own n):Fit H [] st [] 0:=⟨h.wf,h.le,rfl,rfl,zdE,fun b hb=>by simp at hb,fun k o b U=>by simp at U⟩
def ed.refl(H:bz)(i:ac Nat)(st:aw):ed H i st H i st:=⟨dg.refl _,fun _ _ _=>rfl,fun _ _ _=>rfl,bY _,c5.refl _,fun b hb=>.inl hb⟩
def ed.less{cd:bz}{aH:aw}(h:ed cd [] aH H ids st):ed cd [] aH H [] st:=⟨h.hle,h.hold,h.ie,h.ag,c5.refl _,fun b hb=>.inl hb⟩
def aqH(av:Fit H ids st s.own s.n)(aa:c3 fr H ids s.env){r:iU}{a:ab}(h:Fin.OJ s r=some a):
 ∃v,den H a ids v∧∀vs:ac be,(iU.rec (motive:=fun _=>am (ac be)) (fun t=>some (fr.tmp t::vs)) (fun a agg n=>iy (fr.tmp a) (fun p=>bd p (fun ad=>st.load ad n (fun cs=>cond agg (some (.agg ⟨cs⟩::vs)) (one cs (fun v=>some (v::vs)) none)) none) none) none) r:am (ac be))=some (v::vs):=by
 cases r with
 |tmp t=>exact⟨_,aa.get t a h,fun vs=>rfl⟩
 |cell t hF n=>
  simp only[Fin.OJ]at h;split at h<;>try cases h
  rename_i k o aN;split at h<;>try cases h
  rename_i el cs U;obtain⟨b,aG,aI⟩:=aa.get t _ aN;obtain⟨⟨ws,a4,d⟩,_⟩:=av.own k _ b U aG;obtain⟨h1,h2⟩:=BY h;have al:=vd n (o2 o d);have hl:=h6 (o2 o d);have e:∀vs:ac be,iy (fr.tmp t) (fun p=>bd p (fun ad=>st.load ad n (fun cs=>cond hF (some (.agg ⟨cs⟩::vs)) (one cs (fun v=>some (v::vs)) none)) none) none) none=cond hF (some (.agg ⟨(ws.drop o).take n⟩::vs)) (one ((ws.drop o).take n) (fun v=>some (v::vs)) none):=fun vs=>by
   rw[aI,qE,Sym.eO];unfold aw.load aw.gH;rw[Sym.hZ,a4,kO,rY (by show n<=(ws.drop o).length;omega)]
  rcases YK h2 with⟨rfl,rfl⟩|⟨rfl,h3⟩
  ·exact⟨_,⟨_,rfl,al⟩,fun vs=>e vs⟩
  ·rw[h3]at al;obtain⟨v,us,aF,al,hn⟩:=al;cases hn;refine⟨v,al,fun vs=>(e vs).trans ?_⟩;rw[aF];rfl
theorem OK{s:cG}{H:bz}{ids:ac Nat}{st:aw}{fr:aP}(av:Fit H ids st s.own s.n)(aa:c3 fr H ids s.env):∀{rs:ac iU} {as:ac ab},Fin.I5 s rs=some as->∃vs,db H as ids vs∧qW fr st rs=some vs
 |[],as,h=>by cases h;exact⟨[],rfl,rfl⟩
 |r::rs,as,h=>by
  unfold Fin.I5 at h;split at h<;>try cases h
  rename_i a h1;split at h<;>try cases h
  rename_i as' h2;obtain⟨v,aG,aI⟩:=aqH av aa h1;obtain⟨vs,a4,b2⟩:=OK av aa h2;refine⟨v::vs,⟨v,vs,rfl,aG,a4⟩,?_⟩;show bd (qW fr st rs) _ none=_;rw[b2];exact aI vs
def I4{call:bL}(av:Fit H ids st s.own s.n)(aa:c3 fr H ids s.env){rs:ac iU}{r:ab}(h:Fin.wC s rs=some r):∃v,den H r ids v∧ov call rs none fr st= .ret v st false:=by
 have e:∀vs,qW fr st rs=some vs->ov call rs none fr st=one vs (fun v=>.ret v st false) (.ret (.tuple ⟨vs⟩) st false):=fun vs aF=>by
  unfold ov;rw[aa.pl.c1,aa.pl.cF];simp only[j6];show bd (qW fr st rs) _ _=_;rw[aF];rfl
 unfold Fin.wC at h;split at h
 ·rename_i a ha;cases h;obtain⟨vs,⟨v,ws,rfl,h1,h2⟩,h3⟩:=OK av aa ha;cases h2;exact⟨v,h1,(e _ h3).trans rfl⟩
 ·rename_i as hn ha;cases h;obtain⟨vs,h1,h3⟩:=OK av aa ha;refine⟨_,⟨vs,rfl,h1⟩,(e _ h3).trans ?_⟩;have hl:=h6 h1
  match vs,as,hl with
  |[],_,_=>rfl
  |[v],[a],_=>exact absurd ha (by intro _;exact hn a rfl)
  |_::_::_,_,_=>rfl
 ·cases h
def nI:Nat->ac ab->bO
 |_,[]=>[]
 |i,a::as=>(i,a)::nI (i+1) as
theorem RF:∀(as:ac ab) (i j:Nat) (a:ab),dZ (nI i as) j=some a->i<=j∧as[j-i]? =some a
 |[],_,_,_,h=>by cases h
 |w::as,i,j,a,h=>by
  rw[nI,qj]at h;cases hb:Nat.beq i j with
  |true=>
   rw[hb]at h;have:=ek hb;subst this;cases h;exact⟨bY _,by simp⟩
  |false=>
   rw[hb]at h;obtain⟨h1,h2⟩:=RF as (i+1) j a h;refine⟨by omega,?_⟩;have:j-i=(j-(i+1))+1:=by omega
   rw[this];simpa using h2
def c3.zero{as:ac ab}{vs:ac be}(d:db H as ids vs):c3 (gf vs) H ids (nI 0 as):=by
 refine⟨wY.zero _,fun j a h=> ?_⟩;obtain⟨_,h2⟩:=RF as 0 j a h;obtain⟨v,h3,au⟩:=vb d h2;have hj:=(zae.1 h3).1;have:(gf vs).tmp j=v:=by
  show Option.rec (motive:=fun _=>be) _ _ ((oq vs 0 .nil).get j)=v;rw[Qf,zab (by omega),h3]
 rw[this];exact au
variable{X:Ctx}
variable{S:bh}{xf:dh}
def KR{bl:an dh}(du:Good X)(jd:oo X bl)(cP:ci->gu){f:ci}(J:bl.get f=some xf)(hl:∀l,(S.args l).length<=xf.aO)
 (h:∀l,S.pre l->∀H aH,S.hp H->aU.ok ⟨cX bl (dc X cP) (bQ+1),bQ+1,f,H,[],aH,Fin S l xf.res⟩ ⟨[],.c xf.body,⟨[],0,nI 0 (S.args l)⟩⟩):a9 X f S.spec:=by
 refine Rb du jd cP J (fun l vs st ⟨_,_,_,d⟩=>by rw[h6 d];exact hl l.1) ?_;rintro⟨l,H⟩ vs st ⟨hp,hh,av,d⟩;refine(h l hp H st hh H [] st (gf vs) (ed.refl _ _ _) av (c3.zero d)).mono ?_;rintro x fr st' ⟨br,ids,s,a5,eh,aa,J,r,h1,h2,hle⟩;obtain⟨v,h3,au⟩:=I4 (call:=cX bl (dc X cP) (bQ+1)) eh aa h1;exact⟨J,v,au,br,eh.less,a5.less,hle _ _ _ (FM _ h2 h3 _)⟩
def aeI{bl:an dh}(du:Good X)(jd:oo X bl)(cP:ci->gu){f:ci}(J:bl.get f=some xf)(hl:∀l,(S.args l).length<=xf.aO)
 (h:∀l,S.pre l->∀H aH,aU.ok ⟨cX bl (dc X cP) (bQ+1),bQ+1,f,H,[],aH,Fin S l xf.res⟩ ⟨[],.c xf.body,⟨[],0,nI 0 (S.args l)⟩⟩):a9 X f S.spec:=KR du jd cP J hl fun l hp H aH _=>h l hp H aH
def QO{bl:an dh}{cP:ci->gu}{g:ci}(hc:a9 X g S.spec)(dO:cP g=S.spec.K){cH:ac bi}{as:ac ab}{n:Nat}(l:S.L)(ha:k4 s.env cH=some as)(q8:iN as=true)(he:kJ as (S.args l))(hp:S.pre l){cd:bz}(hh:S.hp cd):
 y7 cd (cX bl (dc X cP) (n+1)) (.call (.func g) cH) s (S.res l) s.own s.n:=fun H ids st fr dv av aa=>by
 have al:=he.den (o3 _ q8 (aa.eC ha) []);obtain⟨v,st',h1,h2⟩:=hc _ st ⟨(l,H),hp,S.hm dv hh,av.less,al⟩;obtain⟨v1,cg,aG,aI⟩:=N0 (X:=X) (K:=cP) (f:=g) ⟨v,st',by rw[dO];exact h1,h2⟩;rw[dO]at aI;obtain⟨br,eh,et,g6⟩:=aI (l,H) ⟨hp,S.hm dv hh,av.less,al⟩;have a4:cX bl (dc X cP) (n+1) (.func (.func g) #[] #[]) (eC fr cH) none st= .ret v1 cg false:=by
  rw[zl];have e:gG (#[]:ap be).toList (gG (eC fr cH) (#[]:ap be).toList)=eC fr cH:=by simp
  rw[e,aG];rfl
 have hle:dg H br:=et.hle;refine⟨v1,cg,ids,br,?_,?_,ti (dg.refl _) _ (c5.nil _) g6,hle,c5.refl _,?_,et.ag,fun b hb _=>et.ie b hb (by simp)⟩
 ·rw[AG];show xr (cX bl (dc X cP) (n+1) (.func (.func g) #[] #[]) (eC fr cH) none st) _ _=_;rw[a4];rfl
 ·refine⟨eh.wf,eh.le,av.cE,av.len,av.bU,fun b hb=>fC (av.lt b hb) et.ag,fun k o b U hb=> ?_⟩;obtain⟨h3,au⟩:=av.own k o b U hb;have aV:=av.lt b (zaz hb);rw[et.ie b aV (by simp)];exact⟨xe hle (c5.refl _) h3,fun hl=>by rw[et.hold b aV (by simp)];exact au hl⟩
 ·intro cd i0 aH B;refine⟨B.hle.trans hle,fun b hb hn=> ?_,fun b hb hn=> ?_,zai B.ag et.ag,B.mB,B.new⟩
  ·rw[et.hold b (fC hb B.ag) (by simp)];exact B.hold b hb hn
  ·rw[et.ie b (fC hb B.ag) (by simp)];exact B.ie b hb hn
section
variable{bl:an dh}{cP:ci->gu}{cm n:Nat}{fn:ci}{cd:bz}{i0:ac Nat}{aH:aw}{Q:dM->cG->Prop}{K:ac eH}{own:ac ay}{aK:Nat}{e:bO}
variable{g:ci}{cH:ac bi}{as:ac ab}{d:Tmp}
def aL(hc:a9 X g S.spec){xs:ac bE}(l:S.L)(hp:S.pre l)(k:aU.ok ⟨cX bl (dc X cP) (n+1),cm,fn,cd,i0,aH,Q⟩ ⟨K,.o xs,⟨own,aK,(d,S.res l)::e⟩⟩)
 (ha:k4 e cH=some as:=by rfl) (he:kJ as (S.args l):=by exact kJ.refl _) (q8:iN as=true:=by rfl) (dO:cP g=S.spec.K:=by rfl) (hh:S.hp cd:=by exact trivial):
 aU.ok ⟨cX bl (dc X cP) (n+1),cm,fn,cd,i0,aH,Q⟩ ⟨K,.o (⟨some d,.call (.func g) cH,none⟩::xs),⟨own,aK,e⟩⟩:=Ek (d:=some d) (s:=⟨own,aK,e⟩) (QO hc dO l ha q8 he hp hh) k
def bo(hc:a9 X g S.spec){xs:ac (bE×cw)}{bN:ac ay}{a0:bO}{bb b7:Nat}(l:S.L)(hp:S.pre l)(k:aU.ok ⟨cX bl (dc X cP) (n+1),cm,fn,cd,i0,aH,Q⟩ ⟨K,.d xs bN (nF d a0) (bb+1) aK,⟨own,aK,(d,S.res l)::e⟩⟩)
 (ha:k4 e cH=some as:=by rfl) (he:kJ as (S.args l):=by exact kJ.refl _) (q8:iN as=true:=by rfl) (dO:cP g=S.spec.K:=by rfl) (hh:S.hp cd:=by exact trivial):
 aU.ok ⟨cX bl (dc X cP) (n+1),cm,fn,cd,i0,aH,Q⟩ ⟨K,.d ((⟨some d,.call (.func g) cH,none⟩,.ez)::xs) bN a0 bb b7,⟨own,aK,e⟩⟩:=
 KV (d:=some d) (s:=⟨own,aK,e⟩) (QO hc dO l ha q8 he hp hh) rfl (fun _ _ U _=>⟨U,by simp[kE]⟩) k
end
variable{l:S.L}{r:ab}{e:dM}
def cf:ac (Nat×gu)->ci->gu
 |[],_=>gu.no
 |p::l,g=>cond (Nat.beq p.1 g) p.2 (cf l g)
def agn{res:ac iU}(h1:Fin.wC s res=some r)(h2:qv r=true)(h3:bZ r (S.res l))(he:e= .ret∨e= .norm:=by first|exact .inl rfl|exact .inr rfl):Fin S l res e s:=⟨he.symm,r,h1,h2,h3⟩
def ar{call:bL}{cm:Nat}{fn:ci}{cd:bz}{i0:ac Nat}{aH:aw}{res:ac iU}(h1:Fin.wC s res=some r)(h3:bZ r (S.res l))(h2:qv r=true:=by rfl)(he:e= .ret∨e= .norm:=by first|exact .inl rfl|exact .inr rfl):aU.ok ⟨call,cm,fn,cd,i0,aH,Fin S l res⟩ ⟨[],.x e,s⟩:=j3 (agn h1 h2 h3 he)
end Go.aj
namespace Go.aj
open Sym
section
variable{ax:fu}{K:ac eH}{own bC:ac ay}{aK b0:Nat}{e:bO}{d:Tmp}{xs:ac bE}{x y i:bi}
variable{α:Type}{z:Nat}{el:ce}{n c j:Nat}{aX:Bool}{q cJ p:Nat}{aM hi:am bi}{o a7:Nat}{a:ab}{cs:ac ab}{R:α->ac ab}{l:ac α}
def dP(q:α){cf:d7}(hj:l[j]? =some q)(k:aU.ok ax ⟨K,.o xs,⟨own,aK,(d,.ip (R q))::e⟩⟩)(J:bj e x=some (.cc z α R l):=by rfl)(hi:bj e i=some (.i cf (j:Int)):=by rfl):aU.ok ax ⟨K,.o (⟨some d,.lW z x i,none⟩::xs),⟨own,aK,e⟩⟩:=
 er (MJ J hi hj) k
def uu{bK:Nat}{cf:d7}(k:aU.ok ax ⟨K,.o xs,⟨own,aK,(d,.gA bK z (o+j) 0)::e⟩⟩)(J:bj e x=some (.aY bK z o n c):=by rfl)(hi:bj e i=some (.i cf (j:Int)):=by rfl)(hj:j<n:=by omega):aU.ok ax ⟨K,.o (⟨some d,.lW z x i,none⟩::xs),⟨own,aK,e⟩⟩:=
 er (Wq J hi hj) k
def ix{bK:Nat}{cf:d7}(k:aU.ok ax ⟨K,.o xs,⟨own,aK,(d,.gA bK z j 0)::e⟩⟩)(J:bj e x=some (.aY bK z 0 n c):=by rfl)(hi:bj e i=some (.i cf (j:Int)):=by rfl)(hj:j<n:=by omega):aU.ok ax ⟨K,.o (⟨some d,.lW z x i,none⟩::xs),⟨own,aK,e⟩⟩:=
 er (Wq J hi hj) (by rw[zaw];exact k)
def pA{bK:Nat}(w:α)(hj:l[j]? =some w)(k:aU.ok ax ⟨K,.o xs,⟨own,aK,(d,a)::e⟩⟩)(J:bj e x=some (.gA bK z j q):=by rfl)(U:own[bK]? =some (.a el aX z α R l):=by rfl)(hq:(R w)[q]? =some a:=by rfl):aU.ok ax ⟨K,.o (⟨some d,.lZ x,none⟩::xs),⟨own,aK,e⟩⟩:=
 er (anw J U hj hq) k
def kp{bK:Nat}(w':α)(k:aU.ok ax ⟨K,.o xs,⟨bC,aK,e⟩⟩)(J:bj e x=some (.gA bK 1 j 0):=by rfl)(aA:bj e y=some a:=by rfl)(U:own[bK]? =some (.a el aX 1 α R l):=by rfl)(cL:R w'=[a]:=by rfl)(hc:s9 a=true:=by rfl)(h1:∀w,(R w).length=1:=by exact fun _=>rfl)
 (ai:kq own bK (.a el aX 1 α R (l.set j w')) some=some bC:=by rfl) (hj:j<l.length:=by first|omega|(simp;done)|(simp;omega)):aU.ok ax ⟨K,.o (⟨none,.store 1 x y,none⟩::xs),⟨own,aK,e⟩⟩:=by
 have:=lB ai;cases this;exact aqh (aaT (s:=⟨own,aK,e⟩) w' J aA U cL hj hc h1) k
def HA:ac be->am Nat
 |[]=>some 0
 |[_]=>some 1
 |[_,_]=>some 2
 |[_,_,_]=>some 3
 |[_,_,_,_]=>some 4
 |[_,_,_,_,_]=>some 5
 |[_,_,_,_,_,_]=>some 6
 |[_,_,_,_,_,_,_]=>some 7
 |l=>some l.length
def W4{l:ac be}(h:HA l=some n):l.length=n:=by
 unfold HA at h;split at h<;>cases h<;>rfl
def pB{gq:ac be}{bK k':d7}(R:α->ac ab)(w:α)(k:aU.ok ax ⟨K,.o xs,⟨bC,b0,(d,.aY aK z 0 n c)::e⟩⟩)(J:bj e x=some (.i bK (n:Int)):=by rfl)(aA:bj e y=some (.i k' (c:Int)):=by rfl)(aE:HA gq=some z:=by rfl)(cL:v8 gq=R w:=by rfl)
 (ai:qC own (.a el false z α R (List.replicate c w)) some=some bC:=by rfl) (iF:nX aK some=some b0:=by rfl) (hn:n<=c:=by omega) (hc:c*(cJ+1)<=1099511627776:=by omega):aU.ok ax ⟨K,.o (⟨some d,.po el cJ gq x y,none⟩::xs),⟨own,aK,e⟩⟩:=by
 have h1:=rK ai;have h2:=pr iF;cases h1;cases h2;exact er (mk (s:=⟨own,aK,e⟩) R w J aA (W4 aE) cL hn hc) k
def IY{bK:Nat}(t:Nat)(l':ac α)(k:aU.ok ax ⟨K,.o xs,⟨bC,aK,(t,.cc z α R l')::e⟩⟩)(aN:dZ e t=some (.aY bK z o n c):=by rfl)(U:own[bK]? =some (.a el aX z α R l):=by rfl)(hp:∀x,iN (R x)=true:=by exact fun _=>rfl)
 (ai:kq own bK .x some=some bC:=by rfl) (hl:(l.drop o).take n=l':=by first|rfl|simp) (hn:l'.length=n:=by first|omega|(simp;done)|(simp;omega)) (hc:n<=c:=by omega):aU.ok ax ⟨K,.o xs,⟨own,aK,e⟩⟩:=by
 have h1:=lB ai;cases h1;exact ZJ t l' aN U hl hn hc hp k
def ko{bK:Nat}(t:Nat)(k:aU.ok ax ⟨K,.o xs,⟨bC,aK,(t,.cc z α R l)::e⟩⟩)(aN:dZ e t=some (.aY bK z 0 n c):=by rfl)(U:own[bK]? =some (.a el aX z α R l):=by rfl)(hp:∀x,iN (R x)=true:=by exact fun _=>rfl)
 (ai:kq own bK .x some=some bC:=by rfl) (hn:l.length=n:=by first|omega|(simp;done)|(simp;omega)) (hc:n<=c:=by omega):aU.ok ax ⟨K,.o xs,⟨own,aK,e⟩⟩:=
 IY t (l:=l) l k aN U hp ai (by rw[zaq,zay (by omega)]) hn hc
def nk(bK:Nat)(R:α->ac ab)(l:ac α)(k:aU.ok ax ⟨K,.o xs,⟨bC,aK,e⟩⟩)(U:own[bK]? =some (.c el cs):=by rfl)(aE:∀w,(R w).length=z:=by exact fun _=>rfl)
 (ai:kq own bK (.a el false z α R l) some=some bC:=by rfl) (eL:cs=l.flatMap R:=by rfl):aU.ok ax ⟨K,.o xs,⟨own,aK,e⟩⟩:=by
 have h1:=lB ai;cases h1;exact ZH bK l U eL aE k
def aqj(l':ac α)(k:aU.ok ax ⟨K,.o xs,⟨own,aK,(d,.cc z α R l')::e⟩⟩)(J:bj e x=some (.cc z α R l):=by rfl)(fo:fc ⟨own,aK,e⟩ aM 0 p:=by first|exact rfl|exact⟨_,rfl⟩)(fI:fc ⟨own,aK,e⟩ hi l.length q:=by first|exact rfl|exact⟨_,rfl⟩)(hl:(l.drop p).take (q-p)=l':=by first|rfl|simp)(hp:p<=q:=by omega)(hq:q<=l.length:=by first|omega|(simp;done)|(simp;omega)):aU.ok ax ⟨K,.o (⟨some d,.nm z x aM hi none,none⟩::xs),⟨own,aK,e⟩⟩:=by
 subst hl;exact er (OY J fo fI hp hq) k
def aqk{bK:Nat}(k:aU.ok ax ⟨K,.o xs,⟨own,aK,(d,.aY bK z (o+p) (q-p) (c-p))::e⟩⟩)(J:bj e x=some (.aY bK z o n c):=by rfl)(U:own[bK]? =some (.a el aX z α R l):=by rfl)(fo:fc ⟨own,aK,e⟩ aM 0 p:=by first|exact rfl|exact⟨_,rfl⟩)(fI:fc ⟨own,aK,e⟩ hi n q:=by first|exact rfl|exact⟨_,rfl⟩)(hp:p<=q:=by omega)(hq:q<=n:=by omega)(hn:n<=c:=by omega)(hc:p<c∨p=0:=by omega):aU.ok ax ⟨K,.o (⟨some d,.nm z x aM hi none,none⟩::xs),⟨own,aK,e⟩⟩:=
 er (asj J U fo fI hp hq hn hc) k
def ZM{bK:Nat}(k:aU.ok ax ⟨K,.o xs,⟨own,aK,(d,.aY bK z p (q-p) (c-p))::e⟩⟩)(J:bj e x=some (.aY bK z 0 n c):=by rfl)(U:own[bK]? =some (.a el aX z α R l):=by rfl)(fo:fc ⟨own,aK,e⟩ aM 0 p:=by first|exact rfl|exact⟨_,rfl⟩)(fI:fc ⟨own,aK,e⟩ hi n q:=by first|exact rfl|exact⟨_,rfl⟩)(hp:p<=q:=by omega)(hq:q<=n:=by omega)(hn:n<=c:=by omega)(hc:p<c∨p=0:=by omega):aU.ok ax ⟨K,.o (⟨some d,.nm z x aM hi none,none⟩::xs),⟨own,aK,e⟩⟩:=
 aqk (by rw[zaw];exact k) J U fo fI hp hq hn hc
def wx(R:α->ac ab)(l:ac α)(ae:qJ ⟨own,aK,e⟩ y R a7 l)(k:aU.ok ax ⟨K,.o xs,⟨bC,b0,(d,.aY aK a7 0 l.length l.length)::e⟩⟩)(J:bj e x=some .nl:=by rfl)
 (ai:qC own (.a el true a7 α R l) some=some bC:=by rfl) (iF:nX aK some=some b0:=by rfl) (h0:l≠[]:=by first|rfl|simp) (hb:(5*l.length+1792)*(cJ+1)<=1125899906842624:=by first|omega|(simp;done)|(simp;omega)):aU.ok ax ⟨K,.o (⟨some d,.app el a7 cJ x y,none⟩::xs),⟨own,aK,e⟩⟩:=by
 have h1:=rK ai;have h2:=pr iF;cases h1;cases h2;exact er (P5 (s:=⟨own,aK,e⟩) J (BC ae) h0 hb) k
def wv{bK:Nat}{iw:ac ay}(m:ac α)(ae:qJ ⟨own,aK,e⟩ y R a7 m)(k:aU.ok ax ⟨K,.o xs,⟨bC,b0,(d,.aY aK a7 0 (n+m.length) (n+m.length))::e⟩⟩)(J:bj e x=some (.aY bK a7 0 n c):=by rfl)(U:own[bK]? =some (.a el true a7 α R l):=by rfl)
 (mx:kq own bK .x some=some iw:=by rfl) (ai:qC iw (.a el true a7 α R (l++m)) some=some bC:=by rfl) (iF:nX aK some=some b0:=by rfl) (h0:m≠[]:=by first|rfl|simp) (hn:n=l.length:=by first|omega|(simp;done)|(simp;omega)) (kD:n=c:=by omega) (hb:(5*(n+m.length)+1792)*(cJ+1)<=1125899906842624:=by first|omega|(simp;done)|(simp;omega)):aU.ok ax ⟨K,.o (⟨some d,.app el a7 cJ x y,none⟩::xs),⟨own,aK,e⟩⟩:=by
 have kh:=lB mx;cases kh;have h1:=rK ai;have h2:=pr iF;cases h1;cases h2;have:=P4 (call:=ax.call) (s:=⟨own,aK,e⟩) (cJ:=cJ) J U (BC ae) h0 (by omega) (by omega) (by omega) hb;rw[hn,zbY]at this;rw[hn]at k;exact er this k
def ZG{bK:Nat}(m:ac α)(ae:qJ ⟨own,aK,e⟩ y R a7 m)(l':ac α)(k:aU.ok ax ⟨K,.o xs,⟨bC,aK,(d,.aY bK a7 0 (n+m.length) c)::e⟩⟩)(J:bj e x=some (.aY bK a7 0 n c):=by rfl)(U:own[bK]? =some (.a el false a7 α R l):=by rfl)
 (ai:kq own bK (.a el false a7 α R l') some=some bC:=by rfl) (h0:m≠[]:=by first|rfl|simp) (hn:n+m.length<=c:=by first|omega|(simp;done)|(simp;omega)) (hc:c<=l.length:=by first|omega|(simp;done)|(simp;omega)) (hb:(5*(n+m.length)+1792)*(cJ+1)<=1125899906842624:=by first|omega|(simp;done)|(simp;omega)) (hl:l.take n++(m++l.drop (n+m.length))=l':=by first|rfl|simp):aU.ok ax ⟨K,.o (⟨some d,.app el a7 cJ x y,none⟩::xs),⟨own,aK,e⟩⟩:=by
 subst hl;have h1:=lB ai;cases h1;exact er (acS (s:=⟨own,aK,e⟩) J U (BC ae) h0 hn hc hb) k
def j4{bK:Nat}(l:ac α)(eL:cs=l.flatMap R)(J:bj e x=some (.aY bK z 0 l.length c):=by rfl)(U:own[bK]? =some (.c el cs):=by rfl)(aE:∀w,(R w).length=z:=by exact fun _=>rfl)(hc:rW cs=true:=by rfl):qJ ⟨own,aK,e⟩ x R z l:=asp l J rfl U eL aE hc rfl
def mN{l:ac bv}{cf:d7}(qQ:bv)(hj:l[j]? =some qQ)(k:aU.ok ax ⟨K,.o xs,⟨own,aK,(d,.i .u8 (qQ.toNat:Int))::e⟩⟩)(J:bj e x=some (.s l):=by rfl)(hi:bj e i=some (.i cf (j:Int)):=by rfl):aU.ok ax ⟨K,.o (⟨some d,.tU x i,none⟩::xs),⟨own,aK,e⟩⟩:=er (am4 J hi hj) k
def rH{l:ac bv}(l':ac bv)(k:aU.ok ax ⟨K,.o xs,⟨own,aK,(d,.s l')::e⟩⟩)(J:bj e x=some (.s l):=by rfl)(fo:fc ⟨own,aK,e⟩ aM 0 p:=by first|exact rfl|exact⟨_,rfl⟩)(fI:fc ⟨own,aK,e⟩ hi l.length q:=by first|exact rfl|exact⟨_,rfl⟩)(hl:(l.drop p).take (q-p)=l':=by first|rfl|simp)(hp:p<=q:=by omega)(hq:q<=l.length:=by first|omega|(simp;done)|(simp;omega)):aU.ok ax ⟨K,.o (⟨some d,.sL x aM hi,none⟩::xs),⟨own,aK,e⟩⟩:=by
 subst hl;exact er (asm J fo fI hp hq) k
def sG{l m:ac bv}(k:aU.ok ax ⟨K,.o xs,⟨own,aK,(d,.s (l++m))::e⟩⟩)(J:bj e x=some (.s l):=by rfl)(aA:bj e y=some (.s m):=by rfl)(hl:l.length+m.length<=1099511627776:=by first|omega|(simp;done)|(simp;omega)):aU.ok ax ⟨K,.o (⟨some d,.bin .add x y,none⟩::xs),⟨own,aK,e⟩⟩:=er (adH J aA hl) k
end
section
variable{ax:fu}{K:ac eH}{own:ac ay}{aK:Nat}{e:bO}{d:Tmp}{xs:ac bE}{x y:bi}
variable{m n:Nat}
def aqi(k:aU.ok ax ⟨K,.o xs,⟨own,aK,(d,.i .u64 ((m/n:Nat):Int))::e⟩⟩)(J:bj e x=some (.i .u64 (m:Int)):=by rfl)(aA:bj e y=some (.i .u64 (n:Int)):=by rfl)(hn:n≠0:=by omega)(hm:m<18446744073709551616:=by omega):aU.ok ax ⟨K,.o (⟨some d,.bin .quo x y,none⟩::xs),⟨own,aK,e⟩⟩:=by
 have h:=apZ (call:=ax.call) (s:=⟨own,aK,e⟩) J aA (by omega);have aq:IntKind.u64.wrap ((m:Int).tdiv n)=((m/n:Nat):Int):=by
  show IntKind.u64.wrap ((m/n:Nat):Int)=_;have:=zax m n;generalize m/n=q at *;exact abB (by omega) (by omega)
 rw[aq]at h;exact er h k
def ZK{bK:d7}(k:aU.ok ax ⟨K,.o xs,⟨own,aK,(d,.i bK ((m%n:Nat):Int))::e⟩⟩)(J:bj e x=some (.i bK (m:Int)):=by rfl)(aA:bj e y=some (.i bK (n:Int)):=by rfl)(hn:n≠0:=by omega):aU.ok ax ⟨K,.o (⟨some d,.bin .rem x y,none⟩::xs),⟨own,aK,e⟩⟩:=
 er (aqs (s:=⟨own,aK,e⟩) J aA (by omega)) k
def ZN{bK a2:d7}(k:aU.ok ax ⟨K,.o xs,⟨own,aK,(d,.i bK ((m/2^n:Nat):Int))::e⟩⟩)(J:bj e x=some (.i bK (m:Int)):=by rfl)(aA:bj e y=some (.i a2 (n:Int)):=by rfl)(hn:n<=bK.bits:=by first|decide|(show _<=64;omega)):aU.ok ax ⟨K,.o (⟨some d,.bin .shr x y,none⟩::xs),⟨own,aK,e⟩⟩:=
 er (arj (s:=⟨own,aK,e⟩) J aA hn) k
end
variable{ax:fu}{K:ac eH}{s:cG}{n m:Int}{b:dp}{g gC:aU}{c:bq}{a:dp}{P:Prop}{k:d7}{p:Nat}{e cj:bO}{o:ay}
def Jq(d:Nat):aU->am aU
 |⟨K,c,⟨own,n,(t,a)::e⟩⟩=>match Nat.beq t d with
  |true=>none
  |false=>Bb ⟨K,c,⟨own,n,(t,a)::e⟩⟩
 |g=>Bb g
def aaV(d:Nat)(h:Jq d g=some gC)(k:gC.ok ax):g.ok ax:=by
 unfold Jq at h;split at h
 ·split at h
  ·cases h
  ·exact Jr h k
 ·exact Jr h k
def R.mono{y4:ac eH}(h:∀x s,Sem ax K x s->Sem ax y4 x s)(k:g3 ax K c s)(dO:∀dd,JK ax y4 dd->JK ax K dd:=by exact fun _ h=>h):g3 ax y4 c s:=by
 have up:∀x fr st,uU ax (Sem ax K) x fr st->uU ax (Sem ax y4) x fr st:=fun x fr st ⟨H,ids,s,h1,h2,h3,au⟩=>⟨H,ids,s,h1,h2,h3,h x s au⟩;cases c with
 |c c=>exact fun H ids st fr a5 av aa=>(k H ids st fr a5 av aa).mono up
 |o l=>exact fun H ids st fr a5 av aa=>(k H ids st fr a5 av aa).mono up
 |x e=>exact h e s k
 |d l bN a0 bb b7=>exact fun dd hV H ids st fr fy ae a5 av aa cb=>(k dd (dO dd hV) H ids st fr fy ae a5 av aa cb).mono up
def b9{c:bi}[al:Decidable P](ha:P->aU.ok ax ⟨K,.c a,s⟩)(hb:¬P->aU.ok ax ⟨K,.c b,s⟩)(hc:bj s.env c=some (.b (decide P)):=by rfl):aU.ok ax ⟨K,.c (.cond c a b),s⟩:=yB hc (fun h=>ha (zbF h)) (fun h=>hb (of_decide_eq_false h))
def AW{c:bi}[al:Decidable P](ha:¬P->aU.ok ax ⟨K,.c a,s⟩)(hb:P->aU.ok ax ⟨K,.c b,s⟩)(hc:bj s.env c=some (.b (!decide P)):=by rfl):aU.ok ax ⟨K,.c (.cond c a b),s⟩:=yB hc (fun h=>ha (by simpa using h)) (fun h=>hb (by simpa using h))
def fJ{L:Type _}(P:L->Prop)(T:L->cG)(h1:aU.ok ax ⟨.b3 (wU ax.i0.length P T)::K,c,s⟩)(h2:∀l,P l->aU.ok ax ⟨K,.c b,T l⟩):aU.ok ax ⟨.seq b::K,c,s⟩:=by
 refine R.mono (fun x s J=> ?_) h1;cases x with
 |norm=>obtain⟨f,l,hp,ae⟩:=J;exact OB f _ ae (h2 l hp)
 |exit i=>exact J
 |ret=>exact J
 |ba v=>exact J
def eS(h:n=m:=by omega)(h1: -9223372036854775808<=n:=by omega)(h2:n<9223372036854775808:=by omega):some (ab.i .i64 (IntKind.i64.wrap n))=some (ab.i .i64 m):=by rw[gL h1 h2,h]
def bx(h:n=m:=by omega)(h1: -9223372036854775808<=n:=by omega)(h2:n<9223372036854775808:=by omega):ab.i .i64 (IntKind.i64.wrap n)=ab.i .i64 m:=by rw[gL h1 h2,h]
def lX(h:n=m:=by omega):some (ab.i k n)=some (ab.i k m):=by rw[h]
def ev(h:n=m:=by omega):ab.i k n=ab.i k m:=by rw[h]
def dH{own:ac ay}{n:Nat}(h:kM [0] cj e)(ai:∃bf,own[0]? =some bf∧e8 [0] o bf)(hp:pinned p [0] 0=true:=by rfl):Sub p [0] ⟨own,n,e⟩ ⟨[o],1,cj⟩:=⟨by simp,rfl,⟨ai,trivial⟩,h,hp⟩
def nq{own:ac ay}{n:Nat}{q:ay}(h:kM [0,1] cj e)(ai:∃bf,own[0]? =some bf∧e8 [0,1] o bf)(hq:∃bf,own[1]? =some bf∧e8 [0,1] q bf)(hp:pinned p [0,1] 0=true:=by rfl):Sub p [0,1] ⟨own,n,e⟩ ⟨[o,q],2,cj⟩:=⟨by simp,rfl,⟨ai,hq,trivial⟩,h,hp⟩
def avP(d:Nat)(k:gC.ok ax)(h:Jq d g=some gC:=by rfl):g.ok ax:=aaV d h k
inductive za(d:Nat):aU->aU->Prop
 |o {g:aU}:za d g g
 |i {g aG aI:aU} (h:Jq d g=some aG) (t:za d aG aI):za d g aI
variable{q:ay}{aK:Nat}{al:Decidable P}{j:Nat}{r:ay}
def asY{d:Nat}(h:za d g gC)(k:gC.ok ax):g.ok ax:=by
 induction h with
 |o=>exact k
 |i h _ aZ=>exact aaV d h (aZ k)
def ak(d:Nat)(k:gC.ok ax)(h:za d g gC:=by(repeat(apply za.i;exact rfl));exact .o):g.ok ax:=asY h k
def mj{n:Nat}(h:n<4611686018427387905:=by first|(show _-0<_;omega)|(show 0<_;omega)|omega):n<bQ+1:=h
def dx{own:ac ay}(t:Nat)(h:P)(k:aU.ok ax ⟨K,c,⟨own,aK,(t,.b true)::e⟩⟩)(hl:dZ e t=some (.b (decide P)):=by rfl)(hc:c.vO=false:=by rfl):aU.ok ax ⟨K,c,⟨own,aK,e⟩⟩:=ah t (.b true) hl (by rw[zad h]) k hc
def ea{own:ac ay}(t:Nat)(h:¬P)(k:aU.ok ax ⟨K,c,⟨own,aK,(t,.b false)::e⟩⟩)(hl:dZ e t=some (.b (decide P)):=by rfl)(hc:c.vO=false:=by rfl):aU.ok ax ⟨K,c,⟨own,aK,e⟩⟩:=ah t (.b false) hl (by rw[zac h]) k hc
def eP{own:ac ay}{n:Nat}(h:kM [] cj e:=by repeat first|exact trivial|refine⟨rfl,?_⟩)(hp:pinned p [] 0=true:=by rfl):Sub p [] ⟨own,n,e⟩ ⟨[],0,cj⟩:=iO h hp
def dD{own:ac ay}{n k:Nat}(h:kM [k] cj e:=by repeat first|exact trivial|refine⟨rfl,?_⟩)(ai:∃bf,own[k]? =some bf∧e8 [k] o bf:=by first|exact⟨_,rfl,rfl,fun _=>rfl⟩|exact⟨_,rfl,rfl⟩)(hp:pinned p [k] 0=true:=by rfl):Sub p [k] ⟨own,n,e⟩ ⟨[o],1,cj⟩:=⟨by simp,rfl,⟨ai,trivial⟩,h,hp⟩
def ij{own:ac ay}{n k m:Nat}(h:kM [k,m] cj e:=by repeat first|exact trivial|refine⟨rfl,?_⟩)(ai:∃bf,own[k]? =some bf∧e8 [k,m] o bf:=by first|exact⟨_,rfl,rfl,fun _=>rfl⟩|exact⟨_,rfl,rfl⟩)(hq:∃bf,own[m]? =some bf∧e8 [k,m] q bf:=by first|exact⟨_,rfl,rfl,fun _=>rfl⟩|exact⟨_,rfl,rfl⟩)(U:k≠m:=by decide)(hp:pinned p [k,m] 0=true:=by rfl):Sub p [k,m] ⟨own,n,e⟩ ⟨[o,q],2,cj⟩:=⟨by simpa using U,rfl,⟨ai,hq,trivial⟩,h,hp⟩
def jK{own:ac ay}{n k m:Nat}(h:kM [k,m,j] cj e:=by repeat first|exact trivial|refine⟨rfl,?_⟩)(ai:∃bf,own[k]? =some bf∧e8 [k,m,j] o bf:=by first|exact⟨_,rfl,rfl,fun _=>rfl⟩|exact⟨_,rfl,rfl⟩)(hq:∃bf,own[m]? =some bf∧e8 [k,m,j] q bf:=by first|exact⟨_,rfl,rfl,fun _=>rfl⟩|exact⟨_,rfl,rfl⟩)(hr:∃bf,own[j]? =some bf∧e8 [k,m,j] r bf:=by first|exact⟨_,rfl,rfl,fun _=>rfl⟩|exact⟨_,rfl,rfl⟩)(U:[k,m,j].Nodup:=by decide)(hp:pinned p [k,m,j] 0=true:=by rfl):Sub p [k,m,j] ⟨own,n,e⟩ ⟨[o,q,r],3,cj⟩:=⟨U,rfl,⟨ai,hq,hr,trivial⟩,h,hp⟩
def oa{own:ac ay}{n k m i:Nat}{t:ay}(h:kM [k,m,j,i] cj e:=by repeat first|exact trivial|refine⟨rfl,?_⟩)(ai:∃bf,own[k]? =some bf∧e8 [k,m,j,i] o bf:=by first|exact⟨_,rfl,rfl,fun _=>rfl⟩|exact⟨_,rfl,rfl⟩)(hq:∃bf,own[m]? =some bf∧e8 [k,m,j,i] q bf:=by first|exact⟨_,rfl,rfl,fun _=>rfl⟩|exact⟨_,rfl,rfl⟩)(hr:∃bf,own[j]? =some bf∧e8 [k,m,j,i] r bf:=by first|exact⟨_,rfl,rfl,fun _=>rfl⟩|exact⟨_,rfl,rfl⟩)(aN:∃bf,own[i]? =some bf∧e8 [k,m,j,i] t bf:=by first|exact⟨_,rfl,rfl,fun _=>rfl⟩|exact⟨_,rfl,rfl⟩)(U:[k,m,j,i].Nodup:=by decide)(hp:pinned p [k,m,j,i] 0=true:=by rfl):Sub p [k,m,j,i] ⟨own,n,e⟩ ⟨[o,q,r,t],4,cj⟩:=⟨U,rfl,⟨ai,hq,hr,aN,trivial⟩,h,hp⟩
section
variable{call:bL}{fr:aP}{H:bz}{ids:ac Nat}{e:bO}{x y i:bi}
variable{z:Nat}
def amx{α:Type}{R:α->ac ab}{l:ac α}{q:α}{cf:d7}(aa:c3 fr H ids e)(J:bj e x=some (.cc z α R l))(hi:bj e i=some (.i cf (j:Int)))(hj:l[j]? =some q):∃v,den H (.ip (R q)) ids v∧∀st,bP call (.lW z x i) fr st= .ok v fr st:=by
 have h3:fr.af i= .int cf (j:Int):=aa.af hi;have aV:=(zae.1 hj).1;rcases aa.af J with⟨hl,_⟩|⟨b,o,c,vs,el,a8,aX,h1,h2,au,aW⟩
 ·subst hl;simp at aV
 ·refine⟨_,⟨b,o+j*z,vs,el,a8,aX,rfl,au,?_⟩,fun st=>HZ h1 h3 aV⟩;have al:=aW j q hj;have hl:=h6 al;rw[<-hl];rw[show(vs.drop (o+j*z)).take ((vs.drop (o+j*z)).take z).length=(vs.drop (o+j*z)).take z by rw[zas,<-List.take_eq_take_min]];exact al
def amy{k o n c:Nat}{cf:d7}(aa:c3 fr H ids e)(J:bj e x=some (.aY k z o n c))(hi:bj e i=some (.i cf (j:Int)))(hj:j<n):∃v,den H (.gA k z (o+j) 0) ids v∧∀st,bP call (.lW z x i) fr st= .ok v fr st:=by
 obtain⟨b,h1,h2⟩:=aa.af J;have h3:fr.af i= .int cf (j:Int):=aa.af hi;exact⟨_,⟨b,h1,by rw[zam,zaQ]⟩,fun st=>HZ h2 h3 hj⟩
end
section
variable{ax:fu}{K:ac eH}{own bN:ac ay}{aK bb b7 back:Nat}{e a0:bO}{d:Tmp}{ts:ac Tmp}{xs:ac (bE×cw)}{x y i:bi}
variable{z:Nat}{α:Type}{el:ce}{aX:Bool}{R:α->ac ab}{l:ac α}
def hS(q:α){cf:d7}(hj:l[j]? =some q)(k:aU.ok ax ⟨K,.d xs bN ((d,.ip (R q))::a0) bb b7,⟨own,aK,(d,.ip (R q))::e⟩⟩)(J:bj (eN ts a0) x=some (.cc z α R l):=by rfl)(hi:bj (eN ts a0) i=some (.i cf (j:Int)):=by rfl)(hb:back<bb:=by decide):aU.ok ax ⟨K,.d ((⟨some d,.lW z x i,none⟩,.read back ts)::xs) bN a0 bb b7,⟨own,aK,e⟩⟩:=
 o1 (d:=some d) hb (fun H ids st fr aa _ _=>let⟨v,h1,h2⟩:=amx aa J hi hj;⟨v,h1,fun dz _ _=>h2 dz⟩) k
def aeQ{bK o n c:Nat}{cf:d7}(k:aU.ok ax ⟨K,.d xs bN ((d,.gA bK z (o+j) 0)::a0) bb b7,⟨own,aK,(d,.gA bK z (o+j) 0)::e⟩⟩)(J:bj (eN ts a0) x=some (.aY bK z o n c):=by rfl)(hi:bj (eN ts a0) i=some (.i cf (j:Int)):=by rfl)(hj:j<n:=by omega)(hb:back<bb:=by decide):aU.ok ax ⟨K,.d ((⟨some d,.lW z x i,none⟩,.read back ts)::xs) bN a0 bb b7,⟨own,aK,e⟩⟩:=
 o1 (d:=some d) hb (fun H ids st fr aa _ _=>let⟨v,h1,h2⟩:=amy aa J hi hj;⟨v,h1,fun dz _ _=>h2 dz⟩) k
def lg{bK n c:Nat}{cf:d7}(k:aU.ok ax ⟨K,.d xs bN ((d,.gA bK z j 0)::a0) bb b7,⟨own,aK,(d,.gA bK z j 0)::e⟩⟩)(J:bj (eN ts a0) x=some (.aY bK z 0 n c):=by rfl)(hi:bj (eN ts a0) i=some (.i cf (j:Int)):=by rfl)(hj:j<n:=by omega)(hb:back<bb:=by decide):aU.ok ax ⟨K,.d ((⟨some d,.lW z x i,none⟩,.read back ts)::xs) bN a0 bb b7,⟨own,aK,e⟩⟩:=
 aeQ (by rw[zaw];exact k) J hi hj hb
def FH{bK q:Nat}(w:α){a:ab}(hj:l[j]? =some w)(k:aU.ok ax ⟨K,.d xs bN ((d,a)::a0) bb b7,⟨own,aK,(d,a)::e⟩⟩)(J:bj (eN ts a0) x=some (.gA bK z j q):=by rfl)(U:bN[bK]? =some (.a el aX z α R l):=by rfl)(hq:(R w)[q]? =some a:=by rfl)(hb:back<bb:=by decide):aU.ok ax ⟨K,.d ((⟨some d,.lZ x,none⟩,.read back ts)::xs) bN a0 bb b7,⟨own,aK,e⟩⟩:=
 o1 (d:=some d) hb (fun H ids st fr aa hl ai=>by
  obtain⟨b,h1,h2⟩:=aa.af J;obtain⟨vs,h3,au,aW⟩:=ai bK _ b U rfl h1;obtain⟨v,aF,al⟩:=vb (aW j w hj) hq;refine⟨v,al,fun dz _ ae=>Ag h2 ((ae bK _ b U rfl h1).trans h3) ?_⟩;rw[zaJ]at aF;split at aF
  ·rw[zaF]at aF;exact aF
  ·cases aF) k
def nC{bK:Nat}{a:ab}{bC iw:ac ay}(w':α)(k:aU.ok ax ⟨K,.d xs iw a0 (bb+1) aK,⟨bC,aK,e⟩⟩)(J:bj e x=some (.gA bK 1 j 0):=by rfl)(aA:bj e y=some a:=by rfl)(U:own[bK]? =some (.a el aX 1 α R l):=by rfl)(cL:R w'=[a]:=by rfl)(hc:s9 a=true:=by rfl)(h1:∀w,(R w).length=1:=by exact fun _=>rfl)
 (ai:kq own bK (.a el aX 1 α R (l.set j w')) some=some bC:=by rfl) (mx:DW bN (some bK) some=some iw:=by rfl) (hj:j<l.length:=by first|omega|(simp;done)|(simp;omega)):aU.ok ax ⟨K,.d ((⟨none,.store 1 x y,none⟩,.ez)::xs) bN a0 bb b7,⟨own,aK,e⟩⟩:=by
 have h:=lB ai;cases h;obtain⟨ao5,aG,aI,a4⟩:=N2 mx;cases aG;exact KU (d:=none) (s:=⟨own,aK,e⟩) (aaT (s:=⟨own,aK,e⟩) w' J aA U cL hj hc h1) aI (fun k o fi hl=>by
  have:=a4 k o fi hl;simp only[kE,J];exact this) k
end
structure ht where
 L:Type
 own:L->ac ay
 args:L->ac ab
 pre:L->Prop
 bC:L->ac ay
 res:L->ab
 hp:bz->Prop:=fun _=>True
 hm:∀{H br:bz},dg H br->hp H->hp br:=by exact fun _ _=>trivial
def ht.spec(S:ht):Spec where
 L:=S.L×bz×ac Nat
 pre:=fun l vs st=>S.pre l.1∧S.hp l.2.1∧Fit l.2.1 l.2.2 st (S.own l.1) (S.own l.1).length∧db l.2.1 (S.args l.1) l.2.2 vs
 post:=fun l vs st v st'=>∃br,Fit br l.2.2 st' (S.bC l.1) (S.own l.1).length∧ed l.2.1 l.2.2 st br l.2.2 st'∧den br (S.res l.1) l.2.2 v
def E4(S:ht)(l:S.L)(res:ac iU)(x:dM)(s:cG):Prop:=(x= .norm∨x= .ret)∧(∃r,Fin.wC s res=some r∧qv r=true∧bZ r (S.res l))∧∃f,f.length=(S.own l).length∧Sub (S.own l).length f s ⟨S.bC l,(S.own l).length,[]⟩
def N5{f ids i0:ac Nat}(aa:f.length=i0.length)(hp:pinned i0.length f 0=true)(hi:c5 i0 ids):pick f ids=i0:=by
 apply zbD;intro k;by_cases U:k<i0.length
 ·have h1:=N6 hp k U;rw[zaw]at h1;have h2:=hi k _ (bF U);rw[yr h1 h2,bF U]
 ·rw[zbG (by simp[pick];omega),zbG (by omega)]
variable{X:Ctx}
variable{f:ci}{xf:dh}{S:ht}
def Rc{bl:an dh}(du:Good X)(jd:oo X bl)(cP:ci->gu)(J:bl.get f=some xf)(hl:∀l,(S.args l).length<=xf.aO)
 (h:∀l,S.pre l->∀H i0 aH,S.hp H->i0.length=(S.own l).length->aU.ok ⟨cX bl (dc X cP) (bQ+1),bQ+1,f,H,i0,aH,E4 S l xf.res⟩ ⟨[],.c xf.body,⟨S.own l,(S.own l).length,nI 0 (S.args l)⟩⟩):a9 X f S.spec:=by
 refine Rb du jd cP J (fun l vs st ⟨_,_,_,d⟩=>by rw[h6 d];exact hl l.1) ?_;rintro⟨l,H,i0⟩ vs st ⟨hp,hh,av,d⟩;simp only at hp hh av d;refine(h l hp H i0 st hh av.len H i0 st (gf vs) (ed.refl _ _ _) av (c3.zero d)).mono ?_;rintro x fr st' ⟨br,ids,s,a5,eh,aa,J,⟨r,h1,h2,hle⟩,g,aJ,ae⟩;obtain⟨v,h3,au⟩:=I4 (call:=cX bl (dc X cP) (bQ+1)) eh aa h1;have zZ:i0.length=(S.own l).length:=av.len;have eV:Sub i0.length g s ⟨S.bC l,(S.own l).length,[]⟩:=by rw[zZ];exact ae
 have CZ:=N5 (by omega) eV.Ij a5.mB;have xv:=eV.fit eh;have Vn:=eV.bS eh a5;rw[CZ]at xv Vn;exact⟨J,v,au,br,xv,Vn,hle _ _ _ (FM _ h2 h3 _)⟩
def aeH{bl:an dh}(du:Good X)(jd:oo X bl)(cP:ci->gu)(J:bl.get f=some xf)(hl:∀l,(S.args l).length<=xf.aO)
 (h:∀l,S.pre l->∀H i0 aH,i0.length=(S.own l).length->aU.ok ⟨cX bl (dc X cP) (bQ+1),bQ+1,f,H,i0,aH,E4 S l xf.res⟩ ⟨[],.c xf.body,⟨S.own l,(S.own l).length,nI 0 (S.args l)⟩⟩):a9 X f S.spec:=Rc du jd cP J hl fun l hp H i0 aH _ hl=>h l hp H i0 aH hl
mutual
theorem Rs{H:bz}{f ids:ac Nat}(aa:∀k m:Nat,f[k]? =some m->m<ids.length):∀(a:ab) {v:be},den H a (pick f ids) v->den H (lA f a) ids v
 |.i _ _,_,d=>d
 |.b _,_,d=>d
 |.s _,_,d=>d
 |.nl,_,d=>d
 |.v _,_,d=>d
 |.p k o,v,⟨b,e,d⟩=>by
  obtain⟨m,h1,h2⟩:=DZ aa e;unfold lA;rw[h1];exact⟨b,h2,d⟩
 |.gA k z j o,v,⟨b,e,d⟩=>by
  obtain⟨m,h1,h2⟩:=DZ aa e;unfold lA;rw[h1];exact⟨b,h2,d⟩
 |.aY k z o n c,v,⟨b,e,d⟩=>by
  obtain⟨m,h1,h2⟩:=DZ aa e;unfold lA;rw[h1];exact⟨b,h2,d⟩
 |.cc _ _ _ _,_,d=>d
 |.hK _ _ _ _,_,d=>d
 |.cn _ _ _ _,_,d=>d
 |.ip _,_,d=>d
 |.fn _ bB cs,_,⟨vs,ws,e,d1,d2⟩=>⟨vs,ws,e,zz aa bB d1,zz aa cs d2⟩
 |.agg cs,_,⟨vs,e,d⟩=>⟨vs,e,zz aa cs d⟩
 |.bu cs,_,⟨vs,e,d⟩=>⟨vs,e,zz aa cs d⟩
 |.bad,_,d=>d.elim
theorem zz{H:bz}{f ids:ac Nat}(aa:∀k m:Nat,f[k]? =some m->m<ids.length):∀(a:ac ab) {v:ac be},db H a (pick f ids) v->db H (n7 f a) ids v
 |[],_,d=>d
 |a::as,_,⟨v,ws,e,d1,d2⟩=>⟨v,ws,e,Rs aa a d1,zz aa as d2⟩
theorem DZ{f ids:ac Nat}(aa:∀k m:Nat,f[k]? =some m->m<ids.length){k b:Nat}(h:(pick f ids)[k]? =some b):∃m,f[k]? =some m∧ids[m]? =some b:=by
 unfold pick at h;rw[zco]at h;cases U:f[k]? with
 |none=>rw[U]at h;cases h
 |some m=>
  rw[U]at h;have hm:=aa k m U;have h:some ((ids[m]?).getD 0)=some b:=h;rw[bF hm]at h;exact⟨m,rfl,by rw[bF hm];exact h⟩
end
def me(f:ac Nat):ay->ay->Prop
 |.c el cs,o=>o= .c el (n7 f cs)
 |.a el aX z α R l,o=>o= .a el aX z α R l∧∀x,iN (R x)=true
 |.x,o=>o= .x
def me.den{H:bz}{f ids:ac Nat}(aa:∀k m:Nat,f[k]? =some m->m<ids.length){bf:ay}{ej:am bD}(h:me f o bf)(d:m1 H (pick f ids) o ej):m1 H ids bf ej∧bf.live=o.live:=by
 cases o with
 |c el cs=>cases h;obtain⟨vs,e,d⟩:=d;exact⟨⟨vs,e,zz aa cs d⟩,rfl⟩
 |a el aX z α R l=>
  obtain⟨h,hp⟩:=h;cases h;obtain⟨vs,aq,e2,d⟩:=d;exact⟨⟨vs,aq,e2,fun i x J=>o3 _ (hp x) (d i x J) _⟩,rfl⟩
 |x=>cases h;exact⟨trivial,rfl⟩
def y1(f:ac Nat)(own bC:ac ay)(os:ac ay):Prop:=bC.length=own.length∧(∀j:Nat,j∉f->bC[j]? =own[j]?)∧∀(i k:Nat) (bf:ay),f[i]? =some k->bC[k]? =some bf->∃o,os[i]? =some o∧me f o bf
variable{bC:ac ay}{cP:ci->gu}{cd:bz}{i0:ac Nat}{aH:aw}{cH:ac bi}{as:ac ab}{bf:ay}{cm:Nat}{Q:dM->cG->Prop}{d:am Tmp}{xs:ac bE}
def adl{k:Nat}{own:ac ay}(h:kq own k bf some=some bC)(hb:me [k] o bf):y1 [k] own bC [o]:=by
 have:=lB h;cases this;refine⟨by simp,fun j hj=>zbo (by simpa using fun e=>hj (by simp[e])),fun i k' q U hq=> ?_⟩;cases i with
 |zero=>
  simp at U;subst U;rw[zbr]at hq;rw[zab rfl]at hq;split at hq<;>cases hq;exact⟨o,rfl,hb⟩
 |succ i=>simp at U
def QQ{bl:an dh}{n:Nat}{own:ac ay}{g:ci}(hc:a9 X g S.spec)(f:ac Nat)(l:S.L)(hp:S.pre l)(hh:S.hp cd)
 (ae:Sub 0 f ⟨own,aK,e⟩ ⟨S.own l,(S.own l).length,[]⟩) (hb:y1 f own bC (S.bC l))
 (ha:k4 e cH=some as) (he:as=n7 f (S.args l)) (dO:cP g=S.spec.K) {H:bz} {ids:ac Nat} {st:aw} {fr:aP} (a5:ed cd i0 aH H ids st) (av:Fit H ids st own aK) (aa:c3 fr H ids e):
 ∃v st' cY br,bP (cX bl (dc X cP) (n+1)) (.call (.func g) cH) fr st= .ok v fr st'∧Fit br cY st' bC aK∧den br (lA f (S.res l)) cY v∧dg H br∧c5 ids cY∧ed cd i0 aH br cY st'∧st.ag<=st'.ag:=by
 subst he;have p2:=ae.fit av;have al:=xh f _ (aa.eC ha);obtain⟨v,st',h1,h2⟩:=hc _ st ⟨(l,H,pick f ids),hp,S.hm a5.hle hh,p2,al⟩;obtain⟨v1,cg,aG,aI⟩:=N0 (X:=X) (K:=cP) (f:=g) ⟨v,st',by rw[dO];exact h1,h2⟩;rw[dO]at aI;obtain⟨br,eh,et,g6⟩:=aI (l,H,pick f ids) ⟨hp,S.hm a5.hle hh,p2,al⟩;simp only at eh et g6;have aV:∀k m:Nat,f[k]? =some m->m<ids.length:=fun k m U=>by
  have hl:(S.own l).length=f.length:=ae.own.len;have h1:=(zae.1 U).1;obtain⟨fj,bf,h2,h3,_⟩:=ae.own.get (bF (show k<(S.own l).length by omega));rw[U]at h2;cases h2;rw[av.len,<-av.cE];exact(zae.1 h3).1
 have Mm:∀(j b:Nat),j∉f->ids[j]? =some b->b∉pick f ids:=fun j b hj hb hm=>by
  obtain⟨k,U⟩:=zcp.1 hm;obtain⟨m,h3,au⟩:=DZ aV U;have aq:=zae.1 hb;have e2:=zae.1 au;have:=(zcB (h₀:=aq.1) (h₁:=e2.1) av.bU).1 (aq.2.trans e2.2.symm);exact hj (this▸zaz h3)
 have a4:cX bl (dc X cP) (n+1) (.func (.func g) #[] #[]) (eC fr cH) none st= .ret v1 cg false:=by
  rw[zl];have e:gG (#[]:ap be).toList (gG (eC fr cH) (#[]:ap be).toList)=eC fr cH:=by simp
  rw[e,aG];rfl
 have hle:dg H br:=et.hle;refine⟨v1,cg,ids,br,?_,?_,Rs aV _ g6,hle,c5.refl _,?_,et.ag⟩
 ·rw[AG];show xr (cX bl (dc X cP) (n+1) (.func (.func g) #[] #[]) (eC fr cH) none st) _ _=_;rw[a4];rfl
 ·obtain⟨gh,pb,akv⟩:=hb;refine⟨eh.wf,eh.le,by rw[gh];exact av.cE,av.len,av.bU,fun b hb=>fC (av.lt b hb) et.ag,fun j o b hj p3=> ?_⟩;by_cases L7:j∈f
  ·obtain⟨i,hi⟩:=zcp.1 L7;obtain⟨DN,alA,xL⟩:=akv i j o hi hj;have Mu:=yr hi p3;obtain⟨h3,au⟩:=eh.own i DN b alA Mu;obtain⟨aW,ch⟩:=xL.den aV h3;exact⟨aW,fun hl=>au (by rw[<-ch];exact hl)⟩
  ·have hj:bC[j]? =some o:=hj;rw[pb j L7]at hj;obtain⟨h3,au⟩:=av.own j o b hj p3;have GW:=av.lt b (zaz p3);have q6:=Mm j b L7 p3;rw[et.ie b GW q6];exact⟨xe hle (c5.refl _) h3,fun hl=>by rw[et.hold b GW q6];exact au hl⟩
 ·have zX:∀b,b∈pick f ids->b∈ids:=fun b hb=>by
   obtain⟨k,U⟩:=zcp.1 hb;obtain⟨m,_,au⟩:=DZ aV U;exact zaz au
  have sb:∀b,b<aH.ag->b∉i0->b∉pick f ids:=fun b hb hn hm=>by
   rcases a5.new b (zX b hm)with h|h
   ·exact hn h
   ·have h:aH.ag<=b:=h;omega
  refine⟨a5.hle.trans hle,fun b hb hn=> ?_,fun b hb hn=> ?_,zai a5.ag et.ag,a5.mB,a5.new⟩
  ·rw[et.hold b (fC hb a5.ag) (sb b hb hn)];exact a5.hold b hb hn
  ·rw[et.ie b (fC hb a5.ag) (sb b hb hn)];exact a5.ie b hb hn
def KF{bl:an dh}{n:Nat}{fn:ci}{own:ac ay}{g:ci}(hc:a9 X g S.spec)(f:ac Nat)(l:S.L)(hp:S.pre l)
 (ae:Sub 0 f ⟨own,aK,e⟩ ⟨S.own l,(S.own l).length,[]⟩) (hb:y1 f own bC (S.bC l)) (k:aU.ok ⟨cX bl (dc X cP) (n+1),cm,fn,cd,i0,aH,Q⟩ ⟨K,.o xs,⟨bC,aK,fx d (lA f (S.res l)) e⟩⟩)
 (ha:k4 e cH=some as) (he:as=n7 f (S.args l)) (dO:cP g=S.spec.K) (hh:S.hp cd):
 aU.ok ⟨cX bl (dc X cP) (n+1),cm,fn,cd,i0,aH,Q⟩ ⟨K,.o (⟨d,.call (.func g) cH,none⟩::xs),⟨own,aK,e⟩⟩:=fun H ids st fr a5 av aa=>by
 obtain⟨v,st',cY,br,cr,cz,dT,jI,D1,apn,_⟩:=QQ (n:=n) hc f l hp hh ae hb ha he dO a5 av aa;exact uL cr (k br cY st' _ apn cz ((aa.mono jI D1).fx d dT))
def IX{bl:an dh}{n:Nat}{fn:ci}{own:ac ay}{g:ci}(hc:a9 X g S.spec)(bK:Nat)(l:S.L)(hp:S.pre l)
 (k:aU.ok ⟨cX bl (dc X cP) (n+1),cm,fn,cd,i0,aH,Q⟩ ⟨K,.o xs,⟨bC,aK,fx d (lA [bK] (S.res l)) e⟩⟩) (ai:S.own l=[o]:=by rfl) (iH:S.bC l=[bf]:=by rfl)
 (U:∃nY,own[bK]? =some nY∧e8 [bK] o nY:=by exact⟨_,rfl,rfl,fun _=>rfl⟩) (ae:kq own bK bf some=some bC:=by rfl) (hb:me [bK] bf bf:=by exact⟨rfl,fun _=>rfl⟩)
 (ha:k4 e cH=some as:=by rfl) (he:as=n7 [bK] (S.args l):=by rfl) (dO:cP g=S.spec.K:=by rfl) (hh:S.hp cd:=by first|exact trivial|assumption):
 aU.ok ⟨cX bl (dc X cP) (n+1),cm,fn,cd,i0,aH,Q⟩ ⟨K,.o (⟨d,.call (.func g) cH,none⟩::xs),⟨own,aK,e⟩⟩:=
 KF hc [bK] l hp ⟨by simp,by rw[ai];rfl,by rw[ai];exact⟨U,trivial⟩,trivial,rfl⟩ (by rw[iH];exact adl ae hb) k ha he dO hh
end Go.aj
namespace Go.aj
open Sym
set_option maxRecDepth 10000
section
variable{ax:fu}{K:ac eH}{own bC:ac ay}{aK:Nat}{e:bO}
def Eh{bK z n c:Nat}(t:Nat){el:ce}{aX:Bool}{α:Type}{R:α->ac ab}{l:ac α}{p:dp}(k:aU.ok ax ⟨K,.c p,⟨bC,aK,(t,.cc z α R l)::e⟩⟩)(aN:dZ e t=some (.aY bK z 0 n c):=by rfl)(U:own[bK]? =some (.a el aX z α R l):=by rfl)(hp:∀x,iN (R x)=true:=by exact fun _=>rfl)
 (ai:kq own bK .x some=some bC:=by rfl) (hn:l.length=n:=by first|omega|(simp;done)|(simp;omega)) (hc:n<=c:=by omega):aU.ok ax ⟨K,.c p,⟨own,aK,e⟩⟩:=by
 have h1:=lB ai;cases h1;exact aqb t l aN U (by rw[zaq,zay (by omega)]) hn hc hp k
end
section
variable{call:bL}{s:cG}{x y:bi}
def ad5{k z n c:Nat}{el:ce}{aX:Bool}{α:Type}{R:α->ac ab}{l m:ac α}(J:bj s.env x=some (.aY k z 0 n c))(U:s.own[k]? =some (.a el aX z α R l))(ae:qJ s y R z m)(h1:m.length<=n)(h2:n<=l.length)(aE:0<z):
 fE call (.qR z x y) s (.i .i64 (m.length:Nat)) (s.own.set k (.a el aX z α R (m++l.drop m.length))) s.n:=fun H ids st fr av aa=>by
 obtain⟨b,aG,aI⟩:=aa.af J;obtain⟨vs,a4,b2,cx⟩:=pL av U aG;have e:bP call (.qR z x y) fr st=hL (fr.af x) (fun a dl _=>hL (fr.af y) (fun b aY _=>bd a (fun a=>bd b (fun b=>st.load b (Nat.mul (dY aY dl aY dl) z) (fun vs=>cond (gZ vs) (st.store a vs (fun st=>.ok (.int .i64 (.ofNat (dY aY dl aY dl))) fr st) .no) .no) .no) (dW aY 0 (.ok (.int .i64 0) fr st) .no)) (dW dl 0 (.ok (.int .i64 0) fr st) .no)) .no) .no:=rfl;rw[e,aI,oe,zav];rcases ae H ids st fr av aa with⟨rfl,bT,cr⟩|⟨dN,o,bT,ws,RC,a8,Ct,cr,cz,dT,jI,D1⟩
 ·refine⟨.int .i64 0,st,ids,H,by rw[cr,oe,Sym.eO,Sym.hZ,jU rfl],?_,rfl,dg.refl _,c5.refl _,fun _ _ _ B=>B,bY _,fun _ _ _=>rfl⟩;rw[show([]++l.drop ([]:ac α).length)=l by simp,show s.own.set k (.a el aX z α R l)=s.own from ?_]
  ·exact av
  ·apply zbD;intro i;rw[zbr];split
   ·rename_i h;subst h;rw[U];simp[(zae.1 U).1]
   ·rfl
 ·have p7:((ws.drop o).take (m.length*z)).length=m.length*z:=by simp at dT ⊢;omega
  have avi:m.length*z<=l.length*z:=fK z (by omega);have ja:=ta jI (zp (n:=m.length) ⟨b2,cx⟩);have al:vs.take 0++((ws.drop o).take (m.length*z)++vs.drop (0+((ws.drop o).take (m.length*z)).length))=(ws.drop o).take (m.length*z)++vs.drop (m.length*z):=by rw[p7];simp
  refine⟨_,_,ids,H,?_,av.gP U rfl aG (ej:=.cells ((ws.drop o).take (m.length*z)++vs.drop (m.length*z)) el (0,0) aX) ⟨_,rfl,ja.1,ja.2⟩,rfl,dg.refl _,c5.refl _,fun _ _ _ B=>B.gP (zaz aG) _,bY _,fun auI _ cl=>an.h7 _ _ (fun e=>cl k (by simp[kE,J]) (e▸aG))⟩;rw[cr,oe,Sym.eO,Sym.eO,fW h1];show aw.load st ⟨dN,o,none⟩ (m.length*z) _ _=_;unfold aw.load aw.gH;rw[Sym.hZ,cz,kO,rY dT,D1,cond_true];unfold aw.store aw.gH;rw[Sym.hZ,a4,kO,fW (bY _),rD,zab (by show 0+_<=_;rw[p7,b2];omega),j5,al];rfl
end
section
variable{ax:fu}{K:ac eH}{own bC:ac ay}{aK:Nat}{e:bO}{d:Tmp}{xs:ac bE}{x y:bi}
def ap9{bK z n c:Nat}{el:ce}{aX:Bool}{α:Type}{R:α->ac ab}{l:ac α}(m:ac α)(ae:qJ ⟨own,aK,e⟩ y R z m)(k:aU.ok ax ⟨K,.o xs,⟨bC,aK,(d,.i .i64 (m.length:Nat))::e⟩⟩)(J:bj e x=some (.aY bK z 0 n c):=by rfl)(U:own[bK]? =some (.a el aX z α R l):=by rfl)
 (ai:kq own bK (.a el aX z α R (m++l.drop m.length)) some=some bC:=by rfl) (h1:m.length<=n:=by omega) (h2:n<=l.length:=by first|omega|(simp;done)|(simp;omega)) (aE:0<z:=by decide):aU.ok ax ⟨K,.o (⟨some d,.qR z x y,none⟩::xs),⟨own,aK,e⟩⟩:=by
 have h:=lB ai;cases h;exact er (ad5 (s:=⟨own,aK,e⟩) J U ae h1 h2 aE) k
end
section
variable{ax:fu}{K:ac eH}{own bN:ac ay}{aK bb b7 back:Nat}{e a0:bO}{d:Tmp}{ts:ac Tmp}{xs:ac (bE×cw)}{x y i:bi}
variable{m n:Nat}
def aeR(k:aU.ok ax ⟨K,.d xs bN ((d,.i .u64 ((m/n:Nat):Int))::a0) bb b7,⟨own,aK,(d,.i .u64 ((m/n:Nat):Int))::e⟩⟩)(J:bj (eN ts a0) x=some (.i .u64 (m:Int)):=by rfl)(aA:bj (eN ts a0) y=some (.i .u64 (n:Int)):=by rfl)(hb:back<bb:=by decide)(hn:n≠0:=by omega)(hm:m<18446744073709551616:=by omega):aU.ok ax ⟨K,.d ((⟨some d,.bin .quo x y,none⟩,.read back ts)::xs) bN a0 bb b7,⟨own,aK,e⟩⟩:=
 o1 (d:=some d) (a:=.i .u64 ((m/n:Nat):Int)) hb (fun H ids st fr aa _ _=>⟨.int .u64 ((m/n:Nat):Int),rfl,fun dz _ _=>by
  rw[Yb (aa.af J) (aa.af aA) hn];have:=zax m n;generalize m/n=q at *;rw[abB (by omega) (by omega)]⟩) k
def aeU{bK:d7}(k:aU.ok ax ⟨K,.d xs bN ((d,.i bK ((m%n:Nat):Int))::a0) bb b7,⟨own,aK,(d,.i bK ((m%n:Nat):Int))::e⟩⟩)(J:bj (eN ts a0) x=some (.i bK (m:Int)):=by rfl)(aA:bj (eN ts a0) y=some (.i bK (n:Int)):=by rfl)(hb:back<bb:=by decide)(hn:n≠0:=by omega):aU.ok ax ⟨K,.d ((⟨some d,.bin .rem x y,none⟩,.read back ts)::xs) bN a0 bb b7,⟨own,aK,e⟩⟩:=
 o1 (d:=some d) (a:=.i bK ((m%n:Nat):Int)) hb (fun H ids st fr aa _ _=>⟨.int bK ((m%n:Nat):Int),rfl,fun dz _ _=>aoD (aa.af J) (aa.af aA) hn⟩) k
def aeW{z p q:Nat}{α:Type}{R:α->ac ab}{l:ac α}{aM hi:am bi}(l':ac α)(k:aU.ok ax ⟨K,.d xs bN ((d,.cc z α R l')::a0) bb b7,⟨own,aK,(d,.cc z α R l')::e⟩⟩)(J:bj (eN ts a0) x=some (.cc z α R l):=by rfl)(fo:fc ⟨[],0,eN ts a0⟩ aM 0 p:=by first|exact rfl|exact⟨_,rfl⟩)(fI:fc ⟨[],0,eN ts a0⟩ hi l.length q:=by first|exact rfl|exact⟨_,rfl⟩)(hb:back<bb:=by decide)(hl:(l.drop p).take (q-p)=l':=by first|rfl|simp)(hp:p<=q:=by omega)(hq:q<=l.length:=by first|omega|(simp;done)|(simp;omega)):aU.ok ax ⟨K,.d ((⟨some d,.nm z x aM hi none,none⟩,.read back ts)::xs) bN a0 bb b7,⟨own,aK,e⟩⟩:=by
 subst hl;refine o1 (d:=some d) hb (fun H ids st fr aa _ _=> ?_) k;obtain⟨v,h1,h2⟩:=aaF (call:=ax.call) (s:=⟨[],0,eN ts a0⟩) J fo fI hp hq aa;exact⟨v,h1,fun dz hle _=>h2 dz hle⟩
end
section
variable{call:bL}{s:cG}{x y:bi}
variable{a7 cJ k n c:Nat}{el:ce}{α:Type}{R:α->ac ab}{l:ac α}
def P3{aX:Bool}(J:bj s.env x=some (.aY k a7 0 n c))(U:s.own[k]? =some (.a el aX a7 α R l))(ae:uW call el cJ s y R a7 [])(kD:n<=c)(hc:c<=l.length)(hb:(5*n+1792)*(cJ+1)<=1125899906842624):
 fE call (.app el a7 cJ x y) s (.aY k a7 0 n c) s.own s.n:=fun H ids st fr av aa=>by
 obtain⟨b,aG,aI⟩:=aa.af J;obtain⟨vs,a4,b2,cx⟩:=pL av U aG;obtain⟨new,h1,h2,h3⟩:=ae H ids st fr av aa x _ _ _ aI;have GD:c*a7<=l.length*a7:=fK a7 hc;refine⟨_,st,ids,H,?_,av,⟨b,aG,rfl⟩,dg.refl _,c5.refl _,fun _ _ _ B=>B,bY _,fun _ _ _=>rfl⟩;rw[h3];unfold iX aw.gH;simp only[zcZ,zda,Sym.eO,Sym.hZ,a4,kO,zav,zeo,zaQ];rw[fW (show(5*n+1792)*Nat.succ cJ<=2^50 from hb),fW (bY _),fW kD,fW (by rw[fs,b2];show 0+c*a7<=_;omega),jU rfl,jU rfl]
def acT{m:ac α}(J:bj s.env x=some (.aY k a7 0 n c))(U:s.own[k]? =some (.a el false a7 α R l))(ae:uW call el cJ s y R a7 m)(h0:m≠[])(kD:n<=c)(V4:c<n+m.length)(hc:c<=l.length)(hb:(5*(n+m.length)+1792)*(cJ+1)<=1125899906842624):
 fE call (.app el a7 cJ x y) s (.aY s.n a7 0 (n+m.length) (n+m.length)) (s.own++[.a el true a7 α R (l.take n++m)]) (s.n+1):=fun H ids st fr av aa=>by
 obtain⟨b,aG,aI⟩:=aa.af J;obtain⟨vs,a4,b2,cx⟩:=pL av U aG;obtain⟨new,h1,h2,h3⟩:=ae H ids st fr av aa x _ _ _ aI;have hl:0<m.length:=zbf.2 h0;have ja:=ta (FA ⟨b2,cx⟩ n (by omega)) h1;have kV:=Fy (dg.refl H) (c5.app ids [st.ag]) ja;have GD:c*a7<=l.length*a7:=fK a7 hc;have CW:n*a7<=l.length*a7:=fK a7 (by omega);refine⟨.slice (some ⟨st.ag,0,none⟩) (n+m.length) (n+m.length),_,_,H,?_,av.add (ej:=.cells (vs.take (n*a7)++new) el (0,0) true) ⟨_,rfl,kV.1,kV.2⟩,⟨st.ag,by rw[<-av.len,zaM (bY _)];simp,by rw[zav]⟩,dg.refl _,c5.app _ _,fun _ _ _ B=>B.add _,zbh _,fun b hb _=>yn hb⟩;rw[h3];unfold iX aw.gH;simp only[zcZ,zda,Sym.eO,Sym.hZ,a4,kO,zav];rw[fW (show(5*(n+m.length)+1792)*Nat.succ cJ<=2^50 from hb),fW (bY _),fW kD,fW (by rw[fs,b2];show 0+c*a7<=_;omega),jU rfl,r2 (by omega),cond_false,anA (by omega),rY (by simp;omega),gz,qM,zaq]
end
section
variable{ax:fu}{K:ac eH}{own bC:ac ay}{aK b0:Nat}{e:bO}{d:Tmp}{xs:ac bE}{x y:bi}
variable{a7 cJ n c:Nat}{el:ce}{α:Type}{R:α->ac ab}{l:ac α}
def ap1{bK:Nat}{aX:Bool}(ae:qJ ⟨own,aK,e⟩ y R a7 ([]:ac α))(k:aU.ok ax ⟨K,.o xs,⟨own,aK,(d,.aY bK a7 0 n c)::e⟩⟩)(J:bj e x=some (.aY bK a7 0 n c):=by rfl)(U:own[bK]? =some (.a el aX a7 α R l):=by rfl)
 (kD:n<=c:=by omega) (hc:c<=l.length:=by first|omega|(simp;done)|(simp;omega)) (hb:(5*n+1792)*(cJ+1)<=1125899906842624:=by omega):aU.ok ax ⟨K,.o (⟨some d,.app el a7 cJ x y,none⟩::xs),⟨own,aK,e⟩⟩:=er (P3 (s:=⟨own,aK,e⟩) J U (BC ae) kD hc hb) k
def Oz{bK:Nat}(m:ac α)(ae:qJ ⟨own,aK,e⟩ y R a7 m)(l':ac α)(k:aU.ok ax ⟨K,.o xs,⟨bC,b0,(d,.aY aK a7 0 (n+m.length) (n+m.length))::e⟩⟩)(J:bj e x=some (.aY bK a7 0 n c):=by rfl)(U:own[bK]? =some (.a el false a7 α R l):=by rfl)
 (ai:qC own (.a el true a7 α R l') some=some bC:=by rfl) (iF:nX aK some=some b0:=by rfl) (h0:m≠[]:=by first|rfl|simp) (kD:n<=c:=by omega) (V4:c<n+m.length:=by first|omega|(simp;done)|(simp;omega)) (hc:c<=l.length:=by first|omega|(simp;done)|(simp;omega))
 (hb:(5*(n+m.length)+1792)*(cJ+1)<=1125899906842624:=by first|omega|(simp;done)|(simp;omega)) (hl:l.take n++m=l':=by first|rfl|simp):aU.ok ax ⟨K,.o (⟨some d,.app el a7 cJ x y,none⟩::xs),⟨own,aK,e⟩⟩:=by
 subst hl;have h1:=rK ai;have h2:=pr iF;cases h1;cases h2;exact er (acT (s:=⟨own,aK,e⟩) J U (BC ae) h0 kD V4 hc hb) k
end
section
variable{ax:fu}{K:ac eH}{own bN:ac ay}{aK bb b7 back:Nat}{e a0:bO}{d:Tmp}{ts:ac Tmp}{xs:ac (bE×cw)}{x y:bi}
def Rj{m n:Nat}(k:aU.ok ax ⟨K,.d xs bN ((d,.i .i64 ((m/n:Nat):Int))::a0) bb b7,⟨own,aK,(d,.i .i64 ((m/n:Nat):Int))::e⟩⟩)(J:bj (eN ts a0) x=some (.i .i64 (m:Int)):=by rfl)(aA:bj (eN ts a0) y=some (.i .i64 (n:Int)):=by rfl)(hb:back<bb:=by decide)(hn:n≠0:=by omega)(hm:m<9223372036854775808:=by omega):aU.ok ax ⟨K,.d ((⟨some d,.bin .quo x y,none⟩,.read back ts)::xs) bN a0 bb b7,⟨own,aK,e⟩⟩:=
 o1 (d:=some d) (a:=.i .i64 ((m/n:Nat):Int)) hb (fun H ids st fr aa _ _=>⟨.int .i64 ((m/n:Nat):Int),rfl,fun dz _ _=>by
  rw[Yb (aa.af J) (aa.af aA) hn];have:=zax m n;generalize m/n=q at *;rw[gL (by omega) (by omega)]⟩) k
end
def l7{ax:fu}{K:ac eH}{i:Nat}{c:bq}{s:cG}{b:dp}{L:Type _}(P:L->Prop)(T:L->cG)(h1:aU.ok ax ⟨.cC i:: .b3 (wU ax.i0.length P T)::K,c,s⟩)(h2:∀l,P l->aU.ok ax ⟨K,.c b,T l⟩):aU.ok ax ⟨.cC i:: .seq b::K,c,s⟩:=by
 have up:∀s,wU ax.i0.length P T s->Sem ax (.seq b::K) .norm s:=fun s J=>by
  obtain⟨f,l,hp,ae⟩:=J;exact OB f _ ae (h2 l hp)
 refine R.mono (fun x s J=> ?_) h1;cases x with
 |norm=>exact up s J
 |exit j=>
  show if j=i then Sem ax (.seq b::K) .norm s else Sem ax (.seq b::K) (.exit j) s;have J:if j=i then Sem ax (.b3 (wU ax.i0.length P T)::K) .norm s else Sem ax (.b3 (wU ax.i0.length P T)::K) (.exit j) s:=J;split
  ·rename_i h;rw[zab h]at J;exact up s J
  ·rename_i h;rw[zaa h]at J;exact J
 |ret=>exact J
 |ba v=>exact J
def yK{own:ac ay}{n p:Nat}{e cj:bO}{o q r:ay}(h:kM [0,1,2] cj e)(ai:∃bf,own[0]? =some bf∧e8 [0,1,2] o bf)(hq:∃bf,own[1]? =some bf∧e8 [0,1,2] q bf)(hr:∃bf,own[2]? =some bf∧e8 [0,1,2] r bf)(hp:pinned p [0,1,2] 0=true:=by rfl):Sub p [0,1,2] ⟨own,n,e⟩ ⟨[o,q,r],3,cj⟩:=⟨by simp,rfl,⟨ai,hq,hr,trivial⟩,h,hp⟩
def kK(c:bv):ac ab:=[.i .u8 (c.toNat:Int)]
theorem KI{H:bz}{ids:ac Nat}:∀{l:ac bv} {vs:ac be},jw H ids kK 1 l vs->bytesOf vs=some l
 |[],vs,h=>by
  have:vs=[]:=zbB (by rw[h.1];simp);subst this;rfl
 |c::l,vs,h=>by
  have h1:=h.2 0 c (by simp);rw[zav,zaq]at h1;have h2:=zp h 1;obtain⟨v,ws,aq,e2,bV⟩:=h1;have e2:v= .int .u8 (c.toNat:Int):=e2;have bV:ws=[]:=bV;subst e2 bV;have aF:vs= .int .u8 (c.toNat:Int)::vs.drop 1:=by
   conv=>lhs;rw[<-zbn 1 vs,aq]
   rfl
  have aZ:=KI (l:=l) (vs:=vs.drop 1) (by simpa using h2);rw[aF];show bd (bytesOf (vs.drop 1)) (fun bS=>some (UInt8.ofNat ((c.toNat:Int)).toNat::bS)) none=_;rw[aZ];show some (UInt8.ofNat ((c.toNat:Int)).toNat::l)=_;rw[zbX,UInt8.ofNat_toNat]
theorem QW(H:bz)(ids:ac Nat):∀l:ac bv,jw H ids kK 1 l (lb l)∧gZ (lb l)=true
 |[]=>⟨zq _ _ _ _,rfl⟩
 |c::l=>by
  obtain⟨h1,h2⟩:=QW H ids l;exact⟨ta (l:=[c]) (m:=l) (vs:=[.int .u8 (c.toNat:Int)]) (Fz ⟨_,[],rfl,rfl,rfl⟩ rfl) h1,h2⟩
section
variable{call:bL}{s:cG}{x y:bi}
def adI{k o n c:Nat}{el:ce}{aX:Bool}{l:ac bv}(J:bj s.env x=some (.aY k 1 o n c))(U:s.own[k]? =some (.a el aX 1 bv kK l))(hn:o+n<=l.length):fE call (.zn x) s (.s ((l.drop o).take n)) s.own s.n:=j0 fun H ids st fr av aa=>by
 obtain⟨b,aG,aI⟩:=aa.af J;obtain⟨vs,a4,b2,cx⟩:=pL av U aG;have ja:jw H ids kK 1 ((l.drop o).take n) ((vs.drop o).take n):=by
  have:=FA (zp (⟨b2,cx⟩:jw H ids kK 1 l vs) o) n (by simp;omega)
  rwa [zaI,zaI]at this
 refine⟨_,rfl,?_⟩;show H4 x call fr st=_;unfold H4;rw[aI,oe,zaI,Sym.eO];unfold aw.load aw.gH;rw[Sym.hZ,a4,kO,rY (by show n<=(vs.drop o).length;rw[zaE,b2];omega)];show bd (bytesOf ((vs.drop o).take n)) _ _=_;rw[KI ja];rfl
end
section
variable{ax:fu}{K:ac eH}{own:ac ay}{aK:Nat}{e:bO}{d:Tmp}{xs:ac bE}{x y:bi}
def OA{bK n c:Nat}{el:ce}{aX:Bool}{l:ac bv}(l':ac bv)(k:aU.ok ax ⟨K,.o xs,⟨own,aK,(d,.s l')::e⟩⟩)(J:bj e x=some (.aY bK 1 0 n c):=by rfl)(U:own[bK]? =some (.a el aX 1 bv kK l):=by rfl)(hn:n<=l.length:=by first|omega|(simp;done)|(simp;omega))(hl:l.take n=l':=by first|rfl|simp):aU.ok ax ⟨K,.o (⟨some d,.zn x,none⟩::xs),⟨own,aK,e⟩⟩:=by
 have:=adI (call:=ax.call) (s:=⟨own,aK,e⟩) J U (by omega);rw[zaq,hl]at this;exact er this k
end
section
variable{ax:fu}{K:ac eH}{own bN:ac ay}{aK bb b7 back:Nat}{e a0:bO}{d:Tmp}{ts:ac Tmp}{xs:ac (bE×cw)}{x y:bi}
variable{l:ac bv}{p q:Nat}{aM hi:am bi}
def asl{call:bL}{s:cG}{H:bz}{ids:ac Nat}{fr:aP}{st:aw}(aa:c3 fr H ids s.env)(J:bj s.env x=some (.s l))(fo:fc s aM 0 p)(fI:fc s hi l.length q)(hp:p<=q)(hq:q<=l.length):bP call (.sL x aM hi) fr st= .ok (.string ⟨⟨(l.drop p).take (q-p)⟩⟩) fr st:=by
 have h1:fr.af x= .string ⟨⟨l⟩⟩:=aa.af J;have e:bP call (.sL x aM hi) fr st=hM (fr.af x) (fun s=>e9 fr hi (df s.data.toList) (df s.data.toList) fun h=>e9 fr aM 0 h fun l=>iD s.data.toList l (h-l) (fun bS=>.ok (.string ⟨⟨bS⟩⟩) fr st) .no) .no:=rfl;rw[e,h1,Bj];show e9 fr hi (df l) (df l) _=_;rw[fs,fc.af fI aa hq,fc.af fo aa hp,zw (by show p+(q-p)<=l.length;omega)]
def FI(l':ac bv)(k:aU.ok ax ⟨K,.d xs bN ((d,.s l')::a0) bb b7,⟨own,aK,(d,.s l')::e⟩⟩)(J:bj (eN ts a0) x=some (.s l):=by rfl)(fo:fc ⟨[],0,eN ts a0⟩ aM 0 p:=by first|exact rfl|exact⟨_,rfl⟩)(fI:fc ⟨[],0,eN ts a0⟩ hi l.length q:=by first|exact rfl|exact⟨_,rfl⟩)(hb:back<bb:=by decide)(hl:(l.drop p).take (q-p)=l':=by first|rfl|simp)(hp:p<=q:=by omega)(hq:q<=l.length:=by first|omega|(simp;done)|(simp;omega)):aU.ok ax ⟨K,.d ((⟨some d,.sL x aM hi,none⟩,.read back ts)::xs) bN a0 bb b7,⟨own,aK,e⟩⟩:=by
 subst hl;exact o1 (d:=some d) (a:=.s ((l.drop p).take (q-p))) hb (fun H ids st fr aa _ _=>⟨_,rfl,fun dz _ _=>asl (s:=⟨[],0,eN ts a0⟩) aa J fo fI hp hq⟩) k
end
