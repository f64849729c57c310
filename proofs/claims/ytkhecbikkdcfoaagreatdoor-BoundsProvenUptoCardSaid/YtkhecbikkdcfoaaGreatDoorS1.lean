/- Rules for what a function computes on abstract states (part 1); no condition. -/
import Derived.Test.YtkhecbikkdcfoaaGreatDoorM1
import Derived.Test.YtkhecbikkdcfoaaGreatDoorM2
noncomputable section
set_option linter.all false
namespace Go.bI
namespace Sym
section
variable{α β:Type}
variable{a:Nat}
def sN(r:a2)(k:bv->aO->ao->cO)(p:bv->ao->cO):cO:=a2.rec (motive:=λ_=>cO) k p .no r
def xc(v:bv)(I:aO)(st:ao)(k:bv->aO->ao->cO)(p:bv->ao->cO):sN (.ok v I st) k p=k v I st:=rfl
def QZ(v:bv)(st:ao)(k:bv->aO->ao->cO)(p:bv->ao->cO):sN (.aY v st) k p=p v st:=rfl
def acJ(k:bv->aO->ao->cO)(p:bv->ao->cO):sN .no k p= .no:=rfl
def lK(r:ev)(k:bv->ao->a2)(p:bv->ao->a2):a2:=ev.rec (motive:=λ_=>a2) (λv st _=>k v st) (λv st _=>p v st) .no r
def Q0(v:bv)(st:ao)(t:Bool)(k p:bv->ao->a2):lK (.ret v st t) k p=k v st:=rfl
def Q1(v:bv)(st:ao)(t:Bool)(k p:bv->ao->a2):lK (.aY v st t) k p=p v st:=rfl
def BA(I:aO)(st:ao)(k:aO->ao->cO):kF (.out .norm I st) k=k I st:=rfl
def acK(id i:Nat)(I:aO)(st:ao):qd id (.out (.exit i) I st)=if i=id then .out .norm I st else .out (.exit i) I st:=by
 show dL i id _ _=_;rw[mx]
@[congr] theorem aoC {v bA:bv} (h:v=bA) (k:f8->β) (z:β):h1 v k z=h1 bA k z:=by rw[h]
@[congr] theorem aoD {v bA:bv} (h:v=bA) (k:be Addr->Nat->Nat->β) (z:β):h2 v k z=h2 bA k z:=by rw[h]
def nk(a:f5)(n:Int)(k:f5->Int->β)(z:β):gk (.int a n) k z=k a n:=rfl
def yZ(s:f8)(k:f8->β)(z:β):h1 (.string s) k z=k s:=rfl
def lL(a:be Addr)(k:be Addr->β)(z:β):hN (.pointer a) k z=k a:=rfl
def qt(a:be Addr)(n c:Nat)(k:be Addr->Nat->Nat->β)(z:β):h2 (.slice a n c) k z=k a n c:=rfl
def acL(x:bi bv)(k:bi bv->β)(z:β):sn (.agg x) k z=k x:=rfl
@[congr] theorem aoE {R cq:be α} (h:R=cq) (k:α->β) (z:β):bx R k z=bx cq k z:=by rw[h]
def et(a:α)(k:α->β)(z:β):bx (some a) k z=k a:=rfl
def h6(k:α->β)(z:β):bx (none:be α) k z=z:=rfl
@[congr] theorem aoF {a g b A:Nat} (h:a=g) (D:b=A) (x y:β):eB a b x y=eB g A x y:=by rw[h,D]
theorem h7{b:Nat}(h:a<=b)(x y:β):eB a b x y=x:=by rw[l0,aA h]
def acM{b:Nat}(h:¬a<=b)(x y:β):eB a b x y=y:=by rw[l0,au h]
theorem je{b:Nat}(h:a=b)(x y:β):dL a b x y=x:=by rw[mx,aA h]
theorem rB{b:Nat}(h:¬a=b)(x y:β):dL a b x y=y:=by rw[mx,au h]
def qu(n:Nat)(k:Nat->β)(z:β):hW (n:Int) k z=k n:=rfl
def acN{n:Int}(h:0<=n)(k:Nat->β)(z:β):hW n k z=k n.toNat:=by
 obtain⟨m,rfl⟩:=Ox h;rfl
@[congr] theorem aoG {l bq:ac α} {R cq n cI:Nat} (h:l=bq) (D:R=cq) (B:n=cI) (k:ac α->β) (z:β):hX l R n k z=hX bq cq cI k z:=by rw[h,D,B]
def y0{l:ac α}{R n:Nat}(h:R+n<=l.length)(k:ac α->β)(z:β):hX l R n k z=k ((l.drop R).take n):=by
 rw[hX];rw[A9,Ba,aA ep];rfl
@[congr] theorem aoH {b A:Bool} (h:b=A) (x y:β):cond b x y=cond A x y:=by rw[h]
end
theorem BS(I:aO)(t:Tmp):I.aq (.tmp t)=I.tmp t:=rfl
def acO(I:aO)(v:bv):I.put none v=I:=rfl
theorem tB(I:aO)(d:Tmp)(v:bv)(j:Nat):(I.put (some d) v).tmp j=if j=d then v else I.tmp j:=by grind [su]
def acP(I:aO)(d:be Tmp)(v:bv):(I.put d v).di=I.di:=(re I d v).1
def acQ(I:aO)(d:be Tmp)(v:bv):(I.put d v).cU=I.cU:=(re I d v).2.2.1
def acR(I:aO):dt I []=[]:=rfl
def Q2(I:aO)(x:ce)(xs:ac ce):dt I (x::xs)=I.aq x::dt I xs:=rfl
section
variable(call:bR)(a8:Nat)(fn:d8)(I:aO)(st:ao)
def acS:gz call [] I st= .out .norm I st:=rfl
def tC(d:be Tmp)(R:dm)(xs:ac bt):gz call (⟨d,R,none⟩::xs) I st=
 sN (bD call R I st) (λv I st=>gz call xs (I.put d v) st) (λv st=>cond R.lE (.out (.aY v) I st) .no):=rfl
def acT{β:Type}(v:bv)(b:Bool)(yes rC z:β):β:=kj v (λc=>cond c (cond b yes rC)<|cond b rC yes)<|q6 v (λ_=>rC) z
def J7(d:be Tmp)(R:dm)(t:Tmp)(b:Bool)(xs:ac bt):gz call (⟨d,R,some (t,b)⟩::xs) I st=
 acT (I.tmp t) b (sN (bD call R I st) (λv I st=>gz call xs (I.put d v) st) λv st=>cond R.lE (.out (.aY v) I st) .no) (gz call xs (I.put d undef) st) .no:=rfl
def Q3(ops:ac bt):dh call a8 fn (.gx ops) I st=gz call ops I st:=rfl
def FG(a b:dz):dh call a8 fn (.seq a b) I st=kF (dh call a8 fn a I st) (dh call a8 fn b):=rfl
def J8(c:ce)(a b:dz):dh call a8 fn (.cond c a b) I st=A4 (I.aq c) (dh call a8 fn a I st) (dh call a8 fn b I st):=rfl
def Q4(i:Nat)(a:dz):dh call a8 fn (.block i a) I st=qd i (dh call a8 fn a I st):=rfl
def BU(b:dz)(n:Nat)(I:aO)(st:ao):cO:=
 Nat.rec (motive:=λ_=>aO->ao->cO) (λ_ _=>.no) (λ_ U I st=>kF (dh call a8 fn b I st) U) n I st
def acU(b:dz)(n:Nat):BU call a8 fn b (n+1) I st=kF (dh call a8 fn b I st) (BU call a8 fn b n):=rfl
end
section
variable(call:bR)(I:aO)(st:ao)
def Q5(c a b:ce):bD call (.pick c a b) I st=kj (I.aq c) (λt=>.ok (cond t (I.aq a)<|I.aq b) I st) .no:=rfl
def Q6(x:ce):bD call (.wB x) I st=h2 (I.aq x) (λ_ n _=>.ok (.int .i64 (n:Int)) I st) (so (I.aq x) (.ok (.int .i64<|.ofNat 0) I st) .no):=rfl
def acV(x:ce):bD call (.wC x) I st=h1 (I.aq x) (λs=>.ok (.int .i64 (s.data.toList.length:Int)) I st) .no:=by
 show h1 (I.aq x) (λs=>hd (dK s.data.toList) λn=>a2.ok (.int .i64<|.ofNat n) I st) a2.no=_;simp only[wO,fi];rfl
def vm(f:ce)(args:ac ce):bD call (.call f args) I st=lK (call (I.aq f) (dt I args) none st) (λv st=>.ok v I st) (λv st=>.aY v st):=rfl
def acW(bw:Nat)(x i:ce):bD call (.jd bw x i) I st=
 h2 (I.aq x) (λb len _=>bx b (λa=>gk (I.aq i) (λ_ j=>hW j (λj=>eB (j+1) len (.ok (.pointer<|some<|a.add<|j*bw) I st) .no) .no) .no) .no) .no:=rfl
def J9(x:ce):bD call (.ix x) I st=hN (I.aq x) (λp=>bx p (λa=>st.load a 1 (λab=>one ab (λv=>.ok v I st) .no) .no) .no) .no:=rfl
def acX(n:Nat)(x:ce):bD call (.m9 n x) I st=hN (I.aq x) (λp=>bx p (λa=>st.load a n (λab=>.ok (.agg ⟨ab⟩) I st) .no) .no) .no:=rfl
def acY(k:f5)(x:ce):bD call (.uZ k x) I st=gk (I.aq x) (λ_ n=>.ok (.int k<|k.wrap n) I st) .no:=by
 show gk (I.aq x) (λ_ n=>iE k (oy k n) λv=>a2.ok v I st) a2.no=_;simp[iS,lC]
def BV(op:BinOp)(x y:ce):bD call (.bin op x y) I st=AW op (I.aq x) (I.aq y) (λv=>.ok v I st):=rfl
def acZ(op:BinOp)(k o:f5)(a b:Int)(c:bv->a2):AW op (.int k a) (.int o b) c=AV op k a o b c:=rfl
def ac0(op:BinOp)(a b:f8)(c:bv->a2):AW op (.string a) (.string b) c=AU op a b c:=rfl
def ac1(k:f5):j5 k k=true:=by cases k<;>rfl
end
end Sym
end Go.bI
namespace Go.bI
open Sym
def W(r:cO)(Q:c6->aO->ao->Prop):Prop:=∃e I st,r= .out e I st/\Q e I st
variable{Q:c6->aO->ao->Prop}{r:cO}
def W.mk{e:c6}{I:aO}{st:ao}(h:Q e I st):W (.out e I st) Q:=⟨e,I,st,o,h⟩
def W.of_eq{Y:cO}(e:r=Y)(h:W Y Q):W r Q:=by rwa [e]
def W.mono{o:c6->aO->ao->Prop}(h:W r Q)(aD:∀e I st,Q e I st->o e I st):W r o:=
 let⟨e,I,st,Y,G⟩:=h;⟨e,I,st,Y,aD _ _ _ G⟩
def ac2(call:bR)(a8:Nat)(fn:d8)(b:dz)(Q:c6->aO->ao->Prop):c6->aO->ao->Prop
 |.norm,I,st=>W (dh call a8 fn b I st) Q
 |e,I,st=>Q e I st
def ac3(id:Nat)(Q:c6->aO->ao->Prop):c6->aO->ao->Prop
 |.exit i,I,st=>if i=id then Q .norm I st else Q (.exit i) I st
 |e,I,st=>Q e I st
def Round(ae:Nat->aO->ao->Prop)(m:Nat)(Q:c6->aO->ao->Prop):c6->aO->ao->Prop
 |.norm,I,st=>∃O,O<m/\ae O I st
 |e,I,st=>Q e I st
section
variable{call:bR}{a8:Nat}{fn:d8}{I:aO}{st:ao}{Q:c6->aO->ao->Prop}
variable{a:dz}{c:ce}{t:Bool}{v:bv}{i:Nat}{d:Tmp}
def Q7{b:dz}(h:W (dh call a8 fn a I st) (ac2 call a8 fn b Q)):W (dh call a8 fn (.seq a b) I st) Q:=by
 have⟨e,L,al,Y,G⟩:=h;rw[FG,Y];cases e with
 |norm=>exact G
 |_=>exact .mk G
def ac4(h:Q .norm I st):W (dh call a8 fn .skip I st) Q:=.mk h
def ac5(h:Q (.exit i) I st):W (dh call a8 fn (.exit i) I st) Q:=.mk h
def ac6(h:Q .ret I st):W (dh call a8 fn .ret I st) Q:=.mk h
theorem ac7(h:W (dh call a8 fn a I st) (ac3 i Q)):W (dh call a8 fn (.block i a) I st) Q:=by
 have⟨e,L,al,Y,G⟩:=h;rw[Q4,Y];cases e with
 |norm=>exact .mk G
 |exit j=>
  rw[acK];have C:(if j=i then Q .norm L al else Q (.exit j) L al):=G;split at C
  .rw[aA qg];exact .mk C
  .rw[au qg];exact .mk C
 |_=>exact .mk G
def ac8{ops:ac bt}(h:W (gz call ops I st) Q):W (dh call a8 fn (.gx ops) I st) Q:=h
def ac9(h:Q .norm I st):W (gz call [] I st) Q:=.mk h
def ada{b:dz}(ah:I.aq c= .bool t)(bK:t=true->W (dh call a8 fn a I st) Q)(aa:t=false->W (dh call a8 fn b I st) Q):W (dh call a8 fn (.cond c a b) I st) Q:=by
 rw[J8,ah];cases t
 .exact aa o
 .exact bK o
def adb{b:dz}(ah:I.aq c= .bool t)(aN:t=true)(bK:W (dh call a8 fn a I st) Q):W (dh call a8 fn (.cond c a b) I st) Q:=by
 rw[J8,ah,aN];exact bK
def ade{b:dz}(ah:I.aq c= .bool t)(aN:t=false)(aa:W (dh call a8 fn b I st) Q):W (dh call a8 fn (.cond c a b) I st) Q:=by
 rw[J8,ah,aN];exact aa
theorem Q8{b:dz}(ae:Nat->aO->ao->Prop)
 (o:∀m I st,ae m I st->W (dh call a8 fn b I st) (Round ae m Q)):∀(n m:Nat) (I:aO) (st:ao),m<n->ae m I st->W (BU call a8 fn b n I st) Q
 |0,m,_,_,h,_=>by omega
 |n+1,m,I,st,h,af=>by
  have⟨e,L,al,aE,aK⟩:=o m I st af;rw[acU,aE];cases e with
  |norm=>
   have⟨O,hm,C⟩:=aK;exact Q8 ae o n O L al J C
  |_=>exact .mk aK
def adf{b:dz}(ae:Nat->aO->ao->Prop)(m:Nat)(hm:m<a8)(bS:ae m I st)
 (o:∀m I st,ae m I st->W (dh call a8 fn b I st) (Round ae m Q)):W (dh call a8 fn (.loop b) I st) Q:=
 Q8 ae o a8 m I st hm bS
def E:(I.put (some d) v).aq (.tmp d)=v:=by rw[BS,tB,aA o]
def N{j:Tmp}{x:bv}(h:I.aq (.tmp j)=x)(O:Nat.beq j d=false:=by rfl):(I.put (some d) v).aq (.tmp j)=x:=by
 rw[BS,tB,au];exact h;intro e;subst e;simp at O
def C:I.aq (.const v)=v:=rfl
section
variable{xs:ac bt}{d:be Tmp}{R:dm}{x y i:ce}
def oM{al:ao}(h:bD call R I st= .ok v I al)(k:W (gz call xs (I.put d v) al) Q):W (gz call (⟨d,R,none⟩::xs) I st) Q:=by
 rw[tC,h];exact k
def adg{t:Tmp}{b c:Bool}(F:I.aq (.tmp t)= .bool c)(ah:c=b)(k:W (gz call (⟨d,R,none⟩::xs) I st) Q):W (gz call (⟨d,R,some (t,b)⟩::xs) I st) Q:=by
 subst ah;rw[J7,show I.tmp t= .bool c from F];cases c
 .exact k
 .exact k
def adh{t:Tmp}{b c:Bool}(F:I.aq (.tmp t)= .bool c)(ah:c= !b)(k:W (gz call xs (I.put d undef) st) Q):W (gz call (⟨d,R,some (t,b)⟩::xs) I st) Q:=by
 subst ah;rw[J7,show I.tmp t= .bool (!b)from F];cases b
 .exact k
 .exact k
def adi{t:Tmp}{b:Bool}{a:bi bv}(F:I.aq (.tmp t)= .tuple a)(k:W (gz call xs (I.put d undef) st) Q):W (gz call (⟨d,R,some (t,b)⟩::xs) I st) Q:=by
 rw[J7,show I.tmp t= .tuple a from F];exact k
end
section
variable{x y i c a b:ce}
variable{n m:Nat}{k:f5}{p:Addr}
def vn{p:be Addr}(h:I.aq x= .slice p n m):bD call (.wB x) I st= .ok (.int .i64 (n:Int)) I st:=by rw[Q6,h];rfl
def adj{gZ:f5}{n:Int}(h:I.aq x= .int gZ n):bD call (.uZ k x) I st= .ok (.int k<|k.wrap n) I st:=by rw[acY,h];rfl
def adk{bw:Nat}{j:Int}(h:I.aq x= .slice (some p) n m)(D:I.aq i= .int k j)(bS:0<=j)(aE:j<n):
 bD call (.jd bw x i) I st= .ok (.pointer<|some<|p.add<|j.toNat*bw) I st:=by
 rw[acW,h,D];show hW j (λj=>eB (j+1) n _ _) _=_;rw[acN bS,h7 J]
theorem adl{cs:ac bv}{el:d7}{b1:Nat×Nat}{aW:Bool}(h:I.aq x= .pointer (some p))(hp:p.spot=none)(ay:st.h.get p.block=some (.cells cs el b1 aW))(Z:cs[p.off]? =some v):
 bD call (.ix x) I st= .ok v I st:=by
 rw[J9,h];show st.load p 1 _ _=_;unfold ao.load ao.gy;rw[hp,ay];show hX cs p.off 1 _ _=_;have aT:p.off<cs.length:=by
  grind
 rw[y0 J];have:(cs.drop p.off).take 1=[v]:=by
  rw[ba aT]at Z;cases Z;rw[hL aT];rfl
 rw[this];rfl
end
end
end Go.bI
namespace Go.bI
open Sym
variable{X:Ctx}
structure dT where
 r:ac bv->ao->bv->ao->Prop
 p:ac bv->ao->bv->ao->Prop
def dT.no:dT:=⟨λ_ _ _ _=>False,λ_ _ _ _=>False⟩
def BW(X:Ctx)(f:d8)(as:ac bv)(st:ao)(v:bv)(al:ao):Prop:=
 ∀(L:bN) (W:ac bv) (w:d9),bO L as W->bZ X L st w->
  (∀as w,(callFunc f as).run X.P w= .ok (.enter f as) w)/\
  ∀(K:CallKind) (bu:Bool->ac Frame),jO ⟨f,K,none⟩ none L bu->hP X L w ⟨f,K,none⟩ bu (lone (Frame.enter X.P f W.toArray K) (bu false) w) (.aY v al false)
def cm(X:Ctx)(K:d8->dT):ra:=λf as st=>
 open Classical in if h:∃p:bv×ao,(K f).r as st p.1 p.2/\gD X f ⟨as,st,p.1,p.2⟩then some (.ret (Classical.choose h).1 (Classical.choose h).2 false)
 else if h:∃p:bv×ao,(K f).p as st p.1 p.2/\BW X f as st p.1 p.2 then some (.aY (Classical.choose h).1 (Classical.choose h).2 false)else none
def BX(K:d8->dT):w2 X (cm X K):=by
 intro f as st r aw L W w D hw _;rw[cm]at aw;split at aw
 .exact aqS
 .split at aw
  .exact aqS
  .cases aw
theorem xd{K:d8->dT}{f:d8}{as:ac bv}{st:ao}(h:∃v al,(K f).r as st v al/\gD X f ⟨as,st,v,al⟩):
 ∃v al,cm X K f as st=some (.ret v al false)/\(K f).r as st v al:=by
 have⟨v,al,Y,G⟩:=h;have hp:∃p:bv×ao,(K f).r as st p.1 p.2/\gD X f ⟨as,st,p.1,p.2⟩:=⟨(v,al),Y,G⟩
 grind [cm]
structure Spec where
 L:Type
 pre:L->ac bv->ao->Prop
 post:L->ac bv->ao->bv->ao->Prop
def Spec.K(S:Spec):dT:=⟨λas st v al=>∀l,S.pre l as st->S.post l as st v al,λ_ _ _ _=>False⟩
instance:Coe Spec dT:=⟨Spec.K⟩
def eb(X:Ctx)(f:d8)(S:Spec):Prop:=∀as st,(∃l,S.pre l as st)->∃v al,S.K.r as st v al/\gD X f ⟨as,st,v,al⟩
structure xe where
 L:Type
 pre:L->ac bv->ao->Prop
 post:L->ac bv->ao->bv->ao->Prop
 Ka:L->ac bv->ao->bv->ao->Prop
def xe.K(S:xe):dT:=⟨λas st v al=>∀l,S.pre l as st->S.post l as st v al,λas st v al=>∀l,S.pre l as st->S.Ka l as st v al⟩
instance:Coe xe dT:=⟨xe.K⟩
def l9(X:Ctx)(f:d8)(S:xe):Prop:=∀as st,(∃l,S.pre l as st)->(∃v al,S.K.r as st v al/\gD X f ⟨as,st,v,al⟩)\/∃v al,S.K.p as st v al/\BW X f as st v al
variable{f:d8}{as:ac bv}{a7:c7}{n:Nat}{v:bv}{al:ao}
def adm{K:d8->dT}{st:ao}(h:(∃v al,(K f).r as st v al/\gD X f ⟨as,st,v,al⟩)\/∃v al,(K f).p as st v al/\BW X f as st v al):
 (∃v al,cm X K f as st=some (.ret v al false)/\(K f).r as st v al)\/∃v al,cm X K f as st=some (.aY v al false)/\(K f).p as st v al:=by
 by_cases hp:∃p:bv×ao,(K f).r as st p.1 p.2/\gD X f ⟨as,st,p.1,p.2⟩
 .exact .inl<|xd ⟨_,_,hp.choose_spec.1,hp.choose_spec.2⟩
 .obtain⟨v,al,Y,G⟩|⟨v,al,Y,G⟩:=h
  .exact absurd ⟨(v,al),Y,G⟩ hp
  .have aD:∃p:bv×ao,(K f).p as st p.1 p.2/\BW X f as st p.1 p.2:=⟨(v,al),Y,G⟩;refine .inr ⟨(Classical.choose aD).1,(Classical.choose aD).2,?_,(Classical.choose_spec aD).1⟩;rw[cm,dif_neg hp,uN aD]
def bz:Nat:=4611686018427387904
theorem Kb{aV:ar c7}(J:Good X)(o:l8 X aV){K:d8->dT}(O:aV.get f=some a7){st:ao}
 (h:iF (cf aV (cm X K) n) n f a7 as none st= .ret v al false):gD X f ⟨as,st,v,al⟩:=by
 have⟨Fn,c,ok⟩:=o f a7 O;have⟨T,C⟩:=w3 J o (BX K) n;intro L W w D hw;refine⟨ok.enters,λg bu aw=>?_⟩
 grind [JD,w1]
theorem adn{aV:ar c7}(J:Good X)(o:l8 X aV){K:d8->dT}(O:aV.get f=some a7){st:ao}
 (h:iF (cf aV (cm X K) n) n f a7 as none st= .aY v al false):BW X f as st v al:=by
 have⟨Fn,c,ok⟩:=o f a7 O;have⟨T,C⟩:=w3 J o (BX K) n;intro L W w D hw;refine⟨ok.enters,λg bu aw=>?_⟩
 grind [JD,w1]
structure sO(I:aO):Prop where
 di:I.di=[]
 aY:I.aY=none
 cU:I.cU=false
variable{call:bR}{ld:bv->ao->Prop}
def sO.put{I:aO}(h:sO I)(d:be Tmp)(v:bv):sO (I.put d v):=by
 have⟨Y,G,C,N⟩:=re I d v;exact⟨Y.trans h.di,G.trans h.aY,C.trans h.cU⟩
def en(as:ac bv):aO:=⟨lF as 0 .nil,[],none,false,none⟩
def sO.zero(as:ac bv):sO (en as):=sA
def FH{st:ao}(aI:as.length<=a7.aR)
 (h:W (dh call n f a7.body (en as) st) λe I al=>(e= .norm\/e= .ret)/\∃v,fS call a7.res none I al= .ret v al false/\ld v al):
 ∃v al,iF call n f a7 as none st= .ret v al false/\ld v al:=by
 have⟨e,I,al,Y,he,v,G,C⟩:=h;refine⟨v,al,?_,C⟩;rw[iF];rw[l0,aA<|by rwa [fi]];show cO.rec (motive:=λ_=>ev) _ _ (dh call n f a7.body (en as) st)=_;rw[Y];obtain rfl|rfl:=he
 .exact G
 .exact G
def Kc{aV:ar c7}(J:Good X)(o:l8 X aV)(K:d8->dT)(O:aV.get f=some a7){S:Spec}(aI:∀l as st,S.pre l as st->as.length<=a7.aR)
 (h:∀l as st,S.pre l as st->W (dh (cf aV (cm X K)<|bz+1) (bz+1) f a7.body (en as) st)
  (λe I al=>(e= .norm\/e= .ret)/\∃v,fS (cf aV (cm X K)<|bz+1) a7.res none I al= .ret v al false/\S.post l as st v al)):eb X f S:=by
 intro as st ⟨l,hp⟩;have⟨v,al,Y,G⟩:=FH (aI l as st hp)<|h l as st hp;refine⟨v,al,λE A=>?_,Kb J o O Y⟩;have⟨v2,L,V,B⟩:=FH (aI E as st A)<|h E as st A;rw[Y]at V;cases V;exact B
def FI{st:ao}{Kd:bv->ao->Prop}(aI:as.length<=a7.aR)
 (h:W (dh call n f a7.body (en as) st) λe I al=>((e= .norm\/e= .ret)/\∃v,fS call a7.res none I al= .ret v al false/\ld v al)\/∃v,e= .aY v/\fS call a7.res (some v) I al= .aY v al false/\Kd v al):
 (∃v al,iF call n f a7 as none st= .ret v al false/\ld v al)\/∃v al,iF call n f a7 as none st= .aY v al false/\Kd v al:=by
 have⟨e,I,al,Y,h⟩:=h;have aa:iF call n f a7 as none st=cO.rec (λe I st=>c6.rec (fS call a7.res none I st) (λ_=>.no) (fS call a7.res none I st) (λv=>fS call a7.res (some v) I st) e) .no (dh call n f a7.body (en as) st):=by
  rw[iF,l0,aA<|by rw[fi];exact aI];rfl
 rw[Y]at aa;obtain⟨A,v,G,C⟩|⟨v,rfl,G,C⟩:=h
 .refine .inl ⟨v,al,aa.trans ?_,C⟩;obtain rfl|rfl:=A
  .exact G
  .exact G
 .exact .inr ⟨v,al,aa.trans G,C⟩
def ado{aV:ar c7}(J:Good X)(o:l8 X aV)(K:d8->dT)(O:aV.get f=some a7){S:xe}(aI:∀l as st,S.pre l as st->as.length<=a7.aR)
 (h:∀l as st,S.pre l as st->W (dh (cf aV (cm X K)<|bz+1) (bz+1) f a7.body (en as) st)
  (λe I al=>((e= .norm\/e= .ret)/\∃v,fS (cf aV (cm X K)<|bz+1) a7.res none I al= .ret v al false/\S.post l as st v al)\/∃v,e= .aY v/\fS (cf aV (cm X K)<|bz+1) a7.res (some v) I al= .aY v al false/\S.Ka l as st v al)):l9 X f S:=by
 intro as st ⟨l,hp⟩;obtain⟨v,al,Y,G⟩|⟨v,al,Y,G⟩:=FI (aI l as st hp)<|h l as st hp
 .refine .inl ⟨v,al,λE A=>?_,Kb J o O Y⟩;obtain⟨N,L,V,B⟩|⟨N,L,V,B⟩:=FI (aI E as st A)<|h E as st A
  .rw[Y]at V;cases V;exact B
  .rw[Y]at V;cases V
 .refine .inr ⟨v,al,λE A=>?_,adn J o O Y⟩;obtain⟨N,L,V,B⟩|⟨N,L,V,B⟩:=FI (aI E as st A)<|h E as st A
  .rw[Y]at V;cases V
  .rw[Y]at V;cases V;exact B
section
variable{call:bR}{I:aO}{st:ao}{x y i:ce}
def lf{β:Type}(cs:ac bv)(e:d7)(b1:Nat×Nat)(aW:Bool)(k:ac bv->d7->Nat×Nat->Bool->β)(z:β):yr (some<|.cells cs e b1 aW) k z=k cs e b1 aW:=rfl
end
def hr:ac Nat->ac Nat
 |[]=>[]
 |d::aU=>match hr aU with
  |[]=>if d=0 then[]else[d]
  |r=>d::r
end Go.bI
namespace Go.bI
open Sym
section
variable{call:bR}{I:aO}{st:ao}{Q:c6->aO->ao->Prop}{a8:Nat}{fn:d8}
variable{ops:ac (bt×cz)}{fx:tn}{cG:ac (ar bG)}{c a:ce}{t:Bool}{u:bv}{n:Int}
theorem O{aF:ac Tmp}{j:Tmp}{x:bv}(h:I.aq (.tmp j)=x)(a3:aF.contains j=true:=by rfl):(I.only aF).aq (.tmp j)=x:=by grind [BS,PT]
def adp{o J ms:ac Nat}(h:W (hn call (ss call ms<|dK ops) ops [st.h] (qc I J) st) Q):W (dh call a8 fn (.q5 ops o J ms) I st) Q:=h
def Q9(h:Q .norm I st):W (hn call fx [] cG I st) Q:=.mk h
theorem Ra{R:dm}{f:aO}{v:bv}{ag:Nat}:∀(n:Nat) (cG:ac (ar bG)),n<=cG.length->(∀h∈cG.take n,∃N J,bD call R f ⟨h,ag⟩= .ok v N J)->sameAt call R f v ag n cG=true
 |0,_,_,_=>rfl
 |n+1,[],h,_=>by simp at h
 |n+1,h::cG,aI,cl=>by
  have⟨N,J,e⟩:=cl h az;show a2.rec (λg _ _=>cond (dE v g) (sameAt call R f v ag n cG) false) (λ_ _=>false) false (bD call R f ⟨h,ag⟩)=true;rw[e];show cond (dE v v) (sameAt call R f v ag n cG) false=true;rw[pt];exact Ra n cG as4 λD hm=>cl D<|by simp[hm]
def adq{R:dm}{d:be Tmp}{aF:ac Tmp}{back:Nat}{v:bv}(D:∀h∈st.h::cG.take (back+1),bD call R (I.only aF) ⟨h,st.ag⟩= .ok v (I.only aF) ⟨h,st.ag⟩)(aI:back<cG.length)
 (k:W (hn call fx ops cG (I.put d v) st) Q):W (hn call fx ((⟨d,R,none⟩,.read back aF)::ops) cG I st) Q:=by
 refine W.of_eq ?_ k;show jI I.t aF (λt=>hl ⟨t,[],none,false,none⟩ none
  (a2.rec (λv _ _=>cond (sameAt call R ⟨t,[],none,false,none⟩ v st.ag (Nat.succ back) cG) (hn call fx ops cG (I.put d v) st) .no) (λ_ _=>.no) .no<|bD call R ⟨t,[],none,false,none⟩ st)
  (hn call fx ops cG (I.put d undef) st) .no)=_
 rw[oH];have e:=D st.h az;have e:bD call R ⟨E9 I.t aF,[],none,false,none⟩ st= .ok v (I.only aF) st:=e;rw[e];show cond (sameAt call R (I.only aF) v st.ag (Nat.succ back) cG) _ _=_;rw[Ra _ _ J λh hm=>⟨_,_,D h<|by simp[hm]⟩];rfl
def adr{b:ce}(ah:I.aq c= .bool t)(aN:t=true)(bK:I.aq a=u):bD call (.pick c a b) I st= .ok u I st:=by
 rw[Q5,ah,bK,aN];rfl
def ads{b:ce}(ah:I.aq c= .bool t)(aN:t=false)(aa:I.aq b=u):bD call (.pick c a b) I st= .ok u I st:=by
 rw[Q5,ah,aa,aN];rfl
def BY{x i:ce}{bw id N n m j:Nat}{k:f5}(h:I.aq x= .slice (some ⟨id,N,none⟩) n m)(D:I.aq i= .int k (j:Int))(a3:j<n):
 bD call (.jd bw x i) I st= .ok (.pointer<|some ⟨id,N+j*bw,none⟩) I st:=by
 rw[adk h D J J,tb];congr 3;rw[Addr.add];split
 .rename_i T;rw[T];rfl
 .rfl
def j9(h: -9223372036854775808<=n)(D:n<9223372036854775808):IntKind.i64.wrap n=n:=by
 rw[<-lC];show wD 18446744073709551616 9223372036854775808 n=n;rw[yl _ _ _ av];split<;>omega
theorem Ke(h:0<=n)(D:n<18446744073709551616):IntKind.u64.wrap n=n:=by
 rw[<-lC];show yk 18446744073709551616 n=n;rw[sl _ _ av];omega
end
abbrev Env:=ac<|Nat×bv
def oN:Env->Nat->be bv
 |[],_=>none
 |p::l,j=>cond (Nat.beq p.1 j) (some p.2)<|oN l j
def Rb(e:Env):ce->be bv
 |.tmp j=>oN e j
 |.const v=>some v
 |.global g=>some (.pointer<|some ⟨g,0,none⟩)
 |.func f=>some<|.func (.func f) #[] #[]
def Kf(e:Env):ac ce->be (ac bv)
 |[]=>some []
 |x::xs=>match Rb e x,Kf e xs with
  |some v,some ab=>some (v::ab)
  |_,_=>none
structure Fr(I:aO)(e:Env):Prop where
 pl:sO I
 get:∀j v,oN e j=some v->I.tmp j=v
variable{I:aO}{e:Env}
theorem Fr.aq(h:Fr I e){x:ce}{v:bv}(O:Rb e x=some v):I.aq x=v:=by
 cases x with
 |tmp j=>exact h.get j v O
 |const w=>cases O;rfl
 |global g=>cases O;rfl
 |func f=>cases O;rfl
theorem Fr.dt{I:aO}{e:Env}(h:Fr I e):∀{xs:ac ce} {ab:ac bv},Kf e xs=some ab->dt I xs=ab
 |[],ab,O=>by cases O;rfl
 |x::xs,ab,O=>by
  unfold Kf at O;split at O
  .rename_i v G aE aK;cases O;rw[Q2,h.aq aE,h.dt aK]
  .cases O
def Fr.put(h:Fr I e)(d:Tmp)(v:bv):Fr (I.put (some d) v) ((d,v)::e):=by
 refine⟨h.pl.put _ _,λj w A=>?_⟩;unfold oN at A;rw[tB];cases aa:Nat.beq d j with
 |true=>
  rw[aa]at A;rw[aA (dy aa).symm];exact Option.some.inj A
 |false=>
  exact aqE
def Fr.y1(h:Fr I e)(v:bv):Fr (I.put none v) e:=h
def dZ(L:ac Nat)(e:Env):Env:=e.filter λp=>L.any<|Nat.beq p.1
theorem FJ(L:ac Nat):∀(e:Env) (j:Nat) (v:bv),oN (dZ L e) j=some v->oN e j=some v
 |[],_,_,h=>by cases h
 |p::e,j,v,h=>by
  unfold dZ at h;rw[wb]at h;unfold oN;split at h
  .unfold oN at h;cases aa:Nat.beq p.1 j with
   |true=>rw[aa]at h;exact h
   |false=>rw[aa]at h;exact FJ L e j v h
  .rename_i aj;cases aa:Nat.beq p.1 j with
   |true=>
    exfalso;have a3:∀e:Env,oN (dZ L e) j≠some v:=by
     intro e
     induction e with
     |nil=>intro h;cases h
     |cons q e U=>
      unfold dZ;rw[wb];split
      .rename_i aD;unfold oN;cases ah:Nat.beq q.1 j with
       |true=>
        exfalso;rw[dy ah,<-dy aa]at aD;exact aj aD
       |false=>exact U
      .exact U
    exact a3 e h
   |false=>exact FJ L e j v h
theorem Fr.dZ{I:aO}{e:Env}(h:Fr I e)(L:ac Nat):Fr I (dZ L e):=⟨h.pl,λj v A=>h.get j v<|FJ L e j v A⟩
abbrev adt:=c6->Env->ao->Prop
end Go.bI
namespace Go.bI
open Sym
variable{X:Ctx}
theorem Kg:∀(ab:ac bv) (i:Nat) (t:ar bv) (j:Nat),(lF ab i t).get j=if i<=j/\j<i+ab.length then ab[j-i]? else t.get j
 |[],i,t,j=>by rw[au az];rfl
 |v::ab,i,t,j=>by
  have e:lF (v::ab) i t=lF ab (i+1) (t.set i v):=by
   show ar.jc (Nat.succ i) t i v (λt=>lF ab (Nat.succ i) t)=_;rw[ar.wN]
  rw[e,Kg ab (i+1) _ j,ar.eP];by_cases E:j=i
  .subst E;rw[au J,aA o,aA az];simp
  .rw[au E];by_cases Y:i+1<=j/\j<i+1+ab.length
   .rw[aA Y,aA ep];have:j-i=(j-(i+1))+1:=by omega
    rw[this];simp
   .rw[au Y,au ep]
def FK:Nat->ac bv->Env
 |_,[]=>[]
 |i,v::ab=>(i,v)::FK (i+1) ab
theorem Rc:∀(ab:ac bv) (i j:Nat) (v:bv),oN (FK i ab) j=some v->i<=j/\ab[j-i]? =some v
 |[],_,_,_,h=>by cases h
 |w::ab,i,j,v,h=>by
  unfold FK oN at h;cases aa:Nat.beq i j with
  |true=>
   rw[aa]at h;have:=dy aa;subst this;cases h;exact⟨c4 _,az⟩
  |false=>
   rw[aa]at h;obtain⟨Y,G⟩:=Rc ab (i+1) j v h;refine⟨J,?_⟩;have:j-i=(j-(i+1))+1:=J
   rw[this];simpa using G
def Fr.zero(ab:ac bv):Fr (en ab) (FK 0 ab):=by
 refine⟨sO.zero _,λj v h=>?_⟩;obtain⟨_,G⟩:=Rc ab 0 j v h;have A:j<ab.length:=by
  rcases fW j ab.length with h|h
  .exact h
  .rw[td J]at G;cases G
 show Option.rec (motive:=λ_=>bv) _ _ ((lF ab 0 .nil).get j)=v;rw[Kg,aA J,G]
end Go.bI
namespace Go.bI
open Sym
section
variable{call:bR}{I:aO}{st:ao}{x y i:ce}
variable{k:f5}{m n:Nat}
def y2{op:BinOp}{m n:Int}{v:bv}(aE:op≠.shl)(aK:op≠.shr)(h:I.aq x= .int k m)(D:I.aq y= .int k n)(Z:sz op k m n=some v):bD call (.bin op x y) I st= .ok v I st:=by
 rw[BV,h,D,acZ];have:AV op k m k n (λv=>a2.ok v I st)=cond (j5 k k) (AT op k m n λv=>a2.ok v I st) .no:=by
  cases op<;>first|rfl|(exact absurd o aE)|(exact absurd o aK)
 rw[this,ac1,Pc,Z];rfl
def Rd(h:I.aq x= .int k (m:Int))(D:I.aq y= .int k (n:Int))(aj:n≠0):bD call (.bin .quo x y) I st= .ok (.int k<|k.wrap ((m/n:Nat):Int)) I st:=
 y2 av av h D (by
  show(if(n:Int)=0 then none else _)=_;rw[au J];rfl)
def adu(h:I.aq x= .int k (m:Int))(D:I.aq y= .int k (n:Int))(aj:n≠0):bD call (.bin .rem x y) I st= .ok (.int k ((m%n:Nat):Int)) I st:=
 y2 av av h D (by
  show(if(n:Int)=0 then none else _)=_;rw[au J];rfl)
end
theorem Kh(L:ac Nat):∀(e:Env) (j:Nat) (v:bv),oN (dZ L e) j=some v->L.contains j=true
 |[],_,_,h=>by cases h
 |p::e,j,v,h=>by
  unfold dZ at h;rw[wb]at h;by_cases hp:L.any (Nat.beq p.1)=true
  .rw[aA hp]at h;unfold oN at h;cases aa:Nat.beq p.1 j with
   |true=>
    have:=dy aa;subst this;obtain⟨x,O,g⟩:=List.any_eq_true.1 hp;rw[dy g];simpa using O
   |false=>rw[aa]at h;exact Kh L e j v h
  .rw[au hp]at h;exact Kh L e j v h
def Fr.only{I:aO}{e:Env}(h:Fr I e)(aF:ac Tmp):Fr (I.only aF) (Go.bI.dZ aF e):=
 ⟨sA,λj v A=>O (h.get j v<|FJ aF e j v A)<|Kh aF e j v A⟩
section
variable{call:bR}{a8:Nat}{fn:d8}{e:Env}{st:ao}{Q:adt}
variable{I:aO}{t:Tmp}{yes rC z:cO}
def Ki{b:Bool}(h:I.tmp t= .bool b):hl I (some (t,b)) yes rC z=yes:=by
 show kj (I.tmp t) (λc=>cond c (cond b yes rC)<|cond b rC yes) _=_;rw[h];cases b<;>rfl
def adv{b:Bool}(h:I.tmp t= .bool (!b)):hl I (some (t,b)) yes rC z=rC:=by
 show kj (I.tmp t) (λc=>cond c (cond b yes rC)<|cond b rC yes) _=_;rw[h];cases b<;>rfl
end
end Go.bI
namespace Go.bI
structure BZ where
 P:(Nat->be bG)->bv->Prop
 mono:∀{H bB:Nat->be bG},(∀b R,H b=some R->bB b=some R)->∀{v},P H v->P bB v
 Re:Bool
 ok:Re=true->∀H v,P H v->nL v=true
inductive ai:Type 1
 |i (k:IntKind) (n:Int)
 |b (t:Bool)
 |s (l:List UInt8)
 |nl
 |v (x:Value)
 |p (k R:Nat)
 |fb (k z j R:Nat)
 |aL (k z R n c:Nat)
 |bs (z:Nat) (α:Type) (ak:α->List ai) (l:List α)
 |gq (z:Nat) (α:Type) (ak:α->List ai) (l:List α)
 |b8 (z:Nat) (α:Type) (ak:α->List ai) (l:List α)
 |ip (cs:List ai)
 |mp (k:Nat)
 |g (p:BZ)
 |fn (f:Fn) (b6 cs:List ai)
 |agg (cs:List ai)
 |br (cs:List ai)
 |bad
abbrev bm:=Nat->be bG
mutual
def den(H:bm):ai->ac Nat->bv->Prop
 |.i k n,_,v=>v= .int k n
 |.b t,_,v=>v= .bool t
 |.s l,_,v=>v= .string ⟨⟨l⟩⟩
 |.nl,_,v=>v= .slice none 0 0
 |.v x,_,v=>v=x
 |.p k R,ids,v=>∃b,ids[k]? =some b/\v= .pointer (some ⟨b,R,none⟩)
 |.fb k z j R,ids,v=>∃b,ids[k]? =some b/\v= .pointer (some ⟨b,j*z+R,none⟩)
 |.aL k z R n c,ids,v=>∃b,ids[k]? =some b/\v= .slice (some ⟨b,R*z,none⟩) n c
 |.bs z _ ak l,_,v=>(l=[]/\v= .slice none 0 0)\/∃b R c ab el b1 aW,v= .slice (some ⟨b,R,none⟩) l.length c/\l.length<=c/\H b=some (.cells ab el b1 aW)/\∀i x,l[i]? =some x->cT H (ak x) [] ((ab.drop<|R+i*z).take z)
 |.gq z _ ak l,_,v=>(l=[]/\v= .slice none 0 0)\/(l≠[]/\∃b R c ab el b1 aW,v= .slice (some ⟨b,R,none⟩) l.length c/\l.length<=c/\H b=some (.cells ab el b1 aW)/\∀i x,l[i]? =some x->cT H (ak x) [] ((ab.drop<|R+i*z).take z))
 |.b8 z _ ak l,_,v=>(l=[]/\v= .chan none)\/(l=[]/\v= .slice none 0 0)\/∃b R c ab el b1 aW,v= .slice (some ⟨b,R,none⟩) l.length c/\l.length<=c/\H b=some (.cells ab el b1 aW)/\∀i x,l[i]? =some x->cT H (ak x) [] ((ab.drop<|R+i*z).take z)
 |.ip cs,_,v=>∃b R ab el b1 aW,v= .pointer (some ⟨b,R,none⟩)/\H b=some (.cells ab el b1 aW)/\cT H cs [] ((ab.drop R).take cs.length)
 |.mp k,ids,v=>∃b,ids[k]? =some b/\v= .map (some b)
 |.g p,_,v=>p.P H v
 |.fn f b6 cs,ids,v=>∃ab G,v= .func f ⟨ab⟩ ⟨G⟩/\cT H b6 ids ab/\cT H cs ids G
 |.agg cs,ids,v=>∃ab,v= .agg ⟨ab⟩/\cT H cs ids ab
 |.br cs,ids,v=>∃ab,v= .tuple ⟨ab⟩/\cT H cs ids ab
 |.bad,_,_=>False
def cT(H:bm):ac ai->ac Nat->ac bv->Prop
 |[],_,ab=>ab=[]
 |c::cs,ids,ab=>∃v G,ab=v::G/\den H c ids v/\cT H cs ids G
end
def cL(H Z:bm):Prop:=∀b R,H b=some R->Z b=some R
def cL.refl(H:bm):cL H H:=λ_ _ h=>h
theorem cL.trans{H Z g:bm}(h:cL H Z)(D:cL Z g):cL H g:=λb R e=>D b R<|h b R e
def ck(i j:ac Nat):Prop:=∀k b:Nat,i[k]? =some b->j[k]? =some b
def ck.refl(i:ac Nat):ck i i:=λ_ _ h=>h
def ck.nil(i:ac Nat):ck [] i:=λk b h=>by simp at h
theorem ck.app(i j:ac Nat):ck i (i++j):=λk b h=>by
 grind
mutual
theorem iU{H Z:bm}(h:cL H Z):∀(a:ai) {i j:ac Nat} {v:bv},ck i j->den H a i v->den Z a j v
 |.i _ _,_,_,_,_,d=>d
 |.b _,_,_,_,_,d=>d
 |.s _,_,_,_,_,d=>d
 |.nl,_,_,_,_,d=>d
 |.v _,_,_,_,_,d=>d
 |.p _ _,_,_,_,af,⟨b,e,d⟩=>⟨b,af _ _ e,d⟩
 |.fb _ _ _ _,_,_,_,af,⟨b,e,d⟩=>⟨b,af _ _ e,d⟩
 |.aL _ _ _ _ _,_,_,_,af,⟨b,e,d⟩=>⟨b,af _ _ e,d⟩
 |.bs _ _ _ _,_,_,_,_,.inl d=>.inl d
 |.bs _ _ ak _,_,_,_,_,.inr ⟨b,R,c,ab,el,b1,aW,U,h4,A,B⟩=>.inr atc
 |.gq _ _ _ _,_,_,_,_,.inl d=>.inl d
 |.gq _ _ ak _,_,_,_,_,.inr ⟨aj,b,R,c,ab,el,b1,aW,U,h4,A,B⟩=>.inr ⟨aj,b,R,c,ab,el,b1,aW,U,h4,h _ _ A,λi x O=>lM h (ak x) aoN<|B i x O⟩
 |.b8 _ _ _ _,_,_,_,_,.inl d=>.inl d
 |.b8 _ _ _ _,_,_,_,_,.inr (.inl d)=>.inr (.inl d)
 |.b8 _ _ ak _,_,_,_,_,.inr (.inr ⟨b,R,c,ab,el,b1,aW,U,h4,A,B⟩)=>.inr (.inr atc)
 |.ip cs,_,_,_,_,⟨b,R,ab,el,b1,aW,U,h4,A⟩=>⟨b,R,ab,el,b1,aW,U,h _ _ h4,lM h cs aoN A⟩
 |.mp _,_,_,_,af,⟨b,e,d⟩=>⟨b,af _ _ e,d⟩
 |.g p,_,_,_,_,d=>p.mono h d
 |.fn _ b6 cs,_,_,_,af,⟨ab,G,e,W,F⟩=>⟨ab,G,e,lM h b6 af W,lM h cs af F⟩
 |.agg cs,_,_,_,af,⟨ab,e,d⟩=>⟨ab,e,lM h cs af d⟩
 |.br cs,_,_,_,af,⟨ab,e,d⟩=>⟨ab,e,lM h cs af d⟩
 |.bad,_,_,_,_,d=>d.elim
theorem lM{H Z:bm}(h:cL H Z):∀(a:ac ai) {i j:ac Nat} {v:ac bv},ck i j->cT H a i v->cT Z a j v
 |[],_,_,_,_,d=>d
 |a::as,_,_,_,af,⟨v,G,e,W,F⟩=>⟨v,G,e,iU h a af W,lM h as af F⟩
end
mutual
def jQ(f:ac Nat):ai->ai
 |.p k R=>match f[k]? with|some j=>.p j R|none=>.bad
 |.fb k z j R=>match f[k]? with|some m=>.fb m z j R|none=>.bad
 |.aL k z R n c=>match f[k]? with|some m=>.aL m z R n c|none=>.bad
 |.mp k=>match f[k]? with|some m=>.mp m|none=>.bad
 |.g p=>.g p
 |.fn g b6 cs=>.fn g (kM f b6) (kM f cs)
 |.agg cs=>.agg (kM f cs)
 |.br cs=>.br (kM f cs)
 |.i k n=>.i k n
 |.b t=>.b t
 |.s l=>.s l
 |.nl=>.nl
 |.v x=>.v x
 |.bs z α ak l=>.bs z α ak l
 |.gq z α ak l=>.gq z α ak l
 |.b8 z α ak l=>.b8 z α ak l
 |.ip cs=>.ip cs
 |.bad=>.bad
def kM(f:ac Nat):ac ai->ac ai
 |[]=>[]
 |a::as=>jQ f a::kM f as
end
def pick(f ids:ac Nat):ac Nat:=f.map λk=>(ids[k]?).getD 0
def tD{f ids:ac Nat}{k m b:Nat}(D:f[k]? =some m)(aa:ids[m]? =some b):(pick f ids)[k]? =some b:=by
 rw[pick,we,D];simp[aa]
mutual
theorem Kj{H:bm}(f:ac Nat){ids:ac Nat}:∀(a:ai) {v:bv},den H (jQ f a) ids v->den H a (pick f ids) v
 |.i _ _,_,d=>d
 |.b _,_,d=>d
 |.s _,_,d=>d
 |.nl,_,d=>d
 |.v _,_,d=>d
 |.p k R,v,d=>by
  unfold jQ at d;cases h:f[k]? with
  |none=>rw[h]at d;exact d.elim
  |some j=>exact apa
 |.fb k z j R,v,d=>by
  unfold jQ at d;cases h:f[k]? with
  |none=>rw[h]at d;exact d.elim
  |some j=>exact apa
 |.aL k z R n c,v,d=>by
  unfold jQ at d;cases h:f[k]? with
  |none=>rw[h]at d;exact d.elim
  |some j=>exact apa
 |.bs _ _ _ _,_,d=>d
 |.gq _ _ _ _,_,d=>d
 |.b8 _ _ _ _,_,d=>d
 |.ip _,_,d=>d
 |.mp k,v,d=>by
  unfold jQ at d;cases h:f[k]? with
  |none=>rw[h]at d;exact d.elim
  |some j=>exact apa
 |.g _,_,d=>d
 |.fn _ b6 cs,_,⟨ab,G,e,W,F⟩=>⟨ab,G,e,tE f b6 W,tE f cs F⟩
 |.agg cs,_,⟨ab,e,d⟩=>⟨ab,e,tE f cs d⟩
 |.br cs,_,⟨ab,e,d⟩=>⟨ab,e,tE f cs d⟩
 |.bad,_,d=>d.elim
theorem tE{H:bm}(f:ac Nat){ids:ac Nat}:∀(a:ac ai) {v:ac bv},cT H (kM f a) ids v->cT H a (pick f ids) v
 |[],_,d=>d
 |a::as,_,⟨v,G,e,W,F⟩=>⟨v,G,e,Kj f a W,tE f as F⟩
end
mutual
def h3:ai->Bool
 |.p _ _|.fb _ _ _ _|.aL _ _ _ _ _|.mp _=>false
 |.fn _ b6 cs=>g0 b6&&g0 cs
 |.agg cs=>g0 cs
 |.br cs=>g0 cs
 |_=>true
def g0:ac ai->Bool
 |[]=>true
 |a::as=>h3 a&&g0 as
end
mutual
theorem tF{H:bm}{ids:ac Nat}:∀(a:ai) {v:bv},h3 a=true->den H a ids v->∀j,den H a j v
 |.i _ _,_,_,d,_=>d
 |.b _,_,_,d,_=>d
 |.s _,_,_,d,_=>d
 |.nl,_,_,d,_=>d
 |.v _,_,_,d,_=>d
 |.p _ _,_,h,_,_=>by cases h
 |.fb _ _ _ _,_,h,_,_=>by cases h
 |.aL _ _ _ _ _,_,h,_,_=>by cases h
 |.bs _ _ _ _,_,_,d,_=>d
 |.gq _ _ _ _,_,_,d,_=>d
 |.b8 _ _ _ _,_,_,d,_=>d
 |.ip _,_,_,d,_=>d
 |.mp _,_,h,_,_=>by cases h
 |.g _,_,_,d,_=>d
 |.fn _ b6 cs,_,h,⟨ab,G,e,W,F⟩,j=>by
  have h:(g0 b6&&g0 cs)=true:=h;rw[cQ]at h;exact⟨ab,G,e,pD b6 h.1 W j,pD cs h.2 F j⟩
 |.agg cs,_,h,⟨ab,e,d⟩,j=>⟨ab,e,pD cs h d j⟩
 |.br cs,_,h,⟨ab,e,d⟩,j=>⟨ab,e,pD cs h d j⟩
 |.bad,_,_,d,_=>d.elim
theorem pD{H:bm}{ids:ac Nat}:∀(a:ac ai) {v:ac bv},g0 a=true->cT H a ids v->∀j,cT H a j v
 |[],_,_,d,_=>d
 |a::as,_,h,⟨v,G,e,W,F⟩,j=>by
  have h:(h3 a&&g0 as)=true:=h;rw[cQ]at h;exact⟨v,G,e,tF a h.1 W j,pD as h.2 F j⟩
end
variable{v:bv}
def rD:ai->Bool
 |.v x=>nL x
 |.g p=>p.Re
 |.agg _|.br _|.bad=>false
 |_=>true
def pE:ac ai->Bool
 |[]=>true
 |a::as=>rD a&&pE as
def FL{H:bm}{ids:ac Nat}{a:ai}(h:rD a=true)(d:den H a ids v):nL v=true:=by
 cases a<;>first
  |(cases h;done)
  |(rename_i p;exact p.ok h _ _ d)
  |(rfl)
  |(rcases d with⟨_,rfl⟩|⟨b,R,c,_,_,_,_,rfl,_⟩<;>rfl)
  |(rcases d with⟨_,rfl⟩|⟨_,b,R,c,_,_,_,_,rfl,_⟩<;>rfl)
  |(rcases d with⟨_,rfl⟩|⟨_,rfl⟩|⟨b,R,c,_,_,_,_,rfl,_⟩<;>rfl)
  |(obtain⟨b,R,c,_,_,_,rfl,_⟩:=d;rfl)
  |(obtain⟨b,_,rfl,_⟩:=d;rfl)
  |(have Y:=d;subst Y;first|rfl|exact h)
def adw(h:nL v=true):h0 v=[v]:=by
 cases v<;>first|rfl|cases h
theorem B0{H:bm}{ids:ac Nat}:∀{as:ac ai} {ab:ac bv},pE as=true->cT H as ids ab->hk ab=true
 |[],_,_,d=>by cases d;rfl
 |a::as,_,h,⟨v,G,e,W,F⟩=>by
  subst e;have h:(rD a&&pE as)=true:=h;rw[cQ]at h;show cond (nL v) (hk G) false=true;rw[FL h.1 W,B0 h.2 F];rfl
theorem gr{H:bm}{ids:ac Nat}:∀{as:ac ai} {ab:ac bv},cT H as ids ab->ab.length=as.length
 |[],_,d=>by cases d;rfl
 |a::as,_,⟨v,G,e,W,F⟩=>by subst e;simp[gr F]
theorem tG{H:bm}{ids:ac Nat}:∀{as:ac ai} {ab:ac bv} {k:Nat} {a:ai},cT H as ids ab->as[k]? =some a->∃v,ab[k]? =some v/\den H a ids v
 |[],_,_,_,_,h=>by simp at h
 |a::as,_,0,_,⟨v,G,e,W,F⟩,h=>by subst e;simp at h;subst h;exact⟨v,o,W⟩
 |a::as,_,k+1,c,⟨v,G,e,W,F⟩,h=>by
  subst e;obtain⟨u,aE,aK⟩:=tG F apA;exact⟨u,by simpa using aE,aK⟩
theorem tH{H:bm}{ids:ac Nat}:∀{as bH:ac ai} {ab G:ac bv},cT H as ids ab->cT H bH ids G->cT H (as++bH) ids (ab++G)
 |[],_,_,_,d,Y=>by cases d;exact Y
 |a::as,_,_,_,⟨v,G,e,W,F⟩,Y=>by subst e;exact⟨v,_,o,W,tH F Y⟩
theorem nW{H:bm}{ids:ac Nat}:∀{as:ac ai} {ab:ac bv} (n:Nat),cT H as ids ab->cT H (as.drop n) ids (ab.drop n)
 |_,_,0,d=>d
 |[],_,n+1,d=>by cases d;exact o
 |a::as,_,n+1,⟨v,G,e,W,F⟩=>by subst e;exact nW n F
theorem sP{H:bm}{ids:ac Nat}:∀{as:ac ai} {ab:ac bv} (n:Nat),cT H as ids ab->cT H (as.take n) ids (ab.take n)
 |_,_,0,d=>rfl
 |[],_,n+1,d=>by cases d;exact o
 |a::as,_,n+1,⟨v,G,e,W,F⟩=>by subst e;exact⟨v,_,o,W,sP n F⟩
theorem Rf{H:bm}{ids:ac Nat}:∀{as:ac ai} {ab:ac bv} (n:Nat) {a:ai} {v:bv},cT H as ids ab->den H a ids v->cT H (as.set n a) ids (ab.set n v)
 |[],_,_,_,_,d,_=>by cases d;exact o
 |a::as,_,0,_,_,⟨v,G,e,W,F⟩,Y=>by subst e;exact⟨_,_,o,Y,F⟩
 |a::as,_,n+1,_,_,⟨v,G,e,W,F⟩,Y=>by subst e;exact⟨_,_,o,W,Rf n F Y⟩
def bX(a b:ai):Prop:=∀(H:bm) (i:ac Nat) (v:bv),den H a i v->den H b i v
variable{z:Nat}{α:Type}{a:ai}{as:ac ai}{l:ac α}
def fy:ac ai->ac ai->Prop
 |[],[]=>True
 |a::as,b::bH=>bX a b/\fy as bH
 |_,_=>False
def bX.refl(a:ai):bX a a:=λ_ _ _ d=>d
def bX.of{b:ai}(h:a=b):bX a b:=h▸bX.refl a
def fy.refl:∀l:ac ai,fy l l
 |[]=>trivial
 |a::as=>⟨bX.refl a,fy.refl as⟩
def fy.den{H:bm}{i:ac Nat}:∀{as bH:ac ai} {ab:ac bv},fy as bH->cT H as i ab->cT H bH i ab
 |[],[],_,_,d=>d
 |[],_::_,_,h,_=>h.elim
 |_::_,[],_,h,_=>h.elim
 |_::_,_::_,_,⟨aE,aK⟩,⟨v,G,e,W,F⟩=>⟨v,G,e,aE _ _ _ W,fy.den aK F⟩
def bX.agg{bH:ac ai}(h:fy as bH):bX (.agg as) (.agg bH):=λ_ _ _ ⟨ab,e,d⟩=>⟨ab,e,h.den d⟩
def bX.br{bH:ac ai}(h:fy as bH):bX (.br as) (.br bH):=λ_ _ _ ⟨ab,e,d⟩=>⟨ab,e,h.den d⟩
def bX.nl{ak:α->ac ai}:bX .nl (.bs z α ak []):=λ_ _ _ d=>.inl ⟨o,d⟩
def bX.ij{ak:α->ac ai}:bX .nl (.gq z α ak []):=λ_ _ _ d=>.inl ⟨o,d⟩
def bX.iH{ak:α->ac ai}(h:l≠[]):bX (.b8 z α ak l) (.bs z α ak l):=λ_ _ _ d=>d.elim (λd=>absurd d.1 h) id
def bX.b8{ak:α->ac ai}:bX (.bs z α ak l) (.b8 z α ak l):=λ_ _ _ d=>.inr d
def bX.FM{ak:α->ac ai}:bX (.gq z α ak l) (.bs z α ak l):=λ_ _ _ d=>d.elim .inl λd=>.inr d.2
def bX.gq{ak:α->ac ai}(h:l≠[]):bX (.bs z α ak l) (.gq z α ak l):=λ_ _ _ d=>d.elim .inl λd=>.inr ⟨h,d⟩
theorem bX.trans{b c:ai}(h:bX a b)(D:bX b c):bX a c:=λH i v d=>D H i v<|h H i v d
open Sym
section
abbrev bV:=ac<|Nat×ai
def dx:bV->Nat->be ai
 |[],_=>none
 |(i,a)::l,j=>cond (Nat.beq i j) (some a)<|dx l j
def mD(p:Nat×ai)(l:bV)(j:Nat):dx (p::l) j=cond (Nat.beq p.1 j) (some p.2) (dx l j):=rfl
def y3:bv->ai
 |.int k n=>.i k n
 |.bool t=>.b t
 |.string ⟨⟨l⟩⟩=>.s l
 |.slice none 0 0=>.nl
 |x=>.v x
def xf:ac bv->ac ai
 |[]=>[]
 |v::ab=>y3 v::xf ab
def fr:bv->ai
 |.agg ⟨l⟩=>.agg (xf l)
 |x=>y3 x
def adx(H:bm)(ids:ac Nat)(v:bv):den H (y3 v) ids v:=by
 unfold y3;split<;>rfl
theorem xg(H:bm)(ids:ac Nat):∀ab:ac bv,cT H (xf ab) ids ab
 |[]=>rfl
 |v::ab=>⟨v,ab,o,adx H ids v,xg H ids ab⟩
def Kk:bv->be ai
 |.agg ⟨l⟩=>some (.agg<|xf l)
 |.int k n=>some (.i k n)
 |.bool t=>some (.b t)
 |.string ⟨⟨l⟩⟩=>some (.s l)
 |.slice none 0 0=>some .nl
 |.tuple ⟨[]⟩=>some (.br [])
 |x=>some<|.v x
def ady(h:Kk v=some a)(H:bm)(ids:ac Nat):den H a ids v:=by
 unfold Kk at h;split at h<;>cases h
 .exact⟨_,o,xg H ids _⟩
 all_goals first|rfl|exact apm
def bb(e:bV):ce->be ai
 |.tmp j=>dx e j
 |.const v=>Kk v
 |.global g=>some (.v<|.pointer<|some ⟨g,0,none⟩)
 |.func f=>some<|.v<|.func (.func f) #[] #[]
def gM(e:bV):ac ce->be (ac ai)
 |[]=>some []
 |x::xs=>match bb e x with
  |some a=>match gM e xs with
   |some as=>some (a::as)
   |none=>none
  |none=>none
structure cY(I:aO)(H:bm)(ids:ac Nat)(e:bV):Prop where
 pl:sO I
 get:∀j a,dx e j=some a->den H a ids (I.tmp j)
variable{I:aO}{H:bm}{ids:ac Nat}{e:bV}
theorem cY.aq(h:cY I H ids e){x:ce}(O:bb e x=some a):den H a ids (I.aq x):=by
 cases x with
 |tmp j=>exact h.get j a O
 |const w=>exact ady O H ids
 |_=>cases O;rfl
theorem cY.dt{I:aO}{H:bm}{ids:ac Nat}{e:bV}(h:cY I H ids e):∀{xs:ac ce} {as:ac ai},gM e xs=some as->cT H as ids (dt I xs)
 |[],_,O=>by cases O;rfl
 |x::xs,_,O=>by
  rw[gM]at O;cases aE:bb e x with
  |none=>rw[aE]at O;cases O
  |some a=>
   cases aK:gM e xs with
   |none=>rw[aE,aK]at O;cases O
   |some as=>
    rw[aE,aK]at O;cases O;exact⟨_,_,o,h.aq aE,h.dt aK⟩
theorem cY.put(h:cY I H ids e)(d:Tmp)(Z:den H a ids v):cY (I.put (some d) v) H ids ((d,a)::e):=by
 refine⟨h.pl.put _ _,λj w A=>?_⟩;rw[mD]at A;rw[tB];cases aa:Nat.beq d j with
 |true=>
  simp_all
 |false=>
  exact aqE
def jt(d:Nat):bV->bV
 |[]=>[]
 |p::l=>cond (Nat.beq p.1 d) (jt d l)<|p::jt d l
theorem FN(d:Nat):∀(e:bV) (j:Nat) (a:ai),dx (jt d e) j=some a->j≠d/\dx e j=some a
 |[],_,_,h=>by cases h
 |p::e,j,a,h=>by
  rw[jt]at h;cases aa:Nat.beq p.1 d with
  |true=>
   rw[aa]at h;have⟨aE,aK⟩:=FN d e j a h;refine⟨aE,?_⟩;rw[mD];have:Nat.beq p.1 j=false:=by
    cases ah:Nat.beq p.1 j with
    |false=>rfl
    |true=>exact absurd ((dy ah).symm.trans<|dy aa) aE
   rw[this];exact aK
  |false=>
   rw[aa]at h;have h:cond (Nat.beq p.1 j) (some p.2) (dx (jt d e) j)=some a:=h;rw[mD];cases ah:Nat.beq p.1 j with
   |true=>
    grind
   |false=>rw[ah]at h;exact FN d e j a h
def cY.adz(h:cY I H ids e)(d:Tmp)(v:bv):cY (I.put (some d) v) H ids (jt d e):=by
 refine⟨h.pl.put _ _,λj w A=>?_⟩;have⟨Y,G⟩:=FN d e j w A;rw[tB,au Y];exact h.get j w G
def cY.mono{Z:bm}{F:ac Nat}(h:cY I H ids e)(cl:cL H Z)(af:ck ids F):cY I Z F e:=⟨h.pl,λj a A=>iU cl a af<|h.get j a A⟩
def eF(L:ac Nat):bV->bV
 |[]=>[]
 |p::l=>cond (L.any<|Nat.beq p.1) (p::eF L l)<|eF L l
theorem Kl(L:ac Nat):∀(e:bV) (j:Nat) (a:ai),dx (eF L e) j=some a->L.contains j=true/\dx e j=some a
 |[],_,_,h=>by cases h
 |p::e,j,a,h=>by
  rw[eF]at h;cases aa:L.any (Nat.beq p.1)with
  |true=>
   rw[aa]at h;have h:cond (Nat.beq p.1 j) (some p.2) (dx (eF L e) j)=some a:=h;rw[mD];cases ah:Nat.beq p.1 j with
   |true=>
    simp_all
   |false=>rw[ah]at h;exact Kl L e j a h
  |false=>
   rw[aa]at h;have⟨Y,G⟩:=Kl L e j a h;refine⟨Y,?_⟩;rw[mD]
   grind
def cY.only(h:cY I H ids e)(aF:ac Tmp):cY (I.only aF) H ids (eF aF e):=
 ⟨sA,λj a A=>by
  have⟨Y,G⟩:=Kl aF e j a A;have:=O (I:=I) o Y;rw[BS]at this;rw[this];exact h.get j a G⟩
def rE(op:BinOp)(k:f5)(a b:Int):be ai:=
 match op with
 |.add=>some (.i k<|k.wrap<|a+b)
 |.sub=>some (.i k<|k.wrap<|a-b)
 |.mul=>some (.i k<|k.wrap<|a*b)
 |.quo=>if b=0 then none else some (.i k<|k.wrap<|a.tdiv b)
 |.rem=>if b=0 then none else some (.i k<|a.tmod b)
 |.and=>some (.i k<|k.wrap (BitVec.ofInt k.bits a&&&BitVec.ofInt k.bits b).toNat)
 |.or=>some (.i k<|k.wrap (BitVec.ofInt k.bits a|||BitVec.ofInt k.bits b).toNat)
 |.xor=>some (.i k<|k.wrap (BitVec.ofInt k.bits a^^^BitVec.ofInt k.bits b).toNat)
 |.andNot=>some (.i k<|k.wrap (BitVec.ofInt k.bits a&&& ~~~(BitVec.ofInt k.bits b)).toNat)
 |.eql=>some (.b<|decide (a=b))
 |.neq=>some (.b<|decide (a≠b))
 |.lss=>some (.b<|decide (a<b))
 |.leq=>some (.b<|decide (a<=b))
 |.gtr=>some (.b<|decide (b<a))
 |.geq=>some (.b<|decide (b<=a))
 |_=>none
def y4(op:BinOp)(k:f5)(M:Nat)(a b:Int):be ai:=
 match op with
 |.add=>match a,b with
  |.ofNat m,.ofNat n=>some (.i k (((m+n)%M:Nat):Int))
  |a,b=>rE .add k a b
 |.sub=>match a,b with
  |.ofNat m,.ofNat n=>some (.i k (((m+(M*n-n))%M:Nat):Int))
  |a,b=>rE .sub k a b
 |.mul=>match a,b with
  |.ofNat m,.ofNat n=>some (.i k ((m*n%M:Nat):Int))
  |a,b=>rE .mul k a b
 |.quo=>match a,b with
  |.ofNat m,.ofNat n=>if n=0 then none else some (.i k ((m/n%M:Nat):Int))
  |a,b=>rE .quo k a b
 |.rem=>match a,b with
  |.ofNat m,.ofNat n=>if n=0 then none else some (.i k ((m%n:Nat):Int))
  |a,b=>rE .rem k a b
 |.and=>match a,b with
  |.ofNat m,.ofNat n=>some (.i k (((m%M)&&&(n%M):Nat):Int))
  |a,b=>rE .and k a b
 |.or=>match a,b with
  |.ofNat m,.ofNat n=>some (.i k (((m%M)|||(n%M):Nat):Int))
  |a,b=>rE .or k a b
 |op=>rE op k a b
def Km(op:BinOp)(k:f5)(a b:Int):be ai:=
 match k with
 |.u8=>y4 op .u8 256 a b
 |.u16=>y4 op .u16 65536 a b
 |.u32=>y4 op .u32 4294967296 a b
 |.u64=>y4 op .u64 18446744073709551616 a b
 |k=>rE op k a b
def y5(k:f5)(M:Nat)(n:Int):be ai:=
 match n with
 |.ofNat m=>some (.i k ((m%M:Nat):Int))
 |n=>some<|.i k<|k.wrap n
def Rg(k:f5)(n:Int):be ai:=
 match k with
 |.u8=>y5 .u8 256 n
 |.u16=>y5 .u16 65536 n
 |.u32=>y5 .u32 4294967296 n
 |.u64=>y5 .u64 18446744073709551616 n
 |k=>some<|.i k<|k.wrap n
def y6(k:f5)(M:Nat)(a b:Int):be ai:=
 match a,b with
 |.ofNat m,.ofNat n=>some (.i k ((m*2^n%M:Nat):Int))
 |_,_=>none
def Kn(k:f5)(a b:Int):be ai:=
 match b with
 |.ofNat n=>match Nat.ble n k.bits with
  |true=>some (.i k<|k.wrap<|a*2^n)
  |false=>none
 |_=>none
def Rh(k:f5)(a b:Int):be ai:=
 match k with
 |.u8=>y6 .u8 256 a b
 |.u16=>y6 .u16 65536 a b
 |.u32=>y6 .u32 4294967296 a b
 |.u64=>y6 .u64 18446744073709551616 a b
 |k=>Kn k a b
def Ko(k:f5)(a b:Int):be ai:=
 match b with
 |.ofNat n=>match Nat.ble n k.bits with
  |true=>match a with
   |.ofNat m=>some (.i k ((m/2^n:Nat):Int))
   |a=>some (.i k<|a.fdiv<|2^n)
  |false=>none
 |_=>none
def Ri(op:BinOp)(k gZ:f5)(a b:Int):be ai:=
 match op with
 |.shl=>Rh k a b
 |.shr=>Ko k a b
 |op=>match j5 k gZ with
  |true=>Km op k a b
  |false=>none
def Kp(op:BinOp):ai->ai->be ai
 |.i k a,.i gZ b=>Ri op k gZ a b
 |.s x,.s y=>match op with
  |.eql=>some (.b<|x==y)
  |.neq=>some (.b<|!(x==y))
  |_=>none
 |_,_=>none
def Kq(op:UnOp):ai->be ai
 |.i k n=>match op with
  |.neg=>some (.i k<|k.wrap<|-n)
  |.xor=>some (.i k<|k.wrap (BitVec.ofInt k.bits (if k.signed then -1 else k.max)^^^BitVec.ofInt k.bits n).toNat)
  |_=>none
 |.b t=>match op with
  |.not=>some (.b<|!t)
  |_=>none
 |_=>none
def nm(neg:Bool)(b:Bool):Bool:=cond neg (!b) b
def Kr(neg:Bool):q2->ai->ai->be ai
 |.yh,.b x,.b y=>some (.b<|nm neg<|x==y)
 |.yh,.i k x,.i gZ y=>match j5 k gZ with
  |true=>some (.b<|nm neg<|decide (x=y))
  |false=>none
 |.yh,.s x,.s y=>some (.b<|nm neg<|x==y)
 |.mu,.nl,.nl=>some (.b<|nm neg true)
 |.mu,.gq _ _ _ l,.nl=>some (.b<|nm neg l.isEmpty)
 |.mu,.aL _ _ _ _ _,.nl=>some (.b<|nm neg false)
 |.mu,.nl,.aL _ _ _ _ _=>some (.b<|nm neg false)
 |.ptr,.p _ _,.v (.pointer none)=>some (.b<|nm neg false)
 |.ptr,.fb _ _ _ _,.v (.pointer none)=>some (.b<|nm neg false)
 |.ptr,.ip _,.v (.pointer none)=>some (.b<|nm neg false)
 |.Ee,.fn _ _ _,.v .nilFunc=>some (.b<|nm neg false)
 |_,_,_=>none
def FO(e:bV)(k:f5):ac ce->Int->be ai
 |[],m=>some (.i k m)
 |x::xs,m=>match bb e x with
  |some (.i gZ y)=>match j5 k gZ with
   |true=>FO e k xs (max m y)
   |false=>none
  |_=>none
def FP(e:bV)(k:f5):ac ce->Int->be ai
 |[],m=>some (.i k m)
 |x::xs,m=>match bb e x with
  |some (.i gZ y)=>match j5 k gZ with
   |true=>FP e k xs (min m y)
   |false=>none
  |_=>none
def FQ{β:Type _}:ac ai->Nat->(ac ai->be β)->be β
 |_,0,K=>K []
 |[],_+1,_=>none
 |a::as,n+1,K=>FQ as n λr=>K<|a::r
def B1:ac ai->Nat->Bool
 |[],0=>true
 |_::as,n+1=>B1 as n
 |_,_=>false
def rF{β:Type _}(cs:ac ai)(R n:Nat)(K:ac ai->be β):be β:=
 match R with
 |0=>match B1 cs n with
  |true=>K cs
  |false=>FQ cs n K
 |R=>FQ (cs.drop R) n K
def FR(J:Bool):ac ai->be ai
 |[a]=>match J with
  |true=>some (.agg [a])
  |false=>some a
 |cs=>match J with
  |true=>some (.agg cs)
  |false=>none
def Ks(e:bV):dm->be ai
 |.jF x=>bb e x
 |.lB x=>bb e x
 |.bin op x y=>match bb e x with
  |some a=>match bb e y with
   |some b=>Kp op a b
   |none=>none
  |none=>none
 |.eqv neg t x y=>match bb e x with
  |some a=>match bb e y with
   |some b=>Kr neg t a b
   |none=>none
  |none=>none
 |.un op x=>match bb e x with
  |some a=>Kq op a
  |none=>none
 |.uZ k x=>match bb e x with
  |some (.i _ n)=>Rg k n
  |_=>none
 |.AL x=>match bb e x with
  |some (.s l)=>some (.s l)
  |_=>none
 |.sh f b6 cs=>match gM e b6 with
  |some as=>match gM e cs with
   |some bH=>some (.fn f as bH)
   |none=>none
  |none=>none
 |.sk x i=>match bb e x with
  |some (.br ab)=>ab[i]?
  |_=>none
 |.wB x=>match bb e x with
  |some .nl=>some (.i .i64 0)
  |some (.aL _ _ _ n _)=>some (.i .i64 (n:Int))
  |some (.bs _ _ _ l)=>some (.i .i64 (l.length:Int))
  |some (.gq _ _ _ l)=>some (.i .i64 (l.length:Int))
  |some (.b8 _ _ _ l)=>some (.i .i64 (l.length:Int))
  |_=>none
 |.wC x=>match bb e x with
  |some (.s l)=>some (.i .i64 (l.length:Int))
  |_=>none
 |.AN n=>some (.i .i64 (n:Int))
 |.q4 N x=>match bb e x with
  |some (.p k R)=>some (.p k<|R+N)
  |some (.fb k z j R)=>some (.fb k z j<|R+N)
  |some (.ip cs)=>some (.ip<|cs.drop N)
  |_=>none
 |.p7 N bw J x=>match bb e x with
  |some (.agg cs)=>rF cs N bw (FR J)
  |_=>none
 |.uY x=>match bb e x with
  |some (.p k R)=>some (.p k R)
  |some (.fb k z j R)=>some (.fb k z j R)
  |some (.ip cs)=>some (.ip cs)
  |some (.v<|.func (.func g) a b)=>some (.v<|.func (.func g) a b)
  |_=>none
 |.pick c x y=>match bb e c with
  |some (.b true)=>bb e x
  |some (.b false)=>bb e y
  |_=>none
 |.hc x xs=>match bb e x with
  |some (.i k n)=>FO e k xs n
  |_=>none
 |.AO x xs=>match bb e x with
  |some (.i k n)=>FP e k xs n
  |_=>none
 |_=>none
end
section
variable{call:bR}{I:aO}{x y i:ce}
variable{k:f5}
def Rj{gZ:f5}(h:j5 k gZ=true):k=gZ:=by cases k<;>cases gZ<;>first|rfl|cases h
def tI{op:BinOp}{a b:Int}{r:ai}(h:rE op k a b=some r)(aE:op≠.shl)(aK:op≠.shr)(O:I.aq x= .int k a)(N:I.aq y= .int k b):
 ∃v,(∀H ids,den H r ids v)/\∀st,bD call (.bin op x y) I st= .ok v I st:=by
 have key:∀v,sz op k a b=some v->(∀H ids,den H r ids v)->∃v,(∀H ids,den H r ids v)/\∀st,bD call (.bin op x y) I st= .ok v I st:=
  λv e d=>⟨v,d,λst=>y2 aE aK O N e⟩
 cases op<;>simp only[rE]at h
 case quo=>split at h<;>cases h;rename_i aa;exact key _ (by simp[sz,au aa]) λ_ _=>o
 case rem=>split at h<;>cases h;rename_i aa;exact key _ (by simp[sz,au aa]) λ_ _=>o
 all_goals first
  |(cases h;done)
  |(cases h;exact key _ o λ_ _=>o)
  |(cases h;exact key _ o λ_ _=>by congr 1;rw[p1];simp)
def xh(k:f5)(M:Nat):Prop:=(∀n:Int,k.wrap n=n%(M:Int))/\M=2^k.bits
variable{r:ai}{gZ:f5}{H:bm}{ids:ac Nat}{op:BinOp}{n M:Nat}{cs:ac ai}{R:Nat}
def Kt:xh .u8 256:=apB
def Ku:xh .u16 65536:=apB
def Kv:xh .u32 4294967296:=apB
def Kw:xh .u64 18446744073709551616:=apB
theorem FT(hQ:xh k M){a b:Int}(h:y4 op k M a b=some r)(aE:op≠.shl)(aK:op≠.shr)(O:I.aq x= .int k a)(N:I.aq y= .int k b):
 ∃v,(∀H ids,den H r ids v)/\∀st,bD call (.bin op x y) I st= .ok v I st:=by
 have hp:0<M:=by rw[hQ.2];exact sd _
 have key:∀v,sz op k a b=some v->(∀H ids,den H r ids v)->∃v,(∀H ids,den H r ids v)/\∀st,bD call (.bin op x y) I st= .ok v I st:=
  λv e d=>⟨v,d,λst=>y2 aE aK O N e⟩
 have vo:∀{m n:Int},m=n->∀(H:bm) ids,den H (.i k n) ids (.int k m):=λe _ _=>by rw[e];rfl
 have wn:∀n:Nat,k.wrap (n:Int)=↑(n%M):=λn=>by rw[hQ.1];rfl
 unfold y4 at h;split at h
 .split at h
  .rename_i m n;cases h;exact key _ o<|vo<|wn<|m+n
  .exact apQ
 .split at h
  .rename_i m n;cases h;refine key _ o<|vo ?_;rw[hQ.1];have e:((m+(M*n-n):Nat):Int)=(m-n)+M*n:=by
    have:=DB n hp
    grind
   simp_all
  .exact apQ
 .split at h
  .rename_i m n;cases h;exact key _ o<|vo<|wn<|m*n
  .exact apQ
 .split at h
  .rename_i m n;split at h<;>cases h;exact key (.int k (k.wrap<|(m:Int).tdiv n)) arL<|vo<|wn<|m/n
  .exact apQ
 .split at h
  .rename_i m n;split at h<;>cases h;exact key (.int k<|(m:Int).tmod n) arL<|vo o
  .exact apQ
 .split at h
  .rename_i m n;cases h;refine key _ o<|vo ?_;show k.wrap ((BitVec.ofInt k.bits m&&&BitVec.ofInt k.bits n).toNat:Nat)=_;rw[BitVec.toNat_and,DC,DC,DD,DD,<-hQ.2,wn,hb];rw[hQ.2];exact Nat.and_lt_two_pow _ J
  .exact apQ
 .split at h
  .rename_i m n;cases h;refine key _ o<|vo ?_;show k.wrap ((BitVec.ofInt k.bits m|||BitVec.ofInt k.bits n).toNat:Nat)=_;rw[BitVec.toNat_or,DC,DC,DD,DD,<-hQ.2,wn,hb];rw[hQ.2];exact Nat.or_lt_two_pow J J
  .exact apQ
 .exact apQ
def adA{a b:Int}(h:Km op k a b=some r)(aE:op≠.shl)(aK:op≠.shr)(O:I.aq x= .int k a)(N:I.aq y= .int k b):
 ∃v,(∀H ids,den H r ids v)/\∀st,bD call (.bin op x y) I st= .ok v I st:=by
 unfold Km at h;split at h
 .exact FT Kt h aE aK O N
 .exact FT Ku h aE aK O N
 .exact FT Kv h aE aK O N
 .exact FT Kw h aE aK O N
 .exact apQ
def Rk{a:Int}(O:I.aq x= .int k a)(N:I.aq y= .int gZ (n:Int))(st:ao):bD call (.bin .shl x y) I st= .ok (.int k<|k.wrap<|a*2^(min n k.bits)) I st:=by
 rw[BV,O,N];show hW n (λn=>iE k (yp k a n) λv=>a2.ok v I st) a2.no=_;rw[qu,iS];have:yp k a n=k.wrap (a*2^(min n k.bits)):=by
  rw[yp,lC,II];simp
 rw[this]
def FU(hQ:xh k M){a b:Int}(h:y6 k M a b=some r)(O:I.aq x= .int k a)(N:I.aq y= .int gZ b):
 ∃v,(∀H ids,den H r ids v)/\∀st,bD call (.bin .shl x y) I st= .ok v I st:=by
 unfold y6 at h;split at h
 .rename_i m n;cases h;refine⟨_,λH ids=>?_,λst=>Rk O N st⟩;congr 1;have e:(m*2^(min n k.bits))=((m*2^(min n k.bits):Nat):Int):=by simp
  show k.wrap (m*2^(min n k.bits))=_;rw[e,hQ.1,<-Int.natCast_emod];congr 1;obtain aj|aj:=Nat.le_total n k.bits
  .rw[kh aj]
  .rw[Nat.min_eq_right aj,<-hQ.2];have:2^n=M*2^(n-k.bits):=by rw[hQ.2,<-Nat.pow_add];congr 1;omega
   rw[this,Nat.mul_mod_left,<-Nat.mul_assoc,hK m M,lX,Nat.mul_mod_right]
 .cases h
def adB{a b:Int}(h:Kn k a b=some r)(O:I.aq x= .int k a)(N:I.aq y= .int gZ b):
 ∃v,(∀H ids,den H r ids v)/\∀st,bD call (.bin .shl x y) I st= .ok v I st:=by
 unfold Kn at h;cases b with
 |negSucc n=>cases h
 |ofNat n=>
  simp only at h;split at h<;>cases h;rename_i aj;refine⟨_,λ_ _=>?_,λst=>Rk O N st⟩;rw[kh<|jb aj];rfl
def Rl{a b:Int}(h:Ko k a b=some r)(O:I.aq x= .int k a)(N:I.aq y= .int gZ b):
 ∃v,(∀H ids,den H r ids v)/\∀st,bD call (.bin .shr x y) I st= .ok v I st:=by
 unfold Ko at h;cases b with
 |negSucc n=>cases h
 |ofNat n=>
  simp only at h;split at h<;>try cases h
  rename_i aj;have aj:=jb aj;have e:∀st,bD call (.bin .shr x y) I st= .ok (.int k<|wF k a n) I st:=λst=>by
   rw[BV,O,N];show hW n (λn=>iE k (wF k a n) λv=>a2.ok v I st) a2.no=_;rw[qu,iS]
  refine⟨_,?_,e⟩;intro H ids;cases a with
  |ofNat m=>
   cases h;congr 1;show wF k m n=_;rw[wF,kh aj];rfl
  |negSucc m=>
   cases h;congr 1;rw[wF,kh aj];rfl
def adC{b:ai}(h:Kp op a b=some r)(O:den H a ids (I.aq x))(N:den H b ids (I.aq y)):
 ∃v,(∀H ids,den H r ids v)/\∀st,bD call (.bin op x y) I st= .ok v I st:=by
 unfold Kp at h;split at h
 .rename_i k m gZ n;unfold Ri at h;split at h
  .unfold Rh at h;split at h
   .exact FU Kt h O N
   .exact FU Ku h O N
   .exact FU Kv h O N
   .exact FU Kw h O N
   .exact adB h O N
  .exact Rl h O N
  .rename_i Y G;split at h
   .rename_i E;cases Rj E;exact adA h J J O N
   .cases h
 .rename_i l m;have e:∀st,bD call (.bin op x y) I st=AU op ⟨⟨l⟩⟩ ⟨⟨m⟩⟩ (λv=>.ok v I st):=λst=>by rw[BV,O,N,ac0]
  split at h<;>cases h
  .exact⟨_,λ_ _=>o,e⟩
  .exact⟨_,λ_ _=>o,e⟩
 .cases h
def adD{op:UnOp}(h:Kq op a=some r)(O:den H a ids (I.aq x)):
 ∃v,(∀H ids,den H r ids v)/\∀st,bD call (.un op x) I st= .ok v I st:=by
 unfold Kq at h;split at h
 .rename_i k n;have e:∀st,bD call (.un op x) I st=yq op (.int k n) (λv=>.ok v I st):=λst=>by
   have:bD call (.un op x) I st=yq op (I.aq x) (λv=>.ok v I st):=rfl;rw[this,O]
  split at h<;>cases h
  .refine⟨_,λ_ _=>o,λst=>?_⟩;rw[e];simp[yq,nk,iS,lC,IH]
  .refine⟨_,λ_ _=>o,λst=>?_⟩;rw[e];simp[yq,nk,iS]
 .rename_i t;split at h<;>cases h;refine⟨_,λ_ _=>o,λst=>?_⟩;have:bD call (.un .not x) I st=yq .not (I.aq x) (λv=>.ok v I st):=rfl;rw[this,O];rfl
 .cases h
theorem adE{neg:Bool}{t:q2}{b:ai}(h:Kr neg t a b=some r)(O:den H a ids (I.aq x))(N:den H b ids (I.aq y)):
 ∃v,(∀H ids,den H r ids v)/\∀st,bD call (.eqv neg t x y) I st= .ok v I st:=by
 have key:∀c,kk 8 t (I.aq x) (I.aq y)=some c->r= .b (nm neg c)->∃v,(∀H ids,den H r ids v)/\∀st,bD call (.eqv neg t x y) I st= .ok v I st:=by
  intro c ah aw;subst aw;refine⟨_,λ_ _=>o,λst=>?_⟩;exact apL
 unfold Kr at h;split at h
 .exact ap3
 .split at h<;>cases h;rename_i E;cases Rj E;refine key _ ?_ o;rw[show I.aq x=_ from O,show I.aq y=_ from N];simp[kk,AX];congr 1
 .exact ap3
 .cases h;exact key true (by rw[show I.aq x=_ from O,show I.aq y=_ from N];simp[kk,sq]) o
 .cases h;rcases O with⟨rfl,O⟩|⟨aj,b,R,c,ab,el,b1,aW,O,_⟩
  .exact key true aqh o
  .exact key false aqh aoM
 .cases h;obtain⟨b,_,O⟩:=O;exact key false aqh o
 .cases h;obtain⟨b,_,N⟩:=N;exact key false (by rw[show I.aq x=_ from O,N];simp[kk,sq]) o
 .cases h;obtain⟨b,_,O⟩:=O;exact apK
 .cases h;obtain⟨b,_,O⟩:=O;exact apK
 .cases h;obtain⟨b,R,ab,el,b1,aW,O,_⟩:=O;exact apK
 .cases h;obtain⟨b,R,O,_⟩:=O;exact key false (by rw[O,show I.aq y=_ from N];simp[kk,IK]) o
 .cases h
theorem Rm{H:bm}{ids:ac Nat}{e:bV}(D:cY I H ids e){k:f5}:∀{xs:ac ce} {m:Int} {r:ai},FO e k xs m=some r->∃n,r= .i k n/\AY k I xs m=some n
 |[],m,r,h=>by cases h;exact⟨m,o,o⟩
 |x::xs,m,r,h=>by
  rw[FO]at h;split at h<;>try cases h
  rename_i gZ z O;split at h<;>try cases h
  rename_i aB;have⟨n,aE,aK⟩:=Rm D h;refine⟨n,aE,?_⟩;show gk (I.aq x) (λgZ y=>cond (j5 k gZ) (AY k I xs<|cond (mv y m) m y) none) none=_;rw[(D.aq O),nk,aB];congr 1;rw[qa]
  grind
theorem Rn{H:bm}{ids:ac Nat}{e:bV}(D:cY I H ids e){k:f5}:∀{xs:ac ce} {m:Int} {r:ai},FP e k xs m=some r->∃n,r= .i k n/\AZ k I xs m=some n
 |[],m,r,h=>by cases h;exact⟨m,o,o⟩
 |x::xs,m,r,h=>by
  rw[FP]at h;split at h<;>try cases h
  rename_i gZ z O;split at h<;>try cases h
  rename_i aB;have⟨n,aE,aK⟩:=Rn D h;refine⟨n,aE,?_⟩;show gk (I.aq x) (λgZ y=>cond (j5 k gZ) (AZ k I xs<|cond (mv m y) m y) none) none=_;rw[(D.aq O),nk,aB];congr 1;rw[qa]
  grind
theorem Kx{β:Type _}{r:β}:∀{cs:ac ai} {n:Nat} {K:ac ai->be β},FQ cs n K=some r->n<=cs.length/\K (cs.take n)=some r
 |cs,0,K,h=>by
  have h:K []=some r:=by cases cs<;>exact h
  exact⟨dg _,by simpa using h⟩
 |[],n+1,K,h=>by cases h
 |a::as,n+1,K,h=>by
  have⟨Y,G⟩:=Kx (n:=n) h;exact⟨by simpa using Y,by simpa using G⟩
theorem FV:∀{cs:ac ai} {n:Nat},B1 cs n=true->cs.length=n
 |[],0,_=>rfl
 |[],n+1,h=>by cases h
 |_::_,0,h=>by cases h
 |a::as,n+1,h=>by simp[FV (n:=n) h]
theorem xi{β:Type _}{r:β}{K:ac ai->be β}(h:rF cs R n K=some r):n<=(cs.drop R).length/\K ((cs.drop R).take n)=some r:=by
 unfold rF at h;split at h
 .split at h
  .rename_i W;have:=FV W
   grind
  .exact Kx h
 .exact Kx h
def sQ{β:Type}(h:n<=(l.drop R).length)(k:ac α->β)(z:β):hX l R n k z=k ((l.drop R).take n):=by
 rw[hX];rw[A9,Ba,aA h];rfl
theorem Ro{J:Bool}(h:FR J cs=some r):(J=true/\r= .agg cs)\/(J=false/\cs=[r]):=by
 unfold FR at h
 grind
theorem nX(b R n:Nat):(⟨b,R,none⟩:Addr).add n=⟨b,R+n,none⟩:=by
 rw[Addr.add];split
 .rename_i h;rw[h];rfl
 .rfl
theorem adF{e:bV}(D:cY I H ids e){R:dm}(h:Ks e R=some r):∃v,den H r ids v/\∀st,bD call R I st= .ok v I st:=by
 have up:∀{r:ai} {R:dm},(∃v,(∀H ids,den H r ids v)/\∀st,bD call R I st= .ok v I st)->∃v,den H r ids v/\∀st,bD call R I st= .ok v I st:=λ⟨v,Y,G⟩=>⟨v,Y _ _,G⟩;cases R<;>simp[Ks]at h
 case jF x=>exact⟨_,D.aq h,λst=>o⟩
 case lB x=>exact⟨_,D.aq h,λst=>o⟩
 case bin op x y=>
  split at h<;>try cases h
  split at h<;>try cases h
  rename_i O _ _ N;exact up<|adC h (D.aq O)<|D.aq N
 case eqv neg t x y=>
  split at h<;>try cases h
  split at h<;>try cases h
  rename_i O _ _ N;exact up<|adE h (D.aq O)<|D.aq N
 case un op x=>
  split at h<;>try cases h
  rename_i O;exact up<|adD h<|D.aq O
 case uZ k x=>
  split at h<;>try (cases h)
  rename_i gZ n O;have O:=D.aq O;exact⟨_,(by
   have u:∀{k:f5} {M:Nat},xh k M->y5 k M n=some r->den H r ids (.int k<|k.wrap n):=λhQ h=>by
    unfold y5 at h;split at h<;>cases h
    .show Value.int _ _=Value.int _ _;rw[hQ.1];rfl
    .rfl
   unfold Rg at h;split at h
   .exact u Kt h
   .exact u Ku h
   .exact u Kv h
   .exact u Kw h
   .cases h;rfl),λst=>adj O⟩
 case AL x=>
  split at h<;>try cases h
  rename_i l O;refine⟨_,o,λst=>?_⟩;show h1 (I.aq x) _ _=_;rw[(D.aq O)];rfl
 case sh f b6 cs=>
  split at h<;>try cases h
  split at h<;>try cases h
  rename_i Y _ _ G;exact⟨_,⟨_,_,o,D.dt Y,D.dt G⟩,λst=>o⟩
 case sk x i=>
  split at h<;>try cases h
  rename_i ab O;obtain⟨B,O,A⟩:=D.aq O;obtain⟨v,Z,A⟩:=tG A h;refine⟨v,A,λst=>?_⟩;show q6 (I.aq x) (λab=>hX ab.toList i 1 (λl=>one l (λv=>a2.ok v I st) .no) .no) .no=_;rw[O];obtain⟨aT,L⟩:=dG.1 Z;show hX B i 1 _ _=_;rw[y0 J,hL aT,L];rfl
 case wB x=>
  split at h<;>try cases h
  .rename_i O;exact⟨_,o,λst=>vn<|D.aq O⟩
  .rename_i O;obtain⟨b,_,O⟩:=D.aq O;exact aoV aoV
  .rename_i O;rcases D.aq O with⟨W,O⟩|⟨b,R,c,ab,el,b1,aW,O,_⟩
   .rw[W];exact aoV aoV
   .exact aoV aoV
  .rename_i O;rcases D.aq O with⟨W,O⟩|⟨_,b,R,c,ab,el,b1,aW,O,_⟩
   .rw[W];exact aoV aoV
   .exact aoV aoV
  .rename_i O;rcases D.aq O with⟨W,O⟩|⟨W,O⟩|⟨b,R,c,ab,el,b1,aW,O,_⟩
   .rw[W];exact⟨_,o,λst=>(by rw[Q6,O];rfl)⟩
   .rw[W];exact aoV aoV
   .exact aoV aoV
 case wC x=>
  split at h<;>try cases h
  rename_i l O;exact⟨_,o,λst=>by rw[acV,(D.aq O),yZ]⟩
 case AN n=>cases h;exact⟨_,o,λst=>o⟩
 case q4 off x=>
  have e:∀{b R:Nat},I.aq x= .pointer (some ⟨b,R,none⟩)->∀st,bD call (.q4 off x) I st= .ok (.pointer<|some ⟨b,R+off,none⟩) I st:=λO st=>by
   show hN (I.aq x) (λp=>bx p (λa=>a2.ok (.pointer<|some<|a.add off) I st) .no) .no=_;rw[O];show a2.ok (.pointer<|some<|Addr.add _ off) I st=_;rw[nX]
  split at h<;>try cases h
  .exact ape
  .rename_i k z j R O;obtain⟨b,aa,O⟩:=D.aq O;exact⟨_,⟨b,aa,by rw[x4]⟩,e O⟩
  .rename_i cs O;obtain⟨b,R,ab,el,b1,aW,O,aa,A⟩:=D.aq O;refine⟨_,⟨b,R+off,ab,el,b1,aW,o,aa,?_⟩,e O⟩;have:=nW off A;rw[Az,uO]at this;rw[m5];exact this
 case p7 off bw E x=>
  split at h<;>try cases h
  rename_i cs O;obtain⟨B,O,A⟩:=D.aq O;obtain⟨Y,G⟩:=xi h;have A:=sP bw<|nW off A;have W:=gr A;have e:∀st,bD call (.p7 off bw E x) I st=bx (cond E (some<|.agg ⟨(B.drop off).take bw⟩)<|one ((B.drop off).take bw) (λv=>some v) none) (λv=>.ok v I st) .no:=λst=>by
   show sn (I.aq x) (λcs=>bx (wG off bw E cs.toList) (λv=>a2.ok v I st) .no) .no=_;rw[O,acL];unfold wG;rw[sQ aoM]
  rcases Ro G with⟨rfl,rfl⟩|⟨rfl,C⟩
  .exact⟨_,⟨_,o,A⟩,λst=>by rw[e];rfl⟩
  .rw[C]at A;obtain⟨v,F,Z,A,aj⟩:=A;cases aj;rw[Z]at e;exact⟨v,A,λst=>by rw[e];rfl⟩
 case uY x=>
  have e:∀{a:Addr},I.aq x= .pointer (some a)->∀st,bD call (.uY x) I st= .ok (.pointer<|some a) I st:=λO st=>by
   show hN (I.aq x) (λp=>bx p (λa=>a2.ok (.pointer<|some a) I st) .no) _=_;rw[O];rfl
  split at h<;>try cases h
  .exact ape
  .exact ape
  .rename_i O;obtain⟨b,R,ab,el,b1,aW,O,A⟩:=D.aq O;exact⟨_,⟨b,R,ab,el,b1,aW,o,A⟩,e O⟩
  .rename_i g a b O;refine⟨_,o,λst=>?_⟩;have:bD call (.uY x) I st=hN (I.aq x) (λp=>bx p (λa=>a2.ok (.pointer<|some a) I st) .no) (yn (I.aq x) (λf a b=>match f with|.func g=>.ok (.func (.func g) a b) I st|_=>.no) .no):=rfl;rw[this,(D.aq O)];rfl
 case pick c x y=>
  split at h
  .rename_i ah;exact⟨_,D.aq h,λst=>adr (D.aq ah) o o⟩
  .rename_i ah;exact⟨_,D.aq h,λst=>ads (D.aq ah) o o⟩
  .cases h
 case hc x xs=>
  split at h<;>try cases h
  rename_i k n O;obtain⟨m,rfl,hm⟩:=Rm D h;refine⟨_,o,λst=>?_⟩;show gk (I.aq x) (λk n=>bx (AY k I xs n) (λm=>iE k m λv=>a2.ok v I st) .no) .no=_;rw[(D.aq O),nk,hm,Sym.et,iS]
 case AO x xs=>
  split at h<;>try cases h
  rename_i k n O;obtain⟨m,rfl,hm⟩:=Rn D h;refine⟨_,o,λst=>?_⟩;show gk (I.aq x) (λk n=>bx (AZ k I xs n) (λm=>iE k m λv=>a2.ok v I st) .no) .no=_;rw[(D.aq O),nk,hm,Sym.et,iS]
 all_goals cases h
end
structure Ky where
 P:bm->be bG->Prop
 mono:∀{H bB:bm},cL H bB->∀{R},P H R->P bB R
inductive a0:Type 1
 |c (el:TypeId) (cs:List ai)
 |a (el:TypeId) (aW:Bool) (z:Nat) (α:Type) (ak:α->List ai) (l:List α)
 |g (p:Ky)
 |x
def a0.live:a0->Bool
 |.x=>false
 |_=>true
def oO(H:bm)(ids:ac Nat):a0->be bG->Prop
 |.c el cs,hs=>∃ab,hs=some (.cells ab el (0,0) false)/\cT H cs ids ab
 |.a el aW z _ ak l,hs=>∃ab,hs=some (.cells ab el (0,0) aW)/\ab.length=l.length*z/\∀i x,l[i]? =some x->cT H (ak x) ids ((ab.drop<|i*z).take z)
 |.g p,hs=>p.P H hs
 |.x,_=>True
def rG{H Z:bm}{i j:ac Nat}(h:cL H Z)(af:ck i j):∀{R:a0} {hs:be bG},oO H i R hs->oO Z j R hs
 |.c _ _,_,⟨ab,e,d⟩=>⟨ab,e,lM h _ af d⟩
 |.a _ _ _ _ _ _,_,⟨ab,e,k7,d⟩=>⟨ab,e,k7,λk x O=>lM h _ af<|d k x O⟩
 |.g p,_,d=>p.mono h d
 |.x,_,_=>trivial
structure cg where
 own:ac a0
 n:Nat
 env:bV
structure Fit(H:bm)(ids:ac Nat)(st:ao)(own:ac a0)(n:Nat):Prop where
 wf:∀i,st.ag<=i->st.h.get i=none
 le:∀b R,H b=some R->st.h.get b=some R
 cV:own.length=n
 len:ids.length=n
 c2:ids.Nodup
 lt:∀b∈ids,b<st.ag
 own:∀(k:Nat) (R:a0) (b:Nat),own[k]? =some R->ids[k]? =some b->oO H ids R (st.h.get b)∧(R.live=true->H b=none)
structure cZ(aX:bm)(i0:ac Nat)(ax:ao)(H:bm)(ids:ac Nat)(st:ao):Prop where
 hle:cL aX H
 hold:∀b,b<ax.ag->b∉i0->H b=aX b
 dZ:∀b,b<ax.ag->b∉i0->st.h.get b=ax.h.get b
 ag:ax.ag<=st.ag
 jf:ck i0 ids
 new:∀b∈ids,b∈i0∨ax.ag<=b
variable{H:bm}{ids:ac Nat}{n:Nat}{R:a0}{hs:bG}{aX:bm}{i0:ac Nat}{ax:ao}
def Fit.aT{st:ao}{own:ac a0}(h:Fit H ids st own n){b:Nat}{R:bG}(aa:H b=some R):b<st.ag:=by
 obtain D|D:=fW b st.ag
 .exact D
 .have:=h.le b R aa;rw[h.wf b D]at this;cases this
def Fit.nS{st:ao}{own:ac a0}(h:Fit H ids st own n){b:Nat}(aa:st.ag<=b):H b=none:=by
 cases e:H b with
 |none=>rfl
 |some R=>have:=h.aT e;omega
theorem Fit.add{st:ao}{own:ac a0}(h:Fit H ids st own n)(d:oO H (ids++[st.ag]) R (some hs)):
 Fit H (ids++[st.ag]) ⟨st.h.set st.ag hs,st.ag+1⟩ (own++[R]) (n+1):=by
 have g:st.ag∉ids:=λhm=>by have:=h.lt _ hm;omega
 refine⟨?_,?_,by simp[h.cV],by simp[h.len],?_,?_,?_⟩
 .intro i af;exact aro
 .intro b cq aa;have:=h.aT aa;rw[ar.fu _ _ J];exact h.le b cq aa
 .rw[AA];refine⟨h.c2,az,?_⟩
  grind
 .intro b aa;simp at aa;show b<st.ag+1;obtain aa|aa:=aa
  .have:=h.lt b aa;omega
  .omega
 .intro k cq b E aa;by_cases D:k<own.length
  .rw[ta D]at E;rw[ta<|by rwa [h.len,<-h.cV]]at aa;have⟨Y,G⟩:=h.own k cq b E aa;have:b≠st.ag:=λe=>g<|e▸fQ aa;simpa[ar.fu _ _ this]using⟨rG apv (ck.app _ _) Y,G⟩
  .have L:=(dG.1 E).1;simp at L;have D:k=own.length:=by omega
   subst D;have W:own.length=ids.length:=by rw[h.len,h.cV]
   rw[W]at aa;simp at E aa;subst E aa;simpa[ar.nO]using⟨d,λ_=>h.nS<|c4 _⟩
def cZ.add{st:ao}(h:cZ aX i0 ax H ids st)(hs:bG):cZ aX i0 ax H (ids++[st.ag]) ⟨st.h.set st.ag hs,st.ag+1⟩:=by
 refine⟨h.hle,h.hold,?_,by have:=h.ag;show ax.ag<=st.ag+1;omega,λk b e=>ck.app _ _ k b<|h.jf k b e,?_⟩
 .intro b aa aj;have:=h.ag;rw[ar.fu _ _ J];exact h.dZ b aa aj
 .intro b aa;simp at aa;obtain aa|aa:=aa
  .exact h.new b aa
  .right;rw[aa];exact h.ag
theorem Fit.fl{st:ao}{own:ac a0}(h:Fit H ids st own n){k b:Nat}{cq:a0}(aB:own[k]? =some R)(aI:R.live=true)(aa:ids[k]? =some b)(d:oO H ids cq (some hs)):
 Fit H ids ⟨st.h.set b hs,st.ag⟩ (own.set k cq) n:=by
 have aT:=h.lt b<|fQ aa;have F:=(h.own k R b aB aa).2 aI;refine⟨?_,?_,by simp[h.cV],h.len,h.c2,h.lt,?_⟩
 .intro i af;have af:st.ag<=i:=af;rw[ar.fu _ _ J];exact h.wf i af
 .intro c q ah;rw[ar.fu _ _ λe=>by rw[e,F]at ah;cases ah];exact h.le c q ah
 .intro j q c A ah;rw[mq]at A;by_cases E:k=j
  .simp_all
  .rw[au E]at A;have:c≠b:=λe=>by
    subst e;have G:=(dG.1 ah);exact E<|(uP h.c2).1<|((dG.1 aa)).2.trans G.2.symm
   simpa[ar.fu _ _ this]using h.own j q c A ah
def cZ.fl{st:ao}(h:cZ aX i0 ax H ids st){b:Nat}(aa:b∈ids)(hs:bG):cZ aX i0 ax H ids ⟨st.h.set b hs,st.ag⟩:=by
 refine⟨h.hle,h.hold,?_,h.ag,h.jf,h.new⟩;intro c ah aj;rw[ar.fu _ _ (λe=>by
  subst e;obtain Y|Y:=h.new _ aa
  .exact aj Y
  .omega)]
 exact h.dZ c ah aj
section
def vp(own:ac a0)(e:bV):dm->be ai
 |.ix x=>match bb e x with
  |some (.p k R)=>match own[k]? with
   |some (.c _ cs)=>cs[R]?
   |_=>none
  |some (.fb k z j R)=>match own[k]? with
   |some (.c _ cs)=>cs[j*z+R]?
   |_=>none
  |some (.ip cs)=>cs[0]?
  |_=>none
 |.m9 n x=>match bb e x with
  |some (.p k R)=>match own[k]? with
   |some (.c _ cs)=>rF cs R n λl=>some (.agg l)
   |_=>none
  |some (.fb k z j R)=>match own[k]? with
   |some (.c _ cs)=>rF cs (j*z+R) n λl=>some (.agg l)
   |_=>none
  |some (.ip cs)=>rF cs 0 n λl=>some (.agg l)
  |_=>none
 |_=>none
def qv(e:bV):dm->be Nat
 |.ix x|.m9 _ x=>match bb e x with
  |some (.p k _)|some (.fb k _ _ _)=>some k
  |_=>none
 |_=>none
end
section
variable{call:bR}{I:aO}{x y i:ce}
variable{ab:ac bv}{el:d7}{b1:Nat×Nat}{aW:Bool}{e:bV}{r:ai}
theorem y7{b R:Nat}{st:ao}(h:I.aq x= .pointer (some ⟨b,R,none⟩))(ay:st.h.get b=some (.cells ab el b1 aW))(Z:ab[R]? =some v):bD call (.ix x) I st= .ok v I st:=adl h o ay Z
def B2{b R:Nat}{st:ao}(h:I.aq x= .pointer (some ⟨b,R,none⟩))(ay:st.h.get b=some (.cells ab el b1 aW))(aI:n<=(ab.drop R).length):bD call (.m9 n x) I st= .ok (.agg ⟨(ab.drop R).take n⟩) I st:=by
 rw[acX,h];show st.load ⟨b,R,none⟩ n _ _=_;unfold ao.load ao.gy;rw[Sym.h6,ay,lf,sQ aI]
theorem Kz{own:ac a0}{st:ao}(D:cY I H ids e)(a':own.length<=ids.length)(U:∀(k:Nat) (R:a0) (b:Nat),own[k]? =some R->R.live=true->ids[k]? =some b->oO H ids R (st.h.get b)){R:dm}(h:vp own e R=some r):
 ∃v,den H r ids v/\∀L:ao,((∀b R,H b=some R->L.h.get b=some R)\/∃k,qv e R=some k)->(∀k b,qv e R=some k->ids[k]? =some b->L.h.get b=st.h.get b)->bD call R I L= .ok v I L:=by
 have obj:∀{k:Nat} {el:d7} {cs:ac ai},own[k]? =some (.c el cs)->∃b ab,ids[k]? =some b/\st.h.get b=some (.cells ab el (0,0) false)/\cT H cs ids ab:=λ{k el cs} E=>by
  have aT:=(dG.1 E).1;have af:k<ids.length:=J
  obtain⟨ab,Y,G⟩:=U k _ _ E o<|ba af;exact⟨_,ab,ba af,Y,G⟩
 cases R<;>simp[vp]at h
 case ix x=>
  split at h<;>try cases h
  .rename_i k R O;split at h<;>try cases h
   rename_i el cs E;obtain⟨b,ab,aa,F,g⟩:=obj E;obtain⟨v,Z,g⟩:=tG g h;obtain⟨A,Y,G⟩:=D.aq O
   grind [y7,qv,trans]
  .rename_i k z j R O;split at h<;>try cases h
   rename_i el cs E;obtain⟨b,ab,aa,F,g⟩:=obj E;obtain⟨v,Z,g⟩:=tG g h;obtain⟨A,Y,G⟩:=D.aq O
   grind [y7,qv,trans]
  .rename_i cs O;obtain⟨b,R,ab,el,b1,aW,Y,G,g⟩:=D.aq O;obtain⟨v,Z,g⟩:=tG g h;refine⟨v,iU apv _ (ck.nil _) g,λL C _=>?_⟩;rcases C with C|⟨k,C⟩
   .exact y7 Y (C _ _ G) (by
     grind)
   .simp[qv,O]at C
 case m9 m x=>
  split at h<;>try cases h
  .rename_i k R O;split at h<;>try cases h
   rename_i el cs E;obtain⟨b,ab,aa,F,g⟩:=obj E;obtain⟨B,N⟩:=xi h;cases N;obtain⟨A,Y,G⟩:=D.aq O;rw[aa]at Y;cases Y;have W:=gr<|nW R g;exact aqv aqv
  .rename_i k z j R O;split at h<;>try cases h
   rename_i el cs E;obtain⟨b,ab,aa,F,g⟩:=obj E;obtain⟨B,N⟩:=xi h;cases N;obtain⟨A,Y,G⟩:=D.aq O;rw[aa]at Y;cases Y;have W:=gr<|nW (j*z+R) g;exact aqj aqj
  .rename_i cs O;obtain⟨b,R,ab,el,b1,aW,Y,G,g⟩:=D.aq O;obtain⟨B,N⟩:=xi h;cases N;have W:=gr g;rw[kC]at B;have T:=sP m g;rw[DE,kh B]at T;refine⟨.agg ⟨(ab.drop R).take m⟩,⟨_,o,?_⟩,λL C _=>?_⟩
   .exact lM apv _ (ck.nil _) T
   rcases C with C|⟨k,C⟩
   .exact B2 Y (C _ _ G) aoM
   .simp[qv,O]at C
 all_goals cases h
theorem adG{own:ac a0}{R:dm}{k:Nat}(h:vp own e R=some r)(aB:qv e R=some k):∃cq,own[k]? =some cq/\cq.live=true:=by
 cases R<;>simp[qv]at aB
 case ix x=>
  simp[vp]at h;split at aB<;>cases aB
  .rename_i O;rw[O]at h;simp only at h;split at h<;>try cases h
   exact ara ara
  .rename_i O;rw[O]at h;simp only at h;split at h<;>try cases h
   exact ara ara
 case m9 n x=>
  simp[vp]at h;split at aB<;>cases aB
  .rename_i O;rw[O]at h;simp only at h;split at h<;>try cases h
   exact ara ara
  .rename_i O;rw[O]at h;simp only at h;split at h<;>try cases h
   exact ara ara
 all_goals cases aB
end
section
variable{β:Type _}
def KA(v:bv)(K:ai->be β):be β:=
 match v with
 |.int k n=>K (.i k n)
 |.bool t=>K (.b t)
 |.string ⟨⟨l⟩⟩=>K (.s l)
 |.slice none 0 0=>K .nl
 |x=>K<|.v x
def y8:ac bv->(ac ai->be β)->be β
 |[],K=>K []
 |v::ab,K=>KA v λa=>y8 ab λr=>K<|a::r
def sR:ai->be (ac ai)
 |.agg cs=>some cs
 |a=>match rD a with
  |true=>some [a]
  |false=>none
def xj:ac ai->Nat->ac ai->(ac ai->be β)->be β
 |cs,0,[],K=>K cs
 |_::cs,0,d::aU,K=>xj cs 0 aU λr=>K (d::r)
 |c::cs,n+1,aU,K=>xj cs n aU λr=>K (c::r)
 |[],_,_,_=>none
def y9(e:bV):ac (Nat×Nat×ce)->ac ai->(ac ai->be β)->be β
 |[],cs,K=>K cs
 |(R,bw,x)::bd,cs,K=>match bb e x with
  |some a=>match sR a with
   |some aU=>match B1 aU bw with
    |true=>xj cs R aU λdP=>y9 e bd dP K
    |false=>none
   |none=>none
  |none=>none
def ma:ac a0->a0->(ac a0->be β)->be β
 |[],R,K=>K [R]
 |a::as,R,K=>ma as R λr=>K<|a::r
def gN:ac a0->Nat->a0->(ac a0->be β)->be β
 |[],_,_,_=>none
 |_::as,0,R,K=>K (R::as)
 |a::as,n+1,R,K=>gN as n R λr=>K<|a::r
def adH:ac Nat:=[1,2,3,4,5,6,7,8,9,10,11,12,13,14,15,16,17,18,19,20,21,22,23,24,25,26,27,28,29,30,31,32]
def Rp:ac Nat->Nat->be Nat
 |[],_=>none
 |a::_,0=>some a
 |_::as,n+1=>Rp as n
def mb(n:Nat)(K:Nat->be β):be β:=
 match Rp adH n with
 |some m=>match Nat.beq m (n+1)with
  |true=>K m
  |false=>K (n+1)
 |none=>K<|n+1
def adI:ac (Nat×Nat×ce)->Nat
 |(_,bw,_)::_=>bw
 |[]=>1
def FW(own:ac a0)(aC:Nat)(e:bV)(k R n:Nat)(x:ce)(K:ai->ac a0->Nat->be β):be β:=
 match own[k]? with
 |some (.c el cs)=>match bb e x with
  |some a=>match sR a with
   |some aU=>match B1 aU n with
    |true=>match pE aU with
     |true=>xj cs R aU λg=>gN own k (.c el g) λbk=>K (.br []) bk aC
     |false=>none
    |false=>none
   |none=>none
  |none=>none
 |_=>none
def FX(own:ac a0)(aC:Nat)(e:bV)(K:ai->ac a0->Nat->be β):dm->be β
 |.alloc z el=>y8 z λcs=>ma own (.c el cs) λbk=>mb aC λcI=>K (.p aC 0) bk cI
 |.box el x=>match bb e x with
  |some a=>match sR a with
   |some aU=>ma own (.c el aU) λbk=>mb aC λcI=>K (.p aC 0) bk cI
   |none=>none
  |none=>none
 |.q3 el len z bd=>y8 z λcs=>y9 e bd cs λdP=>ma own (.c el dP) λbk=>mb aC λcI=>K (.aL aC (adI bd) 0 len len) bk cI
 |.build z bd=>y8 z λcs=>y9 e bd cs λdP=>K (.agg dP) own aC
 |.store n a x=>match bb e a with
  |some (.p k R)=>FW own aC e k R n x K
  |some (.fb k z j R)=>FW own aC e k (j*z+R) n x K
  |_=>none
 |_=>none
def B3(e:bV):dm->be ai
 |.build z bd=>y8 z λcs=>y9 e bd cs λdP=>some (.agg dP)
 |R=>Ks e R
def g1(e:bV):dm->be Nat
 |.store _ a _=>match bb e a with
  |some (.p k _)|some (.fb k _ _ _)=>some k
  |_=>none
 |.app _ _ _ x _|.tj _ x _=>match bb e x with
  |some (.aL k _ _ _ _)=>some k
  |_=>none
 |.u2 _ x _=>match bb e x with
  |some (.p k _)=>some k
  |_=>none
 |.ext (.fl _ m _ _)|.ext (.del _ m _)=>match bb e m with
  |some (.mp k)=>some k
  |_=>none
 |_=>none
end
section
variable{β:Type _}{r:β}
variable{aU:ac ai}
theorem adJ{K:ai->be β}(h:KA v K=some r):K (y3 v)=some r:=by
 unfold KA at h;unfold y3
 grind
theorem B4:∀{ab:ac bv} {K:ac ai->be β},y8 ab K=some r->K (xf ab)=some r
 |[],_,h=>h
 |_::ab,_,h=>B4 (ab:=ab)<|adJ h
def FY(h:sR a=some aU)(d:den H a ids v):tk v=false/\cT H aU ids (h0 v):=by
 unfold sR at h;split at h
 .cases h;obtain⟨ab,rfl,d⟩:=d;exact⟨o,d⟩
 .split at h<;>cases h;rename_i ah;have:=FL ah d;exact apw apw
theorem FZ:∀{cs:ac ai} {n:Nat} {aU:ac ai} {K:ac ai->be β},xj cs n aU K=some r->n+aU.length<=cs.length/\K (cs.take n++(aU++cs.drop (n+aU.length)))=some r
 |cs,0,[],K,h=>by
  have h:K cs=some r:=by cases cs<;>exact h
  exact⟨az,by simpa using h⟩
 |[],0,d::aU,K,h=>by cases h
 |c::cs,0,d::aU,K,h=>by
  have h:xj cs 0 aU (λr=>K<|d::r)=some r:=h;have⟨Y,G⟩:=FZ h
  grind
 |[],n+1,aU,K,h=>by cases aU<;>cases h
 |c::cs,n+1,aU,K,h=>by
  have h:xj cs n aU (λr=>K<|c::r)=some r:=by cases aU<;>exact h
  have⟨Y,G⟩:=FZ h
  grind
theorem KB{cs:ac ai}{ab G:ac bv}(n:Nat)(d:cT H cs ids ab)(Y:cT H aU ids G):
 cT H (cs.take n++(aU++cs.drop (n+aU.length))) ids (ab.take n++(G++ab.drop (n+G.length))):=by grind [gr,tH,sP,nW]
theorem mE:∀{own:ac a0} {R:a0} {K:ac a0->be β},ma own R K=some r->K (own++[R])=some r
 |[],_,_,h=>h
 |_::as,_,_,h=>mE (own:=as) h
theorem hR:∀{own:ac a0} {k:Nat} {R:a0} {K:ac a0->be β},gN own k R K=some r->K (own.set k R)=some r
 |[],_,_,_,h=>by cases h
 |_::_,0,_,_,h=>h
 |_::as,k+1,_,_,h=>hR (k:=k) h
def nn{K:Nat->be β}(h:mb n K=some r):K (n+1)=some r:=by
 rw[mb]at h;split at h
 .split at h
  .rename_i aa;rw[<-dy aa];exact h
  .exact h
 .exact h
def B5(e:bV):ac (Nat×Nat×ce)->ac ai->be (ac ai)
 |[],cs=>some cs
 |(R,bw,x)::bd,cs=>match bb e x with
  |some a=>match sR a with
   |some aU=>if aU.length=bw/\R+aU.length<=cs.length then B5 e bd (cs.take R++(aU++cs.drop (R+aU.length)))else none
   |none=>none
  |none=>none
theorem F0{e:bV}:∀{bd:ac (Nat×Nat×ce)} {cs:ac ai} {K:ac ai->be β},y9 e bd cs K=some r->∃dP,B5 e bd cs=some dP/\K dP=some r
 |[],cs,K,h=>⟨cs,o,h⟩
 |(R,bw,x)::bd,cs,K,h=>by
  rw[y9]at h;rw[B5];split at h<;>try cases h
  split at h<;>try cases h
  split at h<;>try cases h
  rename_i aI;have⟨aE,aK⟩:=FZ h;rw[aA ⟨FV aI,aE⟩];exact F0 aK
theorem F1{I:aO}{H:bm}{ids:ac Nat}{e:bV}(D:cY I H ids e):∀{bd:ac (Nat×Nat×ce)} {cs dP:ac ai} {ab:ac bv},B5 e bd cs=some dP->cT H cs ids ab->
 ∃W,cT H dP ids W/\∀c,oz I bd ab c=c W
 |[],cs,_,ab,h,d=>by cases h;exact⟨ab,d,λ_=>o⟩
 |(R,bw,x)::bd,cs,dP,ab,h,d=>by
  rw[B5]at h;split at h<;>try cases h
  rename_i a O;split at h<;>try cases h
  rename_i aU L;split at h<;>try cases h
  have⟨hp,d2⟩:=FY L<|D.aq O;have T:=gr d2;have g:=gr d;have⟨W,B,bj⟩:=F1 D h<|KB R d d2;refine⟨W,B,λc=>?_⟩;have E:oz I ((R,bw,x)::bd) ab c=cond (tk<|I.aq x) .no (dL (dK<|h0<|I.aq x) bw (eB (R+bw) (dK ab) (p9 ab R (h0<|I.aq x) (λdP=>oz I bd dP c) .no) .no) .no):=rfl
  grind [fi,je,h7,rk]
end
def KC{call:bR}{I:aO}{e:bV}(D:cY I H ids e){R:dm}{r:ai}(h:B3 e R=some r):∃v,den H r ids v/\∀st,bD call R I st= .ok v I st:=by
 unfold B3 at h;split at h
 .rename_i z N;have⟨g,V,B⟩:=F0<|B4 h;cases B;have⟨W,d,bj⟩:=F1 D V<|xg H ids z;refine⟨.agg ⟨W⟩,⟨_,o,d⟩,λst=>?_⟩;exact apX
 .exact adF D h
def fH(call:bR)(R:dm)(s:cg)(a:ai)(bk:ac a0)(cI:Nat):Prop:=
 ∀(H:bm) (ids:ac Nat) (st:ao) (I:aO),Fit H ids st s.own s.n->cY I H ids s.env->
  ∃v al F Z,bD call R I st= .ok v I al/\Fit Z F al bk cI/\den Z a F v/\cL H Z/\ck ids F/\(∀aX i0 ax,cZ aX i0 ax H ids st->cZ aX i0 ax Z F al)/\
   st.ag<=al.ag/\∀b,b<st.ag->(∀k,g1 s.env R=some k->ids[k]? ≠some b)->al.h.get b=st.h.get b
def qw(aX:bm)(call:bR)(R:dm)(s:cg)(a:ai)(bk:ac a0)(cI:Nat):Prop:=
 ∀(H:bm) (ids:ac Nat) (st:ao) (I:aO),cL aX H->Fit H ids st s.own s.n->cY I H ids s.env->
  ∃v al F Z,bD call R I st= .ok v I al/\Fit Z F al bk cI/\den Z a F v/\cL H Z/\ck ids F/\(∀aX i0 ax,cZ aX i0 ax H ids st->cZ aX i0 ax Z F al)/\
   st.ag<=al.ag/\∀b,b<st.ag->(∀k,g1 s.env R=some k->ids[k]? ≠some b)->al.h.get b=st.h.get b
def fH.g{call:bR}{R:dm}{s:cg}{bk:ac a0}{cI:Nat}(h:fH call R s a bk cI):qw aX call R s a bk cI:=λH ids st I _ U D=>h H ids st I U D
def B6(call:bR)(R:dm)(s:cg)(a:ai)(bk:ac a0)(cI:Nat):Prop:=
 ∀(H:bm) (ids:ac Nat) (st:ao) (I:aO),Fit H ids st s.own s.n->cY I H ids s.env->
  ∃v al F,bD call R I st= .ok v I al/\Fit H F al bk cI/\den H a F v/\ck ids F/\(∀aX i0 ax,cZ aX i0 ax H ids st->cZ aX i0 ax H F al)/\
   st.ag<=al.ag/\∀b,b<st.ag->(∀k,g1 s.env R=some k->ids[k]? ≠some b)->al.h.get b=st.h.get b
def B6.to{call:bR}{R:dm}{s:cg}{bk:ac a0}{cI:Nat}(h:B6 call R s a bk cI):fH call R s a bk cI:=λH ids st I U D=>
 let⟨v,al,F,Y,G,C,N,J,B,g⟩:=h H ids st I U D
 ⟨v,al,F,H,Y,G,C,cL.refl _,N,J,B,g⟩
section
variable{call:bR}{β:Type _}{r:β}
variable{s:cg}
def KD{st:ao}{own:ac a0}(U:Fit H ids st own n){el:d7}{cs:ac ai}{ab:ac bv}(d:cT H cs ids ab):
 Fit H (ids++[st.ag]) ⟨st.h.set st.ag<|.cells ab el (0,0) false,st.ag+1⟩ (own++[.c el cs]) (n+1)/\(ids++[st.ag])[n]? =some st.ag:=by
 refine⟨U.add ⟨ab,o,lM apv _ (ck.app _ _) d⟩,?_⟩;rw[<-U.len];simp
def tJ{st:ao}{b:Nat}(aa:b<st.ag):(ar.set st.h st.ag hs).get b=st.h.get b:=ar.fu _ _ J
def Rq{k R m:Nat}{a x:ce}{K:ai->ac a0->Nat->be β}(h:FW s.own s.n s.env k R m x K=some r)(hm:g1 s.env (.store m a x)=some k)
 (bK:∀{H:bm} {ids:ac Nat} {I:aO},cY I H ids s.env->∃b,ids[k]? =some b/\I.aq a= .pointer (some ⟨b,R,none⟩)):∃C bk cI,K C bk cI=some r/\B6 call (.store m a x) s C bk cI:=by
 rw[FW]at h;split at h<;>try cases h
 rename_i el cs E;split at h<;>try cases h
 rename_i c O;split at h<;>try cases h
 rename_i aU L;split at h<;>try cases h
 rename_i W;split at h<;>try cases h
 rename_i ah;have⟨Y,G⟩:=FZ h;refine⟨_,_,_,(hR G),?_⟩;intro H ids st I U D;have⟨b,aa,Z⟩:=bK D;have⟨⟨ab,F,d⟩,_⟩:=U.own k _ b E aa;have⟨hp,d2⟩:=FY L<|D.aq O;have W:=FV W;have T:=gr d2;have g:=gr d;refine⟨undef,_,ids,?_,U.fl E o aa ⟨_,o,KB R d d2⟩,apm,ck.refl _,λ_ _ _ B=>B.fl (fQ aa) _,c4 _,?_⟩
 .have:bD call (.store m a x) I st=hN (I.aq a) (λp=>bx p (λa=>dL (dK<|h0<|I.aq x) m (cond (hk<|h0<|I.aq x) (st.store a (h0<|I.aq x) (λst=>a2.ok undef I st) .no) .no) .no) .no) .no:=rfl;rw[this,Z,lL,Sym.et,fi,je J,B0 ah d2,cond_true];unfold ao.store ao.gy;rw[Sym.h6,F,lf,h7<|c4 _,rk,aA<|by show R+_<=_;omega,jq]
 .intro A _ N;exact ar.fu _ _ λe=>N k hm<|e▸aa
def Rr{K:ai->ac a0->Nat->be β}{R:dm}(h:FX s.own s.n s.env K R=some r):∃a bk cI,K a bk cI=some r/\B6 call R s a bk cI:=by
 cases R<;>simp[FX]at h
 case alloc z el=>
  refine⟨_,_,_,nn<|mE<|B4 h,?_⟩;intro H ids st I U D;obtain⟨Y,G⟩:=KD U<|xg H ids z;refine⟨_,_,_,?_,Y,⟨_,G,o⟩,ck.app _ _,λ_ _ _ B=>B.add _,kB _,λb aa _=>tJ aa⟩;have:bD call (.alloc z el) I st=st.iD (.cells z el (0,0) false) λid st=>.ok (.pointer<|some ⟨id,0,none⟩) I st:=rfl;rw[this,gV]
 case box el x=>
  split at h<;>try cases h
  rename_i a O;split at h<;>try cases h
  rename_i aU L;refine⟨_,_,_,nn<|mE h,?_⟩;intro H ids st I U D;obtain⟨hp,d⟩:=FY L<|D.aq O;obtain⟨Y,G⟩:=KD U d;refine⟨_,_,_,?_,Y,⟨_,G,o⟩,ck.app _ _,λ_ _ _ B=>B.add _,kB _,λb aa _=>tJ aa⟩;have:bD call (.box el x) I st=cond (tk<|I.aq x) .no (st.iD (.cells (h0<|I.aq x) el (0,0) false) λid st=>.ok (.pointer<|some ⟨id,0,none⟩) I st):=rfl;rw[this,hp,cond_false,gV]
 case q3 el len z N=>
  obtain⟨g,V,C⟩:=F0<|B4 h;refine⟨_,_,_,nn<|mE C,?_⟩;intro H ids st I U D;obtain⟨W,d,bj⟩:=F1 D V<|xg H ids z;obtain⟨Y,G⟩:=KD U d;refine⟨_,_,_,?_,Y,⟨_,G,o⟩,ck.app _ _,λ_ _ _ B=>B.add _,kB _,λb aa _=>tJ aa⟩;have:bD call (.q3 el len z N) I st=oz I N z λcs=>st.iD (.cells cs el (0,0) false) λid st=>.ok (.slice (some ⟨id,0,none⟩) len len) I st:=rfl;rw[this,bj,gV,jC]
 case build z N=>
  obtain⟨g,V,C⟩:=F0<|B4 h;refine⟨_,_,_,C,?_⟩;intro H ids st I U D;obtain⟨W,d,bj⟩:=F1 D V<|xg H ids z;refine⟨.agg ⟨W⟩,st,ids,?_,U,⟨_,o,d⟩,ck.refl _,λ_ _ _ B=>B,c4 _,λb aa _=>o⟩;exact apX
 case store m a x=>
  split at h<;>try cases h
  .rename_i k R A;exact arb
  .rename_i k z j R A;exact arb
 all_goals cases h
end
structure e2 where
 call:bR
 a8:Nat
 fn:d8
 aX:bm
 i0:ac Nat
 ax:ao
 Q:c6->cg->Prop
inductive dC where
 |seq (c:dz)
 |cA (i:Nat)
 |b7 (aoI:cg->Prop)
 |xk (ms:List Nat) (n:Nat)
inductive bu where
 |c (c:dz)
 |R (l:List bt)
 |x (e:c6)
 |d (l:List (bt×cz)) (bl:List a0) (bc:bV) (a4 b3:Nat)
variable(an:e2)
def rH(Q:c6->cg->Prop):c6->aO->ao->Prop:=λx I st=>∃H ids s,cZ an.aX an.i0 an.ax H ids st/\Fit H ids st s.own s.n/\cY I H ids s.env/\Q x s
def Rs(Q:c6->cg->Prop)(c:dz)(s:cg):Prop:=∀H ids st I,cZ an.aX an.i0 an.ax H ids st->Fit H ids st s.own s.n->cY I H ids s.env->W (dh an.call an.a8 an.fn c I st) (rH an Q)
def adK(Q:c6->cg->Prop)(l:ac bt)(s:cg):Prop:=∀H ids st I,cZ an.aX an.i0 an.ax H ids st->Fit H ids st s.own s.n->cY I H ids s.env->W (gz an.call l I st) (rH an Q)
structure adL(gE H:bm)(ids:ac Nat)(st:ao)(bl:ac a0)(bc:bV)(a4 b3:Nat)(cG:ac (ar bG))(I:aO):Prop where
 len:cG.length=a4
 hle:cL gE H
 en:∀j a,dx bc j=some a->den gE a ids (I.tmp j)
 qx:bl.length<=ids.length
 xl:b3<=ids.length
 bl:∀(k:Nat) (R:a0) (b:Nat),bl[k]? =some R->R.live=true->ids[k]? =some b->oO gE ids R (st.h.get b)∧∀h∈cG,h.get b=st.h.get b
 hO:∀h∈cG,∀b R,gE b=some R->h.get b=some R
 top:∀h,cG.head?=some h->(∀b R,H b=some R->h.get b=some R)∧∀k b:Nat,k<b3->ids[k]? =some b->h.get b=st.h.get b
def KE(K:ac dC)(fx:tn):Prop:=
 match K with
 |.xk ms n::_=>fx=ss an.call ms n
 |_=>True
def adM(C:tn->Prop)(Q:c6->cg->Prop)(l:ac (bt×cz))(bl:ac a0)(bc:bV)(a4 b3:Nat)(s:cg):Prop:=∀fx,C fx->∀H ids st I gE cG,cZ an.aX an.i0 an.ax H ids st->Fit H ids st s.own s.n->cY I H ids s.env->adL gE H ids st bl bc a4 b3 cG I->W (hn an.call fx l cG I st) (rH an Q)
def Sem:ac dC->c6->cg->Prop
 |[]=>an.Q
 |.seq c::K=>λx s=>match x with
  |.norm=>Rs an (Sem K) c s
  |x=>Sem K x s
 |.cA i::K=>λx s=>match x with
  |.exit j=>if j=i then Sem K .norm s else Sem K (.exit j) s
  |x=>Sem K x s
 |.b7 o::K=>λx s=>match x with
  |.norm=>o s
  |x=>Sem K x s
 |.xk _ _::K=>Sem K
def ak(K:ac dC)(c:bu)(s:cg):Prop:=
 match c with
 |.c c=>Rs an (Sem an K) c s
 |.R l=>adK an (Sem an K) l s
 |.x e=>Sem an K e s
 |.d l bl bc a4 b3=>adM an (KE an K) (Sem an K) l bl bc a4 b3 s
structure bP where
 K:ac dC
 c:bu
 s:cg
def bP.ok(g:bP):Prop:=ak an g.K g.c g.s
abbrev fz(K:ac dC)(c:bu)(own:ac a0)(n:Nat)(e:bV):Prop:=bP.ok an ⟨K,c,⟨own,n,e⟩⟩
abbrev cE(K:ac dC)(l:ac bt)(own:ac a0)(n:Nat)(e:bV):Prop:=fz an K (.R l) own n e
abbrev g2(K:ac dC)(d:Tmp)(R:dm)(l:ac bt)(own:ac a0)(n:Nat)(e:bV):Prop:=cE an K (⟨some d,R,none⟩::l) own n e
abbrev dB(K:ac dC)(l:ac (bt×cz))(bl:ac a0)(bc:bV)(a4 b3:Nat)(own:ac a0)(n:Nat)(e:bV):Prop:=fz an K (.d l bl bc a4 b3) own n e
def ec(d:be Tmp)(a:ai)(e:bV):bV:=
 match d with
 |none=>e
 |some d=>(d,a)::e
section
def B7(own:ac a0)(n:Nat)(e:bV)(R:dm)(K:ai->ac a0->Nat->be bP):be bP:=
 match B3 e R with
 |some a=>K a own n
 |none=>match vp own e R with
  |some a=>K a own n
  |none=>FX own n e K R
def qy(d:be Tmp)(e:bV):bV:=
 match d with
 |none=>e
 |some d=>jt d e
def KF:ac Nat->bV->bV
 |[],e=>e
 |d::aU,e=>KF aU<|jt d e
def za{β:Type _}(bl:ac a0)(m:be Nat)(K:ac a0->be β):be β:=
 match m with
 |none=>K bl
 |some k=>match bl[k]? with
  |some _=>gN bl k .x K
  |none=>K bl
def Rt(bl:ac a0)(e:bV)(R:dm):be ai:=
 match B3 e R with
 |some a=>some a
 |none=>vp bl e R
def zb{β:Type _}(d:Nat):bV->(bV->be β)->be β
 |[],K=>K []
 |p::l,K=>match Nat.beq p.1 d with
  |true=>zb d l K
  |false=>zb d l λr=>K<|p::r
def rI(K:ac dC)(d:be Tmp)(l:ac (bt×cz))(bl:ac a0)(bc:bV)(a4 b3:Nat)(own:ac a0)(n:Nat)(a:ai)(e:bV)(tK:be ai):be bP:=
 match d with
 |none=>some ⟨K,.d l bl bc a4 b3,⟨own,n,e⟩⟩
 |some d=>match tK with
  |some tK=>some ⟨K,.d l bl ((d,tK)::bc) a4 b3,⟨own,n,(d,a)::e⟩⟩
  |none=>zb d bc λh=>some ⟨K,.d l bl h a4 b3,⟨own,n,(d,a)::e⟩⟩
def KG(K:ac dC)(d:be Tmp)(R:dm)(c:cz)(l:ac (bt×cz))(bl:ac a0)(bc:bV)(a4 b3:Nat)(own:ac a0)(n:Nat)(e:bV):be bP:=
 match c with
 |.dJ=>B7 own n e R λa bk cI=>za bl (g1 e R) λfN=>mb a4 λh=>rI K d l fN bc h cI bk cI a e none
 |.hM aF=>FX own n (eF aF e) (λa bk cI=>match g1 (eF aF e) R with
  |none=>rI K d l bl bc a4 b3 bk cI a e none
  |some _=>none) R
 |.read back aF=>match Nat.ble (back+1) a4 with
  |true=>match Rt bl (eF aF bc) R with
   |some g=>rI K d l bl bc a4 b3 own n g e (some g)
   |none=>match B3 (eF aF e) R with
    |some a=>rI K d l bl bc a4 b3 own n a e none
    |none=>match back with
     |0=>match vp own (eF aF e) R with
      |some a=>match qv (eF aF e) R with
       |none=>rI K d l bl bc a4 b3 own n a e none
       |some k=>match Nat.ble (k+1) b3 with
        |true=>rI K d l bl bc a4 b3 own n a e none
        |false=>none
      |none=>none
     |_=>none
  |false=>none
def F2(c:cz)(e:bV):bV:=
 match c with
 |.dJ=>e
 |.hM aF=>eF aF e
 |.read _ aF=>eF aF e
def B8(K:ac dC)(d:be Tmp)(c:cz)(l:ac (bt×cz))(bl:ac a0)(bc:bV)(a4 b3:Nat)(own:ac a0)(n:Nat)(e:bV):be bP:=
 match c with
 |.dJ=>mb a4 λh=>rI K d l bl bc h n own n (.br []) e none
 |_=>rI K d l bl bc a4 b3 own n (.br []) e none
def B9(K:ac dC)(l:ac bt)(d:be Tmp)(own:ac a0)(n:Nat)(e:bV):be bP:=
 match d with
 |none=>some ⟨K,.R l,⟨own,n,e⟩⟩
 |some d=>some ⟨K,.R l,⟨own,n,(d,.br [])::e⟩⟩
def KH{β:Type _}:ac (bt×cz)->Nat->(Nat->be β)->be β
 |[],n,K=>K n
 |_::l,n,K=>mb n λn=>KH l n K
def KI{β:Type _}:ac Nat->bV->(bV->be β)->be β
 |[],e,K=>K e
 |d::aU,e,K=>zb d e λk7=>KI aU k7 K
def Ca:bP->be bP
 |⟨K,.c .skip,s⟩=>some ⟨K,.x .norm,s⟩
 |⟨K,.c<|.gx l,s⟩=>some ⟨K,.R l,s⟩
 |⟨K,.c<|.seq a b,s⟩=>some ⟨.seq b::K,.c a,s⟩
 |⟨K,.c<|.block i a,s⟩=>some ⟨.cA i::K,.c a,s⟩
 |⟨K,.c<|.exit i,s⟩=>some ⟨K,.x<|.exit i,s⟩
 |⟨K,.c .ret,s⟩=>some ⟨K,.x .ret,s⟩
 |⟨K,.c<|.scope a,s⟩=>some ⟨K,.c a,s⟩
 |⟨K,.c<|.cond c a b,s⟩=>match bb s.env c with
  |some (.b true)=>some ⟨K,.c a,s⟩
  |some (.b false)=>some ⟨K,.c b,s⟩
  |_=>none
 |⟨K,.R [],s⟩=>some ⟨K,.x .norm,s⟩
 |⟨K,.R<|⟨some d,R,none⟩::l,⟨own,n,e⟩⟩=>B7 own n e R λa bk cI=>some ⟨K,.R l,⟨bk,cI,(d,a)::e⟩⟩
 |⟨K,.R<|⟨none,R,none⟩::l,⟨own,n,e⟩⟩=>B7 own n e R λ_ bk cI=>some ⟨K,.R l,⟨bk,cI,e⟩⟩
 |⟨K,.R<|⟨d,R,some (t,b)⟩::l,⟨own,n,e⟩⟩=>match dx e t with
  |some (.b true)=>match b with
   |true=>some ⟨K,.R<|⟨d,R,none⟩::l,⟨own,n,e⟩⟩
   |false=>B9 K l d own n e
  |some (.b false)=>match b with
   |false=>some ⟨K,.R<|⟨d,R,none⟩::l,⟨own,n,e⟩⟩
   |true=>B9 K l d own n e
  |some (.br _)=>B9 K l d own n e
  |_=>none
 |⟨K,.c<|.q5 l _ J ms,⟨own,n,e⟩⟩=>KI J e λk7=>KH l 0 λm=>some ⟨.xk ms m::K,.d l own k7 1 n,⟨own,n,k7⟩⟩
 |⟨.xk _ _::K,.d [] _ _ _ _,s⟩=>some ⟨K,.x .norm,s⟩
 |⟨K,.d [] _ _ _ _,s⟩=>some ⟨K,.x .norm,s⟩
 |⟨K,.d ((⟨d,R,none⟩,c)::l) bl bc a4 b3,⟨own,n,e⟩⟩=>KG K d R c l bl bc a4 b3 own n e
 |⟨K,.d ((⟨d,R,some (t,b)⟩,c)::l) bl bc a4 b3,⟨own,n,e⟩⟩=>match dx (F2 c e) t with
  |some (.b true)=>match b with
   |true=>some ⟨K,.d ((⟨d,R,none⟩,c)::l) bl bc a4 b3,⟨own,n,e⟩⟩
   |false=>B8 K d c l bl bc a4 b3 own n e
  |some (.b false)=>match b with
   |false=>some ⟨K,.d ((⟨d,R,none⟩,c)::l) bl bc a4 b3,⟨own,n,e⟩⟩
   |true=>B8 K d c l bl bc a4 b3 own n e
  |some (.br _)=>B8 K d c l bl bc a4 b3 own n e
  |_=>none
 |⟨.seq c::K,.x .norm,s⟩=>some ⟨K,.c c,s⟩
 |⟨.seq _::K,.x<|.exit i,s⟩=>some ⟨K,.x<|.exit i,s⟩
 |⟨.seq _::K,.x .ret,s⟩=>some ⟨K,.x .ret,s⟩
 |⟨.cA _::K,.x .norm,s⟩=>some ⟨K,.x .norm,s⟩
 |⟨.cA i::K,.x<|.exit j,s⟩=>match Nat.beq j i with
  |true=>some ⟨K,.x .norm,s⟩
  |false=>some ⟨K,.x<|.exit j,s⟩
 |⟨.cA _::K,.x .ret,s⟩=>some ⟨K,.x .ret,s⟩
 |⟨.b7 _::K,.x<|.exit i,s⟩=>some ⟨K,.x<|.exit i,s⟩
 |⟨.b7 _::K,.x .ret,s⟩=>some ⟨K,.x .ret,s⟩
 |⟨.seq _::K,.x<|.aY v,s⟩=>some ⟨K,.x<|.aY v,s⟩
 |⟨.cA _::K,.x<|.aY v,s⟩=>some ⟨K,.x<|.aY v,s⟩
 |⟨.b7 _::K,.x<|.aY v,s⟩=>some ⟨K,.x<|.aY v,s⟩
 |⟨.xk _ _::K,.x e,s⟩=>some ⟨K,.x e,s⟩
 |_=>none
end
section
variable{an:e2}{K:ac dC}{s:cg}
def cY.ec{I:aO}{e:bV}(h:cY I H ids e)(d:be Tmp)(Z:den H a ids v):cY (I.put d v) H ids (Go.bI.ec d a e):=by
 cases d with
 |none=>exact h
 |some d=>exact h.put d Z
def KJ{call:bR}{R:dm}{C:ai->ac a0->Nat->be bP}{r:bP}(h:B7 s.own s.n s.env R C=some r):∃a bk cI,C a bk cI=some r/\fH call R s a bk cI:=by
 rw[B7]at h;split at h
 .rename_i a F;refine⟨a,_,_,h,λH ids st I U D=>?_⟩;obtain⟨v,g,A⟩:=KC D F;exact aq0 aq0
 .split at h
  .rename_i a F;refine⟨a,_,_,h,λH ids st I U D=>?_⟩;obtain⟨v,g,A⟩:=Kz D (by rw[U.len,U.cV];exact c4 _) (λk R b E _ aa=>(U.own k R b E aa).1) F;exact apW apW
  .obtain⟨a,bk,cI,Y,G⟩:=Rr h;exact⟨a,bk,cI,Y,G.to⟩
def Cb(an:e2)(R:dm)(s:cg)(a:ai)(bk:ac a0)(cI:Nat):Prop:=
 ∀(H:bm) (ids:ac Nat) (st:ao) (I:aO),cZ an.aX an.i0 an.ax H ids st->Fit H ids st s.own s.n->cY I H ids s.env->
  ∃v al F Z,bD an.call R I st= .ok v I al/\Fit Z F al bk cI/\den Z a F v/\cL H Z/\ck ids F/\cZ an.aX an.i0 an.ax Z F al/\
   st.ag<=al.ag/\∀b,b<st.ag->(∀k,g1 s.env R=some k->ids[k]? ≠some b)->al.h.get b=st.h.get b
variable{d:be Tmp}{bc:bV}{bl:ac a0}{a4 b3:Nat}{bk:ac a0}{cI:Nat}{fN:ac a0}{I:aO}{back:Nat}{c:cz}{t:Bool}{gE:bm}{e:bV}
def qw.b{R:dm}(h:qw an.aX an.call R s a bk cI):Cb an R s a bk cI:=λH ids st I O U D=>
 let⟨v,al,F,Z,Y,G,C,N,J,B,g⟩:=h H ids st I O.hle U D
 ⟨v,al,F,Z,Y,G,C,N,J,B _ _ _ O,g⟩
def Ru{R:dm}{l:ac bt}(h:Cb an R s a bk cI)(k:ak an K (.R l) ⟨bk,cI,ec d a s.env⟩):ak an K (.R<|⟨d,R,none⟩::l) s:=by
 intro H ids st I O U D;have⟨v,al,F,Z,Y,G,C,B,N,J,_⟩:=h H ids st I O U D;exact oM Y<|k Z F al _ J G<|(D.mono B N).ec d C
def tL{R:dm}{l:ac bt}(h:qw an.aX an.call R s a bk cI)(k:ak an K (.R l) ⟨bk,cI,ec d a s.env⟩):ak an K (.R<|⟨d,R,none⟩::l) s:=Ru h.b k
def xm{R:dm}{l:ac bt}(h:fH an.call R s a bk cI)(k:ak an K (.R l) ⟨bk,cI,ec d a s.env⟩):ak an K (.R<|⟨d,R,none⟩::l) s:=tL h.g k
def xn(h:∀j a,dx bc j=some a->den gE a ids (I.tmp j))(d:be Tmp)(v:bv):∀j a,dx (qy d bc) j=some a->den gE a ids ((I.put d v).tmp j):=by
 cases d with
 |none=>exact h
 |some d=>
  intro j a A;have⟨Y,G⟩:=FN d bc j a A;rw[tB,au Y];exact h j a G
theorem adN(h:∀j a,dx bc j=some a->den gE a ids (I.tmp j))(d:be Tmp){b:ai}(Z:den gE b ids v):∀j a,dx (ec d b bc) j=some a->den gE a ids ((I.put d v).tmp j):=by
 cases d with
 |none=>exact h
 |some d=>
  intro j a A;have A:cond (Nat.beq d j) (some b) (dx bc j)=some a:=A;rw[tB];cases aa:Nat.beq d j with
  |true=>
   simp_all
  |false=>
   rw[aa]at A;rw[au λe=>by rw[e,kA]at aa;cases aa];exact h j a A
theorem KK{β:Type _}{r:β}{d:Nat}:∀{e:bV} {C:bV->be β},zb d e C=some r->C (jt d e)=some r
 |[],_,h=>h
 |p::l,C,h=>by
  rw[zb]at h;rw[jt];cases aa:Nat.beq p.1 d with
  |_=>rw[aa]at h;exact KK h
theorem Rv{β:Type _}{r:β}:∀{l:ac (bt×cz)} {n:Nat} {C:Nat->be β},KH l n C=some r->C (n+dK l)=some r
 |[],_,_,h=>h
 |x::l,n,C,h=>by
  have h:=Rv<|nn h
  grind [dK,fi]
theorem Rw{β:Type _}{r:β}:∀{aU:ac Nat} {e:bV} {C:bV->be β},KI aU e C=some r->C (KF aU e)=some r
 |[],_,_,h=>h
 |_::aU,_,_,h=>Rw (aU:=aU)<|KK h
def xo{l:ac (bt×cz)}{own:ac a0}{g:bP}(h:rI K d l bl bc a4 b3 own n a e none=some g)(k:g.ok an):ak an K (.d l bl (qy d bc) a4 b3) ⟨own,n,ec d a e⟩:=by
 unfold rI at h;split at h
 .cases h;exact k
 .have:=KK h;cases this;exact k
def KL{l:ac bt}{own:ac a0}{g:bP}(h:B9 K l d own n e=some g)(k:g.ok an):ak an K (.R l) ⟨own,n,ec d (.br []) e⟩:=by
 unfold B9 at h;split at h
 .cases h;exact k
 .cases h;exact k
theorem F3{β:Type _}{r:β}{m:be Nat}{C:ac a0->be β}(h:za bl m C=some r):∃fN,C fN=some r/\fN.length=bl.length/\∀(k:Nat) (R:a0),fN[k]? =some R->R.live=true->bl[k]? =some R/\m≠some k:=by
 unfold za at h;split at h
 .grind
 .rename_i m;split at h
  .refine⟨_,hR h,az,λk R E W=>?_⟩;rw[mq]at E;by_cases T:m=k
   .rw[aA T]at E;split at E<;>cases E;cases W
   .grind
  .grind
theorem Rx{R:dm}{l:ac (bt×cz)}(h:∀(H:bm) (ids:ac Nat) (st:ao) (I:aO),cZ an.aX an.i0 an.ax H ids st->Fit H ids st s.own s.n->cY I H ids s.env->∃v al F Z,bD an.call R I st= .ok v I al/\Fit Z F al bk cI/\den Z a F v/\cL H Z/\ck ids F/\cZ an.aX an.i0 an.ax Z F al/\st.ag<=al.ag/\∀(k b:Nat) (cq:a0),fN[k]? =some cq->cq.live=true->ids[k]? =some b->al.h.get b=st.h.get b)(aI:fN.length=bl.length)(aE:∀(k:Nat) (cq:a0),fN[k]? =some cq->cq.live=true->bl[k]? =some cq)
 (k:ak an K (.d l fN (qy d bc) (a4+1) cI) ⟨bk,cI,ec d a s.env⟩):ak an K (.d ((⟨d,R,none⟩,.dJ)::l) bl bc a4 b3) s:=by
 intro fx C H ids st I gE cG O U D T;obtain⟨v,al,F,Z,V,B,bj,dj,dp,fa,gC,mz⟩:=h H ids st I O U D;have g:∀(k:Nat) b,k<ids.length->F[k]? =some b->ids[k]? =some b:=λk b E aa=>by
  have:=dp k _<|ba E;rw[aa]at this;rw[ba E,this]
 have ad:=k fx C Z F al (I.put d v) gE (al.h::cG) fa B ((D.mono dj dp).ec d bj) ⟨by simp[T.len],T.hle.trans dj,xn (λj a A=>iU apv _ dp<|T.en j a A) d v,?_,by rw[B.len];exact c4 _,?_,?_,?_⟩
 .refine W.of_eq ?_ ad;show a2.rec (motive:=λ_=>cO) (λv L al=>eB st.ag al.ag (hn an.call fx l (al.h::cG) (aO.put ⟨I.t,L.di,L.aY,L.cU,L.b7⟩ d v) al) .no) (λv al=>cond R.lE (cond (fx l (st.h::cG) (I.put d undef) st) (.out (.aY v) I al) .no) .no) .no (bD an.call R I st)=_;rw[V];show eB st.ag al.ag _ _=_;rw[h7 gC]
 .rw[aI];have:ids.length<=F.length:=by
   rcases fW F.length ids.length with aT|Y
   .have:=dp F.length _ aq6;simp at this
   .exact Y
  exact cN T.qx this
 .intro k cq b E a' aa;have G:=aE k cq E a';have aa:=g k b (fG (dG.1 G).1 T.qx) aa;obtain⟨N,J⟩:=T.bl k cq b G a' aa;rw[(mz k b cq E a' aa)];refine⟨rG apv dp N,λh hm=>?_⟩
  grind
 .intro h hm b cq aa;rcases fg.1 hm with rfl|hm
  .exact B.le _ _<|dj _ _<|T.hle _ _ aa
  .exact T.hO h hm b cq aa
 .intro h hm;simp at hm;subst hm;exact⟨B.le,λ_ _ _ _=>o⟩
def KM{R:dm}{l:ac (bt×cz)}(h:Cb an R s a bk cI)(aI:fN.length=bl.length)(aE:∀(k:Nat) (cq:a0),fN[k]? =some cq->cq.live=true->bl[k]? =some cq/\g1 s.env R≠some k)
 (k:ak an K (.d l fN (qy d bc) (a4+1) cI) ⟨bk,cI,ec d a s.env⟩):ak an K (.d ((⟨d,R,none⟩,.dJ)::l) bl bc a4 b3) s:=
 Rx (λH ids st I O U D=>by
  have⟨v,al,F,Z,V,B,bj,dj,dp,fa,gC,mz⟩:=h H ids st I O U D;refine⟨v,al,F,Z,V,B,bj,dj,dp,fa,gC,λk b cq E aI aa=>mz b (U.lt b<|fQ aa) λgZ L g=>?_⟩;have T:=dG.1 g;have:=(uP U.c2).1<|(dG.1 aa).2.trans T.2.symm;exact(aE k cq E aI).2<|this▸L) aI (λk cq a b=>(aE k cq a b).1) k
def F4{R:dm}{l:ac (bt×cz)}(h:qw an.aX an.call R s a bk cI)(aI:fN.length=bl.length)(aE:∀(k:Nat) (cq:a0),fN[k]? =some cq->cq.live=true->bl[k]? =some cq/\g1 s.env R≠some k)
 (k:ak an K (.d l fN (qy d bc) (a4+1) cI) ⟨bk,cI,ec d a s.env⟩):ak an K (.d ((⟨d,R,none⟩,.dJ)::l) bl bc a4 b3) s:=KM h.b aI aE k
def vq{R:dm}{l:ac (bt×cz)}(h:fH an.call R s a bk cI)(aI:fN.length=bl.length)(aE:∀(k:Nat) (cq:a0),fN[k]? =some cq->cq.live=true->bl[k]? =some cq/\g1 s.env R≠some k)
 (k:ak an K (.d l fN (qy d bc) (a4+1) cI) ⟨bk,cI,ec d a s.env⟩):ak an K (.d ((⟨d,R,none⟩,.dJ)::l) bl bc a4 b3) s:=F4 h.g aI aE k
def Ry{i j:ac Nat}(h:ck i j):i.length<=j.length:=by
 obtain aT|Y:=fW j.length i.length
 .have:=h j.length _ aq6;simp at this
 .exact Y
def Rz{R:dm}{aF:ac Tmp}{l:ac (bt×cz)}(h:B6 an.call R ⟨s.own,s.n,eF aF s.env⟩ a bk cI)(hm:g1 (eF aF s.env) R=none)
 (k:ak an K (.d l bl (qy d bc) a4 b3) ⟨bk,cI,ec d a s.env⟩):ak an K (.d ((⟨d,R,none⟩,.hM aF)::l) bl bc a4 b3) s:=by
 intro fx C H ids st I gE cG O U D T;have⟨v,al,F,V,B,bj,dp,fa,gC,mz⟩:=h H ids st (I.only aF) U<|D.only aF;have g:∀(k:Nat) b,k<ids.length->F[k]? =some b->ids[k]? =some b:=λk b E aa=>by
  have:=dp k _<|ba E;rw[aa]at this;rw[ba E,this]
 have a':∀(k:Nat) b,ids[k]? =some b->al.h.get b=st.h.get b:=λk b aa=>mz b (U.lt b<|fQ aa) λgZ L=>by rw[hm]at L;cases L
 have Z:=k fx C H F al (I.put d v) gE cG (fa _ _ _ O) B ((D.mono apv dp).ec d bj) ⟨T.len,T.hle,xn (λj a A=>iU apv _ dp<|T.en j a A) d v,cN T.qx<|Ry dp,cN T.xl<|Ry dp,?_,T.hO,?_⟩
 .refine W.of_eq ?_ Z;show jI I.t aF (λt=>a2.rec (motive:=λ_=>cO) (λv _ al=>hn an.call fx l cG (I.put d v) al) (λ_ _=>.no) .no<|bD an.call R ⟨t,[],none,false,none⟩ st)=_;rw[oH];have e:bD an.call R ⟨E9 I.t aF,[],none,false,none⟩ st= .ok v (I.only aF) al:=V;rw[e]
 .intro k cq b E ad aa;have aa:=g k b (fG (dG.1 E).1 T.qx) aa;have⟨N,J⟩:=T.bl k cq b E ad aa;rw[a' k b aa];exact⟨rG apv dp N,J⟩
 .intro h ag;have⟨Y,G⟩:=T.top h ag;refine⟨Y,λk b E aa=>?_⟩;have aa:=g k b (fG E T.xl) aa;rw[a' k b aa];exact G k b E aa
def KN{fx:tn}{R:dm}{aF:ac Tmp}{l:ac (bt×cz)}{cG:ac (ar bG)}{st:ao}{Q:c6->aO->ao->Prop}(aE:bD an.call R (I.only aF) st= .ok v (I.only aF) st)(aK:∀h∈cG.take (back+1),bD an.call R (I.only aF) ⟨h,st.ag⟩= .ok v (I.only aF) ⟨h,st.ag⟩)(aI:back<cG.length)
 (k:W (hn an.call fx l cG (I.put d v) st) Q):W (hn an.call fx ((⟨d,R,none⟩,.read back aF)::l) cG I st) Q:=by
 refine adq (λh hm=>?_) aI k;obtain rfl|hm:=fg.1 hm
 .exact aE
 .exact aK h hm
def mF{R:dm}{aF:ac Tmp}{l:ac (bt×cz)}(aa:back<a4)
 (h:∀(H:bm) (ids:ac Nat) (st:ao) (I:aO),cY I H ids (eF aF bc)->bl.length<=ids.length->(∀(k:Nat) (R:a0) (b:Nat),bl[k]? =some R->R.live=true->ids[k]? =some b->oO H ids R (st.h.get b))->
  ∃v,den H a ids v/\∀L:ao,(∀b R,H b=some R->L.h.get b=some R)->(∀(k:Nat) (R:a0) (b:Nat),bl[k]? =some R->R.live=true->ids[k]? =some b->L.h.get b=st.h.get b)->bD an.call R I L= .ok v I L)
 (k:ak an K (.d l bl (ec d a bc) a4 b3) ⟨s.own,s.n,ec d a s.env⟩):ak an K (.d ((⟨d,R,none⟩,.read back aF)::l) bl bc a4 b3) s:=by
 intro fx C H ids st I gE cG O U D T;have V:cY I gE ids bc:=⟨D.pl,T.en⟩;have⟨v,Y,G⟩:=h gE ids st (I.only aF) (V.only aF) T.qx λk R b E W aa=>(T.bl k R b E W aa).1;refine KN (G st (λb R g=>U.le _ _<|T.hle _ _ g) λ_ _ _ _ _ _=>o) (λh hm=>?_) asu<|k fx C H ids st (I.put d v) gE cG O U (D.ec d<|iU T.hle _ aoN Y) ⟨T.len,T.hle,adN T.en d Y,T.qx,T.xl,T.bl,T.hO,T.top⟩;have hm:=wg hm;exact G ⟨h,st.ag⟩ (T.hO h hm) λk R b E W aa=>(T.bl k R b E W aa).2 h hm
def adO{R:dm}{aF:ac Tmp}{l:ac (bt×cz)}(aa:back<a4)
 (h:∀(H:bm) (ids:ac Nat) (I:aO),cY I H ids (eF aF s.env)->∃v,den H a ids v/\∀st,bD an.call R I st= .ok v I st)
 (k:ak an K (.d l bl (qy d bc) a4 b3) ⟨s.own,s.n,ec d a s.env⟩):ak an K (.d ((⟨d,R,none⟩,.read back aF)::l) bl bc a4 b3) s:=by
 intro fx C H ids st I gE cG O U D T;have⟨v,Y,G⟩:=h H ids (I.only aF)<|D.only aF;exact KN (G st) (λh hm=>G _) asu<|k fx C H ids st (I.put d v) gE cG O U (D.ec d Y) ⟨T.len,T.hle,xn T.en d v,T.qx,T.xl,T.bl,T.hO,T.top⟩
def adP{R:dm}{aF:ac Tmp}{l:ac (bt×cz)}(aa:0<a4)
 (h:∀(H:bm) (ids:ac Nat) (st:ao) (I:aO),Fit H ids st s.own s.n->cY I H ids (eF aF s.env)->∃v,den H a ids v/\∀L:ao,(∀b R,H b=some R->L.h.get b=some R)->(∀k b:Nat,k<b3->ids[k]? =some b->L.h.get b=st.h.get b)->bD an.call R I L= .ok v I L)
 (k:ak an K (.d l bl (qy d bc) a4 b3) ⟨s.own,s.n,ec d a s.env⟩):ak an K (.d ((⟨d,R,none⟩,.read 0 aF)::l) bl bc a4 b3) s:=by
 intro fx C H ids st I gE cG O U D T;have⟨v,Y,G⟩:=h H ids st (I.only aF) U<|D.only aF;refine KN (G st U.le λ_ _ _ _=>o) (λh hm=>?_) asu<|k fx C H ids st (I.put d v) gE cG O U (D.ec d Y) ⟨T.len,T.hle,xn T.en d v,T.qx,T.xl,T.bl,T.hO,T.top⟩;have W:=T.len
 match cG,W,hm with
 |[],W,_=>simp at W;omega
 |g::cG,_,hm=>
  simp at hm;subst hm;have⟨V,B⟩:=T.top h o;exact G ⟨h,st.ag⟩ V B
theorem adQ{R:dm}{l:ac (bt×cz)}{g:bP}(h:KG K d R c l bl bc a4 b3 s.own s.n s.env=some g)(k:g.ok an):ak an K (.d ((⟨d,R,none⟩,c)::l) bl bc a4 b3) s:=by
 unfold KG at h;split at h
 .obtain⟨a,bk,cI,Y,G⟩:=KJ h;obtain⟨fN,C,N,J⟩:=F3 Y;exact vq G N J<|xo (nn C) k
 .rename_i aF;obtain⟨a,bk,cI,Y,G⟩:=Rr (s:=⟨s.own,s.n,eF aF s.env⟩) h;split at Y
  .rename_i hm;exact Rz G hm<|xo Y k
  .cases Y
 .rename_i back aF;split at h<;>try cases h
  rename_i aa;have aa:=jb aa;split at h
  .rename_i Z D;refine mF aa (λH ids st I A W ay=>?_) (by
    unfold rI at h;split at h
    .cases h;exact k
    .cases h;exact k)
   unfold Rt at D;split at D
   .rename_i O;cases D;obtain⟨v,Y,G⟩:=KC A O;exact⟨v,Y,λL _ _=>G L⟩
   .obtain⟨v,Y,G⟩:=Kz A W ay D;refine⟨v,Y,λL V B=>G L (.inl V) λk b E aa=>?_⟩;obtain⟨cq,T,F⟩:=adG D E;exact B k cq b T F aa
  .split at h
   .rename_i a D;exact adO aa (λH ids I A=>KC A D)<|xo h k
   .split at h<;>try cases h
    split at h<;>try cases h
    rename_i a D;have key:(∀k,qv (eF aF s.env) R=some k->k<b3)->dB an K l bl (qy d bc) a4 b3 s.own s.n (ec d a s.env)->ak an K (.d ((⟨d,R,none⟩,.read 0 aF)::l) bl bc a4 b3) s:=λE k=>by
     refine adP aa (λH ids st I U A=>?_) k;obtain⟨v,Y,G⟩:=Kz (call:=an.call) A (by rw[U.len,U.cV];exact c4 _) (λk R b E _ aa=>(U.own k R b E aa).1) D
     grind
    split at h
    .rename_i aj;exact key (λk E=>by rw[aj]at E;cases E)<|xo h k
    .rename_i a5 aj;split at h
     .rename_i aT;exact key (λk E=>by rw[aj]at E;cases E;exact jb aT)<|xo h k
     .cases h
theorem KO{R:dm}{t:Tmp}{b:Bool}{l:ac (bt×cz)}{g:bP}(F:dx (F2 c s.env) t=some (.b<|!b)\/∃ab,dx (F2 c s.env) t=some (.br ab))(h:B8 K d c l bl bc a4 b3 s.own s.n s.env=some g)(k:g.ok an):ak an K (.d ((⟨d,R,some (t,b)⟩,c)::l) bl bc a4 b3) s:=by
 have V:∀{I:aO} {H:bm} {ids:ac Nat} {e:bV} {y n z:cO},cY I H ids e->(dx e t=some (.b<|!b)\/∃ab,dx e t=some (.br ab))->hl I (some (t,b)) y n z=n:=λ{I H ids e y n z} D F=>by
  rcases F with F|⟨ab,F⟩
  .exact adv<|D.get _ _ F
  .obtain⟨N,Z,_⟩:=D.get _ _ F;show kj (I.tmp t) (λc=>cond c (cond b y n)<|cond b n y) (q6 (I.tmp t) (λ_=>n) z)=_;rw[Z];rfl
 unfold B8 at h;intro fx C H ids st I gE cG O U D T;split at h
 .have k:=xo (nn h) k;have J:=k fx C H ids st (I.put d undef) gE (st.h::cG) O U (D.ec d apm) ⟨by simp[T.len],T.hle,xn T.en d _,T.qx,by rw[U.len];exact c4 _,λk R b E L aa=>?_,λh hm=>?_,λh hm=>?_⟩
  .exact W.of_eq (V D F) J
  .obtain⟨Y,G⟩:=T.bl k R b E L aa
   grind
  .rcases fg.1 hm with rfl|hm
   .exactλb R aa=>U.le _ _<|T.hle _ _ aa
   .exact T.hO h hm
  .simp at hm;subst hm;exact arx arx
 .rename_i A;have k:=xo h k;refine W.of_eq ?_ (k fx C H ids st (I.put d undef) gE cG O U (D.ec d apm) ⟨T.len,T.hle,xn T.en d _,T.qx,T.xl,T.bl,T.hO,T.top⟩);cases c with
  |dJ=>exact absurd o A
  |hM aF=>
   exact apF
  |read back aF=>
   exact apF
def RA{R:dm}{t:Tmp}{b:Bool}{l:ac (bt×cz)}(F:dx (F2 c s.env) t=some (.b b))(k:ak an K (.d ((⟨d,R,none⟩,c)::l) bl bc a4 b3) s):ak an K (.d ((⟨d,R,some (t,b)⟩,c)::l) bl bc a4 b3) s:=by
 intro fx C H ids st I gE cG O U D T;refine W.of_eq ?_ (k fx C H ids st I gE cG O U D T);cases c with
 |dJ=>
  exact Ki (D.get _ _ F)
 |hM aF=>
  exact ao5
 |read back aF=>
  exact ao5
def cY.RB:∀(J:ac Tmp) {I:aO} {e:bV},cY I H ids e->cY (qc I J) H ids (KF J e)
 |[],_,_,h=>h
 |d::J,_,_,h=>cY.RB J<|h.adz d jG
theorem gF{g ad:bP}(h:Ca g=some ad)(k:ad.ok an):g.ok an:=by
 unfold Ca at h;split at h
 .cases h;exactλH ids st I O U D=>ac4 ⟨H,ids,_,O,U,D,k⟩
 .cases h;exactλH ids st I O U D=>ac8<|k H ids st I O U D
 .cases h;intro H ids st I O U D;refine Q7<|(k H ids st I O U D).mono ?_;rintro x L al ⟨Z,a',J,V,A,C,aD⟩;cases x with
  |norm=>exact aD Z a' al L V A C
  |_=>exact aqM
 .cases h;rename_i i a s;intro H ids st I O U D;refine ac7<|(k H ids st I O U D).mono ?_;rintro x L al ⟨Z,a',J,V,A,C,aD⟩;cases x with
  |norm=>exact aqM
  |exit j=>
   show(if j=i then _ else _);have aD:(if j=i then _ else _):=aD;split at aD
   .rw[aA qg];exact aqM
   .rw[au qg];exact aqM
  |_=>exact aqM
 .cases h;exactλH ids st I O U D=>ac5 ⟨H,ids,_,O,U,D,k⟩
 .cases h;exactλH ids st I O U D=>ac6 ⟨H,ids,_,O,U,D,k⟩
 .cases h;exactλH ids st I O U D=>(k H ids st I O U D)
 .split at h<;>cases h
  .rename_i ah;exactλH ids st I O U D=>adb (D.aq ah) o<|k H ids st I O U D
  .rename_i ah;exactλH ids st I O U D=>ade (D.aq ah) o<|k H ids st I O U D
 .cases h;exactλH ids st I O U D=>ac9 ⟨H,ids,_,O,U,D,k⟩
 .rename_i K d R l own n e;exact aqA
 .rename_i K R l own n e;exact aqA
 .rename_i K d R t b l own n e;have B:∀{b:Bool},dx e t=some (.b b)->ak an K (.R<|⟨d,R,none⟩::l) ⟨own,n,e⟩->ak an K (.R<|⟨d,R,some (t,b)⟩::l) ⟨own,n,e⟩:=λF k H ids st I O U D=>adg (D.get _ _ F) o<|k H ids st I O U D;have N:∀{b:Bool},dx e t=some (.b<|!b)->ak an K (.R l) ⟨own,n,ec d (.br []) e⟩->ak an K (.R<|⟨d,R,some (t,b)⟩::l) ⟨own,n,e⟩:=λF k H ids st I O U D=>adh (D.get _ _ F) o<|k H ids st _ O U<|D.ec d apm;split at h
  .rename_i F;cases b
   .exact N F<|KL h k
   .cases h;exact B F k
  .rename_i F;cases b
   .cases h;exact B F k
   .exact N F<|KL h k
  .rename_i F;intro H ids st I O U D;obtain⟨ab,ag,_⟩:=D.get _ _ F;exact adi ag<|(KL h k) H ids st _ O U<|D.ec d apm
  .cases h
 .rename_i K l ao ai ms own n e;cases Rv (Rw h);intro H ids st I O U D;have D:=D.RB ai;exact adp<|k _ (show ss an.call ms (dK l)=ss an.call ms (0+dK l) by rw[jn]) H ids st _ H [st.h] O U D ⟨o,cL.refl _,D.get,by rw[U.len,<-U.cV];exact c4 _,by rw[U.len];exact c4 _,λk R b E W aa=>⟨(U.own k R b E aa).1,λh hm=>by simp at hm;rw[hm]⟩,λh hm=>by simp at hm;subst hm;exact U.le,λh hm=>by simp at hm;subst hm;exact arx⟩
 .exact aqx
 .exact aqx
 .exact adQ h k
 .split at h
  .rename_i F;split at h
   .cases h;exact RA F k
   .exact KO (.inl F) h k
  .rename_i F;split at h
   .cases h;exact RA F k
   .exact KO (.inl F) h k
  .rename_i F;exact KO (.inr ⟨_,F⟩) h k
  .cases h
 .cases h;exact k
 .cases h;exact k
 .cases h;exact k
 .cases h;exact k
 .split at h<;>cases h
  .rename_i aa;show(if _ then _ else _);rw[aA<|dy aa];exact k
  .rename_i aa;show(if _ then _ else _);rw[au λe=>by rw[e,kA]at aa;cases aa];exact k
 .cases h;exact k
 .cases h;exact k
 .cases h;exact k
 .cases h;exact k
 .cases h;exact k
 .cases h;exact k
 .cases h;exact k
 .cases h
def zc{c:ce}{a b:dz}(ah:bb s.env c=some (.b t))(bK:t=true->bP.ok an ⟨K,.c a,s⟩)(aa:t=false->bP.ok an ⟨K,.c b,s⟩):bP.ok an ⟨K,.c<|.cond c a b,s⟩:=λH ids st I O U D=>
 ada (D.aq ah) (λh=>bK h H ids st I O U D) λh=>aa h H ids st I O U D
def RC{c:ce}{a b:dz}(ah:bb s.env c=some (.b t))(aN:t=true)(bK:bP.ok an ⟨K,.c a,s⟩):bP.ok an ⟨K,.c<|.cond c a b,s⟩:=zc ah (λ_=>bK) λh=>by rw[aN]at h;cases h
def adR{c:ce}{a b:dz}(ah:bb s.env c=some (.b t))(aN:t=false)(aa:bP.ok an ⟨K,.c b,s⟩):bP.ok an ⟨K,.c<|.cond c a b,s⟩:=zc ah (λh=>by rw[aN]at h;cases h) λ_=>aa
def adS{a b:dz}(o:cg->Prop)(aE:bP.ok an ⟨.b7 o::K,.c a,s⟩)(aK:∀J,o J->bP.ok an ⟨K,.c b,J⟩):bP.ok an ⟨K,.c<|.seq a b,s⟩:=by
 intro H ids st I O U D;refine Q7<|(aE H ids st I O U D).mono ?_;rintro x L al ⟨Z,F,J,V,A,C,aD⟩;cases x with
 |norm=>exact aK J aD Z F al L V A C
 |_=>exact⟨Z,F,J,V,A,C,aD⟩
def adT{L:Type _}{b:dz}(ae:L->cg->Prop)(N:L->Nat)(E:L)(bS:ae E s)(hm:N E<an.a8)(h:∀l J,ae l J->bP.ok an ⟨.b7 (λt=>∃bq,N bq<N l/\ae bq t)::K,.c b,J⟩):bP.ok an ⟨K,.c<|.loop b,s⟩:=by
 intro H ids st I O U D;apply adf (λm I st=>∃l H ids s,N l=m/\ae l s/\cZ an.aX an.i0 an.ax H ids st/\Fit H ids st s.own s.n/\cY I H ids s.env) (N E) hm ⟨E,H,ids,s,o,bS,O,U,D⟩;rintro m I st ⟨l,H,ids,J,rfl,af,O,U,D⟩;apply(h l J af H ids st I O U D).mono;rintro x g al ⟨Z,F,J,V,A,C,aD⟩;cases x with
 |norm=>have⟨bq,Y,G⟩:=aD;exact⟨_,Y,bq,Z,F,J,o,G,V,A,C⟩
 |_=>exact⟨Z,F,J,V,A,C,aD⟩
end
end Go.bI
namespace Go.bI
open Sym
variable{f:ac Nat}
def qz(f:ac Nat):bV->bV->Prop
 |[],_=>True
 |p::l,e=>dx e p.1=some (jQ f p.2)/\qz f l e
def qz.get:∀{l e:bV},qz f l e->∀{j:Nat} {a:ai},dx l j=some a->dx e j=some (jQ f a)
 |[],_,_,_,_,h=>by cases h
 |p::l,e,cG,j,v,h=>by
  rw[mD]at h;cases aa:Nat.beq p.1 j with
  |true=>rw[aa]at h;cases h;rw[<-dy aa];exact cG.1
  |false=>rw[aa]at h;exact qz.get cG.2 h
def lg(f:ac Nat):a0->a0->Prop
 |.c el cs,R=>R= .c el (kM f cs)
 |.a el aW z α ak l,R=>R= .a el aW z α ak l/\∀x,kM f (ak x)=ak x
 |.g p,R=>R= .g p
 |.x,_=>True
def sS(f:ac Nat)(own:ac a0):ac Nat->ac a0->Prop
 |[],[]=>True
 |m::ms,R::os=>(∃cq,own[m]? =some cq/\lg f R cq)/\sS f own ms os
 |_,_=>False
def sS.len{own:ac a0}:∀{ms:ac Nat} {os:ac a0},sS f own ms os->os.length=ms.length
 |[],[],_=>rfl
 |[],_::_,h=>h.elim
 |_::_,[],h=>h.elim
 |_::ms,_::os,h=>by simp[sS.len h.2]
def sS.get{own:ac a0}:∀{ms:ac Nat} {os:ac a0},sS f own ms os->∀{k:Nat} {R:a0},os[k]? =some R->∃m cq,ms[k]? =some m/\own[m]? =some cq/\lg f R cq
 |[],[],_,_,_,h=>by simp at h
 |[],_::_,h,_,_,_=>h.elim
 |_::_,[],h,_,_,_=>h.elim
 |m::ms,R::os,⟨⟨cq,aE,aK⟩,C⟩,0,q,h=>by simp at h;subst h;exact⟨m,cq,o,aE,aK⟩
 |m::ms,R::os,⟨_,C⟩,k+1,q,h=>sS.get C apA
def pinned:Nat->ac Nat->Nat->Bool
 |0,_,_=>true
 |n+1,m::f,k=>Nat.beq m k&&pinned n f (k+1)
 |_+1,[],_=>false
theorem KP:∀{n:Nat} {f:ac Nat} {k:Nat},pinned n f k=true->∀i,i<n->f[i]? =some (k+i)
 |0,_,_,_,i,h=>by omega
 |n+1,[],k,h,_,_=>by cases h
 |n+1,m::f,k,h,i,af=>by
  have h:(Nat.beq m k&&pinned n f (k+1))=true:=h;rw[cQ]at h;cases i with
  |zero=>simp[dy h.1]
  |succ i=>rw[show k+(i+1)=(k+1)+i by omega];simpa using KP h.2 i J
structure Sub(p:Nat)(f:ac Nat)(s t:cg):Prop where
 c2:f.Nodup
 n:t.n=f.length
 own:sS f s.own f t.own
 env:qz f t.env s.env
 RD:pinned p f 0=true
section
variable{H:bm}{ids:ac Nat}{st:ao}{I:aO}{s t:cg}{f:ac Nat}
variable{p:Nat}
def lg.live{R cq:a0}(h:lg f R cq)(aI:R.live=true):cq.live=true:=by
 cases R with
 |c el cs=>cases h;rfl
 |a el aW z α ak l=>cases h.1;rfl
 |g p=>cases h;rfl
 |x=>cases aI
theorem Sub.fit(h:Sub p f s t)(U:Fit H ids st s.own s.n):Fit H (pick f ids) st t.own t.n:=by
 have F:∀{k m:Nat},f[k]? =some m->(∃R,s.own[m]? =some R)->∃b,ids[m]? =some b/\(pick f ids)[k]? =some b:=λ{k m} E ⟨R,ay⟩=>by
  have af:m<ids.length:=by rw[U.len,<-U.cV];exact(dG.1 ay).1
  exact⟨_,ba af,tD E<|ba af⟩
 have J:∀k m:Nat,f[k]? =some m->∃R,s.own[m]? =some R:=λk m E=>by
  have W:=h.own.len;have aT:=(dG.1 E).1;obtain⟨a',cq,Y,G,_⟩:=h.own.get<|ba (show k<t.own.length by omega);rw[E]at Y;cases Y;exact⟨cq,G⟩
 have D:(pick f ids).length=f.length:=by simp[pick]
 refine⟨U.wf,U.le,by rw[h.n,h.own.len],by rw[h.n,D],?_,?_,?_⟩
 .rw[List.Nodup,lA];intro i j af A ad;rw[D]at af A;obtain⟨b,Y,G⟩:=F (ba af)<|J _ _<|ba af;obtain⟨c,C,N⟩:=F (ba A)<|J _ _<|ba A;have T:=(dG.1 N).2;rw[((dG.1 G).2),T];intro e;subst e;have B:=dG.1 C;have:=(uP U.c2).1<|(dG.1 Y).2.trans B.2.symm;have:=(uP h.c2).1 this;omega
 .intro b aa;obtain⟨k,E⟩:=se.1 aa;have aT:=(dG.1 E).1;rw[D]at aT;obtain⟨c,Y,G⟩:=F aq6<|J _ _ aq6;rw[E]at G;cases G;exact U.lt _<|fQ Y
 .intro k R b E aa;obtain⟨m,cq,Y,G,C⟩:=h.own.get E;obtain⟨c,N,L⟩:=F Y ⟨cq,G⟩;rw[aa]at L;cases L;obtain⟨V,B⟩:=U.own m cq b G N;exact⟨(by
   cases R with
   |c el cs=>cases C;obtain⟨ab,e,V⟩:=V;exact⟨ab,e,tE f cs V⟩
   |a el aW z α ak l=>
    obtain⟨C,hp⟩:=C;cases C;obtain⟨ab,Z,T,V⟩:=V;exact⟨ab,Z,T,λi x O=>tE f _ aoM⟩
   |g p=>cases C;exact V
   |x=>trivial),λW=>B<|C.live W⟩
def Sub.Cc(h:Sub p f s t)(D:cY I H ids s.env):cY I H (pick f ids) t.env:=⟨D.pl,λj a A=>Kj f a<|D.get j _<|h.env.get A⟩
def Sub.bH{aX:bm}{i0:ac Nat}{ax:ao}(h:Sub i0.length f s t)(U:Fit H ids st s.own s.n)(O:cZ aX i0 ax H ids st):cZ aX i0 ax H (pick f ids) st:=by
 refine⟨O.hle,O.hold,O.dZ,O.ag,?_,?_⟩
 .intro k b E;have:=KP h.RD k<|(dG.1 E).1;rw[jn]at this;exact tD this<|O.jf k b E
 .intro b aa;have⟨k,E⟩:=se.1 aa;rw[pick]at E;rw[we]at E;cases o:f[k]? with
  |none=>rw[o]at E;cases E
  |some m=>
   rw[o]at E;have E:some ((ids[m]?).getD 0)=some b:=E;have W:=h.own.len;have aT:=(dG.1 o).1;have⟨g,cq,Y,G,_⟩:=h.own.get<|ba (show k<t.own.length by omega);rw[o]at Y;cases Y;have af:m<ids.length:=by rw[U.len,<-U.cV];exact(dG.1 G).1
   rw[ba af]at E;cases E;exact O.new _<|eO af
end
section
variable{an:e2}{K:ac dC}{s t:cg}{f:ac Nat}
def rH.sub{Q o:c6->cg->Prop}{x:c6}{I:aO}{st:ao}(aD:∀s,Q x s->∃f t,Sub an.i0.length f s t/\o x t)(h:rH an Q x I st):rH an o x I st:=by
 obtain⟨H,ids,s,O,U,D,h⟩:=h;obtain⟨f,t,cG,g⟩:=aD s h;exact⟨H,_,t,cG.bH U O,cG.fit U,cG.Cc D,g⟩
def F5{c:dz}(f:ac Nat)(t:cg)(h:Sub an.i0.length f s t)(k:bP.ok an ⟨K,.c c,t⟩):bP.ok an ⟨K,.c c,s⟩:=λH ids st I O U D=>k H _ st I (h.bH U O) (h.fit U)<|h.Cc D
def F6{l:ac bt}(f:ac Nat)(t:cg)(h:Sub an.i0.length f s t)(k:bP.ok an ⟨K,.R l,t⟩):bP.ok an ⟨K,.R l,s⟩:=λH ids st I O U D=>k H _ st I (h.bH U O) (h.fit U)<|h.Cc D
def kN(p:Nat){L:Type _}(P:L->Prop)(T:L->cg)(s:cg):Prop:=∃f l,P l/\Sub p f s (T l)
variable{e:bV}{a:ai}{aC p:Nat}{c:bu}
def KQ{L:Type _}{a b:dz}(P:L->Prop)(T:L->cg)(aE:bP.ok an ⟨.b7 (kN an.i0.length P T)::K,.c a,s⟩)(aK:∀l,P l->bP.ok an ⟨K,.c b,T l⟩):bP.ok an ⟨K,.c<|.seq a b,s⟩:=
 adS _ aE λ_ ⟨f,l,hp,cG⟩=>F5 f _ cG<|aK l hp
def dN{L:Type _}{b:dz}(P:L->Prop)(T:L->cg)(o:L->Nat)(f0:ac Nat)(E:L)(Y:P E)(hm:o E<an.a8)(bS:Sub an.i0.length f0 s (T E))
 (h:∀l,P l->bP.ok an ⟨.b7 (kN an.i0.length (λbq=>o bq<o l/\P bq) T)::K,.c b,T l⟩):bP.ok an ⟨K,.c<|.loop b,s⟩:=
 adT (λl s=>P l/\∃f,Sub an.i0.length f s<|T l) o E ⟨Y,f0,bS⟩ hm λl J ⟨hp,f,cG⟩=>F5 f _ cG (by
  refineλH ids st I O U D=>(h l hp H ids st I O U D).mono ?_;rintro x W al ⟨Z,F,J,V,A,g,aD⟩;refine⟨Z,F,J,V,A,g,?_⟩;cases x with
  |norm=>have⟨N,bq,⟨B,G⟩,C⟩:=aD;exact⟨bq,B,G,N,C⟩
  |exit i=>exact aD
  |ret=>exact aD
  |aY v=>exact aD)
def bL{L:Type _}{P:L->Prop}{T:L->cg}(f:ac Nat)(l:L)(Y:P l)(h:Sub p f s (T l)):bP.ok an ⟨.b7 (kN p P T)::K,.x .norm,s⟩:=⟨f,l,Y,h⟩
def bh{e:c6}(h:an.Q e s):bP.ok an ⟨[],.x e,s⟩:=h
def tz{I:aO}{H:bm}{ids:ac Nat}{t:Nat}{b:ai}(h:dx e t=some a)(aj:∀H ids v,den H a ids v->den H b ids v)(D:cY I H ids e):cY I H ids ((t,b)::e):=⟨D.pl,λj c A=>by
 rw[mD]at A;cases aa:Nat.beq t j with
 |true=>rw[aa]at A;cases A;rw[<-dy aa];exact aj _ _ _ (D.get t _ h)
 |false=>rw[aa]at A;exact D.get j c A⟩
def bu.nY:bu->Bool
 |.x _=>true
 |_=>false
def a9(t:Nat)(b:ai){own:ac a0}(h:dx e t=some a)(F:a=b)(bE:fz an K c own aC ((t,b)::e))(ah:c.nY=false:=by rfl):fz an K c own aC e:=by
 subst F;cases c with
 |c c=>exactλH ids st I O U D=>bE H ids st I O U (tz h (λ_ _ _ d=>d) D)
 |R l=>exactλH ids st I O U D=>bE H ids st I O U (tz h (λ_ _ _ d=>d) D)
 |x e=>cases ah
 |d l bl bc a4 b3=>exactλfx C H ids st I gE cG O U D T=>bE fx C H ids st I gE cG O U (tz h (λ_ _ _ d=>d) D) T
def fI(t:Nat)(b:ai){own:ac a0}(h:dx e t=some a)(F:bX a b)(bE:fz an K c own aC ((t,b)::e))(ah:c.nY=false:=by rfl):fz an K c own aC e:=by
 cases c with
 |c c=>exactλH ids st I O U D=>bE H ids st I O U (tz h F D)
 |R l=>exactλH ids st I O U D=>bE H ids st I O U (tz h F D)
 |x e=>cases ah
 |d l bl bc a4 b3=>exactλfx C H ids st I gE cG O U D T=>bE fx C H ids st I gE cG O U (tz h F D) T
def ea(t:Nat)(b:ai){own bl:ac a0}{a4 b3:Nat}{bc:bV}{l:ac (bt×cz)}(h:dx e t=some a)(bS:dx bc t=some a)(F:a=b)(bE:dB an K l bl ((t,b)::bc) a4 b3 own aC ((t,b)::e)):dB an K l bl bc a4 b3 own aC e:=by
 subst F;exactλfx C H ids st I gE cG O U D T=>bE fx C H ids st I gE cG O U (tz h (λ_ _ _ d=>d) D) ⟨T.len,T.hle,(tz bS (λ_ _ _ d=>d) ⟨D.pl,T.en⟩).get,T.qx,T.xl,T.bl,T.hO,T.top⟩
def Cd{own:ac a0}{n:Nat}{k7:bV}(h:qz [] k7 e)(hp:pinned p [] 0=true:=by rfl):Sub p [] ⟨own,n,e⟩ ⟨[],0,k7⟩:=⟨pk,o,aP,h,hp⟩
end
section
variable{an:e2}{K:ac dC}{own bk:ac a0}{aC cI:Nat}{e:bV}
variable{R:dm}{l:ac bt}{a:ai}
def e6{d:Tmp}(h:fH an.call R ⟨own,aC,e⟩ a bk cI)(k:cE an K l bk cI ((d,a)::e)):g2 an K d R l own aC e:=xm h k
def RE(h:fH an.call R ⟨own,aC,e⟩ a bk cI)(k:cE an K l bk cI e):cE an K (⟨none,R,none⟩::l) own aC e:=xm h k
end
section
variable{call:bR}{s:cg}{x y i:ce}{a b:ai}
variable{z j k:Nat}{α:Type}{el:d7}{aW:Bool}{q:Nat}{H:bm}{ids:ac Nat}{m:Nat}{aU:ac ai}{l:ac α}{w:α}
def ka{R:dm}(h:∀H ids st I,Fit H ids st s.own s.n->cY I H ids s.env->∃v,den H a ids v/\bD call R I st= .ok v I st):fH call R s a s.own s.n:=λH ids st I U D=>
 let⟨v,Y,G⟩:=h H ids st I U D
 ⟨v,st,ids,H,G,U,Y,cL.refl _,ck.refl _,λ_ _ _ B=>B,c4 _,λ_ _ _=>o⟩
def RF{R n c:Nat}{bE:f5}(O:bb s.env x=some (.aL k z R n c))(af:bb s.env i=some (.i bE (j:Int)))(a3:j<n):fH call (.jd z x i) s (.fb k z (R+j) 0) s.own s.n:=ka λH ids st I U D=>by
 have⟨b,Y,G⟩:=D.aq O;exact asG asG
theorem RG{ak:α->ac ai}{q:α}{bE:f5}(O:bb s.env x=some (.bs z α ak l))(af:bb s.env i=some (.i bE (j:Int)))(a3:l[j]? =some q):fH call (.jd z x i) s (.ip<|ak q) s.own s.n:=ka λH ids st I U D=>by
 have aT:=(dG.1 a3).1;rcases D.aq O with⟨W,_⟩|⟨b,R,c,ab,el,b1,aW,Y,G,N,J⟩
 .subst W;simp at aT
 .refine⟨_,⟨b,R+j*z,ab,el,b1,aW,o,N,?_⟩,BY Y (D.aq af) aT⟩;have W:=gr<|J j q a3
  grind
def qA{st:ao}{ak:α->ac ai}(U:Fit H ids st s.own s.n)(aB:s.own[k]? =some (.a el aW z α ak l)){b:Nat}(aa:ids[k]? =some b):∃ab,st.h.get b=some (.cells ab el (0,0) aW)/\ab.length=l.length*z/\∀i x,l[i]? =some x->cT H (ak x) ids ((ab.drop<|i*z).take z):=(U.own k _ b aB aa).1
theorem adU{ak:α->ac ai}(O:bb s.env x=some (.fb k z j q))(aB:s.own[k]? =some (.a el aW z α ak l))(a3:l[j]? =some w)(aD:(ak w)[q]? =some a):fH call (.ix x) s a s.own s.n:=ka λH ids st I U D=>by
 obtain⟨b,Y,G⟩:=D.aq O;obtain⟨ab,C,N,J⟩:=qA U aB Y;obtain⟨v,Z,g⟩:=tG (J j w a3) aD;refine⟨v,g,y7 G C ?_⟩
 grind
def adV{ak:α->ac ai}{cs:ac ai}(O:bb s.env x=some (.fb k z j q))(aB:s.own[k]? =some (.a el aW z α ak l))(a3:l[j]? =some w)(aD:rF (ak w) q m (λl=>some l)=some cs):fH call (.m9 m x) s (.agg cs) s.own s.n:=ka λH ids st I U D=>by
 obtain⟨b,Y,G⟩:=D.aq O;obtain⟨ab,C,N,h⟩:=qA U aB Y;have g:=h j w a3;obtain⟨ah,A⟩:=xi aD;cases A;have T:=sP m<|nW q g;have W:=gr g;rw[kD]at W;rw[m5]at ah;have e:((List.take z<|List.drop (j*z) ab).drop q).take m=(ab.drop<|j*z+q).take m:=by
  rw[Az,uO,DE,kh J]
 rw[e]at T;refine⟨_,⟨_,o,T⟩,B2 G C ?_⟩;rw[m5]at W⊢;omega
def adW{v:bv}(h:sR a=some aU)(ah:pE aU=true)(d:den H a ids v):cT H aU ids (h0 v)/\hk (h0 v)=true:=by
 have⟨_,d2⟩:=FY h d;exact⟨d2,B0 ah d2⟩
theorem adX{ab G:ac bv}(i:Nat)(Z:(j+1)*z<=ab.length)(aD:q+G.length<=z):
 ((ab.take (j*z+q)++(G++ab.drop (j*z+q+G.length))).drop<|i*z).take z=if i=j then((ab.drop<|j*z).take z).take q++(G++((ab.drop<|j*z).take z).drop (q+G.length))else(ab.drop<|i*z).take z:=by
 rw[fP]at Z;apply pf;intro p;rw[pe,p3];by_cases hp:p<z
 .rw[aA hp];have get:∀m,(ab.take (j*z+q)++(G++ab.drop (j*z+q+G.length)))[m]? =if m<j*z+q then ab[m]? else if m<j*z+q+G.length then G[m-(j*z+q)]? else ab[m]? :=by
   intro m;by_cases Y:m<j*z+q
   .rw[aA Y,ta ep,pe,aA Y]
   .rw[wh ep,kD,kh J]
    grind
  rw[get];by_cases O:i=j
  .subst O;rw[aA o];by_cases Y:p<q
   .grind
   .rw[au J,wh ep];have e:(((ab.drop<|i*z).take z).take q).length=q:=by simp;omega
    by_cases g:p<q+G.length
    .rw[aA J,ta J];congr 1;omega
    .rw[au J,wh J,p3,pe,aA J,p3];congr 1;omega
  .rw[au O,pe,aA hp,p3];have:i*z+p<j*z\/j*z+z<=i*z+p:=by
    rcases Nat.lt_or_gt_of_ne O with h|h
    .left;have:(i+1)*z<=j*z:=jE z h;rw[fP]at this;omega
    .right;have:(j+1)*z<=i*z:=jE z h;rw[fP]at this;omega
   rcases this with h|h
   .rw[aA J]
   .rw[au J,au J]
 .rw[au hp]
  symm
  split
  .simp;omega
  .simp;omega
theorem KR{ak:α->ac ai}(aG:α)(O:bb s.env x=some (.fb k z j q))(E:bb s.env y=some a)(ah:sR a=some aU)(aI:aU.length=m)(Z:pE aU=true)
 (aB:s.own[k]? =some (.a el aW z α ak l)) (a3:l[j]? =some w) (aa:ak aG=(ak w).take q++(aU++(ak w).drop (q+aU.length))) (aH:q+m<=z):
 fH call (.store m x y) s (.br []) (s.own.set k<|.a el aW z α ak<|l.set j aG) s.n:=λH ids st I U D=>by
 obtain⟨b,Y,G⟩:=D.aq O;obtain⟨ab,C,N,a'⟩:=qA U aB Y;obtain⟨F,V⟩:=adW ah Z<|D.aq E;have T:=gr F;have aT:=(dG.1 a3).1;have W:(j+1)*z<=ab.length:=by rw[N];exact jE z aT
 have g:=W;rw[fP]at g;refine⟨undef,⟨st.h.set b<|.cells (ab.take (j*z+q)++(h0 (I.aq y)++ab.drop (j*z+q+(h0<|I.aq y).length))) el (0,0) aW,st.ag⟩,ids,H,?_,U.fl aB o Y ⟨_,o,?_,?_⟩,apm,cL.refl _,ck.refl _,λ_ _ _ B=>B.fl (fQ Y) _,c4 _,?_⟩
 .have:bD call (.store m x y) I st=hN (I.aq x) (λp=>bx p (λa=>dL (dK<|h0<|I.aq y) m (cond (hk<|h0<|I.aq y) (st.store a (h0<|I.aq y) (λst=>a2.ok undef I st) .no) .no) .no) .no) .no:=rfl;rw[this,G,lL,Sym.et,fi,je J,V,cond_true];unfold ao.store ao.gy;rw[Sym.h6,C,lf,h7<|c4 _,rk,aA aoM,jq]
 .grind
 .grind [adX,KB]
 .intro A _ L;exact ar.fu _ _ λe=>L k asJ<|e▸Y
theorem RH{ak:α->ac ai}(aG:α)(O:bb s.env x=some (.fb k 1 j 0))(N:bb s.env y=some a)(aB:s.own[k]? =some (.a el aW 1 α ak l))(D:ak aG=[a])(a3:j<l.length)(ah:rD a=true)(aE:∀w,(ak w).length=1):
 fH call (.store 1 x y) s (.br []) (s.own.set k<|.a el aW 1 α ak<|l.set j aG) s.n:=by
 exact KR aG O N (aU:=[a]) (by cases a<;>first|rfl|cases ah|(show(match rD _ with|true=>_|false=>_)=_;rw[ah])) o (by show(rD a&&true)=true;rw[ah];rfl) aB (ba a3) aoM av
end
set_option maxRecDepth 10000
section
variable{call:bR}{s:cg}{x y i:ce}{a b:ai}
def jR(H:bm)(ids:ac Nat){α:Type}(ak:α->ac ai)(z:Nat)(l:ac α)(ab:ac bv):Prop:=ab.length=l.length*z/\∀i x,l[i]? =some x->cT H (ak x) ids ((ab.drop<|i*z).take z)
variable{α:Type}{z:Nat}{H:bm}{ids:ac Nat}{ab:ac bv}{l:ac α}
def xp(H:bm)(ids:ac Nat)(ak:α->ac ai)(z:Nat):jR H ids ak z [] []:=⟨az,λi x h=>by simp at h⟩
theorem vr{ak:α->ac ai}{m:ac α}{G:ac bv}(h:jR H ids ak z l ab)(D:jR H ids ak z m G):jR H ids ak z (l++m) (ab++G):=by
 refine⟨by rw[k4,k4,h.1,D.1,fP],λi x O=>?_⟩;by_cases af:i<l.length
 .rw[ta af]at O;have Y:=h.2 i x O;have hle:(i+1)*z<=ab.length:=by rw[h.1];exact jE z af
  grind
 .rw[wh J]at O;have Y:=D.2 _ x O;have e:i*z=ab.length+(i-l.length)*z:=by rw[h.1,<-Nat.add_mul];congr 1;omega
  simp_all
def KS{ak:α->ac ai}(h:jR H ids ak z l ab)(n:Nat)(aj:n<=l.length):jR H ids ak z (l.take n) (ab.take<|n*z):=by
 have g:=jE z aj;refine⟨by rw[kD,kD,h.1,kh g,kh aj],λi x O=>?_⟩;rw[pe]at O;split at O
 .rename_i af;have hle:(i+1)*z<=n*z:=jE z af;rw[fP]at hle;rw[Az,DE,kh J];exact h.2 i x O
 .cases O
def Ce{ak:α->ac ai}(h:jR H ids ak z l ab)(n:Nat):jR H ids ak z (l.drop n) (ab.drop<|n*z):=by
 refine⟨by rw[m5,m5,h.1,Nat.sub_mul],λi x O=>?_⟩;rw[p3]at O;rw[uO,<-Nat.add_mul];exact h.2 _ x O
def Cf{ak:α->ac ai}{w:α}(h:cT H (ak w) ids ab)(aH:(ak w).length=z):jR H ids ak z [w] ab:=by
 have W:=gr h;refine⟨by simp;omega,λi x O=>?_⟩;cases i with
 |zero=>simp at O;subst O;rw[jC,kC,pn J];exact h
 |succ i=>simp at O
theorem RI{H:bm}{ids:ac Nat}{α:Type}{ak:α->ac ai}{w:α}{J:ac bv}(h:cT H (ak w) ids J):∀n,jR H ids ak J.length (List.replicate n w) (q7 J n)
 |0=>xp _ _ _ _
 |n+1=>by
  have e:q7 J (n+1)=J++q7 J n:=by show e8 J (q7 J n)=_;rw[rj]
  rw[e];exact vr (Cf h<|by rw[gr h])<|RI h n
theorem KT{H:bm}{ids:ac Nat}{α:Type}{ak:α->ac ai}{z:Nat}(aH:∀w,(ak w).length=z):∀{l:ac α} {ab:ac bv},cT H (l.flatMap ak) ids ab->jR H ids ak z l ab
 |[],ab,d=>by cases d;exact xp _ _ _ _
 |w::l,ab,d=>by
  rw[Aw]at d;have aE:=sP z d;have G:=nW z d;rw[Il<|aH w]at aE;rw[DF<|aH w]at G;rw[<-List.take_append_drop z ab];exact vr (Cf aE<|aH w)<|KT aH G
def mk{el:d7}{dD n c:Nat}{J:ac bv}{k gZ:f5}(ak:α->ac ai)(w:α)(O:bb s.env x=some (.i k (n:Int)))(N:bb s.env y=some (.i gZ (c:Int)))(aH:J.length=z)(F:xf J=ak w)(aj:n<=c)(ah:c*(dD+1)<=1099511627776):
 fH call (.si el dD J x y) s (.aL s.n z 0 n c) (s.own++[.a el false z α ak<|List.replicate c w]) (s.n+1):=λH ids st I U D=>by
 have Y:=D.aq O;have G:=D.aq N;subst aH;have g:=xg H (ids++[st.ag]) J;rw[F]at g;have E:=RI g c;refine⟨_,_,_,H,?_,U.add ⟨_,o,E.1,E.2⟩,aqa,cL.refl _,ck.app _ _,λ_ _ _ B=>B.add _,kB _,λb aa _=>tJ aa⟩;show A3 el dD J x y call I st=_;unfold A3;rw[Y,G,nk,nk,qu,qu,h7 aj,h7 (show Nat.mul c (Nat.succ dD)<=2^40 from ah),gV,jC]
def nZ(s:cg)(x:ce){α:Type}(ak:α->ac ai)(z:Nat)(l:ac α):Prop:=∀(H:bm) (ids:ac Nat) (st:ao) (I:aO),Fit H ids st s.own s.n->cY I H ids s.env->
 (l=[]/\∃c,I.aq x= .slice none 0 c)\/∃b R c ab el b1 aW,I.aq x= .slice (some ⟨b,R,none⟩) l.length c/\st.h.get b=some (.cells ab el b1 aW)/\l.length*z<=(ab.drop R).length/\jR H ids ak z l ((ab.drop R).take<|l.length*z)/\hk ((ab.drop R).take<|l.length*z)=true
variable{R:Nat}
theorem RJ:∀(ab:ac bv) (n:Nat),hk ab=true->hk (ab.take n)=true
 |[],n,_=>by simp[hk]
 |v::ab,0,_=>rfl
 |v::ab,n+1,h=>by
  have h:cond (nL v) (hk ab) false=true:=h;show cond (nL v) (hk<|ab.take n) false=true;cases Z:nL v with
  |false=>rw[Z]at h;cases h
  |true=>rw[Z]at h;exact RJ ab n h
theorem RK:∀(ab G:ac bv),hk ab=true->hk G=true->hk (ab++G)=true
 |[],G,_,h=>h
 |v::ab,G,h,D=>by
  have h:cond (nL v) (hk ab) false=true:=h;show cond (nL v) (hk<|ab++G) false=true;cases Z:nL v with
  |false=>rw[Z]at h;cases h
  |true=>rw[Z]at h;exact RK ab G h D
def adY{k n c:Nat}{el:d7}{cs:ac ai}{ak:α->ac ai}(l:ac α)(O:bb s.env x=some (.aL k z R l.length c))(ay:R=0)(aB:s.own[k]? =some (.c el cs))(Y:cs=l.flatMap ak)(aH:∀w,(ak w).length=z)(ah:pE cs=true)(aj:l.length=n):nZ s x ak z l:=by
 intro H ids st I U D;subst ay;obtain⟨b,h,G⟩:=D.aq O;obtain⟨⟨ab,C,d⟩,_⟩:=U.own k _ b aB h;rw[Y]at d;have E:=KT aH d;have g:=B0 (Y▸ah) d;rw[jC]at G;refine .inr ⟨b,0,c,ab,el,_,_,G,C,by simp[E.1],?_,RJ _ _<|by simpa using g⟩;rw[kC,pn<|by rw[E.1];exact c4 _];exact E
theorem adZ{ak:α->ac ai}(aH:∀w,(ak w).length=z):∀{l:ac α},(∀i x,l[i]? =some x->cT H (ak x) [] ((ab.drop<|R+i*z).take z))->∀n,n<=l.length->n*z<=(ab.drop R).length/\jR H [] ak z (l.take n) ((ab.drop R).take<|n*z):=by
 intro l h n
 induction n with
 |zero=>intro _;exact apY apY
 |succ n U=>
  intro aj;obtain⟨Y,G⟩:=U J;have F:l[n]? =some l[n]:=ba J;have C:=h n _ F;have W:=gr C;have hle:(n+1)*z<=(ab.drop R).length:=by
   grind
  refine⟨hle,?_⟩;rw[om J];have e:(ab.drop R).take ((n+1)*z)=(ab.drop R).take (n*z)++(ab.drop<|R+n*z).take z:=by
   rw[fP,te,List.take_add,uO]
  rw[e];exact vr G<|Cf C<|aH _
def F7{Z:bm}{i j:ac Nat}(cl:cL H Z)(af:ck i j){ak:α->ac ai}(h:jR H i ak z l ab):jR Z j ak z l ab:=⟨h.1,λk x O=>lM cl _ af<|h.2 k x O⟩
theorem KU{H:bm}{ids:ac Nat}{α:Type}{ak:α->ac ai}{z:Nat}(aH:∀w,(ak w).length=z)(ah:∀w,pE (ak w)=true):∀{l:ac α} {ab:ac bv},jR H ids ak z l ab->hk ab=true
 |[],ab,h=>by
  have:=pg (by rw[h.1];simp);subst this;rfl
 |w::l,ab,h=>by
  rw[<-List.take_append_drop z ab];have Y:=h.2 0 w az;rw[jC]at Y;have G:=Ce h 1;rw[te]at G;exact RK _ _ (B0 (ah w) Y)<|KU aH ah G
def RL{ak:α->ac ai}(O:bb s.env x=some (.bs z α ak l))(aH:∀w,(ak w).length=z)(ah:∀w,pE (ak w)=true):nZ s x ak z l:=by
 intro H ids st I U D;rcases D.aq O with⟨W,Y⟩|⟨b,R,c,ab,el,b1,aW,Y,G,N,J⟩
 .exact .inl ⟨W,0,Y⟩
 .obtain⟨V,B⟩:=adZ aH J l.length<|c4 _;rw[nG]at B;exact .inr ⟨b,R,c,ab,el,b1,aW,Y,U.le _ _ N,V,F7 apv (ck.nil _) B,KU aH ah B⟩
def xq(call:bR)(el:d7)(dD:Nat)(s:cg)(y:ce){α:Type}(ak:α->ac ai)(z:Nat)(l:ac α):Prop:=∀(H:bm) (ids:ac Nat) (st:ao) (I:aO),Fit H ids st s.own s.n->cY I H ids s.env->∀(x:ce) (p:be Addr) (n c:Nat),I.aq x= .slice p n c->
 ∃new,jR H ids ak z l new/\hk new=true/\bD call (.app el z dD x y) I st=j6 I st el z dD p n c l.length new
variable{bw dD:Nat}{el:d7}
def vs{ak:α->ac ai}(cG:nZ s y ak bw l):xq call el dD s y ak bw l:=λH ids st I U D x p n c O=>by
 have e:bD call (.app el bw dD x y) I st=h2 (I.aq x) (λbase len L=>h2 (I.aq y) (λb n _=>bx b (λb=>st.load b (Nat.mul n bw) (λnew=>cond (hk new) (j6 I st el bw dD base len L n new) .no) .no)<|dL n 0 (j6 I st el bw dD base len L 0 []) .no)<|so (I.aq y) (j6 I st el bw dD base len L 0 [])<|h1 (I.aq y) (λs=>dL bw 1 (j6 I st el bw dD base len L (dK s.data.toList)<|nN s.data.toList) .no) .no) .no:=rfl;rw[e,O,qt];rcases cG H ids st I U D with⟨rfl,g,Y⟩|⟨b,R,g,ab,F,b1,aW,Y,G,C,N,J⟩
 .refine⟨[],xp _ _ _ _,o,?_⟩;rw[Y,qt,Sym.h6,je o];rfl
 .refine⟨_,N,J,?_⟩;rw[Y];show st.load ⟨b,R,none⟩ (l.length*bw) _ _=_;unfold ao.load ao.gy;rw[G,lf,sQ C,J];rfl
def KV{ak:α->ac ai}(O:bb s.env x=some .nl)(cG:xq call el dD s y ak bw l)(bS:l≠[])(aa:(5*l.length+1792)*(dD+1)<=1125899906842624):
 fH call (.app el bw dD x y) s (.aL s.n bw 0 l.length l.length) (s.own++[.a el true bw α ak l]) (s.n+1):=λH ids st I U D=>by
 obtain⟨new,Y,G,C⟩:=cG H ids st I U D x _ _ _<|D.aq O;have T:=F7 (cL.refl H) (ck.app ids [st.ag]) Y;have W:=qY.2 bS;refine⟨_,_,_,H,?_,U.add ⟨_,o,T.1,T.2⟩,aqa,cL.refl _,ck.app _ _,λ_ _ _ B=>B.add _,kB _,λb aa _=>tJ aa⟩;rw[C];unfold j6;simp only[DG,DH,jn];rw[h7<|aa,Sym.h6,je o,je o,rB J,gV,jC]
def F8{k n c:Nat}{ak:α->ac ai}{m:ac α}(O:bb s.env x=some (.aL k bw 0 n c))(aB:s.own[k]? =some (.a el true bw α ak l))(cG:xq call el dD s y ak bw m)(bS:m≠[])(aj:n<=l.length)(Z:n<=c)(ah:c<=l.length)(aa:(5*(n+m.length)+1792)*(dD+1)<=1125899906842624):
 fH call (.app el bw dD x y) s (.aL s.n bw 0 (n+m.length)<|n+m.length) (s.own.set k .x++[.a el true bw α ak<|l.take n++m]) (s.n+1):=λH ids st I U D=>by
 obtain⟨b,V,a'⟩:=D.aq O;obtain⟨ab,bj,dj,dp⟩:=qA U aB V;obtain⟨new,Y,G,C⟩:=cG H ids st I U D x _ _ _ a';have W:=qY.2 bS;have F:Fit H ids ⟨st.h.set b .dead,st.ag⟩ (s.own.set k .x) s.n:=U.fl aB o V aP;have E:=vr (KS ⟨dj,dp⟩ n aj) Y;have T:=F7 (cL.refl H) (ck.app ids [st.ag]) E;have N:=jE bw ah;have g:=jE bw aj;refine⟨.slice (some ⟨st.ag,0,none⟩) (n+m.length)<|n+m.length,_,_,H,?_,F.add ⟨_,o,T.1,T.2⟩,⟨st.ag,by rw[<-U.len];simp,by rw[jC]⟩,cL.refl _,ck.app _ _,λ_ _ _ B=>(B.fl (fQ V) .dead).add _,kB _,?_⟩
 .rw[C];unfold j6 ao.gy;simp only[DG,DH,Sym.et,Sym.h6,bj,lf,jC];rw[h7<|aa,h7<|c4 _,h7 Z,h7<|by rw[fi,dj];omega,je o,rB J,cond_true,sQ ep,jq,gV,rj,kC]
 .intro A L ad;show((st.h.set b .dead).set st.ag _).get A=_;rw[ar.fu _ _ J];exact ar.fu _ _ λe=>ad k asJ<|e▸V
end
section
variable{call:bR}{s:cg}{x y i:ce}{a b:ai}
def fT(s:cg)(x:be ce)(wI n:Nat):Prop:=
 match x with
 |none=>n=wI
 |some x=>∃bE,bb s.env x=some (.i bE (n:Int))
variable{p q:Nat}{aQ af:be ce}{n z:Nat}{α:Type}{k:f5}{H:bm}{ids:ac Nat}{I:aO}{m:Int}{l:ac α}
theorem fT.aq{x:be ce}{wI y:Nat}(h:fT s x wI n)(D:cY I H ids s.env)(N:n<=y)(k:Nat->a2):ft I x wI y k=k n:=by
 cases x with
 |none=>cases h;rfl
 |some x=>
  have⟨bE,h⟩:=h;show gk (I.aq x) (λ_ n=>hW n (λn=>eB n y (k n) .no) .no) .no=_;rw[(D.aq h),nk,qu,h7 N]
theorem sT(I:aO)(d y:Nat)(k:Nat->a2):ft I none d y k=k d:=rfl
theorem RM{ak:α->ac ai}(O:bb s.env x=some (.bs z α ak l))(fA:fT s aQ 0 p)(Z:fT s af l.length q)(hp:p<=q)(aD:q<=l.length)(D:cY I H ids s.env):
 ∃v,den H (.bs z α ak<|(l.drop p).take<|q-p) ids v/\∀st:ao,(∀b R,H b=some R->st.h.get b=some R)->bD call (.ow z x aQ af none) I st= .ok v I st:=by
 have W:((l.drop p).take<|q-p).length=q-p:=by simp;omega
 have e:∀st:ao,bD call (.ow z x aQ af none) I st=h2 (I.aq x) (λb len L=>bx b (λa=>st.gy a (λ_ _ _ aW=>cond aW (eB len L (ft I af len len λh=>ft I aQ 0 h λl=>.ok (.slice (some<|a.add<|l*z) (h-l)<|L-l) I st) .no)<|ft I none L L λm=>ft I af len m λh=>ft I aQ 0 h λl=>.ok (.slice (some<|dL m l a<|a.add<|l*z) (h-l)<|m-l) I st) .no)<|ft I none L L λm=>ft I af len m λh=>ft I aQ 0 h λl=>.ok (.slice none (h-l)<|m-l) I st) .no:=λst=>o;rcases D.aq O with⟨aj,Y⟩|⟨b,R,c,ab,el,b1,aW,Y,G,N,C⟩
 .subst aj;simp at aD;subst aD;have:p=0:=by omega
  subst this;refine⟨.slice none 0 0,.inl ⟨az,o⟩,λst _=>?_⟩;rw[e,Y,qt,Sym.h6,sT,fT.aq (wI:=0) Z D<|c4 _,fT.aq fA D<|c4 _]
 .have T:∀st:ao,(∀b R,H b=some R->st.h.get b=some R)->bD call (.ow z x aQ af none) I st=cond aW (eB l.length c (ft I af l.length l.length λh=>ft I aQ 0 h λl=>.ok (.slice (some<|(⟨b,R,none⟩:Addr).add<|l*z) (h-l)<|c-l) I st) .no) (ft I none c c λm=>ft I af l.length m λh=>ft I aQ 0 h λl=>.ok (.slice (some (dL m l ⟨b,R,none⟩<|(⟨b,R,none⟩:Addr).add<|l*z)) (h-l)<|m-l) I st):=λst hle=>by
   rw[e,Y,qt,Sym.et];rw[ao.gy,Sym.h6,hle _ _ N,lf]
  have B:∀i x,((l.drop p).take<|q-p)[i]? =some x->cT H (ak x) [] ((ab.drop<|R+p*z+i*z).take z):=λi x O=>by
   grind
  cases aW with
  |true=>
   exact apq apq
  |false=>
   have A:∀st:ao,(∀b R,H b=some R->st.h.get b=some R)->bD call (.ow z x aQ af none) I st= .ok (.slice (some (dL c p ⟨b,R,none⟩<|(⟨b,R,none⟩:Addr).add<|p*z)) (q-p)<|c-p) I st:=λst hle=>by
    grind [sT,fT.aq]
   by_cases ah:c=p
   .have g:q=p:=by omega
    refine⟨_,.inr ⟨b,R,c-p,ab,el,b1,false,by rw[W],J,N,λi x O=>?_⟩,λst hle=>by rw[A st hle,je ah]⟩;rw[g]at O;simp at O
   .exact aqb aqb
def RN{ak:α->ac ai}(O:bb s.env x=some (.bs z α ak l))(fA:fT s aQ 0 p)(Z:fT s af l.length q)(hp:p<=q)(aD:q<=l.length):
 fH call (.ow z x aQ af none) s (.bs z α ak<|(l.drop p).take<|q-p) s.own s.n:=ka λH ids st I U D=>
 let⟨v,Y,G⟩:=RM O fA Z hp aD D
 ⟨v,Y,G st U.le⟩
theorem ad0{k R c:Nat}{el:d7}{aW:Bool}{ak:α->ac ai}(O:bb s.env x=some (.aL k z R n c))(aB:s.own[k]? =some (.a el aW z α ak l))(fA:fT s aQ 0 p)(Z:fT s af n q)(hp:p<=q)(aD:q<=n)(aj:n<=c)(ah:p<c\/p=0):
 fH call (.ow z x aQ af none) s (.aL k z (R+p) (q-p)<|c-p) s.own s.n:=ka λH ids st I U D=>by
 have e:bD call (.ow z x aQ af none) I st=h2 (I.aq x) (λb len L=>bx b (λa=>st.gy a (λ_ _ _ aW=>cond aW (eB len L (ft I af len len λh=>ft I aQ 0 h λl=>.ok (.slice (some<|a.add<|l*z) (h-l)<|L-l) I st) .no)<|ft I none L L λm=>ft I af len m λh=>ft I aQ 0 h λl=>.ok (.slice (some<|dL m l a<|a.add<|l*z) (h-l)<|m-l) I st) .no)<|ft I none L L λm=>ft I af len m λh=>ft I aQ 0 h λl=>.ok (.slice none (h-l)<|m-l) I st) .no:=rfl;have⟨b,V,B⟩:=D.aq O;have⟨ab,bj,dj,dp⟩:=qA U aB V;refine⟨_,⟨b,V,o⟩,?_⟩;rw[e,B,qt,Sym.et];rw[ao.gy,Sym.h6,bj,lf];cases aW with
 |true=>rw[cond_true,h7 aj,fT.aq Z D aD,fT.aq fA D hp,nX,fP]
 |false=>
  grind [sT,fT.aq,je,rB,nX]
def ad1{l:ac ci}{j:Nat}{bE:f5}{bF:ci}(O:bb s.env x=some (.s l))(af:bb s.env i=some (.i bE (j:Int)))(a3:l[j]? =some bF):fH call (.u0 x i) s (.i .u8 (bF.toNat:Int)) s.own s.n:=ka λH ids st I U D=>by
 have G:=D.aq af;refine⟨_,o,?_⟩;have e:bD call (.u0 x i) I st=h1 (I.aq x) (λs=>gk (I.aq i) (λ_ j=>hW j (λj=>hX s.data.toList j 1 (λbH=>one bH (λb=>.ok (.int .u8<|.ofNat b.toNat) I st) .no) .no) .no) .no) .no:=rfl;obtain⟨aT,Z⟩:=dG.1 a3;rw[e,(D.aq O),yZ,G];show hX l j 1 _ _=_;rw[y0 J,hL aT,Z];rfl
theorem ad2{l:ac ci}(O:bb s.env x=some (.s l))(fA:fT s aQ 0 p)(Z:fT s af l.length q)(hp:p<=q)(aD:q<=l.length):fH call (.ti x aQ af) s (.s<|(l.drop p).take<|q-p) s.own s.n:=ka λH ids st I U D=>by
 refine⟨_,o,?_⟩;exact as9
def ad3{l m:ac ci}(O:bb s.env x=some (.s l))(N:bb s.env y=some (.s m))(aI:l.length+m.length<=1099511627776):fH call (.bin .add x y) s (.s<|l++m) s.own s.n:=ka λH ids st I U D=>by
 have G:=D.aq N;refine⟨_,o,?_⟩;rw[BV,(D.aq O),G];show eB (dK l+dK m) (2^40) _ _=_;rw[fi,fi,h7<|aI,rj]
def ad4{n:Int}(O:bb s.env x=some (.i k m))(N:bb s.env y=some (.i k n))(aj:n≠0):fH call (.bin .quo x y) s (.i k<|k.wrap<|m.tdiv n) s.own s.n:=ka λH ids st I U D=>
 aqz
def ad5{n:Int}(O:bb s.env x=some (.i k m))(N:bb s.env y=some (.i k n))(aj:n≠0):fH call (.bin .rem x y) s (.i k<|m.tmod n) s.own s.n:=ka λH ids st I U D=>
 aqz
def ad6{gZ:f5}{m:Nat}(O:bb s.env x=some (.i k (m:Int)))(N:bb s.env y=some (.i gZ (n:Int)))(aj:n<=k.bits):fH call (.bin .shr x y) s (.i k ((m/2^n:Nat):Int)) s.own s.n:=ka λH ids st I U D=>by
 obtain⟨v,Y,G⟩:=Rl (by show(match Nat.ble n k.bits with|true=>_|false=>_)=_;rw[Dq aj]) (D.aq O)<|D.aq N;exact⟨v,Y _ _,G st⟩
end
def fs(H:bm)(st:ao)(b:Nat):bm:=λc=>open Classical in if c=b then st.h.get b else H c
section
variable{H:bm}{ids:ac Nat}{st:ao}{own:ac a0}{n:Nat}
variable{k:Nat}{R:a0}
def rJ{b:Nat}(U:Fit H ids st own n)(aB:own[k]? =some R)(aI:R.live=true)(aa:ids[k]? =some b):cL H (fs H st b):=λc q ah=>by
 rw[fs,au]
 .exact ah
 .intro e;rw[e,(U.own k R b aB aa).2 aI]at ah;cases ah
def Fit.fs{b:Nat}(U:Fit H ids st own n)(aB:own[k]? =some R)(aI:R.live=true)(aa:ids[k]? =some b):Fit (Go.bI.fs H st b) ids st (own.set k .x) n:=by
 refine⟨U.wf,?_,by simp[U.cV],U.len,U.c2,U.lt,?_⟩
 .intro c q ah;rw[Go.bI.fs]at ah;split at ah
  .rename_i e;rw[e];exact ah
  .exact U.le c q ah
 .intro j q c A ah;rw[mq]at A;by_cases E:k=j
  .rw[aA E]at A;split at A<;>cases A;exact⟨aP,λh=>by cases h⟩
  .rw[au E]at A;have⟨Y,G⟩:=U.own j q c A ah;refine⟨rG (rJ U aB aI aa) aoN Y,λaD=>?_⟩;rw[Go.bI.fs,au]
   .exact G aD
   .intro e;subst e;have B:=dG.1 ah;exact E<|(uP U.c2).1<|(dG.1 aa).2.trans B.2.symm
def cZ.fs{aX:bm}{i0:ac Nat}{ax:ao}{b:Nat}(O:cZ aX i0 ax H ids st)(U:Fit H ids st own n)(aB:own[k]? =some R)(aI:R.live=true)(aa:ids[k]? =some b):cZ aX i0 ax (Go.bI.fs H st b) ids st:=by
 refine⟨O.hle.trans<|rJ U aB aI aa,?_,O.dZ,O.ag,O.jf,O.new⟩;intro c ah aj;rw[Go.bI.fs,au]
 .exact O.hold c ah aj
 .intro e;subst e;obtain h|h:=O.new _<|fQ aa
  .exact aj h
  .omega
end
section
variable{an:e2}{K:ac dC}{own:ac a0}{aC:Nat}{e:bV}
variable{z:Nat}{el:d7}{α:Type}{k R n c:Nat}{aW:Bool}{t:Nat}{p:ac bt}{cs:ac ai}{l:ac α}
def RO{ak:α->ac ai}(bq:ac α)(aN:dx e t=some (.aL k z R n c))(aB:own[k]? =some (.a el aW z α ak l))(aI:(l.drop R).take n=bq)(aj:bq.length=n)(ah:n<=c)(hp:∀x,g0 (ak x)=true)
 {H:bm} {ids:ac Nat} {st:ao} {I:aO} (E:cZ an.aX an.i0 an.ax H ids st) (U:Fit H ids st own aC) (D:cY I H ids e):
 ∃Z,cZ an.aX an.i0 an.ax Z ids st/\Fit Z ids st (own.set k .x) aC/\cY I Z ids ((t,.bs z α ak bq)::e)/\cL H Z:=by
 have⟨b,V,B⟩:=D.get t _ aN;have⟨⟨ab,bj,dj,dp⟩,_⟩:=U.own k _ b aB V;have hle:=rJ U aB o V;refine⟨fs H st b,E.fs U aB o V,U.fs aB o V,⟨(D.mono hle aoN).pl,λj q A=>?_⟩,hle⟩;rw[mD]at A;cases aa:Nat.beq t j with
 |false=>exact atb
 |true=>
  rw[aa]at A;cases A;rw[<-dy aa];refine .inr ⟨b,R*z,c,ab,el,(0,0),aW,by rwa [aj],by rwa [aj],by rw[fs];rw[aA o];exact bj,λi x O=>?_⟩;rw[<-aI,pe]at O;split at O
  .rw[p3]at O;simpa[<-Nat.add_mul]using lM hle _ aoN (pD _ (hp x) (dp _ x O) [])
  .cases O
def RP{ak:α->ac ai}(bq:ac α)(aN:dx e t=some (.aL k z R n c))(aB:own[k]? =some (.a el aW z α ak l))(aI:(l.drop R).take n=bq)(aj:bq.length=n)(ah:n<=c)(hp:∀x,g0 (ak x)=true)
 {H:bm} {ids:ac Nat} {st:ao} {I:aO} (O:cZ an.aX an.i0 an.ax H ids st) (U:Fit H ids st own aC) (D:cY I H ids e):
 ∃Z,cZ an.aX an.i0 an.ax Z ids st/\Fit Z ids st (own.set k .x) aC/\cY I Z ids ((t,.bs z α ak bq)::e):=let⟨Z,Y,G,C,_⟩:=RO bq aN aB aI aj ah hp O U D;⟨Z,Y,G,C⟩
theorem ad7(t:Nat){ak:α->ac ai}(bq:ac α){p:dz}(aN:dx e t=some (.aL k z R n c))(aB:own[k]? =some (.a el aW z α ak l))(aI:(l.drop R).take n=bq)(aj:bq.length=n)(ah:n<=c)(hp:∀x,g0 (ak x)=true)
 (bE:fz an K (.c p) (own.set k .x) aC ((t,.bs z α ak bq)::e)):fz an K (.c p) own aC e:=λH ids st I O U D=>by
 exact aqm
theorem RQ(t:Nat){ak:α->ac ai}(bq:ac α)(aN:dx e t=some (.aL k z R n c))(aB:own[k]? =some (.a el aW z α ak l))(aI:(l.drop R).take n=bq)(aj:bq.length=n)(ah:n<=c)(hp:∀x,g0 (ak x)=true)
 (bE:cE an K p (own.set k .x) aC ((t,.bs z α ak bq)::e)):cE an K p own aC e:=λH ids st I O U D=>by
 exact aqm
def RR{ak:α->ac ai}(l:ac α)(aB:own[k]? =some (.c el cs))(Y:cs=l.flatMap ak)(aH:∀w,(ak w).length=z){H:bm}{ids:ac Nat}{st:ao}(U:Fit H ids st own aC):Fit H ids st (own.set k<|.a el false z α ak l) aC:=by
 refine⟨U.wf,U.le,by simp[U.cV],U.len,U.c2,U.lt,?_⟩;intro j q c A ah;rw[mq]at A;by_cases E:k=j
 .subst E;rw[aA o]at A;split at A<;>cases A;have⟨⟨ab,C,d⟩,N⟩:=U.own k _ c aB ah;rw[Y]at d;have:=KT aH d;exact⟨⟨ab,C,this.1,this.2⟩,λ_=>N o⟩
 .rw[au E]at A;exact U.own j q c A ah
theorem RS(k:Nat){ak:α->ac ai}(l:ac α)(aB:own[k]? =some (.c el cs))(Y:cs=l.flatMap ak)(aH:∀w,(ak w).length=z)(bE:cE an K p (own.set k<|.a el false z α ak l) aC e):cE an K p own aC e:=λH ids st I O U D=>
 bE H ids st I O (RR l aB Y aH U) D
end
structure da where
 L:Type
 args:L->ac ai
 pre:L->Prop
 res:L->ai
 hp:bm->Prop:=fun _=>True
 hm:∀{H bB:bm},cL H bB->hp H->hp bB:=by exact fun _ _=>trivial
abbrev n0(hp:bm->Prop)(hm:∀{H Z:bm},cL H Z->hp H->hp Z){L:Type}(f:L->ac ai×Prop×ai):da where
 L:=L
 args:=λl=>(f l).1
 pre:=λl=>(f l).2.1
 res:=λl=>(f l).2.2
 hp:=hp
 hm:=hm
abbrev cR{L:Type}(f:L->ac ai×Prop×ai):da:=n0 (λ_=>True) (λ_ _=>trivial) f
def da.spec(S:da):Spec where
 L:=S.L×bm
 pre:=λl ab st=>S.pre l.1/\S.hp l.2/\Fit l.2 [] st [] 0/\cT l.2 (S.args l.1) [] ab
 post:=λl ab st v al=>∃Z,Fit Z [] al [] 0/\cZ l.2 [] st Z [] al/\den Z (S.res l.1) [] v
instance:Coe da Spec:=⟨da.spec⟩
instance:Coe da dT:=⟨λS=>S.spec.K⟩
def Fin(S:da)(l:S.L)(res:ac gU)(x:c6)(s:cg):Prop:=(x= .norm\/x= .ret)/\∃r,kO s res=some r/\h3 r=true/\bX r (S.res l)
where
 KW (s:cg):gU->be ai
  |.tmp t=>dx s.env t
  |.cell a J n=>match dx s.env a with
   |some (.p k R)=>match s.own[k]? with
    |some (.c _ cs)=>rF cs R n (FR J)
    |_=>none
   |_=>none
 F9 (s:cg):ac gU->be (ac ai)
  |[]=>some []
  |r::rs=>match KW s r with
   |some a=>match F9 s rs with
    |some as=>some (a::as)
    |none=>none
   |none=>none
 kO (s:cg) (l:ac gU):be ai:=match F9 s l with
  |some [a]=>some a
  |some as=>some (.br as)
  |none=>none
variable{H:bm}{ids:ac Nat}{s:cg}{I:aO}
theorem Fit.less{st:ao}{own:ac a0}{n:Nat}(h:Fit H ids st own n):Fit H [] st [] 0:=⟨h.wf,h.le,o,o,pk,λb aa=>by simp at aa,λk R b E=>by simp at E⟩
def cZ.refl(H:bm)(i:ac Nat)(st:ao):cZ H i st H i st:=⟨cL.refl _,λ_ _ _=>o,λ_ _ _=>o,c4 _,ck.refl _,λb aa=>.inl aa⟩
theorem cZ.less{aX:bm}{ax:ao}{st:ao}(h:cZ aX [] ax H ids st):cZ aX [] ax H [] st:=⟨h.hle,h.hold,h.dZ,h.ag,ck.refl _,λb aa=>.inl aa⟩
theorem ad8{st:ao}(U:Fit H ids st s.own s.n)(D:cY I H ids s.env){r:gU}{a:ai}(h:Fin.KW s r=some a):
 ∃v,den H a ids v/\∀ab:ac bv,(gU.rec (motive:=λ_=>be<|ac bv) (λt=>some<|I.tmp t::ab) (λa agg n=>hN (I.tmp a) (λp=>bx p (λch=>st.load ch n (λcs=>cond agg (some<|.agg ⟨cs⟩::ab)<|one cs (λv=>some<|v::ab) none) none) none) none) r:be (ac bv))=some (v::ab):=by
 cases r with
 |tmp t=>exact⟨_,D.get t a h,λab=>o⟩
 |cell t J n=>
  simp[Fin.KW]at h;split at h<;>try cases h
  rename_i k R aN;split at h<;>try cases h
  rename_i el cs E;have⟨b,V,B⟩:=D.get t _ aN;have⟨⟨ws,bj,d⟩,_⟩:=U.own k _ b E V;have⟨Y,G⟩:=xi h;have g:=sP n<|nW R d;have W:=gr<|nW R d;have e:∀ab:ac bv,hN (I.tmp t) (λp=>bx p (λch=>st.load ch n (λcs=>cond J (some<|.agg ⟨cs⟩::ab)<|one cs (λv=>some<|v::ab) none) none) none) none=cond J (some<|.agg ⟨(ws.drop R).take n⟩::ab) (one ((ws.drop R).take n) (λv=>some<|v::ab) none):=λab=>by
   rw[B,lL,Sym.et];unfold ao.load ao.gy;rw[Sym.h6,bj,lf,sQ aoM]
  obtain⟨rfl,rfl⟩|⟨rfl,C⟩:=Ro G
  .exact⟨_,⟨_,o,g⟩,λab=>e ab⟩
  .rw[C]at g;have⟨v,us,Z,g,aj⟩:=g;cases aj;refine⟨v,g,λab=>(e ab).trans ?_⟩;rw[Z];rfl
theorem KX{s:cg}{H:bm}{ids:ac Nat}{st:ao}{I:aO}(U:Fit H ids st s.own s.n)(D:cY I H ids s.env):∀{J:ac gU} {as:ac ai},Fin.F9 s J=some as->∃ab,cT H as ids ab/\qe I st J=some ab
 |[],as,h=>by cases h;exact apm apm
 |r::J,as,h=>by
  rw[Fin.F9]at h;split at h<;>try cases h
  rename_i a aE;split at h<;>try cases h
  rename_i hq aK;have⟨v,cy,B⟩:=ad8 U D aE;have⟨ab,bj,dj⟩:=KX U D aK;refine⟨v::ab,⟨v,ab,o,cy,bj⟩,?_⟩;show bx (qe I st J) _ none=_;rw[dj];exact B ab
def rK{st:ao}{call:bR}(U:Fit H ids st s.own s.n)(D:cY I H ids s.env){J:ac gU}{r:ai}(h:Fin.kO s J=some r):∃v,den H r ids v/\fS call J none I st= .ret v st false:=by
 have e:∀ab,qe I st J=some ab->fS call J none I st=one ab (λv=>.ret v st false) (.ret (.tuple ⟨ab⟩) st false):=λab Z=>by
  rw[fS,D.pl.di,D.pl.cU];show bx (qe I st J) _ _=_;rw[Z];rfl
 rw[Fin.kO]at h;split at h
 .rename_i a g;cases h;obtain⟨ab,⟨v,A,rfl,Y,G⟩,C⟩:=KX U D g;cases G;exact⟨v,Y,(e _ C).trans o⟩
 .rename_i as aj g;cases h;have⟨ab,Y,C⟩:=KX U D g;refine⟨_,⟨ab,o,Y⟩,(e _ C).trans ?_⟩
  match ab,as,(gr Y)with
  |[],_,_=>rfl
  |[v],[a],_=>exact absurd g (by intro _;exact aj a o)
  |_::_::_,_,_=>rfl
 .cases h
def iJ:Nat->ac ai->bV
 |_,[]=>[]
 |i,a::as=>(i,a)::iJ (i+1) as
theorem RT:∀(as:ac ai) (i j:Nat) (a:ai),dx (iJ i as) j=some a->i<=j/\as[j-i]? =some a
 |[],_,_,_,h=>by cases h
 |w::as,i,j,a,h=>by
  rw[iJ,mD]at h;cases aa:Nat.beq i j with
  |true=>
   simp_all
  |false=>
   rw[aa]at h;have⟨aE,aK⟩:=RT as (i+1) j a h
   grind
def cY.zero{as:ac ai}{ab:ac bv}(d:cT H as ids ab):cY (en ab) H ids (iJ 0 as):=by
 refine⟨sO.zero _,λj a h=>?_⟩;have⟨_,G⟩:=RT as 0 j a h;have⟨v,C,N⟩:=tG d G;have A:=(dG.1 C).1;have:(en ab).tmp j=v:=by
  show Option.rec _ _ ((lF ab 0 .nil).get j)=v;rw[Kg,aA J,C]
 rw[this];exact N
variable{X:Ctx}
def KY{aV:ar c7}(J:Good X)(o:l8 X aV)(bp:d8->dT){f:d8}{a7:c7}(O:aV.get f=some a7){S:da}(aI:∀l,(S.args l).length<=a7.aR)
 (h:∀l,S.pre l->∀H ax,S.hp H->fz ⟨cf aV (cm X bp)<|bz+1,bz+1,f,H,[],ax,Fin S l a7.res⟩ [] (.c a7.body) [] 0 (iJ 0<|S.args l)):eb X f S.spec:=by
 refine Kc J o bp O (λl ab st ⟨_,_,_,d⟩=>by rw[gr d];exact aI l.1) ?_;rintro⟨l,H⟩ ab st ⟨hp,V,U,d⟩;apply(h l hp H st V H [] st (en ab) apk U<|cY.zero d).mono;rintro x I al ⟨Z,ids,s,g,A,D,O,r,Y,G,hle⟩;obtain⟨v,C,N⟩:=rK A D Y;exact⟨O,v,N,Z,A.less,g.less,hle _ _ _<|tF _ G C _⟩
def KZ{aV:ar c7}{bp:d8->dT}{g:d8}{S:da}(ah:eb X g S.spec)(J:bp g=S.spec.K){bJ:ac ce}{as:ac ai}{n:Nat}(l:S.L)(bK:gM s.env bJ=some as)(fO:g0 as=true)(he:fy as (S.args l))(hp:S.pre l){aX:bm}(cl:S.hp aX):
 qw aX (cf aV (cm X bp)<|n+1) (.call (.func g) bJ) s (S.res l) s.own s.n:=λH ids st I F U D=>by
 have O:=he.den<|pD _ fO (D.dt bK) [];have⟨v,al,Y,G⟩:=ah _ st ⟨(l,H),hp,S.hm F cl,U.less,O⟩;have⟨v1,W,a',h⟩:=xd (K:=bp) ⟨v,al,by rwa [J],G⟩;rw[J]at h;have⟨Z,A,V,T⟩:=h (l,H) ⟨hp,S.hm F cl,U.less,O⟩;have bj:cf aV (cm X bp) (n+1) (.func (.func g) #[] #[]) (dt I bJ) none st= .ret v1 W false:=by
  rw[nT];have e:e8 (#[]:bi bv).toList (e8 (dt I bJ) (#[]:bi bv).toList)=dt I bJ:=az
  rw[e,a'];rfl
 have hle:=V.hle;refine⟨v1,W,ids,Z,?_,?_,iU apv _ (ck.nil _) T,hle,ck.refl _,?_,V.ag,λb aa _=>V.dZ b aa az⟩
 .rw[vm];exact aoL
 .refine⟨A.wf,A.le,U.cV,U.len,U.c2,λb aa=>fG (U.lt b aa) V.ag,λk R b E aa=>?_⟩;have⟨C,N⟩:=U.own k R b E aa;have aT:=U.lt b<|fQ aa;rw[V.dZ b aT az];exact ate ate
 .exact ao0
abbrev gf(X:Ctx)(aV:ar c7)(bp:d8->dT)(n a8:Nat)(fn:d8)(aX:bm)(i0:ac Nat)(ax:ao)(Q:c6->cg->Prop):e2:=⟨cf aV (cm X bp)<|n+1,a8,fn,aX,i0,ax,Q⟩
section
variable{aV:ar c7}{bp:d8->dT}{a8 n:Nat}{fn:d8}{aX:bm}{i0:ac Nat}{ax:ao}{Q:c6->cg->Prop}{K:ac dC}{own:ac a0}{aC:Nat}{e:bV}
variable{bJ:ac ce}{as:ac ai}{d:Tmp}
def bn{g:d8}{S:da}(ah:eb X g S.spec){xs:ac bt}(l:S.L)(hp:S.pre l)(k:cE (gf X aV bp n a8 fn aX i0 ax Q) K xs own aC ((d,S.res l)::e))
 (bK:gM e bJ=some as:=by rfl) (he:fy as (S.args l):=by exact fy.refl _) (fO:g0 as=true:=by rfl) (J:bp g=S.spec.K:=by rfl) (cl:S.hp aX:=by exact aP):
 g2 (gf X aV bp n a8 fn aX i0 ax Q) K d (.call (.func g) bJ) xs own aC e:=tL (KZ ah J l bK fO he hp cl) k
def cS{g:d8}{S:da}(ah:eb X g S.spec){xs:ac (bt×cz)}{bl:ac a0}{bc:bV}{a4 b3:Nat}(l:S.L)(hp:S.pre l)(k:dB (gf X aV bp n a8 fn aX i0 ax Q) K xs bl (jt d bc) (a4+1) aC own aC ((d,S.res l)::e))
 (bK:gM e bJ=some as:=by rfl) (he:fy as (S.args l):=by exact fy.refl _) (fO:g0 as=true:=by rfl) (J:bp g=S.spec.K:=by rfl) (cl:S.hp aX:=by exact aP):
 dB (gf X aV bp n a8 fn aX i0 ax Q) K ((⟨some d,.call (.func g) bJ,none⟩,.dJ)::xs) bl bc a4 b3 own aC e:=
 F4 (KZ ah J l bK fO he hp cl) o apz k
end
def bE:ac (Nat×dT)->d8->dT
 |[],_=>dT.no
 |p::l,g=>cond (Nat.beq p.1 g) p.2<|bE l g
def dc{S:da}{l:S.L}{res:ac gU}{r:ai}{e:c6}(aE:Fin.kO s res=some r)(aK:h3 r=true)(D:bX r (S.res l))(he:e= .ret\/e= .norm:=by first|exact .inl o|exact .inr o):Fin S l res e s:=⟨he.symm,r,aE,aK,D⟩
section
variable{S:da}{l:S.L}{res:ac gU}{s:cg}{r:ai}{e:c6}{call:bR}{a8:Nat}{fn:d8}{aX:bm}{i0:ac Nat}{ax:ao}
def du(D:bX r (S.res l))(aE:Fin.kO s res=some r:=by rfl)(aK:h3 r=true:=by rfl)(he:e= .ret\/e= .norm:=by first|exact .inl o|exact .inr o):bP.ok ⟨call,a8,fn,aX,i0,ax,Fin S l res⟩ ⟨[],.x e,s⟩:=dc aE aK D he
def eK(h:r=S.res l)(aE:Fin.kO s res=some r:=by rfl)(aK:h3 r=true:=by rfl)(he:e= .ret\/e= .norm:=by first|exact .inl o|exact .inr o):bP.ok ⟨call,a8,fn,aX,i0,ax,Fin S l res⟩ ⟨[],.x e,s⟩:=du (.of h) aE aK he
def fc(aE:Fin.kO s res=some (S.res l):=by rfl)(aK:h3 (S.res l)=true:=by rfl)(he:e= .ret\/e= .norm:=by first|exact .inl o|exact .inr o):bP.ok ⟨call,a8,fn,aX,i0,ax,Fin S l res⟩ ⟨[],.x e,s⟩:=eK o aE aK he
end
end Go.bI
namespace Go.bI
open Sym
section
variable{an:e2}{K:ac dC}{own bk:ac a0}{aC cI:Nat}{e:bV}{d:Tmp}{xs:ac bt}{x y i:ce}
variable{α:Type}{z:Nat}{el:d7}{n c j:Nat}{aW:Bool}{q:Nat}{cs:ac ai}{dD p:Nat}{aQ af:be ce}{R:Nat}{a:ai}{bw:Nat}{l:ac α}
def hh{ak:α->ac ai}(q:α){bE:f5}(a3:l[j]? =some q)(k:cE an K xs own aC ((d,.ip<|ak q)::e))(O:bb e x=some (.bs z α ak l):=by rfl)(af:bb e i=some (.i bE (j:Int)):=by rfl):g2 an K d (.jd z x i) xs own aC e:=
 e6 (RG O af a3) k
def n1{a5:Nat}{bE:f5}(k:cE an K xs own aC ((d,.fb a5 z (R+j) 0)::e))(O:bb e x=some (.aL a5 z R n c):=by rfl)(af:bb e i=some (.i bE (j:Int)):=by rfl)(a3:j<n:=by omega):g2 an K d (.jd z x i) xs own aC e:=
 e6 (RF O af a3) k
theorem pF{a5:Nat}{bE:f5}(k:cE an K xs own aC ((d,.fb a5 z j 0)::e))(O:bb e x=some (.aL a5 z 0 n c):=by rfl)(af:bb e i=some (.i bE (j:Int)):=by rfl)(a3:j<n:=by omega):g2 an K d (.jd z x i) xs own aC e:=
 e6 (RF O af a3) aoM
def n2{a5:Nat}{ak:α->ac ai}(w:α)(a3:l[j]? =some w)(k:cE an K xs own aC ((d,a)::e))(O:bb e x=some (.fb a5 z j q):=by rfl)(aB:own[a5]? =some (.a el aW z α ak l):=by rfl)(aD:(ak w)[q]? =some a:=by rfl):g2 an K d (.ix x) xs own aC e:=
 e6 (adU O aB a3 aD) k
def Ga{a5 m:Nat}{ak:α->ac ai}(w:α)(a3:l[j]? =some w)(k:cE an K xs own aC ((d,.agg cs)::e))(O:bb e x=some (.fb a5 z j q):=by rfl)(aB:own[a5]? =some (.a el aW z α ak l):=by rfl)(aD:rF (ak w) q m (λl=>some l)=some cs:=by rfl):g2 an K d (.m9 m x) xs own aC e:=
 e6 (adV O aB a3 aD) k
def mc{a5:Nat}{ak:α->ac ai}(aG:α)(k:cE an K xs bk aC e)(O:bb e x=some (.fb a5 1 j 0):=by rfl)(N:bb e y=some a:=by rfl)(aB:own[a5]? =some (.a el aW 1 α ak l):=by rfl)(D:ak aG=[a]:=by rfl)(ah:rD a=true:=by rfl)(aE:∀w,(ak w).length=1:=by exactλ_=>o)
 (ay:gN own a5 (.a el aW 1 α ak<|l.set j aG) some=some bk:=by rfl) (a3:j<l.length:=by first|omega|(simp;done)|(simp;omega)):cE an K (⟨none,.store 1 x y,none⟩::xs) own aC e:=by
 have:=hR ay;cases this;exact RE (RH aG O N aB D a3 ah aE) k
def K0:ac bv->be Nat
 |[]=>some 0
 |[_]=>some 1
 |[_,_]=>some 2
 |[_,_,_]=>some 3
 |[_,_,_,_]=>some 4
 |[_,_,_,_,_]=>some 5
 |[_,_,_,_,_,_]=>some 6
 |[_,_,_,_,_,_,_]=>some 7
 |l=>some l.length
def ad9{l:ac bv}(h:K0 l=some n):l.length=n:=by
 unfold K0 at h;split at h<;>cases h<;>rfl
def pG{J:ac bv}{a5 gZ:f5}(ak:α->ac ai)(w:α)(k:cE an K xs bk cI ((d,.aL aC z 0 n c)::e))(O:bb e x=some (.i a5 (n:Int)):=by rfl)(N:bb e y=some (.i gZ (c:Int)):=by rfl)(aH:K0 J=some z:=by rfl)(D:xf J=ak w:=by rfl)
 (ay:ma own (.a el false z α ak<|List.replicate c w) some=some bk:=by rfl) (F:mb aC some=some cI:=by rfl) (aj:n<=c:=by omega) (ah:c*(dD+1)<=1099511627776:=by omega):g2 an K d (.si el dD J x y) xs own aC e:=by
 have Y:=mE ay;have G:=nn F;cases Y;cases G;exact e6 (mk ak w O N (ad9 aH) D aj ah) k
theorem RU{a5:Nat}(t:Nat){ak:α->ac ai}(bq:ac α)(k:cE an K xs bk aC ((t,.bs z α ak bq)::e))(aN:dx e t=some (.aL a5 z R n c):=by rfl)(aB:own[a5]? =some (.a el aW z α ak l):=by rfl)(hp:∀x,g0 (ak x)=true:=by exactλ_=>o)
 (ay:gN own a5 .x some=some bk:=by rfl) (aI:(l.drop R).take n=bq:=by first|rfl|simp) (aj:bq.length=n:=by first|omega|(simp;done)|(simp;omega)) (ah:n<=c:=by omega):cE an K xs own aC e:=by grind [hR,RQ]
theorem ju{a5:Nat}(t:Nat){ak:α->ac ai}(k:cE an K xs bk aC ((t,.bs z α ak l)::e))(aN:dx e t=some (.aL a5 z 0 n c):=by rfl)(aB:own[a5]? =some (.a el aW z α ak l):=by rfl)(hp:∀x,g0 (ak x)=true:=by exactλ_=>o)
 (ay:gN own a5 .x some=some bk:=by rfl) (aj:l.length=n:=by first|omega|(simp;done)|(simp;omega)) (ah:n<=c:=by omega):cE an K xs own aC e:=
 RU t l k aN aB hp ay aoM aj ah
theorem kb(a5:Nat)(ak:α->ac ai)(l:ac α)(k:cE an K xs bk aC e)(aB:own[a5]? =some (.c el cs):=by rfl)(aH:∀w,(ak w).length=z:=by exactλ_=>o)
 (ay:gN own a5 (.a el false z α ak l) some=some bk:=by rfl) (Y:cs=l.flatMap ak:=by rfl):cE an K xs own aC e:=by grind [hR,RS]
def aea{ak:α->ac ai}(bq:ac α)(k:cE an K xs own aC ((d,.bs z α ak bq)::e))(O:bb e x=some (.bs z α ak l):=by rfl)(fA:fT ⟨own,aC,e⟩ aQ 0 p:=by first|exact o|exact dq)(Z:fT ⟨own,aC,e⟩ af l.length q:=by first|exact o|exact dq)(aI:(l.drop p).take (q-p)=bq:=by first|rfl|simp)(hp:p<=q:=by omega)(aD:q<=l.length:=by first|omega|(simp;done)|(simp;omega)):g2 an K d (.ow z x aQ af none) xs own aC e:=by
 subst aI;exact e6 (RN O fA Z hp aD) k
theorem RV{a5:Nat}{ak:α->ac ai}(k:cE an K xs own aC ((d,.aL a5 z p (q-p)<|c-p)::e))(O:bb e x=some (.aL a5 z 0 n c):=by rfl)(aB:own[a5]? =some (.a el aW z α ak l):=by rfl)(fA:fT ⟨own,aC,e⟩ aQ 0 p:=by first|exact o|exact dq)(Z:fT ⟨own,aC,e⟩ af n q:=by first|exact o|exact dq)(hp:p<=q:=by omega)(aD:q<=n:=by omega)(aj:n<=c:=by omega)(ah:p<c\/p=0:=by omega):g2 an K d (.ow z x aQ af none) xs own aC e:=
 (e6 (ad0 O aB fA Z hp aD aj ah) aoM)
def rL(ak:α->ac ai)(l:ac α)(cG:nZ ⟨own,aC,e⟩ y ak bw l)(k:cE an K xs bk cI ((d,.aL aC bw 0 l.length l.length)::e))(O:bb e x=some .nl:=by rfl)
 (ay:ma own (.a el true bw α ak l) some=some bk:=by rfl) (F:mb aC some=some cI:=by rfl) (bS:l≠[]:=by first|rfl|simp) (aa:(5*l.length+1792)*(dD+1)<=1125899906842624:=by first|omega|(simp;done)|(simp;omega)):g2 an K d (.app el bw dD x y) xs own aC e:=by
 have Y:=mE ay;have G:=nn F;cases Y;cases G;exact e6 (KV O (vs cG) bS aa) k
def qB{a5:Nat}{ak:α->ac ai}{fN:ac a0}(m:ac α)(cG:nZ ⟨own,aC,e⟩ y ak bw m)(k:cE an K xs bk cI ((d,.aL aC bw 0 (n+m.length)<|n+m.length)::e))(O:bb e x=some (.aL a5 bw 0 n c):=by rfl)(aB:own[a5]? =some (.a el true bw α ak l):=by rfl)
 (E:gN own a5 .x some=some fN:=by rfl) (ay:ma fN (.a el true bw α ak<|l++m) some=some bk:=by rfl) (F:mb aC some=some cI:=by rfl) (bS:m≠[]:=by first|rfl|simp) (aj:n=l.length:=by first|omega|(simp;done)|(simp;omega)) (Z:n=c:=by omega) (aa:(5*(n+m.length)+1792)*(dD+1)<=1125899906842624:=by first|omega|(simp;done)|(simp;omega)):g2 an K d (.app el bw dD x y) xs own aC e:=by
 have V:=hR E;cases V;have Y:=mE ay;have G:=nn F;cases Y;cases G;have:=F8 (call:=an.call) O aB (vs cG) bS J J J aa;rw[aj,nG]at this;rw[aj]at k;exact e6 this k
def hg{a5:Nat}{ak:α->ac ai}(l:ac α)(Y:cs=l.flatMap ak)(O:bb e x=some (.aL a5 z 0 l.length c):=by rfl)(aB:own[a5]? =some (.c el cs):=by rfl)(aH:∀w,(ak w).length=z:=by exactλ_=>o)(ah:pE cs=true:=by rfl):nZ ⟨own,aC,e⟩ x ak z l:=adY l O o aB Y aH ah o
def tM{l:ac ci}{bE:f5}(bF:ci)(a3:l[j]? =some bF)(k:cE an K xs own aC ((d,.i .u8 (bF.toNat:Int))::e))(O:bb e x=some (.s l):=by rfl)(af:bb e i=some (.i bE (j:Int)):=by rfl):g2 an K d (.u0 x i) xs own aC e:=e6 (ad1 O af a3) k
def tN{l:ac ci}(bq:ac ci)(k:cE an K xs own aC ((d,.s bq)::e))(O:bb e x=some (.s l):=by rfl)(fA:fT ⟨own,aC,e⟩ aQ 0 p:=by first|exact o|exact dq)(Z:fT ⟨own,aC,e⟩ af l.length q:=by first|exact o|exact dq)(aI:(l.drop p).take (q-p)=bq:=by first|rfl|simp)(hp:p<=q:=by omega)(aD:q<=l.length:=by first|omega|(simp;done)|(simp;omega)):g2 an K d (.ti x aQ af) xs own aC e:=by
 subst aI;exact e6 (ad2 O fA Z hp aD) k
def Cg{l m:ac ci}(k:cE an K xs own aC ((d,.s<|l++m)::e))(O:bb e x=some (.s l):=by rfl)(N:bb e y=some (.s m):=by rfl)(aI:l.length+m.length<=1099511627776:=by first|omega|(simp;done)|(simp;omega)):g2 an K d (.bin .add x y) xs own aC e:=e6 (ad3 O N aI) k
end
section
variable{an:e2}{K:ac dC}{own:ac a0}{aC:Nat}{e:bV}{d:Tmp}{xs:ac bt}{x y:ce}
variable{m n:Nat}
def aeb(k:cE an K xs own aC ((d,.i .u64 ((m/n:Nat):Int))::e))(O:bb e x=some (.i .u64 (m:Int)):=by rfl)(N:bb e y=some (.i .u64 (n:Int)):=by rfl)(aj:n≠0:=by omega)(hm:m<18446744073709551616:=by omega):g2 an K d (.bin .quo x y) xs own aC e:=by
 have h:=ad4 (call:=an.call) (s:=⟨own,aC,e⟩) O N J;have U:IntKind.u64.wrap ((m:Int).tdiv n)=↑(m/n):=by
  show IntKind.u64.wrap ↑(m/n)=_;have:=mr m n;generalize m/n=q at *;exact Ke J J
 rw[U]at h;exact e6 h k
def aec{a5:f5}(k:cE an K xs own aC ((d,.i a5 ((m%n:Nat):Int))::e))(O:bb e x=some (.i a5 (m:Int)):=by rfl)(N:bb e y=some (.i a5 (n:Int)):=by rfl)(aj:n≠0:=by omega):g2 an K d (.bin .rem x y) xs own aC e:=
 e6 (ad5 O N J) k
def aed{a5 bU:f5}(k:cE an K xs own aC ((d,.i a5 ((m/2^n:Nat):Int))::e))(O:bb e x=some (.i a5 (m:Int)):=by rfl)(N:bb e y=some (.i bU (n:Int)):=by rfl)(aj:n<=a5.bits:=by first|decide|(show _<=64;omega)):g2 an K d (.bin .shr x y) xs own aC e:=
 e6 (ad6 O N aj) k
end
variable{an:e2}{s:cg}{n m:Int}{c:bu}{a:dz}{P:Prop}{k:f5}{p:Nat}{e k7:bV}{R:a0}
def RW(d:Nat):bP->be bP
 |⟨K,c,⟨own,n,(t,a)::e⟩⟩=>match Nat.beq t d with
  |true=>none
  |false=>Ca ⟨K,c,⟨own,n,(t,a)::e⟩⟩
 |g=>Ca g
def ak.mono{K g:ac dC}(h:∀x s,Sem an K x s->Sem an g x s)(k:ak an K c s)(J:∀fx,KE an g fx->KE an K fx:=by exactλ_ h=>h):ak an g c s:=by
 have up:∀x I st,rH an (Sem an K) x I st->rH an (Sem an g) x I st:=λx I st ⟨H,ids,s,Y,G,C,N⟩=>⟨H,ids,s,Y,G,C,h x s N⟩;cases c with
 |c c=>exactλH ids st I O U D=>(k H ids st I O U D).mono up
 |R l=>exactλH ids st I O U D=>(k H ids st I O U D).mono up
 |x e=>exact h e s k
 |d l bl bc a4 b3=>exactλfx A H ids st I gE cG O U D T=>(k fx (J fx A) H ids st I gE cG O U D T).mono up
def eC{K:ac dC}{c:ce}{b:dz}[o:Decidable P](bK:P->bP.ok an ⟨K,.c a,s⟩)(aa:¬P->bP.ok an ⟨K,.c b,s⟩)(ah:bb s.env c=some (.b<|decide P):=by rfl):bP.ok an ⟨K,.c<|.cond c a b,s⟩:=zc ah (λh=>bK<|jD h) λh=>aa<|of_decide_eq_false h
def K1{K:ac dC}{c:ce}{b:dz}[o:Decidable P](bK:¬P->bP.ok an ⟨K,.c a,s⟩)(aa:P->bP.ok an ⟨K,.c b,s⟩)(ah:bb s.env c=some (.b<|!decide P):=by rfl):bP.ok an ⟨K,.c<|.cond c a b,s⟩:=zc ah (λh=>bK apA) λh=>aa apA
def jS{K:ac dC}{b:dz}{L:Type _}(P:L->Prop)(T:L->cg)(aE:bP.ok an ⟨.b7 (kN an.i0.length P T)::K,c,s⟩)(aK:∀l,P l->bP.ok an ⟨K,.c b,T l⟩):bP.ok an ⟨.seq b::K,c,s⟩:=by
 refine ak.mono (λx s O=>?_) aE;cases x with
 |norm=>have⟨f,l,hp,cG⟩:=O;exact F5 f _ cG (aK l hp)
 |_=>exact O
def tO(h:n=m:=by omega)(aE: -9223372036854775808<=n:=by omega)(aK:n<9223372036854775808:=by omega):some (ai.i .i64<|IntKind.i64.wrap n)=some (ai.i .i64 m):=by rw[j9 aE aK,h]
def gg(h:n=m:=by omega)(aE: -9223372036854775808<=n:=by omega)(aK:n<9223372036854775808:=by omega):ai.i .i64 (IntKind.i64.wrap n)=ai.i .i64 m:=by rw[j9 aE aK,h]
def rv(h:n=m:=by omega):some (ai.i k n)=some (ai.i k m):=by rw[h]
def ht(h:n=m:=by omega):ai.i k n=ai.i k m:=by rw[h]
def iz{own:ac a0}{n:Nat}(h:qz [0] k7 e)(ay:∃cq,own[0]? =some cq/\lg [0] R cq)(hp:pinned p [0] 0=true:=by rfl):Sub p [0] ⟨own,n,e⟩ ⟨[R],1,k7⟩:=⟨az,o,⟨ay,aP⟩,h,hp⟩
def RX{own:ac a0}{n:Nat}{q:a0}(h:qz [0,1] k7 e)(ay:∃cq,own[0]? =some cq/\lg [0,1] R cq)(aD:∃cq,own[1]? =some cq/\lg [0,1] q cq)(hp:pinned p [0,1] 0=true:=by rfl):Sub p [0,1] ⟨own,n,e⟩ ⟨[R,q],2,k7⟩:=⟨az,o,⟨ay,aD,aP⟩,h,hp⟩
section
variable{call:bR}{I:aO}{H:bm}{ids:ac Nat}{e:bV}{x y i:ce}
variable{z j:Nat}
theorem aee{α:Type}{ak:α->ac ai}{l:ac α}{q:α}{bE:f5}(D:cY I H ids e)(O:bb e x=some (.bs z α ak l))(af:bb e i=some (.i bE (j:Int)))(a3:l[j]? =some q):∃v,den H (.ip<|ak q) ids v/\∀st,bD call (.jd z x i) I st= .ok v I st:=by
 have aT:=(dG.1 a3).1;rcases D.aq O with⟨W,_⟩|⟨b,R,c,ab,el,b1,aW,Y,G,N,J⟩
 .subst W;simp at aT
 .refine⟨_,⟨b,R+j*z,ab,el,b1,aW,o,N,?_⟩,λst=>BY Y (D.aq af) aT⟩;have W:=gr<|J j q a3
  grind
def aef{k R n c:Nat}{bE:f5}(D:cY I H ids e)(O:bb e x=some (.aL k z R n c))(af:bb e i=some (.i bE (j:Int)))(a3:j<n):∃v,den H (.fb k z (R+j) 0) ids v/\∀st,bD call (.jd z x i) I st= .ok v I st:=by
 have⟨b,Y,G⟩:=D.aq O;exact ash ash
end
section
variable{an:e2}{K:ac dC}{own bl:ac a0}{aC a4 b3 back:Nat}{e bc:bV}{d:Tmp}{aF:ac Tmp}{xs:ac (bt×cz)}{x y i:ce}
variable{j z:Nat}{α:Type}{el:d7}{aW:Bool}{l:ac α}
def tP{ak:α->ac ai}(q:α){bE:f5}(a3:l[j]? =some q)(k:dB an K xs bl ((d,.ip<|ak q)::bc) a4 b3 own aC ((d,.ip<|ak q)::e))(O:bb (eF aF bc) x=some (.bs z α ak l):=by rfl)(af:bb (eF aF bc) i=some (.i bE (j:Int)):=by rfl)(aa:back<a4:=by decide):dB an K ((⟨some d,.jd z x i,none⟩,.read back aF)::xs) bl bc a4 b3 own aC e:=
 mF aa (λH ids st I D _ _=>let⟨v,Y,G⟩:=aee D O af a3;⟨v,Y,λL _ _=>G L⟩) k
def aeg{a5 R n c:Nat}{bE:f5}(k:dB an K xs bl ((d,.fb a5 z (R+j) 0)::bc) a4 b3 own aC ((d,.fb a5 z (R+j) 0)::e))(O:bb (eF aF bc) x=some (.aL a5 z R n c):=by rfl)(af:bb (eF aF bc) i=some (.i bE (j:Int)):=by rfl)(a3:j<n:=by omega)(aa:back<a4:=by decide):dB an K ((⟨some d,.jd z x i,none⟩,.read back aF)::xs) bl bc a4 b3 own aC e:=
 mF aa (λH ids st I D _ _=>let⟨v,Y,G⟩:=aef D O af a3;⟨v,Y,λL _ _=>G L⟩) k
theorem mG{a5 n c:Nat}{bE:f5}(k:dB an K xs bl ((d,.fb a5 z j 0)::bc) a4 b3 own aC ((d,.fb a5 z j 0)::e))(O:bb (eF aF bc) x=some (.aL a5 z 0 n c):=by rfl)(af:bb (eF aF bc) i=some (.i bE (j:Int)):=by rfl)(a3:j<n:=by omega)(aa:back<a4:=by decide):dB an K ((⟨some d,.jd z x i,none⟩,.read back aF)::xs) bl bc a4 b3 own aC e:=
 aeg aoM O af a3 aa
def rM{a5 q:Nat}{ak:α->ac ai}(w:α){a:ai}(a3:l[j]? =some w)(k:dB an K xs bl ((d,a)::bc) a4 b3 own aC ((d,a)::e))(O:bb (eF aF bc) x=some (.fb a5 z j q):=by rfl)(aB:bl[a5]? =some (.a el aW z α ak l):=by rfl)(aD:(ak w)[q]? =some a:=by rfl)(aa:back<a4:=by decide):dB an K ((⟨some d,.ix x,none⟩,.read back aF)::xs) bl bc a4 b3 own aC e:=
 mF aa (λH ids st I D W ay=>by
  have⟨b,Y,G⟩:=D.aq O;have⟨ab,C,N,J⟩:=ay a5 _ b aB o Y;have⟨v,Z,g⟩:=tG (J j w a3) aD;refine⟨v,g,λL _ cG=>y7 G ((cG a5 _ b aB o Y).trans C) ?_⟩;rw[pe]at Z;split at Z
  .rw[p3]at Z;exact Z
  .cases Z) k
def oP{a5:Nat}{ak:α->ac ai}{a:ai}{bk fN:ac a0}(aG:α)(k:dB an K xs fN bc (a4+1) aC bk aC e)(O:bb e x=some (.fb a5 1 j 0):=by rfl)(N:bb e y=some a:=by rfl)(aB:own[a5]? =some (.a el aW 1 α ak l):=by rfl)(D:ak aG=[a]:=by rfl)(ah:rD a=true:=by rfl)(aE:∀w,(ak w).length=1:=by exactλ_=>o)
 (ay:gN own a5 (.a el aW 1 α ak<|l.set j aG) some=some bk:=by rfl) (E:za bl (some a5) some=some fN:=by rfl) (a3:j<l.length:=by first|omega|(simp;done)|(simp;omega)):dB an K ((⟨none,.store 1 x y,none⟩,.dJ)::xs) bl bc a4 b3 own aC e:=by
 cases hR ay;have⟨g,V,B,bj⟩:=F3 E;cases V;exact vq (RH aG O N aB D a3 ah aE) B (λk R L W=>by
  have:=bj k R L W;simp only[g1,O];exact this) k
end
structure gh where
 L:Type
 own:L->ac a0
 args:L->ac ai
 pre:L->Prop
 bk:L->ac a0
 res:L->ai
 hp:bm->Prop:=fun _=>True
 hm:∀{H bB:bm},cL H bB->hp H->hp bB:=by exact fun _ _=>trivial
abbrev aeh(hp:bm->Prop)(hm:∀{H Z:bm},cL H Z->hp H->hp Z){L:Type}(f:L->ac a0×ac ai×Prop×ac a0×ai):gh where
 L:=L
 own:=λl=>(f l).1
 args:=λl=>(f l).2.1
 pre:=λl=>(f l).2.2.1
 bk:=λl=>(f l).2.2.2.1
 res:=λl=>(f l).2.2.2.2
 hp:=hp
 hm:=hm
abbrev kP{L:Type}(f:L->ac a0×ac ai×Prop×ac a0×ai):gh:=aeh (λ_=>True) (λ_ _=>trivial) f
def gh.spec(S:gh):Spec where
 L:=S.L×bm×ac Nat
 pre:=λl ab st=>S.pre l.1/\S.hp l.2.1/\Fit l.2.1 l.2.2 st (S.own l.1) (S.own l.1).length/\cT l.2.1 (S.args l.1) l.2.2 ab
 post:=λl ab st v al=>∃Z,Fit Z l.2.2 al (S.bk l.1) (S.own l.1).length/\cZ l.2.1 l.2.2 st Z l.2.2 al/\den Z (S.res l.1) l.2.2 v
instance:Coe gh Spec:=⟨gh.spec⟩
instance:Coe gh dT:=⟨λS=>S.spec.K⟩
def Ch(S:gh)(l:S.L)(res:ac gU)(x:c6)(s:cg):Prop:=(x= .norm\/x= .ret)/\(∃r,Fin.kO s res=some r/\h3 r=true/\bX r (S.res l))/\∃f,f.length=(S.own l).length/\Sub (S.own l).length f s ⟨S.bk l,(S.own l).length,[]⟩
theorem aei{f ids i0:ac Nat}(D:f.length=i0.length)(hp:pinned i0.length f 0=true)(af:ck i0 ids):pick f ids=i0:=by
 apply pf;intro k;by_cases E:k<i0.length
 .have Y:=KP hp k E;rw[jn]at Y;rw[tD Y<|af k _<|ba E,ba E]
 .grind [pick]
variable{X:Ctx}
variable{f:d8}{a7:c7}
def gh.sp(S:gh)(P:S.spec.L->ac bv->ao->Prop):Spec:=⟨S.spec.L,P,S.spec.post⟩
theorem RY{aV:ar c7}(a':Good X)(o:l8 X aV)(bp:d8->dT)(O:aV.get f=some a7){S:gh}{P:S.spec.L->ac bv->ao->Prop}(Y:∀a ab st,P a ab st->S.spec.pre a ab st)(aI:∀l,(S.args l).length<=a7.aR)
 (h:∀l H i0 ax ab,P (l,H,i0) ab ax->i0.length=(S.own l).length->fz ⟨cf aV (cm X bp)<|bz+1,bz+1,f,H,i0,ax,Ch S l a7.res⟩ [] (.c a7.body) (S.own l) ((S.own l).length) (iJ 0<|S.args l)):eb X f (S.sp P):=by
 refine Kc a' o bp O (λl ab st hp=>by rw[gr (Y l ab st hp).2.2.2];exact aI l.1) ?_;rintro⟨l,H,i0⟩ ab st E;have⟨hp,V,U,d⟩:=Y _ _ _ E;simp only at hp V U d;apply(h l H i0 st ab E U.len H i0 st (en ab) apk U<|cY.zero d).mono;rintro x I al ⟨Z,ids,s,T,A,D,O,⟨r,aa,G,hle⟩,g,ad,cG⟩;obtain⟨v,C,N⟩:=rK A D aa;have ag:=U.len;have W:Sub i0.length g s ⟨S.bk l,(S.own l).length,[]⟩:=by grind
 have F:=W.fit A;have B:=W.bH A T;rw[(aei J W.RD T.jf)]at F B;exact⟨O,v,N,Z,F,B,hle _ _ _<|tF _ G C _⟩
def aej{aV:ar c7}(J:Good X)(o:l8 X aV)(bp:d8->dT)(O:aV.get f=some a7){S:gh}(aI:∀l,(S.args l).length<=a7.aR)
 (h:∀l,S.pre l->∀H i0 ax,S.hp H->i0.length=(S.own l).length->fz ⟨cf aV (cm X bp)<|bz+1,bz+1,f,H,i0,ax,Ch S l a7.res⟩ [] (.c a7.body) (S.own l) ((S.own l).length) (iJ 0<|S.args l)):eb X f S.spec:=
 RY J o bp O (λ_ _ _ h=>h) aI λl H i0 ax _ hp aI=>h l hp.1 H i0 ax hp.2.1 aI
def gh.jT(S:gh)(ag:S.L->Nat):Spec:=S.sp λa ab st=>S.spec.pre a ab st/\ag a.1<=st.ag
def aek{aV:ar c7}(J:Good X)(o:l8 X aV)(bp:d8->dT)(O:aV.get f=some a7){S:gh}{ag:S.L->Nat}(aI:∀l,(S.args l).length<=a7.aR)
 (h:∀l,S.pre l->∀H i0 ax,S.hp H->i0.length=(S.own l).length->ag l<=ax.ag->fz ⟨cf aV (cm X bp)<|bz+1,bz+1,f,H,i0,ax,Ch S l a7.res⟩ [] (.c a7.body) (S.own l) ((S.own l).length) (iJ 0<|S.args l)):eb X f (S.jT ag):=
 RY J o bp O (λ_ _ _ h=>h.1) aI λl H i0 ax _ hp aI=>h l hp.1.1 H i0 ax hp.1.2.1 aI hp.2
mutual
theorem K2{H:bm}{f ids:ac Nat}(D:∀k m:Nat,f[k]? =some m->m<ids.length):∀(a:ai) {v:bv},den H a (pick f ids) v->den H (jQ f a) ids v
 |.i _ _,_,d=>d
 |.b _,_,d=>d
 |.s _,_,d=>d
 |.nl,_,d=>d
 |.v _,_,d=>d
 |.p k R,v,⟨b,e,d⟩=>by
  exact ao2
 |.fb k z j R,v,⟨b,e,d⟩=>by
  exact ao2
 |.aL k z R n c,v,⟨b,e,d⟩=>by
  exact ao2
 |.bs _ _ _ _,_,d=>d
 |.gq _ _ _ _,_,d=>d
 |.b8 _ _ _ _,_,d=>d
 |.ip _,_,d=>d
 |.mp k,v,⟨b,e,d⟩=>by
  exact ao2
 |.g _,_,d=>d
 |.fn _ b6 cs,_,⟨ab,G,e,W,F⟩=>⟨ab,G,e,xr D b6 W,xr D cs F⟩
 |.agg cs,_,⟨ab,e,d⟩=>⟨ab,e,xr D cs d⟩
 |.br cs,_,⟨ab,e,d⟩=>⟨ab,e,xr D cs d⟩
 |.bad,_,d=>d.elim
theorem xr{H:bm}{f ids:ac Nat}(D:∀k m:Nat,f[k]? =some m->m<ids.length):∀(a:ac ai) {v:ac bv},cT H a (pick f ids) v->cT H (kM f a) ids v
 |[],_,d=>d
 |a::as,_,⟨v,G,e,W,F⟩=>⟨v,G,e,K2 D a W,xr D as F⟩
theorem tQ{f ids:ac Nat}(D:∀k m:Nat,f[k]? =some m->m<ids.length){k b:Nat}(h:(pick f ids)[k]? =some b):∃m,f[k]? =some m/\ids[m]? =some b:=by
 unfold pick at h
 grind
end
def n3(f:ac Nat):a0->a0->Prop
 |.c el cs,R=>R= .c el (kM f cs)
 |.a el aW z α ak l,R=>R= .a el aW z α ak l/\∀x,kM f (ak x)=ak x
 |.g p,R=>R= .g p
 |.x,R=>R= .x
def n3.den{H:bm}{f ids:ac Nat}(D:∀k m:Nat,f[k]? =some m->m<ids.length){cq:a0}{hs:be bG}(h:n3 f R cq)(d:oO H (pick f ids) R hs):oO H ids cq hs/\cq.live=R.live:=by
 cases R with
 |c el cs=>cases h;have⟨ab,e,d⟩:=d;exact⟨⟨ab,e,xr D cs d⟩,o⟩
 |a el aW z α ak l=>
  have⟨h,hp⟩:=h;cases h;have⟨ab,U,T,d⟩:=d;exact aqB aqB
 |g p=>cases h;exact⟨d,o⟩
 |x=>cases h;exact⟨aP,o⟩
def vt(f:ac Nat)(own bk:ac a0)(os:ac a0):Prop:=bk.length=own.length/\(∀j:Nat,j∉f->bk[j]? =own[j]?)/\∀(i k:Nat) (cq:a0),f[i]? =some k->bk[k]? =some cq->∃R,os[i]? =some R/\n3 f R cq
variable{bk:ac a0}{bp:d8->dT}{aX:bm}{i0:ac Nat}{ax:ao}{aC:Nat}{bJ:ac ce}{as:ac ai}{cq:a0}{a8:Nat}{Q:c6->cg->Prop}{d:be Tmp}{xs:ac bt}
theorem K3{k:Nat}{own:ac a0}(h:gN own k cq some=some bk)(aa:n3 [k] R cq):vt [k] own bk [R]:=by
 have:=hR h;cases this;refine⟨az,λj A=>nH aoM,λi gZ q E aD=>?_⟩
 grind
theorem K4{aV:ar c7}{n:Nat}{own:ac a0}{g:d8}{S:gh}{P:S.spec.L->ac bv->ao->Prop}(ah:eb X g (S.sp P))(f:ac Nat)(l:S.L)(Y:∀H i ab st,ax.ag<=st.ag->S.spec.pre (l,H,i) ab st->P (l,H,i) ab st)(hp:S.pre l)(cl:S.hp aX)
 (cG:Sub 0 f ⟨own,aC,e⟩ ⟨S.own l,(S.own l).length,[]⟩) (aa:vt f own bk (S.bk l))
 (bK:gM e bJ=some as) (he:as=kM f (S.args l)) (J:bp g=(S.sp P).K) {H:bm} {ids:ac Nat} {st:ao} {I:aO} (O:cZ aX i0 ax H ids st) (U:Fit H ids st own aC) (D:cY I H ids e):
 ∃v al F Z,bD (cf aV (cm X bp)<|n+1) (.call (.func g) bJ) I st= .ok v I al/\Fit Z F al bk aC/\den Z (jQ f<|S.res l) F v/\cL H Z/\ck ids F/\cZ aX i0 ax Z F al/\st.ag<=al.ag:=by
 subst he;have aw:=cG.fit U;have ak:=tE f _<|D.dt bK;obtain⟨v,al,aM,G⟩:=ah _ st ⟨(l,H,pick f ids),Y _ _ _ _ O.ag ⟨hp,S.hm O.hle cl,aw,ak⟩⟩;obtain⟨v1,W,aJ,B⟩:=xd (K:=bp) ⟨v,al,by rwa [J],G⟩;rw[J]at B;obtain⟨Z,ai,V,aH⟩:=B (l,H,pick f ids)<|Y _ _ _ _ O.ag ⟨hp,S.hm O.hle cl,aw,ak⟩;have aT:∀k m:Nat,f[k]? =some m->m<ids.length:=λk m E=>by
  have av:(S.own l).length=f.length:=cG.own.len;have aM:=(dG.1 E).1;obtain⟨aZ,cq,G,C,_⟩:=cG.own.get<|ba (show k<(S.own l).length by omega);exact arG
 have aD:∀(j b:Nat),j∉f->ids[j]? =some b->b∉pick f ids:=λj b A aa hm=>by
  obtain⟨k,E⟩:=se.1 hm;obtain⟨m,C,N⟩:=tQ aT E;have T:=dG.1 N;have:=(uP U.c2).1<|(dG.1 aa).2.trans T.2.symm;exact A<|this▸fQ C
 have bj:cf aV (cm X bp) (n+1) (.func (.func g) #[] #[]) (dt I bJ) none st= .ret v1 W false:=by
  rw[nT];have e:e8 (#[]:bi bv).toList (e8 (dt I bJ) (#[]:bi bv).toList)=dt I bJ:=az
  rw[e,aJ];rfl
 have hle:=V.hle;refine⟨v1,W,ids,Z,?_,?_,K2 aT _ aH,hle,ck.refl _,?_,V.ag⟩
 .rw[vm];exact aoL
 .obtain⟨aL,aK,aG⟩:=aa;refine⟨ai.wf,ai.le,by rw[aL];exact U.cV,U.len,U.c2,λb aa=>fG (U.lt b aa) V.ag,λj R b A a'=>?_⟩;by_cases ad:j∈f
  .obtain⟨i,af⟩:=se.1 ad;obtain⟨qC,aE,aN⟩:=aG i j R af A;obtain⟨C,N⟩:=ai.own i qC b aE<|tD af a';obtain⟨aR,aY⟩:=aN.den aT C
   grind
  .have A:=A;rw[aK j ad]at A;obtain⟨C,N⟩:=U.own j R b A a';have aA:=U.lt b<|fQ a';have aB:=aD j b ad a';simpa[V.dZ b aA aB]using⟨rG hle aoN C,λav=>by rw[V.hold b aA aB];exact N av⟩
 .have aP:∀b,b∈pick f ids->b∈ids:=λb aa=>by
   exact aqY
  have aq:∀b,b<ax.ag->b∉i0->b∉pick f ids:=λb aa aj hm=>by
   rcases O.new b (aP b hm)with h|h
   .exact aj h
   .have h:=h;omega
  exact⟨O.hle.trans hle,λb aa aj=>(by rw[V.hold b arz<|aq b aa aj];exact O.hold b aa aj),λb aa aj=>(by rw[V.dZ b arz<|aq b aa aj];exact O.dZ b aa aj),cN O.ag V.ag,O.jf,O.new⟩
def RZ{aV:ar c7}{n:Nat}{own:ac a0}{g:d8}{S:gh}(ah:eb X g S.spec)(f:ac Nat)(l:S.L)(hp:S.pre l)(cl:S.hp aX)
 (cG:Sub 0 f ⟨own,aC,e⟩ ⟨S.own l,(S.own l).length,[]⟩) (aa:vt f own bk (S.bk l))
 (bK:gM e bJ=some as) (he:as=kM f (S.args l)) (J:bp g=S.spec.K) {H:bm} {ids:ac Nat} {st:ao} {I:aO} (O:cZ aX i0 ax H ids st) (U:Fit H ids st own aC) (D:cY I H ids e):
 ∃v al F Z,bD (cf aV (cm X bp)<|n+1) (.call (.func g) bJ) I st= .ok v I al/\Fit Z F al bk aC/\den Z (jQ f<|S.res l) F v/\cL H Z/\ck ids F/\cZ aX i0 ax Z F al/\st.ag<=al.ag:=
 K4 ah f l (λ_ _ _ _ _ h=>h) hp cl cG aa bK he J O U D
def R0{aV:ar c7}{n:Nat}{fn:d8}{K:ac dC}{own:ac a0}{g:d8}{S:gh}(ah:eb X g S.spec)(f:ac Nat)(l:S.L)(hp:S.pre l)
 (cG:Sub 0 f ⟨own,aC,e⟩ ⟨S.own l,(S.own l).length,[]⟩) (aa:vt f own bk (S.bk l)) (k:cE (gf X aV bp n a8 fn aX i0 ax Q) K xs bk aC (ec d (jQ f<|S.res l) e))
 (bK:gM e bJ=some as) (he:as=kM f (S.args l)) (J:bp g=S.spec.K) (cl:S.hp aX):
 cE (gf X aV bp n a8 fn aX i0 ax Q) K (⟨d,.call (.func g) bJ,none⟩::xs) own aC e:=λH ids st I O U D=>by
 obtain⟨v,al,F,Z,W,cW,A,C,h,E,_⟩:=RZ ah f l hp cl cG aa bK he J O U D;exact oM W<|k Z F al _ E cW<|(D.mono C h).ec d A
theorem lN{aV:ar c7}{n:Nat}{fn:d8}{K:ac dC}{own:ac a0}{g:d8}{S:gh}(ah:eb X g S.spec)(a5:Nat)(l:S.L)(hp:S.pre l)
 (k:cE (gf X aV bp n a8 fn aX i0 ax Q) K xs bk aC (ec d (jQ [a5]<|S.res l) e)) (ay:S.own l=[R]:=by rfl) (N:S.bk l=[cq]:=by rfl)
 (aB:∃g3,own[a5]? =some g3/\lg [a5] R g3:=by exact jU) (cG:gN own a5 cq some=some bk:=by rfl) (aa:n3 [a5] cq cq:=by exact sU)
 (bK:gM e bJ=some as:=by rfl) (he:as=kM [a5] (S.args l):=by rfl) (J:bp g=S.spec.K:=by rfl) (cl:S.hp aX:=by first|exact aP|assumption):
 cE (gf X aV bp n a8 fn aX i0 ax Q) K (⟨d,.call (.func g) bJ,none⟩::xs) own aC e:=
 R0 ah [a5] l hp apO (by rw[N];exact K3 cG aa) k bK he J cl
end Go.bI
namespace Go.bI
open Sym
set_option maxRecDepth 10000
section
variable{an:e2}{K:ac dC}{own bk:ac a0}{aC:Nat}{e:bV}
theorem Gb{a5 z n c:Nat}(t:Nat){el:d7}{aW:Bool}{α:Type}{ak:α->ac ai}{l:ac α}{p:dz}(k:fz an K (.c p) bk aC ((t,.bs z α ak l)::e))(aN:dx e t=some (.aL a5 z 0 n c):=by rfl)(aB:own[a5]? =some (.a el aW z α ak l):=by rfl)(hp:∀x,g0 (ak x)=true:=by exactλ_=>o)
 (ay:gN own a5 .x some=some bk:=by rfl) (aj:l.length=n:=by first|omega|(simp;done)|(simp;omega)) (ah:n<=c:=by omega):fz an K (.c p) own aC e:=by grind [hR,ad7]
end
section
variable{call:bR}{s:cg}{x y:ce}
theorem ael{k z n c:Nat}{el:d7}{aW:Bool}{α:Type}{ak:α->ac ai}{l m:ac α}(O:bb s.env x=some (.aL k z 0 n c))(aB:s.own[k]? =some (.a el aW z α ak l))(cG:nZ s y ak z m)(aE:m.length<=n)(aK:n<=l.length)(aH:0<z):
 fH call (.tj z x y) s (.i .i64 (m.length:Nat)) (s.own.set k<|.a el aW z α ak<|m++l.drop m.length) s.n:=λH ids st I U D=>by
 obtain⟨b,V,N⟩:=D.aq O;obtain⟨ab,bj,dj,dp⟩:=qA U aB V;have e:bD call (.tj z x y) I st=h2 (I.aq x) (λa g _=>h2 (I.aq y) (λb aL _=>bx a (λa=>bx b (λb=>st.load b (Nat.mul (eB aL g aL g) z) (λab=>cond (hk ab) (st.store a ab (λst=>.ok (.int .i64<|.ofNat<|eB aL g aL g) I st) .no) .no) .no)<|dL aL 0 (.ok (.int .i64 0) I st) .no)<|dL g 0 (.ok (.int .i64 0) I st) .no) .no) .no:=rfl;rw[e,N,qt,jC];rcases cG H ids st I U D with⟨rfl,a',W⟩|⟨A,R,a',G,F,b1,ah,W,cW,ad,C,h⟩
 .refine⟨.int .i64 0,st,ids,H,by rw[W,qt,Sym.et,Sym.h6,je o],?_,o,cL.refl _,ck.refl _,λ_ _ _ B=>B,c4 _,λ_ _ _=>o⟩;rw[show([]++l.drop ([]:ac α).length)=l by simp,show s.own.set k (.a el aW z α ak l)=s.own from ?_]
  .exact U
  .apply pf
   grind
 .have L:((G.drop R).take<|m.length*z).length=m.length*z:=by grind
  have T:m.length*z<=l.length*z:=jE z J;have E:=vr C<|Ce (n:=m.length) ⟨dj,dp⟩;have Y:ab.take 0++((G.drop R).take (m.length*z)++ab.drop (0+((G.drop R).take<|m.length*z).length))=(G.drop R).take (m.length*z)++ab.drop (m.length*z):=by grind
  refine⟨_,_,ids,H,?_,U.fl aB o V ⟨_,o,E.1,E.2⟩,o,cL.refl _,ck.refl _,λ_ _ _ B=>B.fl (fQ V) _,c4 _,λZ _ aa=>ar.fu _ _ λe=>aa k asJ<|e▸V⟩;rw[W,qt,h7 aE];show ao.load st ⟨A,R,none⟩ (m.length*z) _ _=_;unfold ao.load ao.gy;rw[cW,lf,sQ ad,h];unfold ao.store ao.gy;rw[bj,lf,rk,aA aoM,jq,Y];rfl
end
section
variable{an:e2}{K:ac dC}{own bk:ac a0}{aC:Nat}{e:bV}{d:Tmp}{xs:ac bt}{x y:ce}
def aem{a5 z n c:Nat}{el:d7}{aW:Bool}{α:Type}{ak:α->ac ai}{l:ac α}(m:ac α)(cG:nZ ⟨own,aC,e⟩ y ak z m)(k:cE an K xs bk aC ((d,.i .i64 (m.length:Nat))::e))(O:bb e x=some (.aL a5 z 0 n c):=by rfl)(aB:own[a5]? =some (.a el aW z α ak l):=by rfl)
 (ay:gN own a5 (.a el aW z α ak<|m++l.drop m.length) some=some bk:=by rfl) (aE:m.length<=n:=by omega) (aK:n<=l.length:=by first|omega|(simp;done)|(simp;omega)) (aH:0<z:=by decide):g2 an K d (.tj z x y) xs own aC e:=by
 cases hR ay;exact e6 (ael O aB cG aE aK aH) k
end
section
variable{an:e2}{K:ac dC}{own bl:ac a0}{aC a4 b3 back:Nat}{e bc:bV}{d:Tmp}{aF:ac Tmp}{xs:ac (bt×cz)}{x y i:ce}
variable{m n:Nat}
def aen(k:dB an K xs bl ((d,.i .u64 ((m/n:Nat):Int))::bc) a4 b3 own aC ((d,.i .u64 ((m/n:Nat):Int))::e))(O:bb (eF aF bc) x=some (.i .u64 (m:Int)):=by rfl)(N:bb (eF aF bc) y=some (.i .u64 (n:Int)):=by rfl)(aa:back<a4:=by decide)(aj:n≠0:=by omega)(hm:m<18446744073709551616:=by omega):dB an K ((⟨some d,.bin .quo x y,none⟩,.read back aF)::xs) bl bc a4 b3 own aC e:=
 mF (a:=.i .u64 ↑(m/n)) aa (λH ids st I D _ _=>⟨.int .u64 ↑(m/n),o,λL _ _=>by
  rw[Rd (D.aq O) (D.aq N) aj];have:=mr m n;generalize m/n=q at *;rw[Ke J J]⟩) k
def aeo{a5:f5}(k:dB an K xs bl ((d,.i a5 ((m%n:Nat):Int))::bc) a4 b3 own aC ((d,.i a5 ((m%n:Nat):Int))::e))(O:bb (eF aF bc) x=some (.i a5 (m:Int)):=by rfl)(N:bb (eF aF bc) y=some (.i a5 (n:Int)):=by rfl)(aa:back<a4:=by decide)(aj:n≠0:=by omega):dB an K ((⟨some d,.bin .rem x y,none⟩,.read back aF)::xs) bl bc a4 b3 own aC e:=
 mF (a:=.i a5 ↑(m%n)) aa (λH ids st I D _ _=>⟨.int a5 ↑(m%n),o,λL _ _=>adu (D.aq O) (D.aq N) aj⟩) k
def aep{z p q:Nat}{α:Type}{ak:α->ac ai}{l:ac α}{aQ af:be ce}(bq:ac α)(k:dB an K xs bl ((d,.bs z α ak bq)::bc) a4 b3 own aC ((d,.bs z α ak bq)::e))(O:bb (eF aF bc) x=some (.bs z α ak l):=by rfl)(fA:fT ⟨[],0,eF aF bc⟩ aQ 0 p:=by first|exact o|exact dq)(Z:fT ⟨[],0,eF aF bc⟩ af l.length q:=by first|exact o|exact dq)(aa:back<a4:=by decide)(aI:(l.drop p).take (q-p)=bq:=by first|rfl|simp)(hp:p<=q:=by omega)(aD:q<=l.length:=by first|omega|(simp;done)|(simp;omega)):dB an K ((⟨some d,.ow z x aQ af none,none⟩,.read back aF)::xs) bl bc a4 b3 own aC e:=by
 subst aI;refine mF aa (λH ids st I D _ _=>?_) k;obtain⟨v,Y,G⟩:=RM O fA Z hp aD D;exact⟨v,Y,λL hle _=>G L hle⟩
end
section
variable{call:bR}{s:cg}{x y:ce}
variable{bw dD k n c:Nat}{el:d7}{α:Type}{l:ac α}
theorem R1{aW:Bool}{ak:α->ac ai}(O:bb s.env x=some (.aL k bw 0 n c))(aB:s.own[k]? =some (.a el aW bw α ak l))(cG:xq call el dD s y ak bw [])(Z:n<=c)(ah:c<=l.length)(aa:(5*n+1792)*(dD+1)<=1125899906842624):
 fH call (.app el bw dD x y) s (.aL k bw 0 n c) s.own s.n:=λH ids st I U D=>by
 obtain⟨b,V,g⟩:=D.aq O;obtain⟨ab,bj,dj,dp⟩:=qA U aB V;obtain⟨new,Y,G,C⟩:=cG H ids st I U D x _ _ _ g;have N:=jE bw ah;refine⟨_,st,ids,H,?_,U,⟨b,V,o⟩,cL.refl _,ck.refl _,λ_ _ _ B=>B,c4 _,λ_ _ _=>o⟩;rw[C];unfold j6 ao.gy;simp only[DG,DH,Sym.et,Sym.h6,bj,lf,Im,sa]
 grind [h7,fi,je]
def R2{ak:α->ac ai}{m:ac α}(O:bb s.env x=some (.aL k bw 0 n c))(aB:s.own[k]? =some (.a el false bw α ak l))(cG:xq call el dD s y ak bw m)(bS:m≠[])(Z:n<=c)(E:c<n+m.length)(ah:c<=l.length)(aa:(5*(n+m.length)+1792)*(dD+1)<=1125899906842624):
 fH call (.app el bw dD x y) s (.aL s.n bw 0 (n+m.length)<|n+m.length) (s.own++[.a el true bw α ak<|l.take n++m]) (s.n+1):=λH ids st I U D=>by
 obtain⟨b,V,h⟩:=D.aq O;obtain⟨ab,bj,dj,dp⟩:=qA U aB V;obtain⟨new,Y,G,C⟩:=cG H ids st I U D x _ _ _ h;have T:=F7 (cL.refl H) (ck.app ids [st.ag])<|vr (KS ⟨dj,dp⟩ n J) Y;have N:=jE bw ah;have g:n*bw<=l.length*bw:=jE bw J;refine⟨.slice (some ⟨st.ag,0,none⟩) (n+m.length)<|n+m.length,_,_,H,?_,U.add ⟨_,o,T.1,T.2⟩,⟨st.ag,by rw[<-U.len];simp,by rw[jC]⟩,cL.refl _,ck.app _ _,λ_ _ _ B=>B.add _,kB _,λb aa _=>tJ aa⟩;rw[C];unfold j6 ao.gy;simp only[DG,DH,Sym.et,Sym.h6,bj,lf,jC];rw[h7<|aa,h7<|c4 _,h7 Z,h7<|by rw[fi,dj];omega,je o,rB J,cond_false,acM J,sQ ep,gV,rj,kC]
end
section
variable{an:e2}{K:ac dC}{own bk:ac a0}{aC cI:Nat}{e:bV}{d:Tmp}{xs:ac bt}{x y:ce}
variable{bw dD n c:Nat}{el:d7}{α:Type}{l:ac α}
def aeq{a5:Nat}{aW:Bool}{ak:α->ac ai}(cG:nZ ⟨own,aC,e⟩ y ak bw ([]:ac α))(k:cE an K xs own aC ((d,.aL a5 bw 0 n c)::e))(O:bb e x=some (.aL a5 bw 0 n c):=by rfl)(aB:own[a5]? =some (.a el aW bw α ak l):=by rfl)
 (Z:n<=c:=by omega) (ah:c<=l.length:=by first|omega|(simp;done)|(simp;omega)) (aa:(5*n+1792)*(dD+1)<=1125899906842624:=by omega):g2 an K d (.app el bw dD x y) xs own aC e:=e6 (R1 O aB (vs cG) Z ah aa) k
def K5{a5:Nat}{ak:α->ac ai}(m:ac α)(cG:nZ ⟨own,aC,e⟩ y ak bw m)(bq:ac α)(k:cE an K xs bk cI ((d,.aL aC bw 0 (n+m.length)<|n+m.length)::e))(O:bb e x=some (.aL a5 bw 0 n c):=by rfl)(aB:own[a5]? =some (.a el false bw α ak l):=by rfl)
 (ay:ma own (.a el true bw α ak bq) some=some bk:=by rfl) (F:mb aC some=some cI:=by rfl) (bS:m≠[]:=by first|rfl|simp) (Z:n<=c:=by omega) (E:c<n+m.length:=by first|omega|(simp;done)|(simp;omega)) (ah:c<=l.length:=by first|omega|(simp;done)|(simp;omega))
 (aa:(5*(n+m.length)+1792)*(dD+1)<=1125899906842624:=by first|omega|(simp;done)|(simp;omega)) (aI:l.take n++m=bq:=by first|rfl|simp):g2 an K d (.app el bw dD x y) xs own aC e:=by
 subst aI;have Y:=mE ay;have G:=nn F;cases Y;cases G;exact e6 (R2 O aB (vs cG) bS Z E ah aa) k
end
section
variable{an:e2}{K:ac dC}{own bl:ac a0}{aC a4 b3 back:Nat}{e bc:bV}{d:Tmp}{aF:ac Tmp}{xs:ac (bt×cz)}{x y:ce}
def aer{m n:Nat}(k:dB an K xs bl ((d,.i .i64 ((m/n:Nat):Int))::bc) a4 b3 own aC ((d,.i .i64 ((m/n:Nat):Int))::e))(O:bb (eF aF bc) x=some (.i .i64 (m:Int)):=by rfl)(N:bb (eF aF bc) y=some (.i .i64 (n:Int)):=by rfl)(aa:back<a4:=by decide)(aj:n≠0:=by omega)(hm:m<9223372036854775808:=by omega):dB an K ((⟨some d,.bin .quo x y,none⟩,.read back aF)::xs) bl bc a4 b3 own aC e:=
 mF (a:=.i .i64 ↑(m/n)) aa (λH ids st I D _ _=>⟨.int .i64 ↑(m/n),o,λL _ _=>by
  rw[Rd (D.aq O) (D.aq N) aj];have:=mr m n;generalize m/n=q at *;rw[j9 J J]⟩) k
end
def qD{an:e2}{K:ac dC}{i:Nat}{c:bu}{s:cg}{b:dz}{L:Type _}(P:L->Prop)(T:L->cg)(aE:bP.ok an ⟨.cA i:: .b7 (kN an.i0.length P T)::K,c,s⟩)(aK:∀l,P l->bP.ok an ⟨K,.c b,T l⟩):bP.ok an ⟨.cA i:: .seq b::K,c,s⟩:=by
 have up:∀s,kN an.i0.length P T s->Sem an (.seq b::K) .norm s:=λs O=>by
  have⟨f,l,hp,cG⟩:=O;exact F5 f _ cG<|aK l hp
 refine ak.mono (λx s O=>?_) aE;cases x with
 |norm=>exact up s O
 |exit j=>
  show if j=i then Sem an (.seq b::K) .norm s else Sem an (.seq b::K) (.exit j) s;have O:if j=i then Sem an (.b7 (kN an.i0.length P T)::K) .norm s else Sem an (.b7 (kN an.i0.length P T)::K) (.exit j) s:=O;split
  .rename_i h;rw[aA h]at O;exact up s O
  .rename_i h;rw[au h]at O;exact O
 |_=>exact O
def R3{own:ac a0}{n p:Nat}{e k7:bV}{R q r:a0}(h:qz [0,1,2] k7 e)(ay:∃cq,own[0]? =some cq/\lg [0,1,2] R cq)(aD:∃cq,own[1]? =some cq/\lg [0,1,2] q cq)(aw:∃cq,own[2]? =some cq/\lg [0,1,2] r cq)(hp:pinned p [0,1,2] 0=true:=by rfl):Sub p [0,1,2] ⟨own,n,e⟩ ⟨[R,q,r],3,k7⟩:=⟨az,o,⟨ay,aD,aw,aP⟩,h,hp⟩
def lO(c:ci):ac ai:=[.i .u8 (c.toNat:Int)]
theorem K6{H:bm}{ids:ac Nat}:∀{l:ac ci} {ab:ac bv},jR H ids lO 1 l ab->bytesOf ab=some l
 |[],ab,h=>by
  have:=pg (by rw[h.1];simp);subst this;rfl
 |c::l,ab,h=>by
  have Y:=h.2 0 c az;rw[kC]at Y;obtain⟨v,G,g,T,o⟩:=Y;subst T o;have Z:ab= .int .u8 (c.toNat:Int)::ab.drop 1:=by
   conv=>rw[<-List.take_append_drop 1 ab,g]
   rfl
  have U:=K6 (ab:=ab.drop 1) (by simpa using(Ce h 1));rw[Z];show bx (bytesOf<|ab.drop 1) (λbH=>some<|UInt8.ofNat ((c.toNat:Int)).toNat::bH) none=_;rw[U];show some (UInt8.ofNat ((c.toNat:Int)).toNat::l)=_;rw[tb,Io]
theorem R4(H:bm)(ids:ac Nat):∀l:ac ci,jR H ids lO 1 l (nN l)/\hk (nN l)=true
 |[]=>⟨xp _ _ _ _,o⟩
 |c::l=>by
  have⟨aE,aK⟩:=R4 H ids l;exact⟨vr (l:=[c]) (ab:=[.int .u8 c.toNat]) (Cf ⟨_,[],o,o,o⟩ o) aE,aK⟩
section
variable{call:bR}{s:cg}{x y:ce}
theorem aes{k R n c:Nat}{el:d7}{aW:Bool}{l:ac ci}(O:bb s.env x=some (.aL k 1 R n c))(aB:s.own[k]? =some (.a el aW 1 ci lO l))(aj:R+n<=l.length):fH call (.AM x) s (.s<|(l.drop R).take n) s.own s.n:=ka λH ids st I U D=>by
 have⟨b,V,B⟩:=D.aq O;have⟨ab,bj,dj,dp⟩:=qA U aB V;have E:jR H ids lO 1 ((l.drop R).take n) ((ab.drop R).take n):=by
  have:=KS (Ce (⟨dj,dp⟩:jR H ids lO 1 l ab) R) n ep
  rwa [ph,ph]at this
 refine⟨_,o,?_⟩;show IP x call I st=_;rw[IP,B,qt,ph,Sym.et];unfold ao.load ao.gy;rw[bj,lf,sQ aoM,K6 E];rfl
end
section
variable{an:e2}{K:ac dC}{own:ac a0}{aC:Nat}{e:bV}{d:Tmp}{xs:ac bt}{x y:ce}
def R5{a5 n c:Nat}{el:d7}{aW:Bool}{l:ac ci}(bq:ac ci)(k:cE an K xs own aC ((d,.s bq)::e))(O:bb e x=some (.aL a5 1 0 n c):=by rfl)(aB:own[a5]? =some (.a el aW 1 ci lO l):=by rfl)(aj:n<=l.length:=by first|omega|(simp;done)|(simp;omega))(aI:l.take n=bq:=by first|rfl|simp):g2 an K d (.AM x) xs own aC e:=by
 have:=aes (call:=an.call) (s:=⟨own,aC,e⟩) O aB J;rw[kC,aI]at this;exact e6 this k
end
section
variable{an:e2}{K:ac dC}{own bl:ac a0}{aC a4 b3 back:Nat}{e bc:bV}{d:Tmp}{aF:ac Tmp}{xs:ac (bt×cz)}{x y:ce}
variable{l:ac ci}{p q:Nat}{aQ af:be ce}
theorem aet{call:bR}{s:cg}{H:bm}{ids:ac Nat}{I:aO}{st:ao}(D:cY I H ids s.env)(O:bb s.env x=some (.s l))(fA:fT s aQ 0 p)(Z:fT s af l.length q)(hp:p<=q)(aD:q<=l.length):bD call (.ti x aQ af) I st= .ok (.string ⟨⟨(l.drop p).take<|q-p⟩⟩) I st:=by
 exact as9
def R6(bq:ac ci)(k:dB an K xs bl ((d,.s bq)::bc) a4 b3 own aC ((d,.s bq)::e))(O:bb (eF aF bc) x=some (.s l):=by rfl)(fA:fT ⟨[],0,eF aF bc⟩ aQ 0 p:=by first|exact o|exact dq)(Z:fT ⟨[],0,eF aF bc⟩ af l.length q:=by first|exact o|exact dq)(aa:back<a4:=by decide)(aI:(l.drop p).take (q-p)=bq:=by first|rfl|simp)(hp:p<=q:=by omega)(aD:q<=l.length:=by first|omega|(simp;done)|(simp;omega)):dB an K ((⟨some d,.ti x aQ af,none⟩,.read back aF)::xs) bl bc a4 b3 own aC e:=by
 subst aI;exact mF (a:=.s<|(l.drop p).take<|q-p) aa (λH ids st I D _ _=>⟨_,o,λL _ _=>aet D O fA Z hp aD⟩) k
end
def aeu{k z j q R:Nat}(h:R=j*z+q):bX (.p k R) (.fb k z j q):=λ_ _ _ d=>by subst h;exact d
section
variable{call:bR}{s:cg}{x y i:ce}
variable{n k:Nat}{el:d7}{z:Nat}{cs:ac ai}{j R:Nat}{aW:Bool}{l:ac ci}
def tR{bE:f5}(O:bb s.env x=some (.p k R))(af:bb s.env i=some (.i bE (j:Int)))(a3:j<n):fH call (.sj n z x i) s (.p k<|R+j*z) s.own s.n:=ka λH ids st I U D=>by
 have⟨b,Y,G⟩:=D.aq O;refine⟨_,aq1,?_⟩;show tm n z x i call I st=_;unfold tm;rw[G,lL,Sym.et,(D.aq af),nk,qu,h7 J,nX];rfl
def aev{bE:f5}(O:bb s.env x=some (.ip cs))(af:bb s.env i=some (.i bE (j:Int)))(a3:j<n):fH call (.sj n z x i) s (.ip<|cs.drop<|j*z) s.own s.n:=ka λH ids st I U D=>by
 have⟨b,R,ab,el,b1,aW,Y,G,d⟩:=D.aq O;have C:=D.aq af;refine⟨.pointer<|some ⟨b,R+j*z,none⟩,⟨b,R+j*z,ab,el,b1,aW,o,G,?_⟩,?_⟩
 .have:=nW (j*z) d
  rwa [Az,uO,<-List.length_drop]at this
 .show tm n z x i call I st=_;rw[tm,Y,lL,Sym.et,C,nk,qu,h7 J,nX];rfl
theorem R7{aX:bm}{g:Nat}{ab:ac bv}{b1:Nat×Nat}{bE:f5}(O:bb s.env x=some (.v<|.pointer<|some ⟨g,0,none⟩))(F:aX g=some (.cells ab el b1 aW))(E:∀H,cT H cs [] ab)(af:bb s.env i=some (.i bE (j:Int)))(a3:j<n):qw aX call (.sj n z x i) s (.ip<|cs.drop<|j*z) s.own s.n:=λH ids st I h U D=>by
 have C:=D.aq af;refine⟨.pointer<|some ⟨g,0+j*z,none⟩,st,ids,H,?_,U,⟨g,0+j*z,ab,el,b1,aW,o,h _ _ F,?_⟩,cL.refl _,ck.refl _,λ_ _ _ B=>B,c4 _,λ_ _ _=>o⟩
 .show tm n z x i call I st=_;unfold tm;rw[(D.aq O),lL,Sym.et,C,nk,qu,h7 J,nX];rfl
 .have:=nW (j*z)<|E H;have W:=gr this
  grind
def aew(O:bb s.env x=some (.p k R))(aB:s.own[k]? =some (.c el cs))(ay:R<cs.length):fH call (.El x) s (.p k R) s.own s.n:=ka λH ids st I U D=>by
 have⟨b,Y,G⟩:=D.aq O;have⟨⟨ab,C,d⟩,_⟩:=U.own k _ b aB Y;refine⟨_,aq1,?_⟩;show IU x call I st=_;unfold IU ao.gy;rw[G,lL,Sym.et,Sym.h6,C,lf,h7<|by rwa [fi,gr d]]
def aex(O:bb s.env x=some (.p k 0))(aB:s.own[k]? =some (.c el cs))(aj:cs.length=n):fH call (.Em el n x) s (.p k 0) s.own s.n:=ka λH ids st I U D=>by
 have⟨b,Y,G⟩:=D.aq O;have⟨⟨ab,C,d⟩,_⟩:=U.own k _ b aB Y;refine⟨_,aq1,?_⟩;show IV el n x call I st=_;unfold IV ao.gy;rw[G,lL,Sym.et,Sym.h6,C,lf,cond_false,je o,je o,je<|by rwa [fi,gr d]]
def zd{p q:Nat}{α:Type}{ak:α->ac ai}{l:ac α}{aQ af:be ce}(O:bb s.env x=some (.p k 0))(aB:s.own[k]? =some (.a el false z α ak l))(fA:fT s aQ 0 p)(Z:fT s af n q)(hp:p<=q)(aD:q<=n)(bS:p<n\/p=0):fH call (.wA n z x aQ af none) s (.aL k z p (q-p)<|n-p) s.own s.n:=ka λH ids st I U D=>by
 have⟨b,Y,G⟩:=D.aq O;have⟨ab,bj,dj,dp⟩:=qA U aB Y;refine⟨_,aq1,?_⟩;show tl n z x aQ af none call I st=_;unfold tl ao.gy;rw[G,lL,Sym.et,Sym.h6,bj,lf,sT,fT.aq Z D aD,fT.aq fA D hp];congr 2;by_cases g:n=p
 .subst g;obtain bS|bS:=bS
  .omega
  .subst bS;rw[je o];simp
 .rw[rB g,nX,jn];rfl
theorem aey{bE:f5}(O:bb s.env x=some (.p k 0))(N:bb s.env y=some (.i bE (n:Int)))(aB:s.own[k]? =some (.a el aW 1 ci lO l))(aj:n=l.length)(bS:n≠0)(aa:n<=1099511627776):fH call (.u2 el x y) s (.s l) (s.own.set k .x) s.n:=λH ids st I U D=>by
 have⟨b,Y,G⟩:=D.aq O;have C:=D.aq N;have⟨ab,bj,dj,dp⟩:=qA U aB Y;refine⟨_,_,ids,H,?_,U.fl aB o Y (hs:=.cells ab el (0,0+n) aW) aP,o,cL.refl _,ck.refl _,λ_ _ _ B=>B.fl (fQ Y) _,c4 _,?_⟩
 .show Ex el x y call I st=_;unfold Ex ao.gy;rw[G,lL,C,nk,qu,rB bS,Sym.et,h7<|aa,bj,lf,je o,sQ aoM];rw[kC,pn J,(K6 (⟨dj,dp⟩:jR H ids lO 1 l ab)),Sym.et,jq];rfl
 .intro A _ g;exact ar.fu _ _ λe=>g k asJ<|e▸Y
def vu(c:ci)(l:ac ci):Int:=match sr c l with
 |some i=>i
 |none=> -1
def aez{c:ci}(O:bb s.env x=some (.s l))(N:bb s.env y=some (.i .u8 (c.toNat:Int))):fH call (.lY x y) s (.i .i64<|vu c l) s.own s.n:=ka λH ids st I U D=>by
 have G:=D.aq N;refine⟨_,o,?_⟩;show IX x y call I st=_;unfold IX;rw[(D.aq O),yZ,G,nk,show j5 .u8 .u8=true from rfl,qu,Io];rw[vu];cases sr c l<;>rfl
end
