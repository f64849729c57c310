/- An abstract machine, and that its evaluations stand for runs of the model (part 3); no condition. -/
import Derived.KernelRfl
import Derived.LaidLaws
import Derived.Test.YthdlbilidpgknaaGreatDoorM2
import Derived.Test.YthdlbilidpgknaaGreatDoorM1
noncomputable section
set_option linter.all false
namespace Go.aj
variable{X:Ctx}
end Go.aj
namespace Go.aj
variable{X:Ctx}{α:Type}
def Lm(X:Ctx)(xf:dh)(Fn:Func):Bool:=
 match Fn.body with
 |some c=>Nat.beq Fn.ntmps xf.aO&&codeOk X xf.aO xf.body c&&uw X xf.res Fn.results.toList&& !(Fn.name== "runtime.NumGoroutine")
 |none=>false
def agy{f:ci}{xf:dh}{Fn:Func}(aa:X.P.funcs[f]? =some Fn)(h:Lm X xf Fn=true):∃Fn c,wW X f xf Fn c:=by
 unfold Lm at h;split at h
 ·rename_i c hc;simp only[bX]at h;obtain⟨⟨⟨h1,h2⟩,h3⟩,au⟩:=h;exact⟨Fn,c,aa,hc,ek h1,h2,h3,by simpa using au⟩
 ·cases h
def an.Bq(Q:Nat->α->Prop):an α->(Nat->Nat)->Prop
 |.nil,_=>True
 |.node l v r,g=>(match v with|some x=>Q (g 0) x|none=>True)∧an.Bq Q l (fun n=>g (2*n+1))∧an.Bq Q r (fun n=>g (2*n+2))
def an.Kb{Q:Nat->α->Prop}:∀(t:an α) (g:Nat->Nat),an.Bq Q t g->∀n x,t.get n=some x->Q (g n) x
 |.nil,_,_,n,x,h=>by simp at h
 |.node l v r,g,ha,n,x,h=>by
  obtain⟨h1,h2,h3⟩:=ha;cases n with
  |zero=>rw[an.xu]at h;subst h;exact h1
  |succ m=>
   rw[an.p0]at h;split at h
   ·rename_i hm;have:=an.Kb l _ h2 _ x h;have e:2*(m/2)+1=m+1:=by omega
    simp only[e]at this;exact this
   ·rename_i hm;have:=an.Kb r _ h3 _ x h;have e:2*(m/2)+2=m+1:=by omega
    simp only[e]at this;exact this
def auu{bl:an dh}(h:an.Bq (fun f xf=>∃Fn c,wW X f xf Fn c) bl id):oo X bl:=
 fun f xf J=>an.Kb bl id h f xf J
def jt:oj:=fun _ _ _=>none
def jG(X:Ctx):uV X jt:=fun _ _ _ _ h=>by cases h
structure y0 where
 P:d9
 aB:Nat
 jZ:ci->Bool
 kl:ci->Bool
 DM:∀f,jZ f=true->∀x w,(callFunc f #[x]).run P w= .ok (.value x) w
 Dh:∀f,kl f=true->∀s c w,(callFunc f #[.string s,.int .u8 c]).run P w= .ok (.value (goInt (match(List.range s.size).find? (fun i=>s[i]! ==c.toNat.toUInt8)with|some i=>(i:Int)|none=> -1))) w
 keys:ce->am fL
 sm:∀k c4,keys k=some c4->Maps.Keyed P k∧∀v,c4.ok v=true->∃l,keyOf P k v=some l
 pT:ci->Bool
 BV:∀f,pT f=true->∀s c w,(callFunc f #[.string s,.int .u8 c]).run P w= .ok (.value (goInt (s.data.toList.countP (fun b=>b==c.toNat.toUInt8):Nat))) w
 qg:ci->Bool
 l0:Nat
 DE:l0<aB
 Dj:∀f,qg f=true->∀(s b:f5) (m:Int) w,(load ⟨l0,0,none⟩).run P w= .ok (.int .i64 m) w->2<=b.size->(b.size:Int)<=m->s.size<=1000000->
  (callFunc f #[.string s,.string b]).run P w= .ok (.value (goInt (match oM b.data.toList s.data.toList with|some i=>(i:Int)|none=> -1))) w
 eqs:ce->am Nat
 xn:∀t n,eqs t=some n->P.eqGuardType P.depth t=false∧∀xs ao b w,xs.size=n%100+n/100->ao.size=n%100+n/100->kT (n%100) xs.toList ao.toList=some b->(Op.equalIn 10000 t (.agg xs) (.agg ao)).run P w= .ok b w
 qn:ci->am ce
 DD:∀f e,qn f=some e->∀(n:Nat) (w:co),n<=281474976710656->∃(cs:ap be) (w':co),n<=cs.size∧P.cellsOf e=1∧(callFunc f #[.int .i64 (n:Int)]).run P w= .ok (.value (.slice (some ⟨w.heap.size,0,none⟩) n cs.size)) w'∧w'.heap=w.heap.push (.cells cs e)∧(w'.os=w.os∧w'.output=w.output)
def y0.with(B:y0)(ok:ci->Code->dp->Prop):Ctx:=
 {P:=B.P,ok:=ok,aB:=B.aB,jZ:=B.jZ,kl:=B.kl,DM:=B.DM,Dh:=B.Dh,keys:=B.keys,sm:=B.sm,pT:=B.pT,BV:=B.BV,qg:=B.qg,l0:=B.l0,DE:=B.DE,Dj:=B.Dj,eqs:=B.eqs,xn:=B.xn,qn:=B.qn,DD:=B.DD}
def mkCtx(B:y0):Ctx:=B.with fun fn c sT=>∃F,B.P.funcs[fn]? =some F∧codeOk (B.with fun _ _ _=>False) F.ntmps sT c=true
def adX(B:y0)(ok mG:ci->Code->dp->Prop):codeOk (B.with ok)=codeOk (B.with mG):=by kernel_rfl
def anT(B:y0)(hH:B.P.follows .mixedOrders=true):Good (mkCtx B):=by
 refine⟨hH,fun fn c sT=> ?_⟩;have e:codeOk (mkCtx B)=codeOk (B.with fun _ _ _=>False):=adX B _ _;rw[e];exact Iff.rfl
section
variable{X:Ctx}
variable{st:aw}
def bn.ZU{ι:bt}{w:co}(h:bn X ι st w){g:Nat}{u:be}{el:ce}{a8:Nat×Nat}{aX:Bool}(aJ:st.h.get g=some (.cells [u] el a8 aX)):
 ∃c,bk ι u c∧∀sM,bk ι sM c->bn X ι ⟨st.h.set g (.cells [sM] el a8 aX),st.ag⟩ w:=by
 obtain⟨l,hl,C,eU,hC⟩:=h.eE _ _ aJ (by simp);obtain⟨c,r7,mr⟩:=hC.cell 0 (by simp);refine⟨c,by simpa using mr,fun sM C7=>⟨fun i o ai al=> ?_,fun i j o p a b hi hJ hj hW ha hb L3 e=> ?_,fun i hi=> ?_,h.gQ,h.mm,h.p1,fun i a o ha ae ai al=> ?_⟩⟩
 ·rw[an.ep]at ai;by_cases e:i=g
  ·rw[zab e]at ai;cases ai;subst e;refine⟨l,hl,C,eU,hC.there,hC.room,fun j hj=> ?_,hC.yU,hC.plain⟩;have:j=0:=by simpa using hj
   subst this;exact⟨c,r7,by simpa using C7⟩
  ·rw[zaa e]at ai;exact h.eE i o ai al
 ·have hh:∀k q,(st.h.set g (.cells [sM] el a8 aX)).get k=some q->q≠.dead->∃e1,st.h.get k=some e1∧e1≠.dead:=by
   intro k q U hq;rw[an.ep]at U;by_cases e:k=g
   ·subst e;exact⟨_,aJ,by simp⟩
   ·rw[zaa e]at U;exact⟨q,U,hq⟩
  obtain⟨bf,h1,h2⟩:=hh i o hi hJ;obtain⟨dy,h3,au⟩:=hh j p hj hW;exact h.inj i j bf dy a b h1 h2 h3 au ha hb L3 e
 ·have:=h.fresh i hi;refine⟨this.1,?_⟩;rw[an.ep,zaa]
  ·exact this.2
  ·intro e;subst e;rw[this.2]at aJ;cases aJ
 ·rw[an.ep]at ai;by_cases e:i=g
  ·rw[zab e]at ai;cases ai;subst e;show aX=false∧a8.1<a8.2;exact h.mK i a _ ha ae aJ (by simp)
  ·rw[zaa e]at ai;exact h.mK i a o ha ae ai al
def Row.pk(r:Row)(g:Nat)(el:ce)(c:Nat):Row:=
 ⟨r.as,⟨r.st.h.set g (.cells [.chan (some c)] el (0,1) false),r.st.ag⟩,r.v,⟨r.st'.h.set g (.cells [.chan (some c)] el (0,1) false),r.st'.ag⟩⟩
def aq1{g:Nat}{o bf:bD}(h:st.h.get g=some o):aw.le st ⟨(st.h.set g bf).set g o,st.ag⟩:=by
 refine⟨rfl,fun n x J=> ?_⟩;show((st.h.set g bf).set g o).get n=some x;rw[an.ep];by_cases e:n=g
 ·subst e;rw[zab rfl];rw[h]at J;exact J
 ·rw[zaa e,an.ep,zaa e];exact J
def uy{f:ci}{r:Row}{g n:Nat}{el:ce}(h0:r.st.h.get g=some (.cells [.chan (some 1)] el (0,1) false))(kh:r.st'.h.get g=some (.cells [.chan (some 1)] el (0,1) false))
 (h1:fZ X f (r.pk g el (2*n+2))) (h2:fZ X f (r.pk g el (2*n+3))):fZ X f r:=by
 intro ι as' w ha hw;obtain⟨c,hc,ra⟩:=hw.ZU h0;obtain⟨m,rfl,_⟩:=hc.DT (by decide);have key:∀k,Ph k m->fZ X f (r.pk g el k)->(∀as w,(callFunc f as).run X.P w= .ok (.enter f as) w)∧
  ∀(K:CallKind) (bq:Bool->ac Frame),kL ⟨f,K,none⟩ none ι bq->jR X ι w ⟨f,K,none⟩ bq (lone (Frame.enter X.P f as'.toArray K) (bq false) w) (.ret r.v r.st' false):=by
  intro k U jX;obtain⟨cr,cz⟩:=jX ι as' w ha (ra _ (.iQ k m U));refine⟨cr,fun K bq hr=> ?_⟩;obtain⟨aQ,v',w',F,aG,aI,a4,b2⟩:=cz K bq hr;obtain⟨fO,mr,al3⟩:=bn.ZU (u:=.chan (some k)) aI (by show(r.st'.h.set g _).get g=_;rw[an.q0]);obtain⟨g1,rfl,_⟩:=mr.DT (by intro e;subst e;rcases U with h|⟨_,h,_⟩|⟨_,h,_⟩<;>omega);have cx:=al3 (.chan (some 1)) (.iQ 1 g1 (.inl rfl));exact⟨aQ,v',w',F,aG,bn.less (aq1 kh) cx,a4,b2⟩
 by_cases hm:(n:Int)<=m
 ·exact key _ (.inr (.inl ⟨n,rfl,hm⟩)) h1
 ·exact key _ (.inr (.inr ⟨n,rfl,by omega⟩)) h2
end
end Go.aj
namespace Go.aj
variable{P:d9}
def QT(i:Nat)(d:am TypeDesc):Bool:=match i,d with
 |0,some .string=>true
 |_+1,some (.int _)=>true
 |_,_=>false
def Ga(P:d9):ac Field->Nat->Nat->Bool
 |[],_,_=>true
 |f::bB,i,o=>Nat.beq f.offset o&&f.name != "_"&&QT i (P.underlying f.type)&&Ga P bB (i-1) (o+1)
def F9(P:d9)(t n:Nat):Bool:=match P.underlying t with
 |some (.struct bB)=> !P.stoodInHeld t&&Nat.beq bB.size (n%100+n/100)&&Ga P bB.toList (n%100) 0&& !P.eqGuardType P.depth t
 |_=>false
theorem RQ(w:co)(d:Nat)(xs ao:ap be):∀(bB:ac Field) (i o:Nat) (b:Bool),Ga P bB i o=true->kT i (xs.toList.drop o) (ao.toList.drop o)=some b->xs.size=o+bB.length->ao.size=o+bB.length->
 (Op.eqFields (d+1) xs ao bB).run P w= .ok b w
 |[],i,o,b,_,he,J,aA=>by
  rw[zca (by simp;simpa using zcX J),zca (by simp;simpa using zcX aA)]at he;cases he;simp[Op.eqFields]
 |f::bB,i,o,b,aa,he,J,aA=>by
  unfold Ga at aa;simp only[bX]at aa;obtain⟨⟨⟨h1,h2⟩,h3⟩,au⟩:=aa;have h1:=ek h1;have hn:f.name≠ "_":=by simpa using h2
  rw[zau]at J aA;have Dx:o<xs.toList.length:=by simp;omega
  have anN:o<ao.toList.length:=by simp;omega
  rw[zdo Dx,zdo anN]at he;unfold kT at he;obtain⟨iz,h0,he⟩:=ft (z:=none) (r:=some b) he (by simp);have alX:∃cK,kT (i-1) (xs.toList.drop (o+1)) (ao.toList.drop (o+1))=some cK∧b=(iz&&cK):=by
   cases iz
   ·obtain⟨cK,gh,pb⟩:=ft (z:=none) (r:=some b) he (by simp);cases pb;exact⟨cK,gh,rfl⟩
   ·exact⟨b,he,by simp⟩
  obtain⟨cK,gh,hb⟩:=alX;have aZ:=RQ w d xs ao bB (i-1) (o+1) cK au gh (by omega) (by omega);have aj2:xs[f.offset]? =some xs.toList[o]:=by rw[h1];simp
  have aj3:ao[f.offset]? =some ao.toList[o]:=by rw[h1];simp
  generalize xs.toList[o]=x at *;generalize ao.toList[o]=y at *;have U:(i=0∧P.underlying f.type=some .string)∨(i≠0∧∃k,P.underlying f.type=some (.int k)):=by
   unfold QT at h3;split at h3
   ·exact .inl ⟨rfl,by assumption⟩
   ·exact .inr ⟨by omega,_,by assumption⟩
   ·cases h3
  have hp:∀(cs:ap be) (v:be),cs[f.offset]? =some v->(part f.type cs f.offset).run P w= .ok v w:=by
   intro cs v h;rcases U with⟨_,hu⟩|⟨_,k,hu⟩
   ·simp[part,isAgg,run_underlying hu,h]
   ·simp[part,isAgg,run_underlying hu,h]
  have hq:(Op.equalIn (d+1) f.type x y).run P w= .ok iz w:=by
   rcases U with⟨hi,hu⟩|⟨hi,k,hu⟩
   ·subst hi;have h0:F0 x y=some iz:=h0;unfold F0 at h0;split at h0
    ·cases h0;rw[run_equalIn_string w d f.type _ _ hu,toList_eq]
    ·cases h0
   ·obtain⟨j,rfl⟩:∃j,i=j+1:=⟨i-1,by omega⟩;have aW:FZ x y=some iz:=h0;clear h0;cases x<;>cases y<;>try (cases aW;done)
    rename_i a2 m bw n;have h0:=aW;clear aW;have h0:(if a2=bw then some (m==n)else none)=some iz:=h0;by_cases e:a2=bw
    ·subst e;rw[zab rfl]at h0;cases h0;exact run_equalIn_int w d f.type _ k _ _ hu
    ·rw[zaa e]at h0;cases h0
  have aq:=hp xs x aj2;have e2:=hp ao y aj3;simp only[Op.eqFields,hn,ne_eq,not_false_eq_true,if_true,Sem.run_bind,aq,e2,hq,Result.andThen_ok];rw[hb];cases iz
  ·simp
  ·simpa using aZ
def agw{t n:Nat}(h:F9 P t n=true):P.eqGuardType P.depth t=false∧∀xs ao b w,xs.size=n%100+n/100->ao.size=n%100+n/100->kT (n%100) xs.toList ao.toList=some b->(Op.equalIn 10000 t (.agg xs) (.agg ao)).run P w= .ok b w:=by
 unfold F9 at h;split at h
 ·rename_i bB hu;simp only[bX]at h;obtain⟨⟨⟨h1,h2⟩,h3⟩,au⟩:=h;have h2:=ek h2;have aa:P.fieldsOf t=bB:=by simp[Program.fieldsOf,hu]
  refine⟨by simpa using au,fun xs ao b w J aA he=> ?_⟩;rw[show(10000:Nat)=9998+1+1 from rfl,run_equalIn_struct w (9998+1) t xs ao (by rw[aa];exact hu) (by simpa using h1),aa];exact RQ w 9998 xs ao bB.toList _ 0 b h3 (by simpa using he) (by simp;omega) (by simp;omega)
 ·cases h
end Go.aj
namespace Go.aj
inductive fF(R:Nat->Nat->Prop):Value->Value->Prop
 |bool (b:Bool):fF R (.bool b) (.bool b)
 |int (k:IntKind) (n:Int):fF R (.int k n) (.int k n)
 |string (s:ByteArray):fF R (.string s) (.string s)
 |n1:fF R (.pointer none) (.pointer none)
 |ptr (a b:Addr) (h:R a.block b.block) (ai:a.off=b.off) (ha:a.spot=none) (hb:b.spot=none):fF R (.pointer (some a)) (.pointer (some b))
 |ob (n c:Nat):fF R (.slice none n c) (.slice none n c)
 |gD (a b:Addr) (n c:Nat) (h:R a.block b.block) (ai:a.off=b.off) (ha:a.spot=none) (hb:b.spot=none):fF R (.slice (some a) n c) (.slice (some b) n c)
 |qm:fF R (.map none) (.map none)
 |map (i j:Nat) (h:R i j):fF R (.map (some i)) (.map (some j))
 |func (f:FuncId) (xs ao us vs:Array Value) (h1:xs.size=ao.size) (h2:∀i (h:i<xs.size) (az:i<ao.size),fF R xs[i] ao[i])
  (h3:us.size=vs.size) (au:∀i (h:i<us.size) (az:i<vs.size),fF R us[i] vs[i]):fF R (.func (.func f) xs us) (.func (.func f) ao vs)
 |nilFunc:fF R .nilFunc .nilFunc
 |iface (t:TypeId) (v w:Value) (h:fF R v w):fF R (.iface t v) (.iface t w)
 |nilIface:fF R .nilIface .nilIface
 |agg (xs ao:Array Value) (h1:xs.size=ao.size) (h2:∀i (h:i<xs.size) (az:i<ao.size),fF R xs[i] ao[i]):fF R (.agg xs) (.agg ao)
 |tuple (xs ao:Array Value) (h1:xs.size=ao.size) (h2:∀i (h:i<xs.size) (az:i<ao.size),fF R xs[i] ao[i]):fF R (.tuple xs) (.tuple ao)
 |chan (c:Nat):fF R (.chan (some c)) (.chan (some c))
variable{v w:be}
def fF.mono{R S:Nat->Nat->Prop}(hle:∀i j,R i j->S i j)(h:fF R v w):fF S v w:=by
 induction h with
 |bool b=>exact .bool b
 |int k n=>exact .int k n
 |string s=>exact .string s
 |n1=>exact .n1
 |ptr a b h ai ha hb=>exact .ptr a b (hle _ _ h) ai ha hb
 |ob n c=>exact .ob n c
 |gD a b n c h ai ha hb=>exact .gD a b n c (hle _ _ h) ai ha hb
 |qm=>exact .qm
 |map i j h=>exact .map i j (hle _ _ h)
 |func f xs ao us vs h1 _ h3 _ nT x0=>exact .func f xs ao us vs h1 nT h3 x0
 |nilFunc=>exact .nilFunc
 |iface t v w _ aZ=>exact .iface t v w aZ
 |nilIface=>exact .nilIface
 |agg xs ao h1 _ aZ=>exact .agg xs ao h1 aZ
 |tuple xs ao h1 _ aZ=>exact .tuple xs ao h1 aZ
 |chan c=>exact .chan c
def fF.symm{R:Nat->Nat->Prop}(h:fF R v w):fF (fun j i=>R i j) w v:=by
 induction h with
 |bool b=>exact .bool b
 |int k n=>exact .int k n
 |string s=>exact .string s
 |n1=>exact .n1
 |ptr a b h ai ha hb=>exact .ptr b a h ai.symm hb ha
 |ob n c=>exact .ob n c
 |gD a b n c h ai ha hb=>exact .gD b a n c h ai.symm hb ha
 |qm=>exact .qm
 |map i j h=>exact .map j i h
 |func f xs ao us vs h1 _ h3 _ nT x0=>exact .func f ao xs vs us h1.symm (fun i a b=>nT i b a) h3.symm (fun i a b=>x0 i b a)
 |nilFunc=>exact .nilFunc
 |iface t v w _ aZ=>exact .iface t w v aZ
 |nilIface=>exact .nilIface
 |agg xs ao h1 _ aZ=>exact .agg ao xs h1.symm (fun i a b=>aZ i b a)
 |tuple xs ao h1 _ aZ=>exact .tuple ao xs h1.symm (fun i a b=>aZ i b a)
 |chan c=>exact .chan c
def fF.EL{R:Nat->Nat->Prop}{ku aQ:bt}(cL:∀i j l,R i j->ku i=some l->aQ j=some l){c:be}(h:fF R v c):∀{x:be},bk ku v x->bk aQ c x:=by
 induction h with
 |bool b=>intro x J;cases J;exact .bool b
 |int k n=>intro x J;cases J;exact .int k n
 |string s=>intro x J;cases J;exact .string s
 |n1=>intro x J;cases J;exact .n1
 |ptr a b h ai ha hb=>
  intro x J;cases J with
  |ptr a l hl ae=>rw[ai];exact .ptr b l (cL _ _ _ h hl) hb
 |ob n c=>intro x J;cases J;exact .ob n c
 |gD a b n c h ai ha hb=>
  intro x J;cases J with
  |gD a l o n c hl ae h3=>exact .gD b l o n c (cL _ _ _ h hl) hb (by rw[<-ai];exact h3)
 |qm=>intro x J;cases J;exact .qm
 |map i j h=>intro x J;cases J with|map r b b5 hl=>exact .map j b b5 (cL _ _ _ h hl)
 |func f xs ao us vs h1 _ h3 _ nT x0=>
  intro x J;cases J with
  |func nJ g uN jk avT fY aa aG aI a4 b2=>
   refine .func _ _ ao jk vs fY ?_ (h1.symm.trans aG) (fun i a b=>nT i (by omega) a (aI i (by omega) b)) (h3.symm.trans a4) (fun i a b=>x0 i (by omega) a (b2 i (by omega) b));rcases aa with⟨e,aA⟩|⟨l,b,e,_⟩
   ·exact .inl ⟨e,aA⟩
   ·cases e
 |nilFunc=>intro x J;cases J;exact .nilFunc
 |iface t v w _ aZ=>intro x J;cases J with|iface t v y aF=>exact .iface t w y (aZ aF)
 |nilIface=>intro x J;cases J;exact .nilIface
 |agg xs ao h1 _ aZ=>intro x J;cases J with|agg uN jk aG aI=>exact .agg ao jk (h1.symm.trans aG) (fun i a b=>aZ i (by omega) a (aI i (by omega) b))
 |tuple xs ao h1 _ aZ=>intro x J;cases J with|tuple uN jk aG aI=>exact .tuple ao jk (h1.symm.trans aG) (fun i a b=>aZ i (by omega) a (aI i (by omega) b))
 |chan c=>
  intro x J;by_cases hc:c=0
  ·subst hc;exact .top x
  ·obtain⟨m,rfl,hu⟩:=J.DT hc;exact .iQ c m hu
def kb(R:Nat->Nat->Prop)(xs ao:ac be):Prop:=xs.length=ao.length∧∀(i:Nat) (h:i<xs.length) (az:i<ao.length),fF R xs[i] ao[i]
variable{xs:ac be}{ao:ap be}
def kb.mono{R S:Nat->Nat->Prop}(hle:∀i j,R i j->S i j){ao:ac be}(h:kb R xs ao):kb S xs ao:=⟨h.1,fun i a b=>(h.2 i a b).mono hle⟩
def kb.symm{R:Nat->Nat->Prop}{ao:ac be}(h:kb R xs ao):kb (fun j i=>R i j) ao xs:=⟨h.1.symm,fun i a b=>(h.2 i b a).symm⟩
def kb.nil(R:Nat->Nat->Prop):kb R [] []:=⟨rfl,fun i h=>by simp at h⟩
def kb.cons{R:Nat->Nat->Prop}{x y:be}{xs ao:ac be}(h:fF R x y)(ae:kb R xs ao):kb R (x::xs) (y::ao):=by
 refine⟨by simp[ae.1],fun i a b=> ?_⟩;cases i with
 |zero=>exact h
 |succ i=>exact ae.2 i (by simpa using a) (by simpa using b)
def kb.atJ{R:Nat->Nat->Prop}{ku aQ:bt}(cL:∀i j l,R i j->ku i=some l->aQ j=some l){vs cs:ac be}(h:kb R vs cs)(J:bM ku vs xs):bM aQ cs xs:=
 ⟨h.1.symm.trans J.1,fun i a b=>(h.2 i (by have:=h.1;omega) a).EL cL (J.2 i (by have:=h.1;omega) b)⟩
def fF.PX{R:Nat->Nat->Prop}{xs:ap be}(h:kb R xs.toList ao.toList):fF R (.agg xs) (.agg ao):=
 .agg xs ao (by simpa using h.1) fun i a b=>by have:=h.2 i (by simpa using a) (by simpa using b);rwa [zaD,zaD]at this
def fF.tuple'{R:Nat->Nat->Prop}{xs:ap be}(h:kb R xs.toList ao.toList):fF R (.tuple xs) (.tuple ao):=
 .tuple xs ao (by simpa using h.1) fun i a b=>by have:=h.2 i (by simpa using a) (by simpa using b);rwa [zaD,zaD]at this
def fF.R2{R:Nat->Nat->Prop}{f:ci}{xs us vs:ap be}(h:kb R xs.toList ao.toList)(az:kb R us.toList vs.toList):fF R (.func (.func f) xs us) (.func (.func f) ao vs):=
 .func f xs ao us vs (by simpa using h.1) (fun i a b=>by have:=h.2 i (by simpa using a) (by simpa using b);rwa [zaD,zaD]at this) (by simpa using az.1) (fun i a b=>by have:=az.2 i (by simpa using a) (by simpa using b);rwa [zaD,zaD]at this)
inductive hO{α β:Type}(R:α->β->Prop):List α->List β->Prop
 |nil:hO R [] []
 |cons {a:α} {b:β} {as:List α} {bS:List β} (h:R a b) (ae:hO R as bS):hO R (a::as) (b::bS)
variable{α β:Type}{as:ac α}{bS:ac β}
def hO.mono{R S:α->β->Prop}(hle:∀a b,R a b->S a b)(h:hO R as bS):hO S as bS:=by
 induction h with
 |nil=>exact .nil
 |cons h _ aZ=>exact .cons (hle _ _ h) aZ
def hO.flip{R:α->β->Prop}(h:hO R as bS):hO (fun b a=>R a b) bS as:=by
 induction h with
 |nil=>exact .nil
 |cons h _ aZ=>exact .cons h aZ
def hO.perm{R:α->β->Prop}{l es:ac α}(hp:l.Perm es):∀{bB:ac β},hO R es bB->∃m:ac β,m.Perm bB∧hO R l m:=by
 induction hp with
 |nil=>intro bB h;cases h;exact⟨[],.refl _,.nil⟩
 |cons x _ aZ=>
  intro bB h;cases h with
  |cons h ae=>obtain⟨m,h1,h2⟩:=aZ ae;exact⟨_::m,.cons _ h1,.cons h h2⟩
 |swap x y l=>
  intro bB h;cases h with
  |cons h ae=>cases ae with|cons az ae=>exact⟨_::_::_,.swap _ _ _,.cons az (.cons h ae)⟩
 |trans _ _ Dl nT=>
  intro bB h;obtain⟨m,h1,h2⟩:=nT h;obtain⟨n,h3,au⟩:=Dl h2;exact⟨n,h3.trans h1,au⟩
def hO.len{R:α->β->Prop}(h:hO R as bS):as.length=bS.length:=by
 induction h with
 |nil=>rfl
 |cons _ _ aZ=>simp[aZ]
theorem hO.at{α β:Type}{R:α->β->Prop}{as:ac α}{bS:ac β}(h:hO R as bS):∀(i:Nat) (a:i<as.length) (b:i<bS.length),R as[i] bS[i]:=by
 induction h with
 |nil=>intro i a;simp at a
 |cons h _ aZ=>
  intro i a b;cases i with
  |zero=>exact h
  |succ i=>exact aZ i (by simpa using a) (by simpa using b)
structure oO(R:Nat->Nat->Prop)(e f:d8):Prop where
 key:e.key=f.key
 MX:fF R e.key f.key
 val:fF R e.val f.val
 born:e.born=f.born
variable{e f:d8}
def oO.mono{R S:Nat->Nat->Prop}(hle:∀i j,R i j->S i j)(h:oO R e f):oO S e f:=⟨h.key,h.MX.mono hle,h.val.mono hle,h.born⟩
def oO.symm{R:Nat->Nat->Prop}(h:oO R e f):oO (fun j i=>R i j) f e:=⟨h.key.symm,h.MX.symm,h.val.symm,h.born.symm⟩
inductive kx(R:Nat->Nat->Prop):bD->bD->Prop
 |cells (cs ds:List Value) (e:TypeId) (a8:Nat×Nat) (aX:Bool) (h:kb R cs ds):kx R (.cells cs e a8 aX) (.cells ds e a8 aX)
 |map (es bB:List MapEntry) (c:Nat) (h:hO (oO R) es bB):kx R (.map es c) (.map bB c)
variable{o p:bD}
def kx.mono{R S:Nat->Nat->Prop}(hle:∀i j,R i j->S i j)(h:kx R o p):kx S o p:=by
 cases h with
 |cells cs ds e a8 aX h=>exact .cells cs ds e a8 aX (h.mono hle)
 |map es bB c h=>exact .map es bB c (h.mono fun _ _ h=>h.mono hle)
def kx.symm{R:Nat->Nat->Prop}(h:kx R o p):kx (fun j i=>R i j) p o:=by
 cases h with
 |cells cs ds e a8 aX h=>exact .cells ds cs e a8 aX h.symm
 |map es bB c h=>exact .map bB es c (h.flip.mono fun _ _ h=>h.symm)
def kx.live{R:Nat->Nat->Prop}(h:kx R o p):o≠.dead∧p≠.dead:=by cases h<;>simp
def kx.vk{R:Nat->Nat->Prop}(h:kx R o p):o.vk↔p.vk:=by cases h<;>exact Iff.rfl
variable{X:Ctx}
def kx.Yc{R:Nat->Nat->Prop}{ku aQ:bt}(cL:∀i j l,R i j->ku i=some l->aQ j=some l)(h:kx R o p){w:co}{l:Loc}(hm:jx X ku w o l):jx X aQ w p l:=by
 cases h with
 |cells cs ds e a8 aX h=>
  obtain⟨C,eU,hC⟩:=hm;refine⟨C,eU,hC.there,by rw[<-h.1];exact hC.room,fun i hi=> ?_,by rw[<-h.1];exact hC.yU,by rw[<-h.1];exact hC.plain⟩;have ec:i<cs.length:=by rw[h.1];exact hi
  obtain⟨c,h1,h2⟩:=hC.cell i ec;exact⟨c,h1,(h.2 i ec hi).EL cL h2⟩
 |map es bB c h=>
  obtain⟨h0,kh,C,bT,h1,h2⟩:=hm;have eu:∀f∈bB,∃e∈es,oO R e f:=by
   clear h1 h2;intro f aa
   induction h with
   |nil=>cases aa
   |cons h _ aZ=>
    rcases zao.1 aa with rfl|aa
    ·exact⟨_,by simp,h⟩
    ·obtain⟨e,he,az⟩:=aZ aa;exact⟨e,zaK _ he,az⟩
  have Iu:∀(Q:d8->d8->Prop),(∀a b c d,oO R a c->oO R b d->Q a b->Q c d)->es.Pairwise Q->bB.Pairwise Q:=by
   intro Q pa hp;clear h1 h2 eu
   induction h with
   |nil=>exact .nil
   | @cons a b as bS h ae aZ=>
    rw[zee]at hp⊢;refine⟨fun d al=> ?_,aZ hp.2⟩;have:∃e∈as,oO R e d:=by
     clear aZ hp
     induction ae with
     |nil=>cases al
     |cons az _ MM=>
      rcases zao.1 al with rfl|al
      ·exact⟨_,by simp,az⟩
      ·obtain⟨e,he,o9⟩:=MM al;exact⟨e,zaK _ he,o9⟩
    obtain⟨e,he,akQ⟩:=this;exact pa a e b d h akQ (hp.1 e he)
  refine⟨h0,kh,C,bT,h1,h2.td,h2.A5,fun f aa=> ?_,Iu _ (fun a b c d h1 h2 U=>by rw[<-h1.key,<-h2.key];exact U) h2.keys,Iu _ (fun a b c d h1 h2 U=>by rw[<-h1.born,<-h2.born];exact U) h2.zi,?_⟩
  ·obtain⟨e,he,L1⟩:=eu f aa;rw[<-L1.born];exact h2.born e he
  ·obtain⟨fa,aG,aI,a4⟩:=h2.same;obtain⟨m,a2,bw⟩:=h.perm aG;refine⟨m,a2,bw.len.symm.trans aI,fun i a b=> ?_⟩;have a':i<fa.length:=by rw[bw.len];exact a
   obtain⟨cr,cz,dT⟩:=a4 i a' b;have q:=bw.at i a' a;exact⟨q.MX.EL cL cr,q.val.EL cL cz,by rw[dT,q.born]⟩
end Go.aj
namespace Go.aj
structure c2 where
 cI:an Nat
 inv:an Nat
 bb:Nat
def c2.R(s:c2)(i j:Nat):Prop:=s.cI.get i=some j
structure c2.cT(s:c2):Prop where
 iff:∀i j,s.cI.get i=some j↔s.inv.get j=some i
 lM:∀i j,s.cI.get i=some j->i<s.bb
def c2.le(s t:c2):Prop:=∀i j,s.cI.get i=some j->t.cI.get i=some j
def c2.le.refl(s:c2):s.le s:=fun _ _ h=>h
def c2.le.trans{s t u:c2}(h:s.le t)(az:t.le u):s.le u:=fun i j e=>az i j (h i j e)
def x8(i j:Nat)(s:c2):am c2:=
 bd (s.inv.get j) (fun iv=>cond (Nat.beq i iv) (some s) none)
  (cond (Nat.beq i s.bb) (an.fin (an.kn (Nat.succ i) s.cI i j) fun cI=>an.fin (an.kn (Nat.succ j) s.inv j i) fun inv=>gd (Nat.succ i) fun c=>some ⟨cI,inv,c⟩) none)
def Nj{i j:Nat}{s bm:c2}(ae:s.cT)(h:x8 i j s=some bm):bm.cT∧s.le bm∧bm.R i j:=by
 unfold x8 at h;cases hj:s.inv.get j with
 |some iv=>
  rw[hj]at h;have h:cond (Nat.beq i iv) (some s) none=some bm:=h;cases hb:Nat.beq i iv with
  |false=>rw[hb]at h;cases h
  |true=>
   rw[hb]at h;cases h;have:=ek hb;subst this;exact⟨ae,.refl s,(ae.iff i j).2 hj⟩
 |none=>
  rw[hj]at h;have h:cond (Nat.beq i s.bb) (an.fin (an.kn (Nat.succ i) s.cI i j) fun cI=>an.fin (an.kn (Nat.succ j) s.inv j i) fun inv=>gd (Nat.succ i) fun c=>some ⟨cI,inv,c⟩) none=some bm:=h;cases hb:Nat.beq i s.bb with
  |false=>rw[hb]at h;cases h
  |true=>
   rw[hb]at h;have e:=ek hb;simp only[cond_true,an.qX,an.wj]at h;unfold gd at h;rw[zaL]at h;simp only[cond_true,Option.some.injEq]at h;subst h;have gj:∀b,s.cI.get i≠some b:=fun b hb=>by have:=ae.lM _ _ hb;omega
   refine⟨⟨fun a b=> ?_,fun a b iu=> ?_⟩,fun a b iu=> ?_,?_⟩
   ·show(s.cI.set i j).get a=some b↔(s.inv.set j i).get b=some a;rw[an.ep,an.ep];by_cases ha:a=i<;>by_cases p3:b=j
    ·rw[zab ha,zab p3,ha,p3];simp
    ·rw[zab ha,zaa p3];subst ha;constructor
     ·intro e;exact absurd (Option.some.inj e).symm p3
     ·intro e;exact absurd ((ae.iff _ _).2 e) (gj b)
    ·rw[zaa ha,zab p3];subst p3;constructor
     ·intro e;rw[(ae.iff _ _).1 e]at hj;cases hj
     ·intro e;exact absurd (Option.some.inj e).symm ha
    ·rw[zaa ha,zaa p3];exact ae.iff a b
   ·have iu:(s.cI.set i j).get a=some b:=iu;show a<Nat.succ i;rw[an.ep]at iu;by_cases ha:a=i
    ·omega
    ·rw[zaa ha]at iu;have:=ae.lM _ _ iu;omega
   ·show(s.cI.set i j).get a=some b;rw[an.ep,zaa]
    ·exact iu
    ·intro ha;subst ha;exact gj b iu
   ·show(s.cI.set i j).get i=some j;rw[an.q0]
def Ng(a b:am Addr)(s:c2):am c2:=
 Option.rec (motive:=fun _=>am c2) (Option.rec (motive:=fun _=>am c2) (some s) (fun _=>none) b)
  (fun a=>Option.rec (motive:=fun _=>am c2) none
   (fun b=>cond (Nat.beq a.off b.off) (Option.rec (motive:=fun _=>am c2) (Option.rec (motive:=fun _=>am c2) (x8 a.block b.block s) (fun _=>none) b.spot) (fun _=>none) a.spot) none) b) a
def Xj{a b:am Addr}{s bm:c2}(h:Ng a b s=some bm):
 (a=none∧b=none∧bm=s)∨∃p q,a=some p∧b=some q∧p.off=q.off∧p.spot=none∧q.spot=none∧x8 p.block q.block s=some bm:=by
 cases a with
 |none=>
  cases b with
  |none=>left;exact⟨rfl,rfl,(Option.some.inj h).symm⟩
  |some q=>cases h
 |some p=>
  cases b with
  |none=>cases h
  |some q=>
   right;obtain⟨AK,ys,ps⟩:=p;obtain⟨apt,D5,da⟩:=q;cases ai:Nat.beq ys D5 with
   |false=>
    have h:cond (Nat.beq ys D5) _ none=some bm:=h;rw[ai]at h;cases h
   |true=>
    cases ps with
    |some x=>
     have h:cond (Nat.beq ys D5) none none=some bm:=h;rw[ai]at h;cases h
    |none=>
     cases da with
     |some x=>
      have h:cond (Nat.beq ys D5) none none=some bm:=h;rw[ai]at h;cases h
     |none=>
      have h:cond (Nat.beq ys D5) (x8 AK apt s) none=some bm:=h;rw[ai]at h;exact⟨_,_,rfl,rfl,ek ai,rfl,rfl,h⟩
def Ni(f g:Fn)(k:am c2):am c2:=
 match f,g with
 |.func a,.func b=>cond (Nat.beq a b) k none
 |_,_=>none
def anQ{f g:Fn}{k:am c2}{s:c2}(h:Ni f g k=some s):∃a,f= .func a∧g= .func a∧k=some s:=by
 unfold Ni at h;split at h
 ·rename_i a b;cases hb:Nat.beq a b with
  |false=>rw[hb]at h;cases h
  |true=>rw[hb]at h;exact⟨a,rfl,by rw[ek hb],h⟩
 ·cases h
def adD(a b:ac bv):Bool:=a==b
def Ky(a b:Bool):Bool:=cond a b (cond b false true)
def QK{a b:Bool}(h:Ky a b=true):a=b:=by cases a<;>cases b<;>first|rfl|cases h
def Xp(w:be)(s:c2):am c2:=match w with|.nilFunc=>some s|_=>none
def Xq(w:be)(s:c2):am c2:=match w with|.nilIface=>some s|_=>none
def Xk(c:am Nat)(w:be)(s:c2):am c2:=match c,w with|some a,.chan (some b)=>cond (Nat.beq a b) (some s) none|_,_=>none
def ZE(f:Fn)(k:ci->am be):am be:=match f with|.func g=>k g|_=>none
def ZC(c:am Nat):am be:=match c with|some c=>some (.chan (some c))|none=>none
mutual
def jY:be->be->c2->am c2
 |.bool a,w,s=>ns w (fun b=>cond (Ky a b) (some s) none) none
 |.int k a,w,s=>gp w (fun k' b=>cond (jE k k') (cond (r4 a b) (some s) none) none) none
 |.string a,w,s=>hM w (fun b=>cond (adD a.data.toList b.data.toList) (some s) none) none
 |.pointer a,w,s=>iy w (fun b=>Ng a b s) none
 |.slice a n c,w,s=>hL w (fun b b0 bT=>cond (Nat.beq n b0) (cond (Nat.beq c bT) (Ng a b s) none) none) none
 |.map a,w,s=>yP w (fun b=>Option.rec (motive:=fun _=>am c2) (Option.rec (motive:=fun _=>am c2) (some s) (fun _=>none) b) (fun i=>Option.rec (motive:=fun _=>am c2) none (fun j=>x8 i j s) b) a) none
 |.func f xs us,w,s=>yO w (fun g ao vs=>Ni f g (bd (Aj xs ao s) (fun s=>Aj us vs s) none)) none
 |.nilFunc,w,s=>Xp w s
 |.nilIface,w,s=>Xq w s
 |.iface t v,w,s=>sQ w (fun u y=>cond (Nat.beq t u) (jY v y s) none) none
 |.agg xs,w,s=>rO w (fun ao=>Aj xs ao s) none
 |.tuple xs,w,s=>qF w (fun ao=>Aj xs ao s) none
 |.chan c,w,s=>Xk c w s
 |_,_,_=>none
def Aj:ap be->ap be->c2->am c2
 |⟨xs⟩,ao,s=>x7 xs ao.toList s
def x7:ac be->ac be->c2->am c2
 |[],ao,s=>List.rec (motive:=fun _=>am c2) (some s) (fun _ _ _=>none) ao
 |x::xs,ao,s=>List.rec (motive:=fun _=>am c2) none (fun y jk _=>bd (jY x y s) (fun bm=>x7 xs jk bm) none) ao
end
def nB{b:Bool}{o:am c2}{s:c2}(h:cond b o none=some s):b=true∧o=some s:=by
 cases b
 ·cases h
 ·exact⟨rfl,h⟩
def sy{α:Type}{o:am α}{k:α->am c2}{s:c2}(h:bd o k none=some s):∃a,o=some a∧k a=some s:=ft h (by simp)
mutual
theorem HH:∀(v w:be) (s bm:c2),s.cT->jY v w s=some bm->bm.cT∧s.le bm∧fF bm.R v w
 |.bool a,w,s,bm,ae,h=>by
  rw[jY]at h;obtain⟨b,rfl,h⟩:=Pk h (by simp);obtain⟨h1,h2⟩:=nB h;cases h2;rw[QK h1];exact⟨ae,.refl s,.bool _⟩
 |.int k a,w,s,bm,ae,h=>by
  rw[jY]at h;obtain⟨k',b,rfl,h⟩:=ji h (by simp);obtain⟨h1,h⟩:=nB h;obtain⟨h2,h⟩:=nB h;cases h;rw[Cf]at h2;rw[sn h1,zcn h2];exact⟨ae,.refl s,.int _ _⟩
 |.float k n,w,s,bm,ae,h=>by rw[jY]at h<;>first|cases h|simp
 |.complex k n m,w,s,bm,ae,h=>by rw[jY]at h<;>first|cases h|simp
 |.string a,w,s,bm,ae,h=>by
  rw[jY]at h;obtain⟨b,rfl,h⟩:=oN h (by simp);obtain⟨h1,h2⟩:=nB h;cases h2;have h1:(a.data.toList==b.data.toList)=true:=h1;have e:=zcn h1;have:a=b:=by cases a;cases b;simp only at e;rw[Array.toList_inj.1 e]
  rw[this];exact⟨ae,.refl s,.string _⟩
 |.pointer a,w,s,bm,ae,h=>by
  rw[jY]at h;obtain⟨b,rfl,h⟩:=pG h (by simp);rcases Xj h with⟨rfl,rfl,rfl⟩|⟨p,q,rfl,rfl,h1,h2,h3,au⟩
  ·exact⟨ae,.refl _,.n1⟩
  ·obtain⟨aG,aI,a4⟩:=Nj ae au;exact⟨aG,aI,.ptr p q a4 h1 h2 h3⟩
 |.slice a n c,w,s,bm,ae,h=>by
  rw[jY]at h;obtain⟨b,b0,bT,rfl,h⟩:=uJ h (by simp);obtain⟨aq,h⟩:=nB h;obtain⟨e2,h⟩:=nB h;rw[ek aq,ek e2];rcases Xj h with⟨rfl,rfl,rfl⟩|⟨p,q,rfl,rfl,h1,h2,h3,au⟩
  ·exact⟨ae,.refl _,.ob _ _⟩
  ·obtain⟨aG,aI,a4⟩:=Nj ae au;exact⟨aG,aI,.gD p q _ _ a4 h1 h2 h3⟩
 |.map a,w,s,bm,ae,h=>by
  rw[jY]at h;have:∃b,w= .map b∧Option.rec (motive:=fun _=>am c2) (Option.rec (motive:=fun _=>am c2) (some s) (fun _=>none) b) (fun i=>Option.rec (motive:=fun _=>am c2) none (fun j=>x8 i j s) b) a=some bm:=by
   cases w<;>first|cases h|exact⟨_,rfl,h⟩
  obtain⟨b,rfl,h⟩:=this;cases a with
  |none=>
   cases b with
   |none=>cases h;exact⟨ae,.refl _,.qm⟩
   |some j=>cases h
  |some i=>
   cases b with
   |none=>cases h
   |some j=>
    obtain⟨aG,aI,a4⟩:=Nj ae h;exact⟨aG,aI,.map i j a4⟩
 |.func f xs us,w,s,bm,ae,h=>by
  rw[jY]at h;obtain⟨g,ao,vs,rfl,h⟩:=Pl h (by simp);obtain⟨a,rfl,rfl,h3⟩:=anQ h;obtain⟨s1,h1,h2⟩:=sy h3;obtain⟨hd,hf,k7⟩:=HE xs ao s s1 ae h1;obtain⟨cr,cz,dT⟩:=HE us vs s1 bm hd h2;exact⟨cr,hf.trans cz,.R2 (k7.mono cz) dT⟩
 |.nilFunc,w,s,bm,ae,h=>by
  rw[jY]at h;unfold Xp at h;split at h
  ·cases h;exact⟨ae,.refl _,.nilFunc⟩
  ·cases h
 |.nilIface,w,s,bm,ae,h=>by
  rw[jY]at h;unfold Xq at h;split at h
  ·cases h;exact⟨ae,.refl _,.nilIface⟩
  ·cases h
 |.iface t v,w,s,bm,ae,h=>by
  rw[jY]at h;obtain⟨u,y,rfl,h⟩:=EH h (by simp);obtain⟨aq,h⟩:=nB h;obtain⟨hd,hf,k7⟩:=HH v y s bm ae h;rw[ek aq];exact⟨hd,hf,.iface _ _ _ k7⟩
 |.agg xs,w,s,bm,ae,h=>by
  rw[jY]at h;obtain⟨ao,rfl,h⟩:=Bi h (by simp);obtain⟨hd,hf,k7⟩:=HE xs ao s bm ae h;exact⟨hd,hf,.PX k7⟩
 |.tuple xs,w,s,bm,ae,h=>by
  rw[jY]at h;obtain⟨ao,rfl,h⟩:=abJ h (by simp);obtain⟨hd,hf,k7⟩:=HE xs ao s bm ae h;exact⟨hd,hf,.tuple' k7⟩
 |.chan c,w,s,bm,ae,h=>by
  rw[jY]at h;unfold Xk at h;split at h
  ·obtain⟨aq,h⟩:=nB h;cases h;rw[ek aq];exact⟨ae,.refl _,.chan _⟩
  ·cases h
theorem HE:∀(xs ao:ap be) (s bm:c2),s.cT->Aj xs ao s=some bm->bm.cT∧s.le bm∧kb bm.R xs.toList ao.toList
 |⟨xs⟩,ao,s,bm,ae,h=>by rw[Aj]at h;exact HG xs ao.toList s bm ae h
theorem HG:∀(xs ao:ac be) (s bm:c2),s.cT->x7 xs ao s=some bm->bm.cT∧s.le bm∧kb bm.R xs ao
 |[],ao,s,bm,ae,h=>by
  rw[x7]at h;cases ao with
  |nil=>cases h;exact⟨ae,.refl _,.nil _⟩
  |cons y ao=>cases h
 |x::xs,ao,s,bm,ae,h=>by
  rw[x7]at h;cases ao with
  |nil=>cases h
  |cons y ao=>
   obtain⟨s1,h1,h2⟩:=sy (o:=jY x y s) h;obtain⟨hd,hf,k7⟩:=HH x y s s1 ae h1;obtain⟨cr,cz,dT⟩:=HG xs ao s1 bm hd h2;exact⟨cr,hf.trans cz,.cons (k7.mono cz) dT⟩
end
def Nh(es:ac d8):ac d8->c2->am c2:=
 List.rec (motive:=fun _=>ac d8->c2->am c2) (fun bB s=>List.rec (motive:=fun _=>am c2) (some s) (fun _ _ _=>none) bB)
  (fun e _ aZ bB s=>List.rec (motive:=fun _=>am c2) none
   (fun f agG _=>cond (Nat.beq e.born f.born) (cond (dA e.key f.key) (bd (jY e.key f.key s) (fun s=>bd (jY e.val f.val s) (fun s=>aZ agG s) none) none) none) none) bB) es
theorem Xl:∀(es bB:ac d8) (s bm:c2),s.cT->Nh es bB s=some bm->bm.cT∧s.le bm∧hO (oO bm.R) es bB
 |[],[],s,bm,ae,h=>by cases h;exact⟨ae,.refl _,.nil⟩
 |[],_::_,s,bm,ae,h=>by cases h
 |_::_,[],s,bm,ae,h=>by cases h
 |e::es,f::bB,s,bm,ae,h=>by
  have h:cond (Nat.beq e.born f.born) (cond (dA e.key f.key) (bd (jY e.key f.key s) (fun s=>bd (jY e.val f.val s) (fun s=>Nh es bB s) none) none) none) none=some bm:=h;obtain⟨aq,h⟩:=nB h;obtain⟨e2,h⟩:=nB h;obtain⟨s1,h1,h⟩:=sy h;obtain⟨s2,h2,h⟩:=sy h;obtain⟨hd,hf,k7⟩:=HH _ _ _ _ ae h1;obtain⟨cr,cz,dT⟩:=HH _ _ _ _ hd h2;obtain⟨jJ,lz,n6⟩:=Xl es bB s2 bm cr h;exact⟨jJ,(hf.trans cz).trans lz,.cons ⟨nt _ _ e2,k7.mono (cz.trans lz),dT.mono lz,ek aq⟩ n6⟩
def ua(o p:bD)(s:c2):am c2:=
 match o,p with
 |.cells cs e a8 aX,.cells ds cj eU Ct=>cond (Nat.beq e cj) (cond (Nat.beq a8.1 eU.1) (cond (Nat.beq a8.2 eU.2) (cond (Ky aX Ct) (x7 cs ds s) none) none) none) none
 |.map es c,.map bB bT=>cond (Nat.beq c bT) (Nh es bB s) none
 |_,_=>none
def Xr{o p:bD}{s bm:c2}(ae:s.cT)(h:ua o p s=some bm):bm.cT∧s.le bm∧kx bm.R o p:=by
 unfold ua at h;split at h
 ·rename_i cs e a8 aX ds cj eU Ct;obtain⟨aq,h⟩:=nB h;obtain⟨e2,h⟩:=nB h;obtain⟨bV,h⟩:=nB h;obtain⟨eQ,h⟩:=nB h;obtain⟨hd,hf,k7⟩:=HG _ _ _ _ ae h;have:a8=eU:=Prod.ext (ek e2) (ek bV);subst this;rw[ek aq,QK eQ];exact⟨hd,hf,.cells _ _ _ _ _ k7⟩
 ·obtain⟨aq,h⟩:=nB h;obtain⟨hd,hf,k7⟩:=Xl _ _ _ _ ae h;rw[ek aq];exact⟨hd,hf,.map _ _ _ k7⟩
 ·cases h
def HF(h:an bD)(os:ac bD):Nat->c2->am c2:=
 List.rec (motive:=fun _=>Nat->c2->am c2) (fun _ s=>some s)
  (fun o _ aZ i s=>bd (s.cI.get i) (fun j=>bd (h.get j) (fun p=>bd (ua o p s) (fun s=>gd (Nat.succ i) fun iv=>aZ iv s) none) none) none) os
theorem Xm{H:an bD}:∀(os:ac bD) (i:Nat) (s bm:c2),s.cT->HF H os i s=some bm->
 bm.cT∧s.le bm∧∀k (U:k<os.length),∃j p,bm.R (i+k) j∧H.get j=some p∧kx bm.R os[k] p
 |[],i,s,bm,ae,h=>by cases h;exact⟨ae,.refl _,fun k U=>by simp at U⟩
 |o::os,i,s,bm,ae,h=>by
  have h:bd (s.cI.get i) (fun j=>bd (H.get j) (fun p=>bd (ua o p s) (fun s=>gd (Nat.succ i) fun iv=>HF H os iv s) none) none) none=some bm:=h;obtain⟨j,h1,h⟩:=sy h;obtain⟨p,h2,h⟩:=sy h;obtain⟨s1,h3,h⟩:=sy h;unfold gd at h;rw[zaL]at h;have h:HF H os (i+1) s1=some bm:=h;obtain⟨hd,hf,k7⟩:=Xr ae h3;obtain⟨cr,cz,dT⟩:=Xm os (i+1) s1 bm hd h;refine⟨cr,hf.trans cz,fun k U=> ?_⟩;cases k with
  |zero=>exact⟨j,p,(hf.trans cz) _ _ h1,h2,k7.mono cz⟩
  |succ k=>
   obtain⟨MU,dy,aG,aI,a4⟩:=dT k (by simpa using U);exact⟨MU,dy,by rw[show i+(k+1)=i+1+k by omega];exact aG,aI,by simpa using a4⟩
def la(cI:an Nat)(fk dC i:Nat):Nat:=bd (cI.get i) (fun j=>j) (Nat.add dC (Nat.sub i fk))
section
variable(cI:an Nat)(fk dC:Nat)
def Ow{β:Type}(a:am Addr)(k:am Addr->am β):am β:=
 Option.rec (motive:=fun _=>am β) (k none) (fun a=>Option.rec (motive:=fun _=>am β) (gd (la cI fk dC a.block) fun b=>k (some ⟨b,a.off,none⟩)) (fun _=>none) a.spot) a
mutual
def ju:be->am be
 |.pointer a=>Ow cI fk dC a fun b=>some (.pointer b)
 |.slice a n c=>Ow cI fk dC a fun b=>some (.slice b n c)
 |.map a=>Option.rec (motive:=fun _=>am be) (some (.map none)) (fun i=>gd (la cI fk dC i) fun j=>some (.map (some j))) a
 |.func f xs us=>ZE f fun g=>bd (AT xs) (fun ao=>bd (AT us) (fun vs=>some (.func (.func g) ⟨ao⟩ ⟨vs⟩)) none) none
 |.iface t v=>bd (ju v) (fun w=>some (.iface t w)) none
 |.agg xs=>bd (AT xs) (fun ao=>some (.agg ⟨ao⟩)) none
 |.tuple xs=>bd (AT xs) (fun ao=>some (.tuple ⟨ao⟩)) none
 |.bool b=>some (.bool b)
 |.int k n=>some (.int k n)
 |.string s=>some (.string s)
 |.nilFunc=>some .nilFunc
 |.nilIface=>some .nilIface
 |.chan c=>ZC c
 |_=>none
def AT:ap be->am (ac be)
 |⟨xs⟩=>AU xs
def AU:ac be->am (ac be)
 |[]=>some []
 |x::xs=>bd (ju x) (fun y=>bd (AU xs) (fun ao=>some (y::ao)) none) none
end
variable{β:Type}
def eO{α:Type}{o:am α}{k:α->am β}{b:β}(h:bd o k none=some b):∃a,o=some a∧k a=some b:=ft h (by simp)
def ZB{a:am Addr}{k:am Addr->am β}{b:β}(h:Ow cI fk dC a k=some b):
 (a=none∧k none=some b)∨∃p,a=some p∧p.spot=none∧k (some ⟨la cI fk dC p.block,p.off,none⟩)=some b:=by
 cases a with
 |none=>exact .inl ⟨rfl,h⟩
 |some p=>
  obtain⟨AK,ys,ps⟩:=p;cases ps with
  |some x=>cases h
  |none=>
   have h:gd (la cI fk dC AK) (fun b=>k (some ⟨b,ys,none⟩))=some b:=h;unfold gd at h;rw[zaL]at h;exact .inr ⟨_,rfl,rfl,h⟩
mutual
theorem Ee:∀(v w:be),ju cI fk dC v=some w->fF (fun i j=>j=la cI fk dC i) v w
 |.bool b,w,h=>by rw[ju]at h;cases h;exact .bool b
 |.int k n,w,h=>by rw[ju]at h;cases h;exact .int k n
 |.float k n,w,h=>by rw[ju]at h<;>first|cases h|simp
 |.complex k n m,w,h=>by rw[ju]at h<;>first|cases h|simp
 |.string s,w,h=>by rw[ju]at h;cases h;exact .string s
 |.pointer a,w,h=>by
  rw[ju]at h;rcases ZB cI fk dC h with⟨rfl,h⟩|⟨p,rfl,ae,h⟩
  ·cases h;exact .n1
  ·cases h;exact .ptr _ _ rfl rfl ae rfl
 |.slice a n c,w,h=>by
  rw[ju]at h;rcases ZB cI fk dC h with⟨rfl,h⟩|⟨p,rfl,ae,h⟩
  ·cases h;exact .ob _ _
  ·cases h;exact .gD _ _ _ _ rfl rfl ae rfl
 |.map a,w,h=>by
  rw[ju]at h;cases a with
  |none=>cases h;exact .qm
  |some i=>
   have h:gd (la cI fk dC i) (fun j=>some (Value.map (some j)))=some w:=h;unfold gd at h;rw[zaL]at h;cases h;exact .map _ _ rfl
 |.func f xs us,w,h=>by
  rw[ju]at h;unfold ZE at h;split at h
  ·obtain⟨ao,h1,h⟩:=eO h;obtain⟨vs,h2,h⟩:=eO h;cases h;exact .R2 (IW xs ao h1) (IW us vs h2)
  ·cases h
 |.nilFunc,w,h=>by rw[ju]at h;cases h;exact .nilFunc
 |.nilIface,w,h=>by rw[ju]at h;cases h;exact .nilIface
 |.iface t v,w,h=>by
  rw[ju]at h;obtain⟨y,h1,h⟩:=eO h;cases h;exact .iface _ _ _ (Ee v y h1)
 |.agg xs,w,h=>by
  rw[ju]at h;obtain⟨ao,h1,h⟩:=eO h;cases h;exact .PX (IW xs ao h1)
 |.tuple xs,w,h=>by
  rw[ju]at h;obtain⟨ao,h1,h⟩:=eO h;cases h;exact .tuple' (IW xs ao h1)
 |.chan c,w,h=>by
  rw[ju]at h;unfold ZC at h;split at h
  ·cases h;exact .chan _
  ·cases h
theorem IW:∀(xs:ap be) (ao:ac be),AT cI fk dC xs=some ao->kb (fun i j=>j=la cI fk dC i) xs.toList ao
 |⟨xs⟩,ao,h=>by rw[AT]at h;exact Oy xs ao h
theorem Oy:∀(xs ao:ac be),AU cI fk dC xs=some ao->kb (fun i j=>j=la cI fk dC i) xs ao
 |[],ao,h=>by rw[AU]at h;cases h;exact .nil _
 |x::xs,ao,h=>by
  rw[AU]at h;obtain⟨y,h1,h⟩:=eO h;obtain⟨gq,h2,h⟩:=eO h;cases h;exact .cons (Ee x y h1) (Oy xs gq h2)
end
def Ox(es:ac d8):am (ac d8):=
 List.rec (motive:=fun _=>am (ac d8)) (some [])
  (fun e _ r=>bd (ju cI fk dC e.key) (fun k=>cond (dA e.key k) (bd (ju cI fk dC e.val) (fun v=>bd r (fun es=>some (⟨k,v,e.born⟩::es)) none) none) none) none) es
theorem ZD:∀(es bB:ac d8),Ox cI fk dC es=some bB->hO (oO (fun i j=>j=la cI fk dC i)) es bB
 |[],bB,h=>by cases h;exact .nil
 |e::es,bB,h=>by
  have h:bd (ju cI fk dC e.key) (fun k=>cond (dA e.key k) (bd (ju cI fk dC e.val) (fun v=>bd (Ox cI fk dC es) (fun es=>some (⟨k,v,e.born⟩::es)) none) none) none) none=some bB:=h;obtain⟨k,h1,h⟩:=eO h;cases U:dA e.key k with
  |false=>rw[U]at h;cases h
  |true=>
   rw[U]at h;obtain⟨v,h2,h⟩:=eO (o:=ju cI fk dC e.val) h;obtain⟨gs,h3,h⟩:=eO h;cases h;exact .cons ⟨nt _ _ U,Ee _ _ _ _ _ h1,Ee _ _ _ _ _ h2,rfl⟩ (ZD es gs h3)
def AV(o:bD):am bD:=
 match o with
 |.cells cs e a8 aX=>bd (AU cI fk dC cs) (fun ds=>some (.cells ds e a8 aX)) none
 |.map es c=>bd (Ox cI fk dC es) (fun bB=>some (.map bB c)) none
 |.dead=>some .dead
 |_=>none
def ap0{o p:bD}(h:AV cI fk dC o=some p):(o= .dead∧p= .dead)∨kx (fun i j=>j=la cI fk dC i) o p:=by
 unfold AV at h;split at h
 ·obtain⟨ds,h1,h⟩:=eO h;cases h;exact .inr (.cells _ _ _ _ _ (Oy _ _ _ _ _ h1))
 ·obtain⟨bB,h1,h⟩:=eO h;cases h;exact .inr (.map _ _ _ (ZD _ _ _ _ _ h1))
 ·cases h;exact .inl ⟨rfl,rfl⟩
 ·cases h
def Ed(aB:Nat)(us:ac (Nat×bD)):an bD->am (an bD):=
 List.rec (motive:=fun _=>an bD->am (an bD)) (fun h=>some h)
  (fun u _ aZ h=>cond (Nat.ble aB u.1) (gd (la cI fk dC u.1) fun j=>bd (AV cI fk dC u.2) (fun p=>an.fin (an.kn (Nat.succ j) h j p) aZ) none) none) us
end
def ks(us:ac (Nat×bD)):an bD->an bD:=
 List.rec (motive:=fun _=>an bD->an bD) (fun h=>h) (fun u _ aZ h=>an.fin (an.kn (Nat.succ u.1) h u.1 u.2) aZ) us
def Az(os:ac bD):Nat->an bD->an bD:=
 List.rec (motive:=fun _=>Nat->an bD->an bD) (fun _ h=>h) (fun o _ aZ i h=>gd (Nat.succ i) fun iv=>an.fin (an.kn iv h i o) fun az=>aZ iv az) os
def x6(h:an bD)(os:ac (Nat×bD)):c2->am c2:=
 List.rec (motive:=fun _=>c2->am c2) (fun s=>some s)
  (fun o _ aZ s=>bd (s.cI.get o.1) (fun j=>bd (h.get j) (fun p=>bd (ua o.2 p s) aZ none) none) none) os
theorem Xn{H:an bD}:∀(os:ac (Nat×bD)) (s bm:c2),s.cT->x6 H os s=some bm->
 bm.cT∧s.le bm∧∀o∈os,∃j p,bm.R o.1 j∧H.get j=some p∧kx bm.R o.2 p
 |[],s,bm,ae,h=>by cases h;exact⟨ae,.refl _,fun o ai=>by cases ai⟩
 |o::os,s,bm,ae,h=>by
  have h:bd (s.cI.get o.1) (fun j=>bd (H.get j) (fun p=>bd (ua o.2 p s) (x6 H os) none) none) none=some bm:=h;obtain⟨j,h1,h⟩:=sy h;obtain⟨p,h2,h⟩:=sy h;obtain⟨s1,h3,h⟩:=sy h;obtain⟨hd,hf,k7⟩:=Xr ae h3;obtain⟨cr,cz,dT⟩:=Xn os s1 bm hd h;refine⟨cr,hf.trans cz,fun bf iH=> ?_⟩;rcases zao.1 iH with rfl|iH
  ·exact⟨j,p,(hf.trans cz) _ _ h1,h2,k7.mono cz⟩
  ·exact dT bf iH
theorem NG:∀(os:ac bD) (i:Nat) (h:an bD) (k:Nat),(Az os i h).get k=if i<=k∧k<i+os.length then os[k-i]? else h.get k
 |[],i,h,k=>by rw[zaa (by simp)];rfl
 |o::os,i,h,k=>by
  have e:Az (o::os) i h=Az os (i+1) (h.set i o):=by
   show gd (Nat.succ i) (fun iv=>an.fin (an.kn iv h i o) fun az=>Az os iv az)=_;unfold gd;rw[zaL];show an.fin (an.kn (Nat.succ i) h i o) (fun az=>Az os (i+1) az)=_;rw[an.qX,an.wj]
  rw[e,NG os (i+1) _ k,an.ep];by_cases U:k=i
  ·subst U;rw[zaa (by omega),zab rfl,zab (by simp)];simp
  ·rw[zaa U];by_cases h1:i+1<=k∧k<i+1+os.length
   ·rw[zab h1,zab (by simp;omega)];have:k-i=(k-(i+1))+1:=by omega
    rw[this];simp
   ·rw[zaa h1,zaa (by simp;omega)]
def Jz(u:Nat×bD)(us:ac (Nat×bD))(h:an bD):ks (u::us) h=ks us (h.set u.1 u.2):=by
 show an.fin (an.kn (Nat.succ u.1) h u.1 u.2) (ks us)=_;rw[an.qX,an.wj]
theorem Bh:∀(us:ac (Nat×bD)) (h:an bD) (k:Nat) (o:bD),(ks us h).get k=some o->(k,o)∈us∨h.get k=some o
 |[],_,_,_,e=>.inr e
 |u::us,h,k,o,e=>by
  rw[Jz]at e;rcases Bh us _ k o e with hm|hm
  ·exact .inl (zaK _ hm)
  ·rw[an.ep]at hm;by_cases U:k=u.1
   ·rw[zab U]at hm;cases hm;subst U;exact .inl (by simp)
   ·rw[zaa U]at hm;exact .inr hm
structure dS where
 as:ac be
 gs:ac (Nat×bD)
 pX:ac bD
 v:be
 gP:ac (Nat×bD)
 aK:Nat
def dS.cM(r:dS)(aB:Nat):an bD:=Az r.pX aB (ks r.gs .nil)
def dS.row(r:dS)(aB:Nat):Row:=⟨r.as,⟨r.cM aB,Nat.add aB (df r.pX)⟩,r.v,⟨ks r.gP (r.cM aB),r.aK⟩⟩
def dS.app(aH:c2)(r:dS)(as:ac be)(st:aw):am dL:=
 bd (x7 r.as as aH) (fun s=>bd (x6 st.h r.gs s) (fun s=>bd (HF st.h r.pX aH.bb s) (fun s=>cond (Nat.beq s.bb (Nat.add aH.bb (df r.pX))) (cond (Nat.ble s.bb r.aK)
  (bd (ju s.cI s.bb st.ag r.v) (fun v=>bd (Ed s.cI s.bb st.ag aH.bb r.gP st.h) (fun h=>gd (Nat.add st.ag (Nat.sub r.aK s.bb)) fun n=>some (.ret v ⟨h,n⟩ false)) none) none) none) none) none) none) none
structure JQ(oi:Nat->Nat)(H:an bD)(ag aB:Nat)(h0 hr hc:an bD):Prop where
 obj:∀j o,hc.get j=some o->o≠.dead->(∃i p,j=oi i∧hr.get i=some p∧kx (fun i j=>j=oi i) p o)∨((∀i,hr.get i≠none->oi i≠j)∧H.get j=some o)
 lM:∀j,hc.get j≠none->j<ag∨∃i,j=oi i∧hr.get i≠none
 pX:∀i,h0.get i≠none->hr.get i≠none
 Vg:∀i,i<aB->hr.get i≠none->h0.get i≠none
theorem ZF{cI:an Nat}{fk dC:Nat}{H:an bD}{ag aB:Nat}{h0:an bD}:∀(us:ac (Nat×bD)) (hr hc m7:an bD),JQ (la cI fk dC) H ag aB h0 hr hc->
 Ed cI fk dC aB us hc=some m7->JQ (la cI fk dC) H ag aB h0 (ks us hr) m7
 |[],hr,hc,m7,oy,h=>by cases h;exact oy
 |u::us,hr,hc,m7,oy,h=>by
  have h:cond (Nat.ble aB u.1) (gd (la cI fk dC u.1) (fun j=>bd (AV cI fk dC u.2) (fun p=>an.fin (an.kn (Nat.succ j) hc j p) (Ed cI fk dC aB us)) none)) none=some m7:=h;cases hu:Nat.ble aB u.1 with
  |false=>rw[hu]at h;cases h
  |true=>
  rw[hu]at h;have hu:=jN hu;have h:gd (la cI fk dC u.1) (fun j=>bd (AV cI fk dC u.2) (fun p=>an.fin (an.kn (Nat.succ j) hc j p) (Ed cI fk dC aB us)) none)=some m7:=h;unfold gd at h;rw[zaL]at h;obtain⟨p,h1,h⟩:=eO (o:=AV cI fk dC u.2) h;rw[an.qX,an.wj]at h;rw[Jz];refine ZF us _ _ _ ⟨fun j o hj al=> ?_,fun j hj=> ?_,fun i hi=> ?_,fun i hi hh=> ?_⟩ h
  ·rw[an.ep]at hj;by_cases jz:j=la cI fk dC u.1
   ·rw[zab jz]at hj;cases hj;rcases ap0 _ _ _ h1 with⟨_,g6⟩|alH
    ·exact absurd g6 al
    ·exact .inl ⟨u.1,u.2,jz,by rw[an.q0],alH⟩
   ·rw[zaa jz]at hj;rcases oy.obj j o hj al with⟨i,q,aq,e2,bV⟩|⟨aq,e2⟩
    ·refine .inl ⟨i,q,aq,?_,bV⟩;rw[an.ep,zaa]
     ·exact e2
     ·intro e;subst e;exact jz aq
    ·refine .inr ⟨fun i hi ae=> ?_,e2⟩;rw[an.ep]at hi;by_cases nG:i=u.1
     ·subst nG;exact jz ae.symm
     ·rw[zaa nG]at hi;exact aq i hi ae
  ·rw[an.ep]at hj;by_cases jz:j=la cI fk dC u.1
   ·exact .inr ⟨u.1,jz,by rw[an.q0];simp⟩
   ·rw[zaa jz]at hj;rcases oy.lM j hj with aV|⟨i,aq,e2⟩
    ·exact .inl aV
    ·refine .inr ⟨i,aq,?_⟩;rw[an.ep];split
     ·simp
     ·exact e2
  ·rw[an.ep];split
   ·simp
   ·exact oy.pX i hi
  ·rw[an.ep,zaa (by omega)]at hh;exact oy.Vg i hi hh
variable{X:Ctx}
def P6{f:ci}{r:dS}(hr:fZ X f (r.row X.aB)){aH:c2}(sf:aH.cT)(oA:aH.bb=X.aB)(aJ:∀g,g<X.aB->aH.cI.get g=some g){as:ac be}{st:aw}{fr:dL}(h:r.app aH as st=some fr)
 (ι:bt) (as':ac be) (w:co) (ha:bM ι as as') (hw:bn X ι st w):
 (∀as w,(callFunc f as).run X.P w= .ok (.enter f as) w)∧
 ∀(K:CallKind) (bq:Bool->ac Frame),kL ⟨f,K,none⟩ none ι bq->jR X ι w ⟨f,K,none⟩ bq (lone (Frame.enter X.P f as'.toArray K) (bq false) w) fr:=by
 unfold dS.app at h;obtain⟨s1,h1,h⟩:=eO h;obtain⟨s2,aj6,h⟩:=eO h;obtain⟨s,h2,h⟩:=eO h;obtain⟨fN,gY,ny⟩:=HG _ _ _ _ sf h1;obtain⟨d1,d2,d3⟩:=Xn _ _ _ fN aj6;obtain⟨cK,c9,hQ⟩:=Xm _ _ _ _ d1 h2;rw[oA]at h hQ;cases hc:Nat.beq s.bb (Nat.add X.aB (df r.pX))with
 |false=>rw[hc]at h;cases h
 |true=>
 cases mr:Nat.ble s.bb r.aK with
 |false=>rw[hc,mr]at h;cases h
 |true=>
 rw[hc,mr]at h;have CC:s.bb=X.aB+r.pX.length:=by rw[<-fs];exact ek hc
 have avo:s.bb<=r.aK:=jN mr;obtain⟨v,h3,h⟩:=eO (o:=ju s.cI s.bb st.ag r.v) h;obtain⟨hp,au,h⟩:=eO (o:=Ed s.cI s.bb st.ag X.aB r.gP st.h) h;unfold gd at h;rw[zaL]at h;have h:some (dL.ret v ⟨hp,st.ag+(r.aK-s.bb)⟩ false)=some fr:=h;cases h;have CF:∀g,g<X.aB->s.cI.get g=some g:=fun g r9=>c9 _ _ (d2 _ _ (gY _ _ (aJ g r9)));have aV:∀j l,ι j=some l->j<st.ag:=by
  intro j l e;rcases zan j st.ag with aV|lR
  ·exact aV
  ·rw[(hw.fresh j lR).1]at e;cases e
 have vv:∀i o,(r.cM X.aB).get i=some o->∃j p,s.cI.get i=some j∧st.h.get j=some p∧kx s.R o p:=by
  intro i o ai;unfold dS.cM at ai;rw[NG]at ai;split at ai
  ·rename_i hi;obtain⟨tI,rfl⟩:=zae.1 ai;obtain⟨j,p,aq,e2,bV⟩:=hQ (i-X.aB) tI;rw[show X.aB+(i-X.aB)=i by omega]at aq;exact⟨j,p,aq,e2,bV⟩
  ·rcases Bh _ _ _ _ ai with hm|hm
   ·obtain⟨j,p,aq,e2,bV⟩:=d3 _ hm;exact⟨j,p,c9 _ _ aq,e2,bV.mono c9⟩
   ·simp at hm
 have L2:∀i,X.aB<=i->i<s.bb->∃o,(r.cM X.aB).get i=some o:=by
  intro i hi L6;unfold dS.cM;rw[NG,zab (by omega),bF (by omega)];exact⟨_,rfl⟩
 have Wa:∀i,i<s.bb->∃j l,s.cI.get i=some j∧ι j=some l:=by
  intro i hi;rcases zan i X.aB with hn|hn
  ·exact⟨i,_,CF i hn,hw.mm i hn⟩
  ·obtain⟨o,ai⟩:=L2 i hn hi;obtain⟨j,p,aq,e2,bV⟩:=vv i o ai;obtain⟨l,eQ,_⟩:=hw.eE j p e2 bV.live.2;exact⟨j,l,aq,eQ⟩
 have avn:X.aB<=s.bb:=by omega
 let fD:bt:=fun i=>match s.cI.get i with|some j=>ι j|none=>none
 have xY:∀i j,s.cI.get i=some j->fD i=ι j:=by
  intro i j e;show(match s.cI.get i with|some j=>ι j|none=>none)=_;rw[e]
 have xZ:∀i l,fD i=some l->∃j,s.cI.get i=some j∧ι j=some l:=by
  intro i l e;have e:(match s.cI.get i with|some j=>ι j|none=>none)=some l:=e;split at e
  ·rename_i j hj;exact⟨j,hj,e⟩
  ·cases e
 have xy:∀j i l,(fun j i=>s.R i j) j i->ι j=some l->fD i=some l:=fun j i l cL hl=>by rw[xY i j cL];exact hl
 have akl:bn X fD (r.row X.aB).st w:=by
  refine⟨fun i o ai al=> ?_,fun i j o p l m hi hJ hj hW gR ia aJ e=> ?_,fun i hi=> ?_,fun i l hl=> ?_,fun g r9=> ?_,?_,fun i l o hl ae ai al=> ?_⟩
  ·obtain⟨j,p,aq,e2,bV⟩:=vv i o ai;obtain⟨l,eQ,kR⟩:=hw.eE j p e2 bV.live.2;exact⟨l,by rw[xY i j aq];exact eQ,bV.symm.Yc xy kR⟩
  ·obtain⟨i2,hd,aq,e2,bV⟩:=vv i o hi;obtain⟨ic,hf,aG,aI,a4⟩:=vv j p hj;rw[xY i i2 aq]at gR;rw[xY j ic aG]at ia;have:=hw.inj i2 ic hd hf l m e2 bV.live.2 aI a4.live.2 gR ia aJ e;subst this;have cr:=(cK.iff _ _).1 aq;have cz:=(cK.iff _ _).1 aG;rw[cr]at cz;exact Option.some.inj cz
  ·have hi:X.aB+df r.pX<=i:=hi;rw[fs,<-CC]at hi;refine⟨?_,?_⟩
   ·cases e:fD i with
    |none=>rfl
    |some l=>
     obtain⟨j,hj,_⟩:=xZ i l e;have:=cK.lM _ _ hj;omega
   ·cases e:(r.row X.aB).st.h.get i with
    |none=>rfl
    |some o=>
     obtain⟨j,_,aq,_⟩:=vv i o e;have:=cK.lM _ _ aq;omega
  ·obtain⟨j,_,ck⟩:=xZ i l hl;exact hw.gQ j l ck
  ·rw[xY g g (CF g r9)];exact hw.mm g r9
  ·exact zcv _ _
  ·obtain⟨j,p,aq,e2,bV⟩:=vv i o ai;rw[xY i j aq]at hl;exact bV.vk.2 (hw.mK j l p hl ae e2 bV.live.2)
 have Gt:bM fD r.as as':=((ny.mono d2).mono c9).symm.atJ xy ha;obtain⟨cr,cz⟩:=hr fD as' w Gt akl;refine⟨cr,fun K bq q9=> ?_⟩;obtain⟨ku,v',w',F,a2,bw,dr,tV,Hs,am8,am9⟩:=cz K bq q9;have bw:bn X ku ⟨ks r.gP (r.cM X.aB),r.aK⟩ w':=bw
 let oi:Nat->Nat:=la s.cI s.bb st.ag
 have Ac:∀i j,s.cI.get i=some j->oi i=j:=by
  intro i j e;show bd (s.cI.get i) (fun j=>j) _=j;rw[e];rfl
 have Wo:∀i,s.bb<=i->oi i=st.ag+(i-s.bb):=by
  intro i hi;show bd (s.cI.get i) (fun j=>j) _=_;cases e:s.cI.get i with
  |none=>rfl
  |some j=>have:=cK.lM _ _ e;omega
 let aQ:bt:=fun j=>if j<st.ag then ι j else ku (s.bb+(j-st.ag))
 have Hh:∀j,j<st.ag->aQ j=ι j:=fun j hj=>zab hj;have Hi:∀j,st.ag<=j->aQ j=ku (s.bb+(j-st.ag)):=fun j hj=>zaa (by omega);have hle:ι.le aQ:=fun j l e=>by rw[Hh j (aV j l e)];exact e
 have xw:∀i j l,(fun i j=>j=oi i) i j->ku i=some l->aQ j=some l:=by
  intro i j l e hl;have e:j=oi i:=e;subst e;rcases zan i s.bb with hi|hi
  ·obtain⟨j,km,aq,eQ⟩:=Wa i hi;have:=dr.le i km (by rw[xY i j aq];exact eQ);rw[hl]at this;cases this;rw[Ac i j aq,Hh j (aV j _ eQ)];exact eQ
  ·rw[Wo i hi,Hi _ (by omega),show s.bb+(st.ag+(i-s.bb)-st.ag)=i by omega];exact hl
 have akg:JQ oi st.h st.ag X.aB (r.cM X.aB) (r.cM X.aB) st.h:=by
  refine⟨fun j o hj al=> ?_,fun j hj=> ?_,fun i hi=>hi,fun i _ hi=>hi⟩
  ·by_cases hex:∃i,(r.cM X.aB).get i≠none∧oi i=j
   ·obtain⟨i,hi,e⟩:=hex;cases nG:(r.cM X.aB).get i with
    |none=>exact absurd nG hi
    |some bf=>
     obtain⟨ic,p,aq,e2,bV⟩:=vv i bf nG;have:ic=j:=by rw[<-e];exact(Ac i ic aq).symm
     subst this;rw[hj]at e2;cases e2;exact .inl ⟨i,bf,e.symm,nG,bV.mono fun a b iu=>(Ac a b iu).symm⟩
   ·exact .inr ⟨fun i hi e=>hex ⟨i,hi,e⟩,hj⟩
  ·left;rcases zan j st.ag with tI|lR
   ·exact tI
   ·exact absurd (hw.fresh j lR).2 hj
 have oy:=ZF r.gP _ _ _ akg au;have hold:∀a l,(ks r.gP (r.cM X.aB)).get a≠none->fD a=some l->∃j p,s.cI.get a=some j∧st.h.get j=some p∧p≠.dead∧ι j=some l:=by
  intro a l tv hl;obtain⟨j,aq,e2⟩:=xZ a l hl;have LO:=cK.lM _ _ aq;have:∃o,(r.cM X.aB).get a=some o:=by
   rcases zan a X.aB with hn|hn
   ·cases nG:(r.cM X.aB).get a with
    |none=>exact absurd nG (oy.Vg a hn tv)
    |some o=>exact⟨o,rfl⟩
   ·exact L2 a hn LO
  obtain⟨o,ai⟩:=this;obtain⟨ic,p,aG,aI,a4⟩:=vv a o ai;rw[aq]at aG;cases aG;exact⟨j,p,aq,aI,a4.live.2,e2⟩
 have VB:∀j o l,st.h.get j=some o->o≠.dead->ι j=some l->(∀i,(ks r.gP (r.cM X.aB)).get i≠none->oi i≠j)->∀i l',fD i=some l'->l'.b5≠iE->l'.cC≠l.cC:=by
  intro j o l ai al hl aa i l' ck ae e;have k0:(ks r.gP (r.cM X.aB)).get i≠none:=by
   obtain⟨ic,aq,e2⟩:=xZ i l' ck;have LO:=cK.lM _ _ aq;rcases zan i X.aB with hn|hn
   ·exfalso;rw[CF i hn]at aq;cases aq;rw[hw.mm i hn]at e2;cases e2;exact ae rfl
   ·obtain⟨bf,iH⟩:=L2 i hn LO;exact oy.pX i (by rw[iH];simp)
  obtain⟨ic,p,aq,e2,bV,eQ⟩:=hold i l' k0 ck;have:=hw.inj ic j p o l' l e2 bV ai al eQ hl (.inl ae) e;subst this;exact aa i k0 (Ac i ic aq)
 refine⟨aQ,v',w',F,(Ee _ _ _ _ _ h3).EL xw a2,⟨fun j o hj al=> ?_,fun i j o p l m hi hJ hj hW gR ia aJ e=> ?_,fun j hj=> ?_,fun j l hl=> ?_,fun g r9=> ?_,?_,fun j l o hl ae hj al=> ?_⟩,⟨hle,dr.size,fun b hb gj=> ?_,fun j l hl=> ?_,dr.gN⟩,tV,Hs,am8,am9⟩
 ·rcases oy.obj j o hj al with⟨i,p,aq,e2,bV⟩|⟨aq,e2⟩
  ·obtain⟨l,aG,aI⟩:=bw.eE i p e2 bV.live.1;exact⟨l,xw i j l aq aG,bV.Yc xw aI⟩
  ·obtain⟨l,aG,aI⟩:=hw.eE j o e2 al;refine⟨l,hle j l aG,jx.mono X aI hle ?_⟩;exact dr.kept l.cC (hw.gQ j l aG) (VB j o l e2 al aG aq)
 ·have key:∀i j o p l m,hp.get i=some o->o≠.dead->hp.get j=some p->p≠.dead->aQ i=some l->aQ j=some m->(l.b5≠iE∨m.b5≠iE)->l.cC=m.cC->
   (∃a q,i=oi a∧(ks r.gP (r.cM X.aB)).get a=some q∧kx (fun i j=>j=oi i) q o)->((∀a,(ks r.gP (r.cM X.aB)).get a≠none->oi a≠j)∧st.h.get j=some p)->False:=by
   intro i j o p l m hi hJ hj hW gR ia aJ e ⟨a,q,aq,e2,bV⟩ ⟨aG,aI⟩;obtain⟨fa,eK,_⟩:=bw.eE a q e2 bV.live.1;have:=xw a i fa aq eK;rw[gR]at this;cases this;obtain⟨eW,fO,_⟩:=hw.eE j p aI hW;have:=hle j eW fO;rw[ia]at this;cases this;rcases dr.new a l eK with hn|hn|⟨b,fj,gh,lj,pb⟩
   ·obtain⟨ic,hf,f1,f2,f3,f4⟩:=hold a l (by rw[e2];simp) hn;have:=hw.inj ic j hf p l m f2 f3 aI hW f4 fO aJ e;subst this;exact aG a (by rw[e2];simp) (Ac a ic f1)
   ·have:=hw.gQ j m fO;omega
   ·exact VB j p m aI hW fO aG b fj gh lj (by omega)
  rcases oy.obj i o hi hJ with J|J<;>rcases oy.obj j p hj hW with aA|aA
  ·obtain⟨a,q,aq,e2,bV⟩:=J;obtain⟨b,e1,aG,aI,a4⟩:=aA;obtain⟨fa,eK,_⟩:=bw.eE a q e2 bV.live.1;obtain⟨eW,fO,_⟩:=bw.eE b e1 aI a4.live.1;have t1:=xw a i fa aq eK;rw[gR]at t1;cases t1;have t2:=xw b j eW aG fO;rw[ia]at t2;cases t2;have:=bw.inj a b q e1 l m e2 bV.live.1 aI a4.live.1 eK fO aJ e;rw[aq,aG,this]
  ·exact(key i j o p l m hi hJ hj hW gR ia aJ e J aA).elim
  ·exact(key j i p o m l hj hW hi hJ ia gR aJ.symm e.symm aA J).elim
  ·obtain⟨fa,eK,_⟩:=hw.eE i o J.2 hJ;obtain⟨eW,fO,_⟩:=hw.eE j p aA.2 hW;have t1:=hle i fa eK;rw[gR]at t1;cases t1;have t2:=hle j eW fO;rw[ia]at t2;cases t2;exact hw.inj i j o p l m J.2 hJ aA.2 hW eK fO aJ e
 ·have hj:st.ag+(r.aK-s.bb)<=j:=hj;have GI:∀i,r.aK<=i->ku i=none∧(ks r.gP (r.cM X.aB)).get i=none:=fun i hi=>bw.fresh i hi;refine⟨by rw[Hi j (by omega)];exact(GI _ (by omega)).1,?_⟩;show hp.get j=none;cases e:hp.get j with
  |none=>rfl
  |some o=>
   exfalso;rcases oy.lM j (by rw[e];simp)with tI|⟨i,aq,e2⟩
   ·omega
   ·rcases zan i s.bb with hi|hi
    ·obtain⟨ic,km,aG,b2⟩:=Wa i hi;rw[show la s.cI s.bb st.ag i=ic from Ac i ic aG]at aq;have:=aV ic km b2;omega
    ·rw[show la s.cI s.bb st.ag i=st.ag+(i-s.bb)from Wo i hi]at aq;rcases zan i r.aK with L6|L6
     ·omega
     ·exact e2 (GI i L6).2
 ·rcases zan j st.ag with hj|hj
  ·rw[Hh j hj]at hl;exact fC (hw.gQ j l hl) dr.size
  ·rw[Hi j hj]at hl;exact bw.gQ _ l hl
 ·exact hle _ _ (hw.mm g r9)
 ·exact zai hw.p1 (zcv _ _)
 ·rcases oy.obj j o hj al with⟨a,q,aq,e2,bV⟩|⟨aq,e2⟩
  ·obtain⟨fa,eK,_⟩:=bw.eE a q e2 bV.live.1;have t1:=xw a j fa aq eK;rw[hl]at t1;cases t1;exact bV.vk.1 (bw.mK a l q eK ae e2 bV.live.1)
  ·obtain⟨fa,eK,_⟩:=hw.eE j o e2 al;have t1:=hle j fa eK;rw[hl]at t1;cases t1;exact hw.mK j l o eK ae e2 al
 ·refine dr.kept b hb fun i l hl ae=> ?_;obtain⟨j,_,ck⟩:=xZ i l hl;exact gj j l ck ae
 ·rcases zan j st.ag with hj|hj
  ·rw[Hh j hj]at hl;exact .inl hl
  ·rw[Hi j hj]at hl;rcases dr.new _ l hl with hn|hn|⟨b,m,gh,lj,pb⟩
   ·obtain⟨ic,aq,_⟩:=xZ _ l hn;have:=cK.lM _ _ aq;omega
   ·exact .inr (.inl hn)
   ·obtain⟨ic,_,e2⟩:=xZ b m gh;exact .inr (.inr ⟨ic,m,e2,lj,pb⟩)
def xq(aH:c2)(as:ac be)(st:aw)(rs:ac (Nat×dS)):am dL:=
 List.rec (motive:=fun _=>am dL) none (fun r _ aZ=>cond (Nat.beq r.1 st.ag) (bd (r.2.app aH as st) some aZ) (cond (Nat.beq r.1 0) (bd (r.2.app aH as st) some aZ) aZ)) rs
theorem RS{aH:c2}{as:ac be}{st:aw}:∀{rs:ac (Nat×dS)} {fr:dL},xq aH as st rs=some fr->∃r∈rs,r.2.app aH as st=some fr
 |[],fr,h=>by cases h
 |r::rs,fr,h=>by
  have h:cond (Nat.beq r.1 st.ag) (bd (r.2.app aH as st) some (xq aH as st rs)) (cond (Nat.beq r.1 0) (bd (r.2.app aH as st) some (xq aH as st rs)) (xq aH as st rs))=some fr:=h;have EA:xq aH as st rs=some fr->∃dG∈r::rs,dG.2.app aH as st=some fr:=fun h=>by
   obtain⟨dG,h1,h2⟩:=RS h;exact⟨dG,zaK _ h1,h2⟩
  have al:bd (r.2.app aH as st) some (xq aH as st rs)=some fr->∃dG∈r::rs,dG.2.app aH as st=some fr:=fun h=>by
   cases ha:r.2.app aH as st with
   |none=>rw[ha]at h;exact EA h
   |some x=>rw[ha]at h;cases h;exact⟨r,by simp,ha⟩
  cases hb:Nat.beq r.1 st.ag with
  |true=>rw[hb]at h;exact al h
  |false=>
   rw[hb]at h;cases hc:Nat.beq r.1 0 with
   |true=>rw[hc]at h;exact al h
   |false=>rw[hc]at h;exact EA h
end Go.aj
namespace Go.aj
variable{X:Ctx}
variable{n:Nat}{gl:oj}{aB:Nat}{f:ci}{r:dS}
def Ad(n:Nat):an Nat:=Nat.rec (motive:=fun _=>an Nat) .nil (fun m t=>an.fin t fun t=>an.kn (Nat.succ m) t m m) n
theorem Di:∀(n i:Nat),(Ad n).get i=if i<n then some i else none
 |0,i=>by rw[zaa (by omega)];rfl
 |n+1,i=>by
  have e:Ad (n+1)=(Ad n).set n n:=by
   show an.fin (Ad n) (fun t=>an.kn (Nat.succ n) t n n)=_;rw[an.qX,an.wj]
  rw[e,an.ep,Di n i];by_cases h:i=n
  ·subst h;rw[zab rfl,zab (by omega)]
  ·rw[zaa h];by_cases az:i<n
   ·rw[zab az,zab (by omega)]
   ·rw[zaa az,zaa (by omega)]
def aqt{s:c2}(h1:s.cI=Ad n)(h2:s.inv=Ad n)(h3:s.bb=n):s.cT∧s.bb=n∧∀g,g<n->s.cI.get g=some g:=by
 refine⟨⟨fun i j=> ?_,fun i j h=> ?_⟩,h3,fun g aJ=> ?_⟩
 ·rw[h1,h2,Di,Di];by_cases hi:i<n<;>by_cases hj:j<n<;>simp[hi,hj]<;>omega
 ·rw[h1,Di]at h;rw[h3];by_cases hi:i<n
  ·exact hi
  ·rw[zaa hi]at h;cases h
 ·rw[h1,Di,zab aJ]
def dS.dm(r:dS)(aB:Nat)(bl:an dh)(gl:oj)(n f:Nat):Bool:=
 an.fin (r.cM aB) fun h=>an.fin (ks r.gP h) fun az=>gd (Nat.add aB (df r.pX)) fun m=>aj.dm (cX bl gl n (.func (.func f) #[] #[]) r.as none ⟨h,m⟩) r.v ⟨az,r.aK⟩
def pC{bl:an dh}(du:Good X)(jd:oo X bl)(sd:uV X gl)(h:r.dm aB bl gl n f=true):fZ X f (r.row aB):=by
 refine aaa du jd sd (n:=n) ?_;unfold dS.dm gd at h;rw[an.qX,an.qX,zaL]at h;exact h
def dS.kP(r:dS)(aB g:Nat)(el:ce)(c:Nat)(bl:an dh)(gl:oj)(n f:Nat):Bool:=
 an.fin ((r.cM aB).set g (.cells [.chan (some c)] el (0,1) false)) fun h=>an.fin ((ks r.gP (r.cM aB)).set g (.cells [.chan (some c)] el (0,1) false)) fun az=>gd (Nat.add aB (df r.pX)) fun m=>
  aj.dm (cX bl gl n (.func (.func f) #[] #[]) r.as none ⟨h,m⟩) r.v ⟨az,r.aK⟩
def l8{bl:an dh}(du:Good X)(jd:oo X bl)(sd:uV X gl){g:Nat}{el:ce}{c:Nat}(h:r.kP aB g el c bl gl n f=true):fZ X f ((r.row aB).pk g el c):=by
 refine aaa du jd sd (n:=n) ?_;unfold dS.kP gd at h;rw[an.qX,an.qX,zaL]at h;exact h
def assoc(t:ac (Nat×ac (Nat×dS)))(f:Nat):ac (Nat×dS):=
 List.rec (motive:=fun _=>ac (Nat×dS)) [] (fun p _ aZ=>cond (Nat.beq p.1 f) p.2 aZ) t
def wg(aH:c2)(t:ac (Nat×ac (Nat×dS))):oj:=fun f as st=>xq aH as st (assoc t f)
def wZ(X:Ctx)(f:Nat)(l:ac (Nat×dS)):Prop:=∀r∈l,fZ X f (r.2.row X.aB)
def Bv(X:Ctx)(t:ac (Nat×ac (Nat×dS))):Prop:=∀p∈t,wZ X p.1 p.2
variable{l:ac (Nat×dS)}{t:ac (Nat×ac (Nat×dS))}
def lq{f:Nat}:wZ X f []:=fun _ h=>by cases h
def eT{f:Nat}(h:fZ X f (r.row X.aB))(ae:wZ X f l):wZ X f ((n,r)::l):=List.forall_mem_cons.2 ⟨h,ae⟩
def bK:Bv X []:=fun _ h=>by cases h
def lY{f:Nat}(h:wZ X f l)(ae:Bv X t):Bv X ((f,l)::t):=List.forall_mem_cons.2 ⟨h,ae⟩
theorem Qj:∀{t:ac (Nat×ac (Nat×dS))},Bv X t->∀f,wZ X f (assoc t f)
 |[],_,f=>lq
 |p::t,h,f=>by
  show wZ X f (cond (Nat.beq p.1 f) p.2 (assoc t f));cases hb:Nat.beq p.1 f with
  |true=>rw[<-ek hb];exact h p (by simp)
  |false=>exact Qj (fun q hq=>h q (zaK _ hq)) f
def yq{aH:c2}(sf:aH.cT∧aH.bb=X.aB∧∀g,g<X.aB->aH.cI.get g=some g)(aN:Bv X t):uV X (wg aH t):=by
 intro f as st r hr ι as' w ha hw _;obtain⟨row,hm,hh⟩:=RS hr;exact P6 (Qj aN f row hm) sf.1 sf.2.1 sf.2.2 hh ι as' w ha hw
def adG{r:Row}(hr:fZ X f r){ι:bt}{as':ac be}{w:co}(ha:bM ι r.as as')(hw:bn X ι r.st w):
 Calls X.P f as'.toArray w (fun e w'=>∃aQ v',e= .returned v'∧bk aQ r.v v'∧bn X aQ r.st' w'∧fz ι aQ w w'):=by
 intro cs;obtain⟨_,h2⟩:=hr ι as' w ha hw;obtain⟨aQ,v',w',F,h1,h2,h3,au,aW,ch,dt⟩:=h2 .normal (fun _=>cs) (fun F eF av=>by
  have eh:F.kind= .normal:=av;simp[tryRecover,eh])
 obtain⟨aG,aI,fn,a4,b2⟩:=ch;exact⟨.returned v',w',F,⟨aQ,v',rfl,h1,h2,h3⟩,dt,aW,aG,aI,au,fn,a4,b2⟩
def Hl(n:Nat):bt:=fun i=>if i<n then some ⟨i,0,0,iE⟩else none
def s0(n:Nat)(W:co)(p:Nat×bD):Prop:=
 p.1<n∧∃cs el m C a8,p.2= .cells cs el (0,m) false∧0<m∧W.heap[p.1]? =some (.cells C el a8)∧bM (Hl n) cs C.toList
def JI{α β EZ:Type}(f:α->β->am EZ):ac α->ac β->am (ac EZ)
 |[],[]=>some []
 |a::as,b::bS=>(f a b).bind fun c=>(JI f as bS).map fun cs=>c::cs
 |_,_=>none
def zv:Nat->ac (Nat×Nat)->Nat->Bool
 |o,[],n=>Nat.beq o n
 |o,p::r,n=>Nat.beq p.1 o&&zv (o+p.2) r n
def zK(P:d9):Nat->ce->DataW Unit->am (ac be)
 |0,_,_=>none
 |n+1,t,d=>
  match P.underlying t,d with
  |some .bool,.lit (.bool b)=>some [.bool b]
  |some (.int _),.lit (.int k m)=>some [.int k m]
  |some .string,.lit (.string s)=>some [.string ⟨⟨s⟩⟩]
  |some (.struct bB),.agg ds=>if zv 0 (bB.toList.map fun f=>(f.offset,P.cellsOf f.type)) (P.cellsOf t)then(JI (fun(f:Field) d=>zK P n f.type d) bB.toList ds).map List.flatten else none
  |some (.array m e),.agg ds=>if zv 0 ((List.range m).map fun i=>(i*P.cellsOf e,P.cellsOf e)) (P.cellsOf t)then(JI (fun(_:Nat) d=>zK P n e d) (List.range m) ds).map List.flatten else none
  |_,_=>none
theorem FD(cs:ac be):∀(l:ac (Nat×Nat)) (o:Nat),zv o l cs.length=true->cs.drop o=(l.map fun p=>(cs.drop p.1).take p.2).flatten
 |[],o,h=>by
  have:=ek h;rw[this];simp
 |p::r,o,h=>by
  unfold zv at h;rw[bX]at h;have e:=ek h.1;rw[zaP,zei,<-FD cs r (o+p.2) h.2,e,<-zbu,zbn]
theorem PE{α:Type}{g:α->am (DataW Unit×ac MemPlace)}{k:α->DataW Unit->am (ac be)}{seg:α->ac be}
 (U:∀a d p vs,g a=some (d,p)->k a d=some vs->seg a=vs):∀(as:ac α) (xs:ac (DataW Unit×ac MemPlace)) (Bl:ac (ac be)),as.mapM g=some xs->JI k as (xs.map (·.1))=some Bl->as.map seg=Bl
 |[],xs,Bl,h,az=>by
  simp at h;subst h;cases az;rfl
 |a::as,xs,Bl,h,az=>by
  rw[zdu]at h;obtain⟨x,J,h⟩:=zcm.1 h;obtain⟨ao,aA,h⟩:=zcm.1 h;cases h;obtain⟨vs,aq,az⟩:=zcm.1 az;obtain⟨auo,e2,rfl⟩:=zbm.1 az;rw[zaP,U a x.1 x.2 vs J aq,PE U as ao auo aA e2]
theorem Cn{P:d9}{w:co}{base:Nat}{sp:Nat->Bool}{held:Bool}:∀(fuel n:Nat) (t:ce) (cs:ac be) (d:DataW Unit) (p:ac MemPlace) (vs:ac be),
 DataW.trod (fun _=>()) P w base sp held fuel t cs=some (d,p)->zK P n t d=some vs->cs=vs
 |0,_,_,_,_,_,_,h,_=>by simp[DataW.trod]at h
 |_+1,0,_,_,_,_,_,_,h=>by simp[zK]at h
 |fuel+1,n+1,t,cs,d,p,vs,h,az=>by
  unfold zK at az;split at az
  ·rename_i b hu;cases az;simp only[DataW.trod,hu]at h;split at h<;>first|(rename_i hq;cases hq)|skip
   all_goals first|(cases h;rfl)|(simp at h)
  ·rename_i k k' m hu;cases az;simp only[DataW.trod,hu]at h;split at h<;>first|(rename_i hq;cases hq)|skip
   all_goals first
    |(split at h
      ·rename_i hc;cases h;rw[hc.1]
      ·cases h)
    |(simp at h)
  ·rename_i s hu;cases az;simp only[DataW.trod,hu]at h;split at h<;>first|(rename_i hq;cases hq)|skip
   all_goals first
    |(split at h
      ·cases h;rfl
      ·cases h)
    |(simp at h)
  ·rename_i bB ds hu;split at az
   ·rename_i hc;obtain⟨Bl,aq,rfl⟩:=zbm.1 az;simp only[DataW.trod,hu]at h;split at h
    ·rename_i hl;obtain⟨xs,e2,bV⟩:=zbm.1 h;cases bV;rw[<-hl]at hc;have eQ:=FD cs _ 0 hc;rw[zaq,zck]at eQ;have kR:=PE (seg:=fun(f:Field)=>(cs.drop f.offset).take (P.cellsOf f.type)) (fun f d p vs h1 h2=>Cn fuel n f.type _ d p vs h1 h2) _ _ _ e2 aq;rw[<-kR];exact eQ
    ·cases h
   ·cases az
  ·rename_i m e ds hu;split at az
   ·rename_i hc;obtain⟨Bl,aq,rfl⟩:=zbm.1 az;simp only[DataW.trod,hu]at h;split at h
    ·rename_i hl;obtain⟨xs,e2,bV⟩:=zbm.1 h;cases bV;rw[<-hl]at hc;have eQ:=FD cs _ 0 hc;rw[zaq,zck]at eQ;have kR:=PE (seg:=fun(i:Nat)=>(cs.drop (i*P.cellsOf e)).take (P.cellsOf e)) (fun i d p vs h1 h2=>Cn fuel n e _ d p vs h1 h2) _ _ _ e2 aq;rw[<-kR];exact eQ
    ·cases h
   ·cases az
  ·cases az
theorem WV{P:d9}{w:co}:∀{l:ac (String×DataW Unit)} {ps:ac MemPlace},DataW.LaidVars P w l ps->∀x∈l,∃g t cs fuel p,P.globalNamed x.1=some g∧(P.globals[g]?).map (·.type)=some t∧w.var? P x.1=some cs∧
 DataW.trod (fun _=>()) P w 0 (fun _=>true) false fuel t cs.toList=some (x.2,p)
 |[],_,_,x,J=>by cases J
 |(n,d)::r,ps,h,x,J=>by
  obtain⟨g,t,cs,fuel,p,q,h1,h2,h3,au,aW,_⟩:=h;rcases zao.1 J with rfl|J
  ·exact⟨g,t,cs,fuel,p,h1,h2,h3,au⟩
  ·exact WV aW x J
def Ik:be->Bool
 |.bool _|.int _ _|.string _=>true
 |_=>false
def ao9{ι:bt}{v:be}(h:Ik v=true):bk ι v v:=by
 cases v<;>first|(simp[Ik]at h;done)|constructor
theorem YP{ι:bt}:∀{vs:ac be},vs.all Ik=true->bM ι vs vs
 |[],_=>.nil ι
 |v::vs,h=>by
  rw[List.all_cons,bX]at h;exact .cons (ao9 h.1) (YP h.2)
def Cs{P:d9}{W:co}{l:ac (String×DataW Unit)}{ps:ac MemPlace}(hl:DataW.LaidVars P W l ps){g N:Nat}{name:String}{d:DataW Unit}{t el:ce}{vs:ac be}{m:Nat}
 (J:(name,d)∈l) (aJ:P.globalNamed name=some g) (aN:(P.globals[g]?).map (·.type)=some t) (aa:zK P n t d=some vs) (r9:g<N) (hm:0<m) (hp:vs.all Ik=true)
 (k2:∃cs,W.heap[g]? =some (.cells cs el)):s0 N W (g,.cells vs el (0,m) false):=by
 obtain⟨gC,hk,cs,fuel,p,h1,h2,h3,au⟩:=WV hl _ J;simp only at h1 h3 au;rw[aJ]at h1;cases h1;rw[aN]at h2;cases h2;obtain⟨C,hC⟩:=k2;have aF:C=cs:=by
  simp only[World.var?,aJ,Option.bind_some,hC]at h3;exact Option.some.inj h3
 subst aF;refine⟨r9,vs,el,m,C,_,rfl,hm,hC,?_⟩;rw[Cn fuel n t _ d p vs au aa];exact YP hp
end Go.aj
namespace Go.aj
variable{Q:Nat->dh->Prop}
variable{i:Nat}
def aa8(t:an {p:Nat×dh //Q p.1 p.2}):an dh:=
 an.rec (motive:=fun _=>an dh) .nil (fun _ v _ l r=>.node l (Option.rec (motive:=fun _=>am dh) none (fun p=>some p.1.2) v) r) t
def keyed:an {p:Nat×dh //Q p.1 p.2}->(Nat->Nat)->Bool
 |.nil,_=>true
 |.node l v r,g=>(match v with|some p=>Nat.beq p.1.1 (g 0)|none=>true)&&(keyed l (fun n=>g (2*n+1))&&keyed r (fun n=>g (2*n+2)))
theorem O6:∀(t:an {p:Nat×dh //Q p.1 p.2}) (g:Nat->Nat),keyed t g=true->an.Bq Q (aa8 t) g
 |.nil,_,_=>trivial
 |.node l v r,g,h=>by
  unfold keyed at h;rw[bX,bX]at h;refine⟨?_,O6 l _ h.2.1,O6 r _ h.2.2⟩;cases v with
  |none=>trivial
  |some p=>
   have e:=ek h.1;show Q (g 0) p.1.2;rw[<-e];exact p.2
def bR(g:{b:dh //Q i b}):an {p:Nat×dh //Q p.1 p.2}:=.node .nil (some ⟨(i,g.1),g.2⟩) .nil
def bc(a:an {p:Nat×dh //Q p.1 p.2})(g:{b:dh //Q i b})(b:an {p:Nat×dh //Q p.1 p.2}):an {p:Nat×dh //Q p.1 p.2}:=.node a (some ⟨(i,g.1),g.2⟩) b
def nr(a b:an {p:Nat×dh //Q p.1 p.2}):an {p:Nat×dh //Q p.1 p.2}:=.node a none b
end Go.aj
namespace Go.aj.JL
inductive JW where
 |bool|int (k:IntKind)|str|aY (e:Nat)|cH (n e:Nat)|st (l:List (Nat×Nat))|mL (e:Nat)|mp (k v:Nat)|fn|Dk|up
inductive Bu where
 |l
 |n (a:Bu) (k:Nat) (d:JW) (s b:Nat) (c:Bu)
def Bu.get:Bu->Nat->JW×Nat×Nat
 |.l,_=>(.up,0,0)
 |.n a k d s b c,t=>match Nat.blt t k with
  |true=>a.get t
  |false=>match Nat.beq t k with
   |true=>(d,s,b)
   |false=>c.get t
structure Env where
 jZ:Nat
 kl:Nat
 bb:Nat
 idx:Nat
 l0:Nat
 ty:Bu
 mt:ac (String×ac (Nat×ci)):=[]
 Np:am (Nat×Nat):=none
namespace Env
def XH(C:Env)(n:String):ac (Nat×ci):=match C.mt.find? (fun p=>p.1==n)with
 |some p=>p.2
 |none=>[]
def d(C:Env)(t:Nat):JW:=(C.ty.get t).1
def s(C:Env)(t:Nat):Nat:=(C.ty.get t).2.1
def b(C:Env)(t:Nat):Nat:=(C.ty.get t).2.2
def g(C:Env)(t:Nat):Bool:=match C.d t with
 |.st _=>true
 |.cH _ _=>true
 |_=>false
def RD(C:Env)(t:Nat):Nat:=match C.d t with
 |.st l=>l.foldl (fun n p=>match C.d p.2 with
  |.str=>n+100
  |_=>n+1) 0
 |_=>C.s t
def PD(C:Env):Nat->Nat->ac be
 |0,_=>[]
 |f+1,t=>match C.d t with
  |.bool=>[.bool false]
  |.int k=>[.int k 0]
  |.str=>[.string ⟨#[]⟩]
  |.aY _=>[.slice none 0 0]
  |.cH n e=>(List.replicate n (C.PD f e)).flatten
  |.st l=>l.flatMap fun p=>C.PD f p.2
  |.mL _=>[.pointer none]
  |.mp _ _=>[.map none]
  |.fn=>[.nilFunc]
  |.Dk=>[.nilIface]
  |.up=>[]
def z(C:Env)(t:Nat):ac be:=C.PD 20 t
def sV(C:Env)(t:Nat):be:=match C.g t with
 |true=>.agg ⟨C.z t⟩
 |false=>(C.z t).headD .nilIface
def c4(C:Env)(t:Nat):fL:=match C.d t with
 |.int k=>.int k
 |.cH n e=>match C.d e with
  |.int k=>.arr k n
  |_=>.str
 |_=>.str
def RJ(C:Env)(t:Nat):oP:=match C.d t with
 |.aY _=>.kF
 |.mp _ _=>.yg
 |.fn=>.v3
 |.Dk=>.yf
 |.mL _=>.ptr
 |_=>.sC
def bin(C:Env)(iQ:ac Nat)(o:BinOp)(t:Nat)(a b:bi):c7:=
 let u:=match b with
  |.tmp j=>iQ.any (Nat.beq j)
  |_=>false
 match C.d t,o,u with
 |.int _,.leq,true=>.ext (.xa false a b)
 |.int _,.gtr,true=>.ext (.xa true a b)
 |.int _,o,_=>.bin o a b
 |.str,o,_=>.bin o a b
 |.st _,.neq,_=>.ext (.qV true (C.RD t) a b)
 |.cH _ _,.neq,_=>.ext (.qV true (C.s t) a b)
 |.st _,_,_=>.ext (.qV false (C.RD t) a b)
 |.cH _ _,_,_=>.ext (.qV false (C.s t) a b)
 |_,.neq,_=>.eqv true (C.RJ t) a b
 |_,_,_=>.eqv false (C.RJ t) a b
def conv(C:Env)(s t:Nat)(a:bi):c7:=match C.d s,C.d t with
 |.int _,.int k=>.tb k a
 |.str,.str=>.w7 a
 |.aY _,.str=>.zn a
 |.str,.aY e=>.u9 e a
 |.mL _,.up=>.BW a
 |.up,.mL e=>.BX e (C.s e) a
 |_,_=>.refuse
def parts(C:Env)(e:Nat)(ps:ac (Nat×bi)):ac (Nat×Nat×bi):=ps.map fun p=>(p.1*C.s e,C.s e,p.2)
def agk(C:Env)(f:Nat)(as:ac bi):c7:=
 match as,Nat.beq f C.jZ,Nat.beq f C.kl,Nat.beq f C.bb,Nat.beq f C.idx with
 |[a],true,_,_,_=>.jZ a
 |[a,b],_,true,_,_=>.kl a b
 |[a,b],_,_,true,_=>.ext (.bb a b)
 |[a,b],_,_,_,true=>.ext (.idxs C.l0 a b)
 |as,_,_,_,_=>match as,C.Np with
  |[a],some (g,e)=>match Nat.beq f g with
   |true=>.ext (.Ap e a)
   |false=>.call (.func f) [a]
  |as,_=>.call (.func f) as
def len(C:Env)(t:Nat)(a:bi):c7:=match C.d t with
 |.aY _=>.oE a
 |.str=>.tY a
 |.cH n _=>.x2 n
 |.mp _ _=>.ext (.Aq a)
 |.mL e=>match C.d e with
  |.cH n _=>.x2 n
  |_=>.refuse
 |_=>.refuse
def el(C:Env)(t:Nat):Nat:=match C.d t with
 |.aY e=>e
 |.cH _ e=>e
 |.mL e=>e
 |_=>0
def adk(C:Env)(f:Builtin)(as:ac bi)(ts:ac Nat):c7:=
 match f,as,ts with
 |.len,[a],t::_=>C.len t a
 |.cap,[a],t::_=>match C.d t with
  |.aY _=>.ext (.zm a)
  |_=>.refuse
 |.delete,[a,b],t::_=>match C.d t with
  |.mp k _=>.ext (.del (C.c4 k) a b)
  |_=>.refuse
 |.append,[a,b],t::_=>.app (C.el t) (C.s (C.el t)) (C.b (C.el t)) a b
 |.max,a::as,_=>.eX a as
 |.min,a::as,_=>.yb a as
 |.copy,[a,b],t::_=>.qR (C.s (C.el t)) a b
 |.recover,_,_=>.wB
 |.unsafeSliceData,[a],_=>.A1 a
 |.unsafeString,[a,b],t::_=>.sO (C.el t) a b
 |_,_,_=>.refuse
def o7(C:Env)(t f:Nat):Nat×Nat:=match C.d t with
 |.st l=>l.getD f (0,0)
 |_=>(0,0)
def aus(C:Env)(iQ:ac Nat):Op->c7
 |.move a=>.l1 a
 |.assign a=>.l1 a
 |.pick a b c=>.pick a b c
 |.alloc t=>.alloc (C.z t) t
 |.box t a=>.box t a
 |.build t ps=>.build (C.z t) (match C.d t with
  |.st l=>ps.toList.map fun p=>((l.getD p.1 (0,0)).1,C.s (l.getD p.1 (0,0)).2,p.2)
  |.cH _ e=>C.parts e ps.toList
  |_=>[])
 |.buildSlice t n ps=>.oX (C.el t) n ((List.replicate n (C.z (C.el t))).flatten) (C.parts (C.el t) ps.toList)
 |.load t a=>match C.g t with
  |true=>.qk (C.s t) a
  |false=>.lZ a
 |.store t a x=>.store (C.s t) a x
 |.nilCheck a=>.sw a
 |.binOp o t a b _=>C.bin iQ o t a b
 |.unOp o _ a=>.un o a
 |.convert s t a=>C.conv s t a
 |.makeInterface t a=>.HJ t a
 |.makeFunc f a b=>.uc f a.toList b.toList
 |.makeMap _ _=>.ud
 |.makeSlice t l c=>.po (C.el t) (C.b (C.el t)) (C.z (C.el t)) l c
 |.slice t a aM hi eX=>match C.d t with
  |.str=>.sL a aM hi
  |.cH n e=>.A7 n (C.s e) a aM hi eX
  |.aY e=>.nm (C.s e) a aM hi eX
  |_=>.refuse
 |.fieldAddr t a f=>.xp (C.o7 t f).1 a
 |.field t a f=>.o7 (C.o7 t f).1 (C.s (C.o7 t f).2) (C.g (C.o7 t f).2) a
 |.indexAddr t a i=>match C.d t with
  |.cH n e=>.si n (C.s e) a i
  |.aY e=>.lW (C.s e) a i
  |_=>.refuse
 |.index t a i=>match C.d t with
  |.str=>.tU a i
  |.cH n e=>.Hq n (C.s e) (C.g e) a i
  |_=>.refuse
 |.typeAssert a _ t ok=>.Jv t (C.sV t) ok a
 |.extract a i=>.xo a i
 |.call c=>match c.callee with
  |.value f=>match f with
   |.func f=>C.agk f c.args.toList
   |f=>.call f c.args.toList
  |.builtin b=>C.adk b c.args.toList c.argTypes.toList
  |.invoke r n=>.inv (C.XH n) r c.args.toList
 |.defer c=>match c.callee with
  |.value f=>.qS f c.args.toList
  |_=>.refuse
 |.panic a=>.rC a
 |.lookup t m k ok=>match C.d t with
  |.mp a v=>.ext (.look (C.c4 a) (C.sV v) ok m k)
  |_=>.refuse
 |.mapUpdate t m k v=>match C.d t with
  |.mp a _=>.ext (.gP (C.c4 a) m k v)
  |_=>.refuse
 |.insert t m k v=>match C.d t with
  |.mp a _=>.ext (.gP (C.c4 a) m k v)
  |_=>.refuse
 |.range t m=>match C.d t with
  |.str=>.ext (.A9 m)
  |_=>.ext (.Ar m)
 |.next i s=>match s with
  |true=>.ext (.A8 i)
  |false=>.ext (.ui i)
 |.entry i=>.ext (.Ao i)
 |_=>.refuse
end Env
def ol:am bi->ac bi
 |none=>[]
 |some a=>[a]
def auz:u0->ac bi
 |.look _ _ _ a b=>[a,b]
 |.gP _ a b c=>[a,b,c]
 |.del _ a b=>[a,b]
 |.Aq a=>[a]
 |.Ar a=>[a]
 |.Ao a=>[a]
 |.bb a b=>[a,b]
 |.qV _ _ a b=>[a,b]
 |.ui a=>[a]
 |.xa _ a b=>[a,b]
 |.idxs _ a b=>[a,b]
 |.A9 a=>[a]
 |.A8 a=>[a]
 |.Ap _ a=>[a]
 |.zm a=>[a]
def EA:c7->ac bi
 |.l1 a=>[a]
 |.pick a b c=>[a,b,c]
 |.alloc _ _=>[]
 |.box _ a=>[a]
 |.build _ l=>l.map fun p=>p.2.2
 |.oX _ _ _ l=>l.map fun p=>p.2.2
 |.lZ a=>[a]
 |.qk _ a=>[a]
 |.store _ a b=>[a,b]
 |.sw a=>[a]
 |.bin _ a b=>[a,b]
 |.eqv _ _ a b=>[a,b]
 |.un _ a=>[a]
 |.tb _ a=>[a]
 |.w7 a=>[a]
 |.zn a=>[a]
 |.u9 _ a=>[a]
 |.HJ _ a=>[a]
 |.uc _ a b=>a++b
 |.ud=>[]
 |.po _ _ _ a b=>[a,b]
 |.sL a b c=>a::(ol b++ol c)
 |.A7 _ _ a b c e=>a::(ol b++(ol c++ol e))
 |.nm _ a b c e=>a::(ol b++(ol c++ol e))
 |.xp _ a=>[a]
 |.o7 _ _ _ a=>[a]
 |.si _ _ a b=>[a,b]
 |.lW _ a b=>[a,b]
 |.tU a b=>[a,b]
 |.Hq _ _ _ a b=>[a,b]
 |.Jv _ _ _ a=>[a]
 |.xo a _=>[a]
 |.call f l=>f::l
 |.inv _ f l=>f::l
 |.HX _ _ a=>[a]
 |.oE a=>[a]
 |.tY a=>[a]
 |.vV a=>[a]
 |.app _ _ _ a b=>[a,b]
 |.eX a l=>a::l
 |.yb a l=>a::l
 |.qR _ a b=>[a,b]
 |.qS f l=>f::l
 |.rC a=>[a]
 |.BW a=>[a]
 |.BX _ _ a=>[a]
 |.A1 a=>[a]
 |.sO _ a b=>[a,b]
 |.kl a b=>[a,b]
 |.jZ a=>[a]
 |.ext y=>auz y
 |_=>[]
def uG(l:ac bi):ac Nat:=l.filterMap fun
 |.tmp j=>some j
 |_=>none
def ga:c7->Nat
 |.ext y=>match y with
  |.gP _ _ _ _=>0
  |.del _ _ _=>0
  |.Ar _=>0
  |.ui _=>0
  |.A9 _=>0
  |.A8 _=>0
  |.Ap _ _=>0
  |_=>2
 |.call _ _=>0
 |.inv _ _ _=>0
 |.app _ _ _ _ _=>0
 |.qR _ _ _=>0
 |.wB=>0
 |.qS _ _=>0
 |.rC _=>0
 |.store _ _ _=>0
 |.refuse=>0
 |.sO _ _ _=>0
 |.vV _=>0
 |.alloc _ _=>1
 |.box _ _=>1
 |.oX _ _ _ _=>1
 |.u9 _ _=>1
 |.ud=>1
 |.po _ _ _ _ _=>1
 |_=>2
def mem(l:ac Nat)(t:Nat):Bool:=l.any (Nat.beq t)
def add(l:ac Nat)(t:Nat):ac Nat:=match mem l t with
 |true=>l
 |false=>l++[t]
def ajr(ops:ac Oper)(o:Oper):am (Nat×Bool):=match o.guard with
 |none=>none
 |some (j,w)=>match(ops[j]?).bind (·.dst)with
  |some t=>some (t,w)
  |none=>none
def Nm(t:Nat):ac Oper->am String
 |[]=>none
 |o::os=>match o.op,o.dst with
  |.makeFunc (.method n) _ _,some d=>(match Nat.beq d t with
   |true=>some n
   |false=>Nm t os)
  |_,_=>Nm t os
def ab5(C:Env)(iQ:ac Nat)(ops:ac Oper)(o:Oper):bE:=⟨o.dst,(match o.op with
 |.nilCheck (.tmp t)=>(match Nm t ops with
  |some n=>.HX n (C.XH n) (.tmp t)
  |none=>.sw (.tmp t))
 |_=>C.aus iQ o.op),ajr ops o⟩
def binds(e:Edge):Bool:=match e.ground with
 |.textOnly _=>false
 |.gcOnly _=>false
 |_=>true
def Qo:ac Nat->ac Oper->ac Nat
 |B,[]=>B
 |B,o::os=>Qo (B++[(o.after.toList.filter binds).foldl (fun m e=>m|||(2^e.on|||B.getD e.on 0)) 0]) os
def ord(n:Nat)(B K:ac Nat):ac Nat:=
 let es:=(List.range n).filter fun i=>Nat.beq (K.getD i 2) 0
 let l:=es.foldl (fun l e=>add (((List.range n).filter fun i=>(B.getD e 0).testBit i).foldl add l) e) []
 (List.range n).foldl add l
def maskAt(m:Nat):Nat->ac Nat->Nat
 |_,[]=>0
 |p,i::l=>(match m.testBit i with
  |true=>2^p
  |false=>0)+maskAt m (p+1) l
def tk(C:Env)(iQ:ac Nat)(ops:ac Oper):dp:=
 let xs:=ops.map (ab5 C iQ ops)
 let K:=xs.map fun x=>ga x.o
 let L:=xs.map fun x=>uG (EA x.o)++(match x.g with
  |some (t,_)=>[t]
  |none=>[])
 let B:=Qo [] ops
 let sz:=ord ops.length B K
 let row (p:Nat) (i:Nat):bE×cw:=(xs.getD i ⟨none,.refuse,none⟩,match K.getD i 0 with
  |0=>.ez
  |1=>.hG (L.getD i [])
  |_=>.read (((sz.take p).filter fun j=>Nat.beq (K.getD j 2) 0&& !(B.getD i 0).testBit j).length) (L.getD i []))
 let dU:=(List.range sz.length).foldl (fun l p=>match(xs.getD (sz.getD p 0) ⟨none,.refuse,none⟩).d with
  |none=>l
  |some t=>match(sz.take p).any fun j=>(Nat.beq (K.getD j 2) 0||mem (L.getD j []) t)&& !(B.getD (sz.getD p 0) 0).testBit j with
   |true=>add l t
   |false=>l) []
 .tk ((List.range sz.length).map fun p=>row p (sz.getD p 0)) sz dU (sz.map fun i=>maskAt (B.getD i 0) 0 sz)
def code(C:Env)(iQ:ac Nat):Code->dp
 |.skip=>.skip
 |.label _=>.skip
 |.region _ ops afk=>match afk with
  |true=>tk C iQ ops.toList
  |false=>.yD (ops.toList.map (ab5 C iQ ops.toList))
 |.seq a b=>.seq (code C iQ a) (code C iQ b)
 |.cond x a b=>.cond x (code C iQ a) (code C iQ b)
 |.block n a=>.block n (code C iQ a)
 |.loop a=>.loop (code C iQ a)
 |.rangeFunc x ps a b=>.I2 x ps.toList (code C iQ a) (code C iQ b)
 |.scope a=>.scope (code C iQ a)
 |.exit n=>.exit n
 |.ret=>.ret
 |_=>.refuse
def atp(g:Nat)(o:Oper):ac Nat:=match o.op,o.dst with
 |.load _ (.global h),some t=>match Nat.beq g h with
  |true=>[t]
  |false=>[]
 |_,_=>[]
def sN(g:Nat):Code->ac Nat
 |.region _ ops _=>ops.toList.flatMap (atp g)
 |.seq a b=>sN g a++sN g b
 |.cond _ a b=>sN g a++sN g b
 |.block _ a=>sN g a
 |.loop a=>sN g a
 |.rangeFunc _ _ a b=>sN g a++sN g b
 |.scope a=>sN g a
 |_=>[]
def res(C:Env):ResultVar->iU
 |.tmp t=>.tmp t
 |.cell t k=>.cell t (C.g k) (C.s k)
def fn(C:Env)(f:Func):dh:=match f.body with
 |none=>⟨0,[],.refuse⟩
 |some c=>⟨f.ntmps,f.results.toList.map (res C),code C (sN C.l0 c) c⟩
end Go.aj.JL
