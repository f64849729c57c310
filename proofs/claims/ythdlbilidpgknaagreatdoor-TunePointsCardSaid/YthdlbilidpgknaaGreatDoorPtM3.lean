/- An abstract machine, and that its evaluations stand for runs of the model (part 3); no condition. -/
import Derived.KernelRfl
import Derived.LaidLaws
import Derived.Test.YthdlbilidpgknaaGreatDoorPtM2
import Derived.Test.YthdlbilidpgknaaGreatDoorPtM1
noncomputable section
set_option linter.all false
namespace Go.ak
variable{X:Ctx}
end Go.ak
namespace Go.ak
variable{X:Ctx}{α:Type}
def LD(X:Ctx)(xf:dv)(Fn:Func):Bool:=
 match Fn.body with
 |some c=>Nat.beq Fn.ntmps xf.aQ&&codeOk X xf.aQ xf.body c&&uI X xf.res Fn.results.toList&& !(Fn.name== "runtime.NumGoroutine")
 |none=>false
def agX{f:ci}{xf:dv}{Fn:Func}(ae:X.P.funcs[f]? =some Fn)(h:LD X xf Fn=true):∃Fn c,w0 X f xf Fn c:=by
 unfold LD at h;split at h
 ·rename_i c hc;simp only[b3]at h;obtain⟨⟨⟨J,U⟩,af⟩,ax⟩:=h;exact⟨Fn,c,ae,hc,eL J,U,af,by simpa using ax⟩
 ·cases h
def ar.BM(Q:Nat->α->Prop):ar α->(Nat->Nat)->Prop
 |.nil,_=>True
 |.node l v r,g=>(match v with|some x=>Q (g 0) x|none=>True)∧ar.BM Q l (fun n=>g (2*n+1))∧ar.BM Q r (fun n=>g (2*n+2))
def ar.KA{Q:Nat->α->Prop}:∀(t:ar α) (g:Nat->Nat),ar.BM Q t g->∀n x,t.get n=some x->Q (g n) x
 |.nil,_,_,n,x,h=>by simp at h
 |.node l v r,g,aY,n,x,h=>by
  obtain⟨J,U,af⟩:=aY;cases n with
  |zero=>rw[ar.xy]at h;subst h;exact J
  |succ m=>
   rw[ar.p1]at h;split at h
   ·rename_i hm;have:=ar.KA l _ U _ x h;have e:2*(m/2)+1=m+1:=by omega
    simp only[e]at this;exact this
   ·rename_i hm;have:=ar.KA r _ af _ x h;have e:2*(m/2)+2=m+1:=by omega
    simp only[e]at this;exact this
def at5{bB:ar dv}(h:ar.BM (fun f xf=>∃Fn c,w0 X f xf Fn c) bB id):n4 X bB:=
 fun f xf aa=>ar.KA bB id h f xf aa
def jf:n2:=fun _ _ _=>none
def js(X:Ctx):u6 X jf:=fun _ _ _ _ h=>by cases h
structure za where
 P:d9
 aD:Nat
 jN:ci->Bool
 kc:ci->Bool
 D0:∀f,jN f=true->∀x w,(callFunc f #[x]).run P w= .ok (.value x) w
 DB:∀f,kc f=true->∀s c w,(callFunc f #[.string s,.int .u8 c]).run P w= .ok (.value (goInt (match(List.range s.size).find? (fun i=>s[i]! ==c.toNat.toUInt8)with|some i=>(i:Int)|none=> -1))) w
 keys:ce->am fN
 su:∀k c8,keys k=some c8->Maps.Keyed P k∧∀v,c8.ok v=true->∃l,keyOf P k v=some l
 pS:ci->Bool
 Cj:∀f,pS f=true->∀s c w,(callFunc f #[.string s,.int .u8 c]).run P w= .ok (.value (goInt (s.data.toList.countP (fun b=>b==c.toNat.toUInt8):Nat))) w
 qg:ci->Bool
 lQ:Nat
 DV:lQ<aD
 DD:∀f,qg f=true->∀(s b:f5) (m:Int) w,(load ⟨lQ,0,none⟩).run P w= .ok (.int .i64 m) w->2<=b.size->(b.size:Int)<=m->s.size<=1000000->
  (callFunc f #[.string s,.string b]).run P w= .ok (.value (goInt (match oE b.data.toList s.data.toList with|some i=>(i:Int)|none=> -1))) w
 eqs:ce->am Nat
 xr:∀t n,eqs t=some n->P.eqGuardType P.depth t=false∧∀xs av b w,xs.size=n%100+n/100->av.size=n%100+n/100->kL (n%100) xs.toList av.toList=some b->(Op.equalIn 10000 t (.agg xs) (.agg av)).run P w= .ok b w
 qm:ci->am ce
 DU:∀f e,qm f=some e->∀(n:Nat) (w:co),n<=281474976710656->∃(cs:ap be) (w':co),n<=cs.size∧P.cellsOf e=1∧(callFunc f #[.int .i64 (n:Int)]).run P w= .ok (.value (.slice (some ⟨w.heap.size,0,none⟩) n cs.size)) w'∧w'.heap=w.heap.push (.cells cs e)∧(w'.os=w.os∧w'.output=w.output)
def za.with(B:za)(ok:ci->Code->dq->Prop):Ctx:=
 {P:=B.P,ok:=ok,aD:=B.aD,jN:=B.jN,kc:=B.kc,D0:=B.D0,DB:=B.DB,keys:=B.keys,su:=B.su,pS:=B.pS,Cj:=B.Cj,qg:=B.qg,lQ:=B.lQ,DV:=B.DV,DD:=B.DD,eqs:=B.eqs,xr:=B.xr,qm:=B.qm,DU:=B.DU}
def mkCtx(B:za):Ctx:=B.with fun fn c s7=>∃F,B.P.funcs[fn]? =some F∧codeOk (B.with fun _ _ _=>False) F.ntmps s7 c=true
def aey(B:za)(ok wi:ci->Code->dq->Prop):codeOk (B.with ok)=codeOk (B.with wi):=by kernel_rfl
def anO(B:za)(fP:B.P.follows .mixedOrders=true):Good (mkCtx B):=by
 refine⟨fP,fun fn c s7=> ?_⟩;have e:codeOk (mkCtx B)=codeOk (B.with fun _ _ _=>False):=aey B _ _;rw[e];exact Iff.rfl
section
variable{X:Ctx}
variable{st:ay}
def bx.aaI{ι:bC}{w:co}(h:bx X ι st w){g:Nat}{u:be}{el:ce}{bd:Nat×Nat}{a3:Bool}(aO:st.h.get g=some (.cells [u] el bd a3)):
 ∃c,bs ι u c∧∀sY,bs ι sY c->bx X ι ⟨st.h.set g (.cells [sY] el bd a3),st.al⟩ w:=by
 obtain⟨l,hl,C,eP,hC⟩:=h.eD _ _ aO (by simp);obtain⟨c,sd,mg⟩:=hC.cell 0 (by simp);refine⟨c,by simpa using mg,fun sY Dt=>⟨fun i o ao aq=> ?_,fun i j o p a b hi hB hj hN aY hb Mc e=> ?_,fun i hi=> ?_,h.gP,h.me,h.p2,fun i a o aY ai ao aq=> ?_⟩⟩
 ·rw[ar.eo]at ao;by_cases e:i=g
  ·rw[zab e]at ao;cases ao;subst e;refine⟨l,hl,C,eP,hC.there,hC.room,fun j hj=> ?_,hC.y3,hC.plain⟩;have:j=0:=by simpa using hj
   subst this;exact⟨c,sd,by simpa using Dt⟩
  ·rw[zaa e]at ao;exact h.eD i o ao aq
 ·have hh:∀k q,(st.h.set g (.cells [sY] el bd a3)).get k=some q->q≠.dead->∃fJ,st.h.get k=some fJ∧fJ≠.dead:=by
   intro k q ab hq;rw[ar.eo]at ab;by_cases e:k=g
   ·subst e;exact⟨_,aO,by simp⟩
   ·rw[zaa e]at ab;exact⟨q,ab,hq⟩
  obtain⟨br,J,U⟩:=hh i o hi hB;obtain⟨dA,af,ax⟩:=hh j p hj hN;exact h.inj i j br dA a b J U af ax aY hb Mc e
 ·have:=h.fresh i hi;refine⟨this.1,?_⟩;rw[ar.eo,zaa]
  ·exact this.2
  ·intro e;subst e;rw[this.2]at aO;cases aO
 ·rw[ar.eo]at ao;by_cases e:i=g
  ·rw[zab e]at ao;cases ao;subst e;show a3=false∧bd.1<bd.2;exact h.my i a _ aY ai aO (by simp)
  ·rw[zaa e]at ao;exact h.my i a o aY ai ao aq
def Row.pg(r:Row)(g:Nat)(el:ce)(c:Nat):Row:=
 ⟨r.as,⟨r.st.h.set g (.cells [.chan (some c)] el (0,1) false),r.st.al⟩,r.v,⟨r.st'.h.set g (.cells [.chan (some c)] el (0,1) false),r.st'.al⟩⟩
def aqM{g:Nat}{o br:bH}(h:st.h.get g=some o):ay.le st ⟨(st.h.set g br).set g o,st.al⟩:=by
 refine⟨rfl,fun n x aa=> ?_⟩;show((st.h.set g br).set g o).get n=some x;rw[ar.eo];by_cases e:n=g
 ·subst e;rw[zab rfl];rw[h]at aa;exact aa
 ·rw[zaa e,ar.eo,zaa e];exact aa
def uK{f:ci}{r:Row}{g n:Nat}{el:ce}(h0:r.st.h.get g=some (.cells [.chan (some 1)] el (0,1) false))(j7:r.st'.h.get g=some (.cells [.chan (some 1)] el (0,1) false))
 (J:fT X f (r.pg g el (2*n+2))) (U:fT X f (r.pg g el (2*n+3))):fT X f r:=by
 intro ι as' w aY hw;obtain⟨c,hc,ra⟩:=hw.aaI h0;obtain⟨m,rfl,_⟩:=hc.D8 (by decide);have key:∀k,PK k m->fT X f (r.pg g el k)->(∀as w,(callFunc f as).run X.P w= .ok (.enter f as) w)∧
  ∀(K:CallKind) (bA:Bool->ac Frame),kF ⟨f,K,none⟩ none ι bA->jz X ι w ⟨f,K,none⟩ bA (lone (Frame.enter X.P f as'.toArray K) (bA false) w) (.ret r.v r.st' false):=by
  intro k ab jL;obtain⟨cP,cT⟩:=jL ι as' w aY (ra _ (.iE k m ab));refine⟨cP,fun K bA hr=> ?_⟩;obtain⟨aU,v',w',F,aM,aN,bf,cb⟩:=cT K bA hr;obtain⟨fa,mg,alX⟩:=bx.aaI (u:=.chan (some k)) aN (by show(r.st'.h.set g _).get g=_;rw[ar.q0]);obtain⟨hQ,rfl,_⟩:=mg.D8 (by intro e;subst e;rcases ab with h|⟨_,h,_⟩|⟨_,h,_⟩<;>omega);have cQ:=alX (.chan (some 1)) (.iE 1 hQ (.inl rfl));exact⟨aU,v',w',F,aM,bx.less (aqM j7) cQ,bf,cb⟩
 by_cases hm:(n:Int)<=m
 ·exact key _ (.inr (.inl ⟨n,rfl,hm⟩)) J
 ·exact key _ (.inr (.inr ⟨n,rfl,by omega⟩)) U
end
end Go.ak
namespace Go.ak
variable{P:d9}
def Rj(i:Nat)(d:am TypeDesc):Bool:=match i,d with
 |0,some .string=>true
 |_+1,some (.int _)=>true
 |_,_=>false
def Gn(P:d9):ac Field->Nat->Nat->Bool
 |[],_,_=>true
 |f::bG,i,o=>Nat.beq f.offset o&&f.name != "_"&&Rj i (P.underlying f.type)&&Gn P bG (i-1) (o+1)
def Gm(P:d9)(t n:Nat):Bool:=match P.underlying t with
 |some (.struct bG)=> !P.stoodInHeld t&&Nat.beq bG.size (n%100+n/100)&&Gn P bG.toList (n%100) 0&& !P.eqGuardType P.depth t
 |_=>false
theorem Si(w:co)(d:Nat)(xs av:ap be):∀(bG:ac Field) (i o:Nat) (b:Bool),Gn P bG i o=true->kL i (xs.toList.drop o) (av.toList.drop o)=some b->xs.size=o+bG.length->av.size=o+bG.length->
 (Op.eqFields (d+1) xs av bG).run P w= .ok b w
 |[],i,o,b,_,he,aa,aF=>by
  rw[zcf (by simp;simpa using zcZ aa),zcf (by simp;simpa using zcZ aF)]at he;cases he;simp[Op.eqFields]
 |f::bG,i,o,b,ae,he,aa,aF=>by
  unfold Gn at ae;simp only[b3]at ae;obtain⟨⟨⟨J,U⟩,af⟩,ax⟩:=ae;have J:=eL J;have hn:f.name≠ "_":=by simpa using U
  rw[zaD]at aa aF;have DQ:o<xs.toList.length:=by simp;omega
  have anI:o<av.toList.length:=by simp;omega
  rw[zds DQ,zds anI]at he;unfold kL at he;obtain⟨km,h0,he⟩:=fp (z:=none) (r:=some b) he (by simp);have alQ:∃cD,kL (i-1) (xs.toList.drop (o+1)) (av.toList.drop (o+1))=some cD∧b=(km&&cD):=by
   cases km
   ·obtain⟨cD,gR,o7⟩:=fp (z:=none) (r:=some b) he (by simp);cases o7;exact⟨cD,gR,rfl⟩
   ·exact⟨b,he,by simp⟩
  obtain⟨cD,gR,hb⟩:=alQ;have a8:=Si w d xs av bG (i-1) (o+1) cD ax gR (by omega) (by omega);have ajV:xs[f.offset]? =some xs.toList[o]:=by rw[J];simp
  have ajW:av[f.offset]? =some av.toList[o]:=by rw[J];simp
  generalize xs.toList[o]=x at *;generalize av.toList[o]=y at *;have ab:(i=0∧P.underlying f.type=some .string)∨(i≠0∧∃k,P.underlying f.type=some (.int k)):=by
   unfold Rj at af;split at af
   ·exact .inl ⟨rfl,by assumption⟩
   ·exact .inr ⟨by omega,_,by assumption⟩
   ·cases af
  have hp:∀(cs:ap be) (v:be),cs[f.offset]? =some v->(part f.type cs f.offset).run P w= .ok v w:=by
   intro cs v h;rcases ab with⟨_,hu⟩|⟨_,k,hu⟩
   ·simp[part,isAgg,run_underlying hu,h]
   ·simp[part,isAgg,run_underlying hu,h]
  have hq:(Op.equalIn (d+1) f.type x y).run P w= .ok km w:=by
   rcases ab with⟨hi,hu⟩|⟨hi,k,hu⟩
   ·subst hi;have h0:Ge x y=some km:=h0;unfold Ge at h0;split at h0
    ·cases h0;rw[run_equalIn_string w d f.type _ _ hu,toList_eq]
    ·cases h0
   ·obtain⟨j,rfl⟩:∃j,i=j+1:=⟨i-1,by omega⟩;have a0:Gd x y=some km:=h0;clear h0;cases x<;>cases y<;>try (cases a0;done)
    rename_i a5 m bD n;have h0:=a0;clear a0;have h0:(if a5=bD then some (m==n)else none)=some km:=h0;by_cases e:a5=bD
    ·subst e;rw[zab rfl]at h0;cases h0;exact run_equalIn_int w d f.type _ k _ _ hu
    ·rw[zaa e]at h0;cases h0
  have aw:=hp xs x ajV;have e2:=hp av y ajW;simp only[Op.eqFields,hn,ne_eq,not_false_eq_true,if_true,Sem.run_bind,aw,e2,hq,Result.andThen_ok];rw[hb];cases km
  ·simp
  ·simpa using a8
def agV{t n:Nat}(h:Gm P t n=true):P.eqGuardType P.depth t=false∧∀xs av b w,xs.size=n%100+n/100->av.size=n%100+n/100->kL (n%100) xs.toList av.toList=some b->(Op.equalIn 10000 t (.agg xs) (.agg av)).run P w= .ok b w:=by
 unfold Gm at h;split at h
 ·rename_i bG hu;simp only[b3]at h;obtain⟨⟨⟨J,U⟩,af⟩,ax⟩:=h;have U:=eL U;have ae:P.fieldsOf t=bG:=by simp[Program.fieldsOf,hu]
  refine⟨by simpa using ax,fun xs av b w aa aF he=> ?_⟩;rw[show(10000:Nat)=9998+1+1 from rfl,run_equalIn_struct w (9998+1) t xs av (by rw[ae];exact hu) (by simpa using J),ae];exact Si w 9998 xs av bG.toList _ 0 b af (by simpa using he) (by simp;omega) (by simp;omega)
 ·cases h
end Go.ak
namespace Go.ak
inductive fB(R:Nat->Nat->Prop):Value->Value->Prop
 |bool (b:Bool):fB R (.bool b) (.bool b)
 |int (k:IntKind) (n:Int):fB R (.int k n) (.int k n)
 |string (s:ByteArray):fB R (.string s) (.string s)
 |nQ:fB R (.pointer none) (.pointer none)
 |ptr (a b:Addr) (h:R a.block b.block) (ao:a.off=b.off) (aY:a.spot=none) (hb:b.spot=none):fB R (.pointer (some a)) (.pointer (some b))
 |nU (n c:Nat):fB R (.slice none n c) (.slice none n c)
 |gx (a b:Addr) (n c:Nat) (h:R a.block b.block) (ao:a.off=b.off) (aY:a.spot=none) (hb:b.spot=none):fB R (.slice (some a) n c) (.slice (some b) n c)
 |ql:fB R (.map none) (.map none)
 |map (i j:Nat) (h:R i j):fB R (.map (some i)) (.map (some j))
 |func (f:FuncId) (xs av us vs:Array Value) (J:xs.size=av.size) (U:∀i (h:i<xs.size) (aB:i<av.size),fB R xs[i] av[i])
  (af:us.size=vs.size) (ax:∀i (h:i<us.size) (aB:i<vs.size),fB R us[i] vs[i]):fB R (.func (.func f) xs us) (.func (.func f) av vs)
 |nilFunc:fB R .nilFunc .nilFunc
 |iface (t:TypeId) (v w:Value) (h:fB R v w):fB R (.iface t v) (.iface t w)
 |nilIface:fB R .nilIface .nilIface
 |agg (xs av:Array Value) (J:xs.size=av.size) (U:∀i (h:i<xs.size) (aB:i<av.size),fB R xs[i] av[i]):fB R (.agg xs) (.agg av)
 |tuple (xs av:Array Value) (J:xs.size=av.size) (U:∀i (h:i<xs.size) (aB:i<av.size),fB R xs[i] av[i]):fB R (.tuple xs) (.tuple av)
 |chan (c:Nat):fB R (.chan (some c)) (.chan (some c))
variable{v w:be}
def fB.mono{R S:Nat->Nat->Prop}(hle:∀i j,R i j->S i j)(h:fB R v w):fB S v w:=by
 induction h with
 |bool b=>exact .bool b
 |int k n=>exact .int k n
 |string s=>exact .string s
 |nQ=>exact .nQ
 |ptr a b h ao aY hb=>exact .ptr a b (hle _ _ h) ao aY hb
 |nU n c=>exact .nU n c
 |gx a b n c h ao aY hb=>exact .gx a b n c (hle _ _ h) ao aY hb
 |ql=>exact .ql
 |map i j h=>exact .map i j (hle _ _ h)
 |func f xs av us vs J _ af _ nK x7=>exact .func f xs av us vs J nK af x7
 |nilFunc=>exact .nilFunc
 |iface t v w _ a8=>exact .iface t v w a8
 |nilIface=>exact .nilIface
 |agg xs av J _ a8=>exact .agg xs av J a8
 |tuple xs av J _ a8=>exact .tuple xs av J a8
 |chan c=>exact .chan c
def fB.symm{R:Nat->Nat->Prop}(h:fB R v w):fB (fun j i=>R i j) w v:=by
 induction h with
 |bool b=>exact .bool b
 |int k n=>exact .int k n
 |string s=>exact .string s
 |nQ=>exact .nQ
 |ptr a b h ao aY hb=>exact .ptr b a h ao.symm hb aY
 |nU n c=>exact .nU n c
 |gx a b n c h ao aY hb=>exact .gx b a n c h ao.symm hb aY
 |ql=>exact .ql
 |map i j h=>exact .map j i h
 |func f xs av us vs J _ af _ nK x7=>exact .func f av xs vs us J.symm (fun i a b=>nK i b a) af.symm (fun i a b=>x7 i b a)
 |nilFunc=>exact .nilFunc
 |iface t v w _ a8=>exact .iface t w v a8
 |nilIface=>exact .nilIface
 |agg xs av J _ a8=>exact .agg av xs J.symm (fun i a b=>a8 i b a)
 |tuple xs av J _ a8=>exact .tuple av xs J.symm (fun i a b=>a8 i b a)
 |chan c=>exact .chan c
def fB.E5{R:Nat->Nat->Prop}{kj aU:bC}(dm:∀i j l,R i j->kj i=some l->aU j=some l){c:be}(h:fB R v c):∀{x:be},bs kj v x->bs aU c x:=by
 induction h with
 |bool b=>intro x aa;cases aa;exact .bool b
 |int k n=>intro x aa;cases aa;exact .int k n
 |string s=>intro x aa;cases aa;exact .string s
 |nQ=>intro x aa;cases aa;exact .nQ
 |ptr a b h ao aY hb=>
  intro x aa;cases aa with
  |ptr a l hl ai=>rw[ao];exact .ptr b l (dm _ _ _ h hl) hb
 |nU n c=>intro x aa;cases aa;exact .nU n c
 |gx a b n c h ao aY hb=>
  intro x aa;cases aa with
  |gx a l o n c hl ai af=>exact .gx b l o n c (dm _ _ _ h hl) hb (by rw[<-ao];exact af)
 |ql=>intro x aa;cases aa;exact .ql
 |map i j h=>intro x aa;cases aa with|map r b ca hl=>exact .map j b ca (dm _ _ _ h hl)
 |func f xs av us vs J _ af _ nK x7=>
  intro x aa;cases aa with
  |func ny g uZ iZ avn fS ae aM aN bf cb=>
   refine .func _ _ av iZ vs fS ?_ (J.symm.trans aM) (fun i a b=>nK i (by omega) a (aN i (by omega) b)) (af.symm.trans bf) (fun i a b=>x7 i (by omega) a (cb i (by omega) b));rcases ae with⟨e,aF⟩|⟨l,b,e,_⟩
   ·exact .inl ⟨e,aF⟩
   ·cases e
 |nilFunc=>intro x aa;cases aa;exact .nilFunc
 |iface t v w _ a8=>intro x aa;cases aa with|iface t v y aI=>exact .iface t w y (a8 aI)
 |nilIface=>intro x aa;cases aa;exact .nilIface
 |agg xs av J _ a8=>intro x aa;cases aa with|agg uZ iZ aM aN=>exact .agg av iZ (J.symm.trans aM) (fun i a b=>a8 i (by omega) a (aN i (by omega) b))
 |tuple xs av J _ a8=>intro x aa;cases aa with|tuple uZ iZ aM aN=>exact .tuple av iZ (J.symm.trans aM) (fun i a b=>a8 i (by omega) a (aN i (by omega) b))
 |chan c=>
  intro x aa;by_cases hc:c=0
  ·subst hc;exact .top x
  ·obtain⟨m,rfl,hu⟩:=aa.D8 hc;exact .iE c m hu
def j0(R:Nat->Nat->Prop)(xs av:ac be):Prop:=xs.length=av.length∧∀(i:Nat) (h:i<xs.length) (aB:i<av.length),fB R xs[i] av[i]
variable{xs:ac be}{av:ap be}
def j0.mono{R S:Nat->Nat->Prop}(hle:∀i j,R i j->S i j){av:ac be}(h:j0 R xs av):j0 S xs av:=⟨h.1,fun i a b=>(h.2 i a b).mono hle⟩
def j0.symm{R:Nat->Nat->Prop}{av:ac be}(h:j0 R xs av):j0 (fun j i=>R i j) av xs:=⟨h.1.symm,fun i a b=>(h.2 i b a).symm⟩
def j0.nil(R:Nat->Nat->Prop):j0 R [] []:=⟨rfl,fun i h=>by simp at h⟩
def j0.cons{R:Nat->Nat->Prop}{x y:be}{xs av:ac be}(h:fB R x y)(ai:j0 R xs av):j0 R (x::xs) (y::av):=by
 refine⟨by simp[ai.1],fun i a b=> ?_⟩;cases i with
 |zero=>exact h
 |succ i=>exact ai.2 i (by simpa using a) (by simpa using b)
def j0.atm{R:Nat->Nat->Prop}{kj aU:bC}(dm:∀i j l,R i j->kj i=some l->aU j=some l){vs cs:ac be}(h:j0 R vs cs)(aa:bM kj vs xs):bM aU cs xs:=
 ⟨h.1.symm.trans aa.1,fun i a b=>(h.2 i (by have:=h.1;omega) a).E5 dm (aa.2 i (by have:=h.1;omega) b)⟩
def fB.Qo{R:Nat->Nat->Prop}{xs:ap be}(h:j0 R xs.toList av.toList):fB R (.agg xs) (.agg av):=
 .agg xs av (by simpa using h.1) fun i a b=>by have:=h.2 i (by simpa using a) (by simpa using b);rwa [zaC,zaC]at this
def fB.tuple'{R:Nat->Nat->Prop}{xs:ap be}(h:j0 R xs.toList av.toList):fB R (.tuple xs) (.tuple av):=
 .tuple xs av (by simpa using h.1) fun i a b=>by have:=h.2 i (by simpa using a) (by simpa using b);rwa [zaC,zaC]at this
def fB.Sv{R:Nat->Nat->Prop}{f:ci}{xs us vs:ap be}(h:j0 R xs.toList av.toList)(aB:j0 R us.toList vs.toList):fB R (.func (.func f) xs us) (.func (.func f) av vs):=
 .func f xs av us vs (by simpa using h.1) (fun i a b=>by have:=h.2 i (by simpa using a) (by simpa using b);rwa [zaC,zaC]at this) (by simpa using aB.1) (fun i a b=>by have:=aB.2 i (by simpa using a) (by simpa using b);rwa [zaC,zaC]at this)
inductive iG{α β:Type}(R:α->β->Prop):List α->List β->Prop
 |nil:iG R [] []
 |cons {a:α} {b:β} {as:List α} {bU:List β} (h:R a b) (ai:iG R as bU):iG R (a::as) (b::bU)
variable{α β:Type}{as:ac α}{bU:ac β}
def iG.mono{R S:α->β->Prop}(hle:∀a b,R a b->S a b)(h:iG R as bU):iG S as bU:=by
 induction h with
 |nil=>exact .nil
 |cons h _ a8=>exact .cons (hle _ _ h) a8
def iG.flip{R:α->β->Prop}(h:iG R as bU):iG (fun b a=>R a b) bU as:=by
 induction h with
 |nil=>exact .nil
 |cons h _ a8=>exact .cons h a8
def iG.perm{R:α->β->Prop}{l es:ac α}(hp:l.Perm es):∀{bG:ac β},iG R es bG->∃m:ac β,m.Perm bG∧iG R l m:=by
 induction hp with
 |nil=>intro bG h;cases h;exact⟨[],.refl _,.nil⟩
 |cons x _ a8=>
  intro bG h;cases h with
  |cons h ai=>obtain⟨m,J,U⟩:=a8 ai;exact⟨_::m,.cons _ J,.cons h U⟩
 |swap x y l=>
  intro bG h;cases h with
  |cons h ai=>cases ai with|cons aB ai=>exact⟨_::_::_,.swap _ _ _,.cons aB (.cons h ai)⟩
 |trans _ _ DF nK=>
  intro bG h;obtain⟨m,J,U⟩:=nK h;obtain⟨n,af,ax⟩:=DF U;exact⟨n,af.trans J,ax⟩
def iG.len{R:α->β->Prop}(h:iG R as bU):as.length=bU.length:=by
 induction h with
 |nil=>rfl
 |cons _ _ a8=>simp[a8]
theorem iG.at{α β:Type}{R:α->β->Prop}{as:ac α}{bU:ac β}(h:iG R as bU):∀(i:Nat) (a:i<as.length) (b:i<bU.length),R as[i] bU[i]:=by
 induction h with
 |nil=>intro i a;simp at a
 |cons h _ a8=>
  intro i a b;cases i with
  |zero=>exact h
  |succ i=>exact a8 i (by simpa using a) (by simpa using b)
structure oI(R:Nat->Nat->Prop)(e f:d8):Prop where
 key:e.key=f.key
 M8:fB R e.key f.key
 val:fB R e.val f.val
 born:e.born=f.born
variable{e f:d8}
def oI.mono{R S:Nat->Nat->Prop}(hle:∀i j,R i j->S i j)(h:oI R e f):oI S e f:=⟨h.key,h.M8.mono hle,h.val.mono hle,h.born⟩
def oI.symm{R:Nat->Nat->Prop}(h:oI R e f):oI (fun j i=>R i j) f e:=⟨h.key.symm,h.M8.symm,h.val.symm,h.born.symm⟩
inductive kl(R:Nat->Nat->Prop):bH->bH->Prop
 |cells (cs ds:List Value) (e:TypeId) (bd:Nat×Nat) (a3:Bool) (h:j0 R cs ds):kl R (.cells cs e bd a3) (.cells ds e bd a3)
 |map (es bG:List MapEntry) (c:Nat) (h:iG (oI R) es bG):kl R (.map es c) (.map bG c)
variable{o p:bH}
def kl.mono{R S:Nat->Nat->Prop}(hle:∀i j,R i j->S i j)(h:kl R o p):kl S o p:=by
 cases h with
 |cells cs ds e bd a3 h=>exact .cells cs ds e bd a3 (h.mono hle)
 |map es bG c h=>exact .map es bG c (h.mono fun _ _ h=>h.mono hle)
def kl.symm{R:Nat->Nat->Prop}(h:kl R o p):kl (fun j i=>R i j) p o:=by
 cases h with
 |cells cs ds e bd a3 h=>exact .cells ds cs e bd a3 h.symm
 |map es bG c h=>exact .map bG es c (h.flip.mono fun _ _ h=>h.symm)
def kl.live{R:Nat->Nat->Prop}(h:kl R o p):o≠.dead∧p≠.dead:=by cases h<;>simp
def kl.vv{R:Nat->Nat->Prop}(h:kl R o p):o.vv↔p.vv:=by cases h<;>exact Iff.rfl
variable{X:Ctx}
def kl.YR{R:Nat->Nat->Prop}{kj aU:bC}(dm:∀i j l,R i j->kj i=some l->aU j=some l)(h:kl R o p){w:co}{l:Loc}(hm:jl X kj w o l):jl X aU w p l:=by
 cases h with
 |cells cs ds e bd a3 h=>
  obtain⟨C,eP,hC⟩:=hm;refine⟨C,eP,hC.there,by rw[<-h.1];exact hC.room,fun i hi=> ?_,by rw[<-h.1];exact hC.y3,by rw[<-h.1];exact hC.plain⟩;have dX:i<cs.length:=by rw[h.1];exact hi
  obtain⟨c,J,U⟩:=hC.cell i dX;exact⟨c,J,(h.2 i dX hi).E5 dm U⟩
 |map es bG c h=>
  obtain⟨h0,j7,C,b6,J,U⟩:=hm;have eQ:∀f∈bG,∃e∈es,oI R e f:=by
   clear J U;intro f ae
   induction h with
   |nil=>cases ae
   |cons h _ a8=>
    rcases zar.1 ae with rfl|ae
    ·exact⟨_,by simp,h⟩
    ·obtain⟨e,he,aB⟩:=a8 ae;exact⟨e,zaM _ he,aB⟩
  have IE:∀(Q:d8->d8->Prop),(∀a b c d,oI R a c->oI R b d->Q a b->Q c d)->es.Pairwise Q->bG.Pairwise Q:=by
   intro Q o6 hp;clear J U eQ
   induction h with
   |nil=>exact .nil
   | @cons a b as bU h ai a8=>
    rw[zei]at hp⊢;refine⟨fun d aq=> ?_,a8 hp.2⟩;have:∃e∈as,oI R e d:=by
     clear a8 hp
     induction ai with
     |nil=>cases aq
     |cons aB _ MW=>
      rcases zar.1 aq with rfl|aq
      ·exact⟨_,by simp,aB⟩
      ·obtain⟨e,he,o5⟩:=MW aq;exact⟨e,zaM _ he,o5⟩
    obtain⟨e,he,akL⟩:=this;exact o6 a e b d h akL (hp.1 e he)
  refine⟨h0,j7,C,b6,J,U.tq,U.Br,fun f ae=> ?_,IE _ (fun a b c d J U ab=>by rw[<-J.key,<-U.key];exact ab) U.keys,IE _ (fun a b c d J U ab=>by rw[<-J.born,<-U.born];exact ab) U.zp,?_⟩
  ·obtain⟨e,he,Ma⟩:=eQ f ae;rw[<-Ma.born];exact U.born e he
  ·obtain⟨eW,aM,aN,bf⟩:=U.same;obtain⟨m,a5,bD⟩:=h.perm aM;refine⟨m,a5,bD.len.symm.trans aN,fun i a b=> ?_⟩;have a':i<eW.length:=by rw[bD.len];exact a
   obtain⟨cP,cT,ek⟩:=bf i a' b;have q:=bD.at i a' a;exact⟨q.M8.E5 dm cP,q.val.E5 dm cT,by rw[ek,q.born]⟩
end Go.ak
namespace Go.ak
structure c6 where
 cL:ar Nat
 inv:ar Nat
 bn:Nat
def c6.R(s:c6)(i j:Nat):Prop:=s.cL.get i=some j
structure c6.cX(s:c6):Prop where
 iff:∀i j,s.cL.get i=some j↔s.inv.get j=some i
 lx:∀i j,s.cL.get i=some j->i<s.bn
def c6.le(s t:c6):Prop:=∀i j,s.cL.get i=some j->t.cL.get i=some j
def c6.le.refl(s:c6):s.le s:=fun _ _ h=>h
def c6.le.trans{s t u:c6}(h:s.le t)(aB:t.le u):s.le u:=fun i j e=>aB i j (h i j e)
def yg(i j:Nat)(s:c6):am c6:=
 bm (s.inv.get j) (fun ig=>cond (Nat.beq i ig) (some s) none)
  (cond (Nat.beq i s.bn) (ar.fin (ar.ke (Nat.succ i) s.cL i j) fun cL=>ar.fin (ar.ke (Nat.succ j) s.inv j i) fun inv=>fX (Nat.succ i) fun c=>some ⟨cL,inv,c⟩) none)
def Nv{i j:Nat}{s bz:c6}(ai:s.cX)(h:yg i j s=some bz):bz.cX∧s.le bz∧bz.R i j:=by
 unfold yg at h;cases hj:s.inv.get j with
 |some ig=>
  rw[hj]at h;have h:cond (Nat.beq i ig) (some s) none=some bz:=h;cases hb:Nat.beq i ig with
  |false=>rw[hb]at h;cases h
  |true=>
   rw[hb]at h;cases h;have:=eL hb;subst this;exact⟨ai,.refl s,(ai.iff i j).2 hj⟩
 |none=>
  rw[hj]at h;have h:cond (Nat.beq i s.bn) (ar.fin (ar.ke (Nat.succ i) s.cL i j) fun cL=>ar.fin (ar.ke (Nat.succ j) s.inv j i) fun inv=>fX (Nat.succ i) fun c=>some ⟨cL,inv,c⟩) none=some bz:=h;cases hb:Nat.beq i s.bn with
  |false=>rw[hb]at h;cases h
  |true=>
   rw[hb]at h;have e:=eL hb;simp only[cond_true,ar.qY,ar.wv]at h;unfold fX at h;rw[zaP]at h;simp only[cond_true,Option.some.injEq]at h;subst h;have gb:∀b,s.cL.get i≠some b:=fun b hb=>by have:=ai.lx _ _ hb;omega
   refine⟨⟨fun a b=> ?_,fun a b iN=> ?_⟩,fun a b iN=> ?_,?_⟩
   ·show(s.cL.set i j).get a=some b↔(s.inv.set j i).get b=some a;rw[ar.eo,ar.eo];by_cases aY:a=i<;>by_cases p4:b=j
    ·rw[zab aY,zab p4,aY,p4];simp
    ·rw[zab aY,zaa p4];subst aY;constructor
     ·intro e;exact absurd (Option.some.inj e).symm p4
     ·intro e;exact absurd ((ai.iff _ _).2 e) (gb b)
    ·rw[zaa aY,zab p4];subst p4;constructor
     ·intro e;rw[(ai.iff _ _).1 e]at hj;cases hj
     ·intro e;exact absurd (Option.some.inj e).symm aY
    ·rw[zaa aY,zaa p4];exact ai.iff a b
   ·have iN:(s.cL.set i j).get a=some b:=iN;show a<Nat.succ i;rw[ar.eo]at iN;by_cases aY:a=i
    ·omega
    ·rw[zaa aY]at iN;have:=ai.lx _ _ iN;omega
   ·show(s.cL.set i j).get a=some b;rw[ar.eo,zaa]
    ·exact iN
    ·intro aY;subst aY;exact gb b iN
   ·show(s.cL.set i j).get i=some j;rw[ar.q0]
def Ns(a b:am Addr)(s:c6):am c6:=
 Option.rec (motive:=fun _=>am c6) (Option.rec (motive:=fun _=>am c6) (some s) (fun _=>none) b)
  (fun a=>Option.rec (motive:=fun _=>am c6) none
   (fun b=>cond (Nat.beq a.off b.off) (Option.rec (motive:=fun _=>am c6) (Option.rec (motive:=fun _=>am c6) (yg a.block b.block s) (fun _=>none) b.spot) (fun _=>none) a.spot) none) b) a
def X0{a b:am Addr}{s bz:c6}(h:Ns a b s=some bz):
 (a=none∧b=none∧bz=s)∨∃p q,a=some p∧b=some q∧p.off=q.off∧p.spot=none∧q.spot=none∧yg p.block q.block s=some bz:=by
 cases a with
 |none=>
  cases b with
  |none=>left;exact⟨rfl,rfl,(Option.some.inj h).symm⟩
  |some q=>cases h
 |some p=>
  cases b with
  |none=>cases h
  |some q=>
   right;obtain⟨Oh,yz,ps⟩:=p;obtain⟨api,Eo,dh⟩:=q;cases ao:Nat.beq yz Eo with
   |false=>
    have h:cond (Nat.beq yz Eo) _ none=some bz:=h;rw[ao]at h;cases h
   |true=>
    cases ps with
    |some x=>
     have h:cond (Nat.beq yz Eo) none none=some bz:=h;rw[ao]at h;cases h
    |none=>
     cases dh with
     |some x=>
      have h:cond (Nat.beq yz Eo) none none=some bz:=h;rw[ao]at h;cases h
     |none=>
      have h:cond (Nat.beq yz Eo) (yg Oh api s) none=some bz:=h;rw[ao]at h;exact⟨_,_,rfl,rfl,eL ao,rfl,rfl,h⟩
def Nu(f g:Fn)(k:am c6):am c6:=
 match f,g with
 |.func a,.func b=>cond (Nat.beq a b) k none
 |_,_=>none
def anL{f g:Fn}{k:am c6}{s:c6}(h:Nu f g k=some s):∃a,f= .func a∧g= .func a∧k=some s:=by
 unfold Nu at h;split at h
 ·rename_i a b;cases hb:Nat.beq a b with
  |false=>rw[hb]at h;cases h
  |true=>rw[hb]at h;exact⟨a,rfl,by rw[eL hb],h⟩
 ·cases h
def aed(a b:ac bv):Bool:=a==b
def KX(a b:Bool):Bool:=cond a b (cond b false true)
def Ra{a b:Bool}(h:KX a b=true):a=b:=by cases a<;>cases b<;>first|rfl|cases h
def X6(w:be)(s:c6):am c6:=match w with|.nilFunc=>some s|_=>none
def X7(w:be)(s:c6):am c6:=match w with|.nilIface=>some s|_=>none
def X1(c:am Nat)(w:be)(s:c6):am c6:=match c,w with|some a,.chan (some b)=>cond (Nat.beq a b) (some s) none|_,_=>none
def aas(f:Fn)(k:ci->am be):am be:=match f with|.func g=>k g|_=>none
def aaq(c:am Nat):am be:=match c with|some c=>some (.chan (some c))|none=>none
mutual
def jM:be->be->c6->am c6
 |.bool a,w,s=>nd w (fun b=>cond (KX a b) (some s) none) none
 |.int k a,w,s=>gj w (fun k' b=>cond (jr k k') (cond (r7 a b) (some s) none) none) none
 |.string a,w,s=>hE w (fun b=>cond (aed a.data.toList b.data.toList) (some s) none) none
 |.pointer a,w,s=>il w (fun b=>Ns a b s) none
 |.slice a n c,w,s=>hD w (fun b cc b6=>cond (Nat.beq n cc) (cond (Nat.beq c b6) (Ns a b s) none) none) none
 |.map a,w,s=>yY w (fun b=>Option.rec (motive:=fun _=>am c6) (Option.rec (motive:=fun _=>am c6) (some s) (fun _=>none) b) (fun i=>Option.rec (motive:=fun _=>am c6) none (fun j=>yg i j s) b) a) none
 |.func f xs us,w,s=>yX w (fun g av vs=>Nu f g (bm (Au xs av s) (fun s=>Au us vs s) none)) none
 |.nilFunc,w,s=>X6 w s
 |.nilIface,w,s=>X7 w s
 |.iface t v,w,s=>s4 w (fun u y=>cond (Nat.beq t u) (jM v y s) none) none
 |.agg xs,w,s=>rR w (fun av=>Au xs av s) none
 |.tuple xs,w,s=>qD w (fun av=>Au xs av s) none
 |.chan c,w,s=>X1 c w s
 |_,_,_=>none
def Au:ap be->ap be->c6->am c6
 |⟨xs⟩,av,s=>yf xs av.toList s
def yf:ac be->ac be->c6->am c6
 |[],av,s=>List.rec (motive:=fun _=>am c6) (some s) (fun _ _ _=>none) av
 |x::xs,av,s=>List.rec (motive:=fun _=>am c6) none (fun y iZ _=>bm (jM x y s) (fun bz=>yf xs iZ bz) none) av
end
def nt{b:Bool}{o:am c6}{s:c6}(h:cond b o none=some s):b=true∧o=some s:=by
 cases b
 ·cases h
 ·exact⟨rfl,h⟩
def sF{α:Type}{o:am α}{k:α->am c6}{s:c6}(h:bm o k none=some s):∃a,o=some a∧k a=some s:=fp h (by simp)
mutual
theorem HT:∀(v w:be) (s bz:c6),s.cX->jM v w s=some bz->bz.cX∧s.le bz∧fB bz.R v w
 |.bool a,w,s,bz,ai,h=>by
  rw[jM]at h;obtain⟨b,rfl,h⟩:=PM h (by simp);obtain⟨J,U⟩:=nt h;cases U;rw[Ra J];exact⟨ai,.refl s,.bool _⟩
 |.int k a,w,s,bz,ai,h=>by
  rw[jM]at h;obtain⟨k',b,rfl,h⟩:=iW h (by simp);obtain⟨J,h⟩:=nt h;obtain⟨U,h⟩:=nt h;cases h;rw[CC]at U;rw[sv J,zcs U];exact⟨ai,.refl s,.int _ _⟩
 |.float k n,w,s,bz,ai,h=>by rw[jM]at h<;>first|cases h|simp
 |.complex k n m,w,s,bz,ai,h=>by rw[jM]at h<;>first|cases h|simp
 |.string a,w,s,bz,ai,h=>by
  rw[jM]at h;obtain⟨b,rfl,h⟩:=oF h (by simp);obtain⟨J,U⟩:=nt h;cases U;have J:(a.data.toList==b.data.toList)=true:=J;have e:=zcs J;have:a=b:=by cases a;cases b;simp only at e;rw[Array.toList_inj.1 e]
  rw[this];exact⟨ai,.refl s,.string _⟩
 |.pointer a,w,s,bz,ai,h=>by
  rw[jM]at h;obtain⟨b,rfl,h⟩:=pE h (by simp);rcases X0 h with⟨rfl,rfl,rfl⟩|⟨p,q,rfl,rfl,J,U,af,ax⟩
  ·exact⟨ai,.refl _,.nQ⟩
  ·obtain⟨aM,aN,bf⟩:=Nv ai ax;exact⟨aM,aN,.ptr p q bf J U af⟩
 |.slice a n c,w,s,bz,ai,h=>by
  rw[jM]at h;obtain⟨b,cc,b6,rfl,h⟩:=uU h (by simp);obtain⟨aw,h⟩:=nt h;obtain⟨e2,h⟩:=nt h;rw[eL aw,eL e2];rcases X0 h with⟨rfl,rfl,rfl⟩|⟨p,q,rfl,rfl,J,U,af,ax⟩
  ·exact⟨ai,.refl _,.nU _ _⟩
  ·obtain⟨aM,aN,bf⟩:=Nv ai ax;exact⟨aM,aN,.gx p q _ _ bf J U af⟩
 |.map a,w,s,bz,ai,h=>by
  rw[jM]at h;have:∃b,w= .map b∧Option.rec (motive:=fun _=>am c6) (Option.rec (motive:=fun _=>am c6) (some s) (fun _=>none) b) (fun i=>Option.rec (motive:=fun _=>am c6) none (fun j=>yg i j s) b) a=some bz:=by
   cases w<;>first|cases h|exact⟨_,rfl,h⟩
  obtain⟨b,rfl,h⟩:=this;cases a with
  |none=>
   cases b with
   |none=>cases h;exact⟨ai,.refl _,.ql⟩
   |some j=>cases h
  |some i=>
   cases b with
   |none=>cases h
   |some j=>
    obtain⟨aM,aN,bf⟩:=Nv ai h;exact⟨aM,aN,.map i j bf⟩
 |.func f xs us,w,s,bz,ai,h=>by
  rw[jM]at h;obtain⟨g,av,vs,rfl,h⟩:=PN h (by simp);obtain⟨a,rfl,rfl,af⟩:=anL h;obtain⟨s1,J,U⟩:=sF af;obtain⟨gU,gV,kV⟩:=HQ xs av s s1 ai J;obtain⟨cP,cT,ek⟩:=HQ us vs s1 bz gU U;exact⟨cP,gV.trans cT,.Sv (kV.mono cT) ek⟩
 |.nilFunc,w,s,bz,ai,h=>by
  rw[jM]at h;unfold X6 at h;split at h
  ·cases h;exact⟨ai,.refl _,.nilFunc⟩
  ·cases h
 |.nilIface,w,s,bz,ai,h=>by
  rw[jM]at h;unfold X7 at h;split at h
  ·cases h;exact⟨ai,.refl _,.nilIface⟩
  ·cases h
 |.iface t v,w,s,bz,ai,h=>by
  rw[jM]at h;obtain⟨u,y,rfl,h⟩:=E1 h (by simp);obtain⟨aw,h⟩:=nt h;obtain⟨gU,gV,kV⟩:=HT v y s bz ai h;rw[eL aw];exact⟨gU,gV,.iface _ _ _ kV⟩
 |.agg xs,w,s,bz,ai,h=>by
  rw[jM]at h;obtain⟨av,rfl,h⟩:=BF h (by simp);obtain⟨gU,gV,kV⟩:=HQ xs av s bz ai h;exact⟨gU,gV,.Qo kV⟩
 |.tuple xs,w,s,bz,ai,h=>by
  rw[jM]at h;obtain⟨av,rfl,h⟩:=acw h (by simp);obtain⟨gU,gV,kV⟩:=HQ xs av s bz ai h;exact⟨gU,gV,.tuple' kV⟩
 |.chan c,w,s,bz,ai,h=>by
  rw[jM]at h;unfold X1 at h;split at h
  ·obtain⟨aw,h⟩:=nt h;cases h;rw[eL aw];exact⟨ai,.refl _,.chan _⟩
  ·cases h
theorem HQ:∀(xs av:ap be) (s bz:c6),s.cX->Au xs av s=some bz->bz.cX∧s.le bz∧j0 bz.R xs.toList av.toList
 |⟨xs⟩,av,s,bz,ai,h=>by rw[Au]at h;exact HS xs av.toList s bz ai h
theorem HS:∀(xs av:ac be) (s bz:c6),s.cX->yf xs av s=some bz->bz.cX∧s.le bz∧j0 bz.R xs av
 |[],av,s,bz,ai,h=>by
  rw[yf]at h;cases av with
  |nil=>cases h;exact⟨ai,.refl _,.nil _⟩
  |cons y av=>cases h
 |x::xs,av,s,bz,ai,h=>by
  rw[yf]at h;cases av with
  |nil=>cases h
  |cons y av=>
   obtain⟨s1,J,U⟩:=sF (o:=jM x y s) h;obtain⟨gU,gV,kV⟩:=HT x y s s1 ai J;obtain⟨cP,cT,ek⟩:=HS xs av s1 bz gU U;exact⟨cP,gV.trans cT,.cons (kV.mono cT) ek⟩
end
def Nt(es:ac d8):ac d8->c6->am c6:=
 List.rec (motive:=fun _=>ac d8->c6->am c6) (fun bG s=>List.rec (motive:=fun _=>am c6) (some s) (fun _ _ _=>none) bG)
  (fun e _ a8 bG s=>List.rec (motive:=fun _=>am c6) none
   (fun f ag5 _=>cond (Nat.beq e.born f.born) (cond (dC e.key f.key) (bm (jM e.key f.key s) (fun s=>bm (jM e.val f.val s) (fun s=>a8 ag5 s) none) none) none) none) bG) es
theorem X2:∀(es bG:ac d8) (s bz:c6),s.cX->Nt es bG s=some bz->bz.cX∧s.le bz∧iG (oI bz.R) es bG
 |[],[],s,bz,ai,h=>by cases h;exact⟨ai,.refl _,.nil⟩
 |[],_::_,s,bz,ai,h=>by cases h
 |_::_,[],s,bz,ai,h=>by cases h
 |e::es,f::bG,s,bz,ai,h=>by
  have h:cond (Nat.beq e.born f.born) (cond (dC e.key f.key) (bm (jM e.key f.key s) (fun s=>bm (jM e.val f.val s) (fun s=>Nt es bG s) none) none) none) none=some bz:=h;obtain⟨aw,h⟩:=nt h;obtain⟨e2,h⟩:=nt h;obtain⟨s1,J,h⟩:=sF h;obtain⟨s2,U,h⟩:=sF h;obtain⟨gU,gV,kV⟩:=HT _ _ _ _ ai J;obtain⟨cP,cT,ek⟩:=HT _ _ _ _ gU U;obtain⟨oB,oC,nT⟩:=X2 es bG s2 bz cP h;exact⟨oB,(gV.trans cT).trans oC,.cons ⟨ng _ _ e2,kV.mono (cT.trans oC),ek.mono oC,eL aw⟩ nT⟩
def ui(o p:bH)(s:c6):am c6:=
 match o,p with
 |.cells cs e bd a3,.cells ds cy eP CQ=>cond (Nat.beq e cy) (cond (Nat.beq bd.1 eP.1) (cond (Nat.beq bd.2 eP.2) (cond (KX a3 CQ) (yf cs ds s) none) none) none) none
 |.map es c,.map bG b6=>cond (Nat.beq c b6) (Nt es bG s) none
 |_,_=>none
def X8{o p:bH}{s bz:c6}(ai:s.cX)(h:ui o p s=some bz):bz.cX∧s.le bz∧kl bz.R o p:=by
 unfold ui at h;split at h
 ·rename_i cs e bd a3 ds cy eP CQ;obtain⟨aw,h⟩:=nt h;obtain⟨e2,h⟩:=nt h;obtain⟨bW,h⟩:=nt h;obtain⟨e6,h⟩:=nt h;obtain⟨gU,gV,kV⟩:=HS _ _ _ _ ai h;have:bd=eP:=Prod.ext (eL e2) (eL bW);subst this;rw[eL aw,Ra e6];exact⟨gU,gV,.cells _ _ _ _ _ kV⟩
 ·obtain⟨aw,h⟩:=nt h;obtain⟨gU,gV,kV⟩:=X2 _ _ _ _ ai h;rw[eL aw];exact⟨gU,gV,.map _ _ _ kV⟩
 ·cases h
def HR(h:ar bH)(os:ac bH):Nat->c6->am c6:=
 List.rec (motive:=fun _=>Nat->c6->am c6) (fun _ s=>some s)
  (fun o _ a8 i s=>bm (s.cL.get i) (fun j=>bm (h.get j) (fun p=>bm (ui o p s) (fun s=>fX (Nat.succ i) fun ig=>a8 ig s) none) none) none) os
theorem X3{H:ar bH}:∀(os:ac bH) (i:Nat) (s bz:c6),s.cX->HR H os i s=some bz->
 bz.cX∧s.le bz∧∀k (ab:k<os.length),∃j p,bz.R (i+k) j∧H.get j=some p∧kl bz.R os[k] p
 |[],i,s,bz,ai,h=>by cases h;exact⟨ai,.refl _,fun k ab=>by simp at ab⟩
 |o::os,i,s,bz,ai,h=>by
  have h:bm (s.cL.get i) (fun j=>bm (H.get j) (fun p=>bm (ui o p s) (fun s=>fX (Nat.succ i) fun ig=>HR H os ig s) none) none) none=some bz:=h;obtain⟨j,J,h⟩:=sF h;obtain⟨p,U,h⟩:=sF h;obtain⟨s1,af,h⟩:=sF h;unfold fX at h;rw[zaP]at h;have h:HR H os (i+1) s1=some bz:=h;obtain⟨gU,gV,kV⟩:=X8 ai af;obtain⟨cP,cT,ek⟩:=X3 os (i+1) s1 bz gU h;refine⟨cP,gV.trans cT,fun k ab=> ?_⟩;cases k with
  |zero=>exact⟨j,p,(gV.trans cT) _ _ J,U,kV.mono cT⟩
  |succ k=>
   obtain⟨M5,dA,aM,aN,bf⟩:=ek k (by simpa using ab);exact⟨M5,dA,by rw[show i+(k+1)=i+1+k by omega];exact aM,aN,by simpa using bf⟩
def kW(cL:ar Nat)(fj dF i:Nat):Nat:=bm (cL.get i) (fun j=>j) (Nat.add dF (Nat.sub i fj))
section
variable(cL:ar Nat)(fj dF:Nat)
def OY{β:Type}(a:am Addr)(k:am Addr->am β):am β:=
 Option.rec (motive:=fun _=>am β) (k none) (fun a=>Option.rec (motive:=fun _=>am β) (fX (kW cL fj dF a.block) fun b=>k (some ⟨b,a.off,none⟩)) (fun _=>none) a.spot) a
mutual
def jg:be->am be
 |.pointer a=>OY cL fj dF a fun b=>some (.pointer b)
 |.slice a n c=>OY cL fj dF a fun b=>some (.slice b n c)
 |.map a=>Option.rec (motive:=fun _=>am be) (some (.map none)) (fun i=>fX (kW cL fj dF i) fun j=>some (.map (some j))) a
 |.func f xs us=>aas f fun g=>bm (Be xs) (fun av=>bm (Be us) (fun vs=>some (.func (.func g) ⟨av⟩ ⟨vs⟩)) none) none
 |.iface t v=>bm (jg v) (fun w=>some (.iface t w)) none
 |.agg xs=>bm (Be xs) (fun av=>some (.agg ⟨av⟩)) none
 |.tuple xs=>bm (Be xs) (fun av=>some (.tuple ⟨av⟩)) none
 |.bool b=>some (.bool b)
 |.int k n=>some (.int k n)
 |.string s=>some (.string s)
 |.nilFunc=>some .nilFunc
 |.nilIface=>some .nilIface
 |.chan c=>aaq c
 |_=>none
def Be:ap be->am (ac be)
 |⟨xs⟩=>Bf xs
def Bf:ac be->am (ac be)
 |[]=>some []
 |x::xs=>bm (jg x) (fun y=>bm (Bf xs) (fun av=>some (y::av)) none) none
end
variable{β:Type}
def eJ{α:Type}{o:am α}{k:α->am β}{b:β}(h:bm o k none=some b):∃a,o=some a∧k a=some b:=fp h (by simp)
def aap{a:am Addr}{k:am Addr->am β}{b:β}(h:OY cL fj dF a k=some b):
 (a=none∧k none=some b)∨∃p,a=some p∧p.spot=none∧k (some ⟨kW cL fj dF p.block,p.off,none⟩)=some b:=by
 cases a with
 |none=>exact .inl ⟨rfl,h⟩
 |some p=>
  obtain⟨Oh,yz,ps⟩:=p;cases ps with
  |some x=>cases h
  |none=>
   have h:fX (kW cL fj dF Oh) (fun b=>k (some ⟨b,yz,none⟩))=some b:=h;unfold fX at h;rw[zaP]at h;exact .inr ⟨_,rfl,rfl,h⟩
mutual
theorem Ey:∀(v w:be),jg cL fj dF v=some w->fB (fun i j=>j=kW cL fj dF i) v w
 |.bool b,w,h=>by rw[jg]at h;cases h;exact .bool b
 |.int k n,w,h=>by rw[jg]at h;cases h;exact .int k n
 |.float k n,w,h=>by rw[jg]at h<;>first|cases h|simp
 |.complex k n m,w,h=>by rw[jg]at h<;>first|cases h|simp
 |.string s,w,h=>by rw[jg]at h;cases h;exact .string s
 |.pointer a,w,h=>by
  rw[jg]at h;rcases aap cL fj dF h with⟨rfl,h⟩|⟨p,rfl,ai,h⟩
  ·cases h;exact .nQ
  ·cases h;exact .ptr _ _ rfl rfl ai rfl
 |.slice a n c,w,h=>by
  rw[jg]at h;rcases aap cL fj dF h with⟨rfl,h⟩|⟨p,rfl,ai,h⟩
  ·cases h;exact .nU _ _
  ·cases h;exact .gx _ _ _ _ rfl rfl ai rfl
 |.map a,w,h=>by
  rw[jg]at h;cases a with
  |none=>cases h;exact .ql
  |some i=>
   have h:fX (kW cL fj dF i) (fun j=>some (Value.map (some j)))=some w:=h;unfold fX at h;rw[zaP]at h;cases h;exact .map _ _ rfl
 |.func f xs us,w,h=>by
  rw[jg]at h;unfold aas at h;split at h
  ·obtain⟨av,J,h⟩:=eJ h;obtain⟨vs,U,h⟩:=eJ h;cases h;exact .Sv (Ji xs av J) (Ji us vs U)
  ·cases h
 |.nilFunc,w,h=>by rw[jg]at h;cases h;exact .nilFunc
 |.nilIface,w,h=>by rw[jg]at h;cases h;exact .nilIface
 |.iface t v,w,h=>by
  rw[jg]at h;obtain⟨y,J,h⟩:=eJ h;cases h;exact .iface _ _ _ (Ey v y J)
 |.agg xs,w,h=>by
  rw[jg]at h;obtain⟨av,J,h⟩:=eJ h;cases h;exact .Qo (Ji xs av J)
 |.tuple xs,w,h=>by
  rw[jg]at h;obtain⟨av,J,h⟩:=eJ h;cases h;exact .tuple' (Ji xs av J)
 |.chan c,w,h=>by
  rw[jg]at h;unfold aaq at h;split at h
  ·cases h;exact .chan _
  ·cases h
theorem Ji:∀(xs:ap be) (av:ac be),Be cL fj dF xs=some av->j0 (fun i j=>j=kW cL fj dF i) xs.toList av
 |⟨xs⟩,av,h=>by rw[Be]at h;exact O0 xs av h
theorem O0:∀(xs av:ac be),Bf cL fj dF xs=some av->j0 (fun i j=>j=kW cL fj dF i) xs av
 |[],av,h=>by rw[Bf]at h;cases h;exact .nil _
 |x::xs,av,h=>by
  rw[Bf]at h;obtain⟨y,J,h⟩:=eJ h;obtain⟨im,U,h⟩:=eJ h;cases h;exact .cons (Ey x y J) (O0 xs im U)
end
def OZ(es:ac d8):am (ac d8):=
 List.rec (motive:=fun _=>am (ac d8)) (some [])
  (fun e _ r=>bm (jg cL fj dF e.key) (fun k=>cond (dC e.key k) (bm (jg cL fj dF e.val) (fun v=>bm r (fun es=>some (⟨k,v,e.born⟩::es)) none) none) none) none) es
theorem aar:∀(es bG:ac d8),OZ cL fj dF es=some bG->iG (oI (fun i j=>j=kW cL fj dF i)) es bG
 |[],bG,h=>by cases h;exact .nil
 |e::es,bG,h=>by
  have h:bm (jg cL fj dF e.key) (fun k=>cond (dC e.key k) (bm (jg cL fj dF e.val) (fun v=>bm (OZ cL fj dF es) (fun es=>some (⟨k,v,e.born⟩::es)) none) none) none) none=some bG:=h;obtain⟨k,J,h⟩:=eJ h;cases ab:dC e.key k with
  |false=>rw[ab]at h;cases h
  |true=>
   rw[ab]at h;obtain⟨v,U,h⟩:=eJ (o:=jg cL fj dF e.val) h;obtain⟨gs,af,h⟩:=eJ h;cases h;exact .cons ⟨ng _ _ ab,Ey _ _ _ _ _ J,Ey _ _ _ _ _ U,rfl⟩ (aar es gs af)
def Bg(o:bH):am bH:=
 match o with
 |.cells cs e bd a3=>bm (Bf cL fj dF cs) (fun ds=>some (.cells ds e bd a3)) none
 |.map es c=>bm (OZ cL fj dF es) (fun bG=>some (.map bG c)) none
 |.dead=>some .dead
 |_=>none
def apR{o p:bH}(h:Bg cL fj dF o=some p):(o= .dead∧p= .dead)∨kl (fun i j=>j=kW cL fj dF i) o p:=by
 unfold Bg at h;split at h
 ·obtain⟨ds,J,h⟩:=eJ h;cases h;exact .inr (.cells _ _ _ _ _ (O0 _ _ _ _ _ J))
 ·obtain⟨bG,J,h⟩:=eJ h;cases h;exact .inr (.map _ _ _ (aar _ _ _ _ _ J))
 ·cases h;exact .inl ⟨rfl,rfl⟩
 ·cases h
def Ex(aD:Nat)(us:ac (Nat×bH)):ar bH->am (ar bH):=
 List.rec (motive:=fun _=>ar bH->am (ar bH)) (fun h=>some h)
  (fun u _ a8 h=>cond (Nat.ble aD u.1) (fX (kW cL fj dF u.1) fun j=>bm (Bg cL fj dF u.2) (fun p=>ar.fin (ar.ke (Nat.succ j) h j p) a8) none) none) us
end
def kh(us:ac (Nat×bH)):ar bH->ar bH:=
 List.rec (motive:=fun _=>ar bH->ar bH) (fun h=>h) (fun u _ a8 h=>ar.fin (ar.ke (Nat.succ u.1) h u.1 u.2) a8) us
def AS(os:ac bH):Nat->ar bH->ar bH:=
 List.rec (motive:=fun _=>Nat->ar bH->ar bH) (fun _ h=>h) (fun o _ a8 i h=>fX (Nat.succ i) fun ig=>ar.fin (ar.ke ig h i o) fun aB=>a8 ig aB) os
def ye(h:ar bH)(os:ac (Nat×bH)):c6->am c6:=
 List.rec (motive:=fun _=>c6->am c6) (fun s=>some s)
  (fun o _ a8 s=>bm (s.cL.get o.1) (fun j=>bm (h.get j) (fun p=>bm (ui o.2 p s) a8 none) none) none) os
theorem X4{H:ar bH}:∀(os:ac (Nat×bH)) (s bz:c6),s.cX->ye H os s=some bz->
 bz.cX∧s.le bz∧∀o∈os,∃j p,bz.R o.1 j∧H.get j=some p∧kl bz.R o.2 p
 |[],s,bz,ai,h=>by cases h;exact⟨ai,.refl _,fun o ao=>by cases ao⟩
 |o::os,s,bz,ai,h=>by
  have h:bm (s.cL.get o.1) (fun j=>bm (H.get j) (fun p=>bm (ui o.2 p s) (ye H os) none) none) none=some bz:=h;obtain⟨j,J,h⟩:=sF h;obtain⟨p,U,h⟩:=sF h;obtain⟨s1,af,h⟩:=sF h;obtain⟨gU,gV,kV⟩:=X8 ai af;obtain⟨cP,cT,ek⟩:=X4 os s1 bz gU h;refine⟨cP,gV.trans cT,fun br jK=> ?_⟩;rcases zar.1 jK with rfl|jK
  ·exact⟨j,p,(gV.trans cT) _ _ J,U,kV.mono cT⟩
  ·exact ek br jK
theorem NS:∀(os:ac bH) (i:Nat) (h:ar bH) (k:Nat),(AS os i h).get k=if i<=k∧k<i+os.length then os[k-i]? else h.get k
 |[],i,h,k=>by rw[zaa (by simp)];rfl
 |o::os,i,h,k=>by
  have e:AS (o::os) i h=AS os (i+1) (h.set i o):=by
   show fX (Nat.succ i) (fun ig=>ar.fin (ar.ke ig h i o) fun aB=>AS os ig aB)=_;unfold fX;rw[zaP];show ar.fin (ar.ke (Nat.succ i) h i o) (fun aB=>AS os (i+1) aB)=_;rw[ar.qY,ar.wv]
  rw[e,NS os (i+1) _ k,ar.eo];by_cases ab:k=i
  ·subst ab;rw[zaa (by omega),zab rfl,zab (by simp)];simp
  ·rw[zaa ab];by_cases J:i+1<=k∧k<i+1+os.length
   ·rw[zab J,zab (by simp;omega)];have:k-i=(k-(i+1))+1:=by omega
    rw[this];simp
   ·rw[zaa J,zaa (by simp;omega)]
def JW(u:Nat×bH)(us:ac (Nat×bH))(h:ar bH):kh (u::us) h=kh us (h.set u.1 u.2):=by
 show ar.fin (ar.ke (Nat.succ u.1) h u.1 u.2) (kh us)=_;rw[ar.qY,ar.wv]
theorem BE:∀(us:ac (Nat×bH)) (h:ar bH) (k:Nat) (o:bH),(kh us h).get k=some o->(k,o)∈us∨h.get k=some o
 |[],_,_,_,e=>.inr e
 |u::us,h,k,o,e=>by
  rw[JW]at e;rcases BE us _ k o e with hm|hm
  ·exact .inl (zaM _ hm)
  ·rw[ar.eo]at hm;by_cases ab:k=u.1
   ·rw[zab ab]at hm;cases hm;subst ab;exact .inl (by simp)
   ·rw[zaa ab]at hm;exact .inr hm
structure dS where
 as:ac be
 gs:ac (Nat×bH)
 pY:ac bH
 v:be
 gL:ac (Nat×bH)
 aP:Nat
def dS.c2(r:dS)(aD:Nat):ar bH:=AS r.pY aD (kh r.gs .nil)
def dS.row(r:dS)(aD:Nat):Row:=⟨r.as,⟨r.c2 aD,Nat.add aD (dk r.pY)⟩,r.v,⟨kh r.gL (r.c2 aD),r.aP⟩⟩
def dS.app(aH:c6)(r:dS)(as:ac be)(st:ay):am dM:=
 bm (yf r.as as aH) (fun s=>bm (ye st.h r.gs s) (fun s=>bm (HR st.h r.pY aH.bn s) (fun s=>cond (Nat.beq s.bn (Nat.add aH.bn (dk r.pY))) (cond (Nat.ble s.bn r.aP)
  (bm (jg s.cL s.bn st.al r.v) (fun v=>bm (Ex s.cL s.bn st.al aH.bn r.gL st.h) (fun h=>fX (Nat.add st.al (Nat.sub r.aP s.bn)) fun n=>some (.ret v ⟨h,n⟩ false)) none) none) none) none) none) none) none
structure Kh(n1:Nat->Nat)(H:ar bH)(al aD:Nat)(h0 hr hc:ar bH):Prop where
 obj:∀j o,hc.get j=some o->o≠.dead->(∃i p,j=n1 i∧hr.get i=some p∧kl (fun i j=>j=n1 i) p o)∨((∀i,hr.get i≠none->n1 i≠j)∧H.get j=some o)
 lx:∀j,hc.get j≠none->j<al∨∃i,j=n1 i∧hr.get i≠none
 pY:∀i,h0.get i≠none->hr.get i≠none
 V1:∀i,i<aD->hr.get i≠none->h0.get i≠none
theorem aat{cL:ar Nat}{fj dF:Nat}{H:ar bH}{al aD:Nat}{h0:ar bH}:∀(us:ac (Nat×bH)) (hr hc mW:ar bH),Kh (kW cL fj dF) H al aD h0 hr hc->
 Ex cL fj dF aD us hc=some mW->Kh (kW cL fj dF) H al aD h0 (kh us hr) mW
 |[],hr,hc,mW,oh,h=>by cases h;exact oh
 |u::us,hr,hc,mW,oh,h=>by
  have h:cond (Nat.ble aD u.1) (fX (kW cL fj dF u.1) (fun j=>bm (Bg cL fj dF u.2) (fun p=>ar.fin (ar.ke (Nat.succ j) hc j p) (Ex cL fj dF aD us)) none)) none=some mW:=h;cases hu:Nat.ble aD u.1 with
  |false=>rw[hu]at h;cases h
  |true=>
  rw[hu]at h;have hu:=jw hu;have h:fX (kW cL fj dF u.1) (fun j=>bm (Bg cL fj dF u.2) (fun p=>ar.fin (ar.ke (Nat.succ j) hc j p) (Ex cL fj dF aD us)) none)=some mW:=h;unfold fX at h;rw[zaP]at h;obtain⟨p,J,h⟩:=eJ (o:=Bg cL fj dF u.2) h;rw[ar.qY,ar.wv]at h;rw[JW];refine aat us _ _ _ ⟨fun j o hj aq=> ?_,fun j hj=> ?_,fun i hi=> ?_,fun i hi hh=> ?_⟩ h
  ·rw[ar.eo]at hj;by_cases jm:j=kW cL fj dF u.1
   ·rw[zab jm]at hj;cases hj;rcases apR _ _ _ J with⟨_,g6⟩|alC
    ·exact absurd g6 aq
    ·exact .inl ⟨u.1,u.2,jm,by rw[ar.q0],alC⟩
   ·rw[zaa jm]at hj;rcases oh.obj j o hj aq with⟨i,q,aw,e2,bW⟩|⟨aw,e2⟩
    ·refine .inl ⟨i,q,aw,?_,bW⟩;rw[ar.eo,zaa]
     ·exact e2
     ·intro e;subst e;exact jm aw
    ·refine .inr ⟨fun i hi ai=> ?_,e2⟩;rw[ar.eo]at hi;by_cases nw:i=u.1
     ·subst nw;exact jm ai.symm
     ·rw[zaa nw]at hi;exact aw i hi ai
  ·rw[ar.eo]at hj;by_cases jm:j=kW cL fj dF u.1
   ·exact .inr ⟨u.1,jm,by rw[ar.q0];simp⟩
   ·rw[zaa jm]at hj;rcases oh.lx j hj with a4|⟨i,aw,e2⟩
    ·exact .inl a4
    ·refine .inr ⟨i,aw,?_⟩;rw[ar.eo];split
     ·simp
     ·exact e2
  ·rw[ar.eo];split
   ·simp
   ·exact oh.pY i hi
  ·rw[ar.eo,zaa (by omega)]at hh;exact oh.V1 i hi hh
variable{X:Ctx}
def Qx{f:ci}{r:dS}(hr:fT X f (r.row X.aD)){aH:c6}(sk:aH.cX)(oj:aH.bn=X.aD)(aO:∀g,g<X.aD->aH.cL.get g=some g){as:ac be}{st:ay}{fr:dM}(h:r.app aH as st=some fr)
 (ι:bC) (as':ac be) (w:co) (aY:bM ι as as') (hw:bx X ι st w):
 (∀as w,(callFunc f as).run X.P w= .ok (.enter f as) w)∧
 ∀(K:CallKind) (bA:Bool->ac Frame),kF ⟨f,K,none⟩ none ι bA->jz X ι w ⟨f,K,none⟩ bA (lone (Frame.enter X.P f as'.toArray K) (bA false) w) fr:=by
 unfold dS.app at h;obtain⟨s1,J,h⟩:=eJ h;obtain⟨s2,ajZ,h⟩:=eJ h;obtain⟨s,U,h⟩:=eJ h;obtain⟨fC,gO,nn⟩:=HS _ _ _ _ sk J;obtain⟨d1,d2,d3⟩:=X4 _ _ _ fC ajZ;obtain⟨cD,db,hV⟩:=X3 _ _ _ _ d1 U;rw[oj]at h hV;cases hc:Nat.beq s.bn (Nat.add X.aD (dk r.pY))with
 |false=>rw[hc]at h;cases h
 |true=>
 cases mg:Nat.ble s.bn r.aP with
 |false=>rw[hc,mg]at h;cases h
 |true=>
 rw[hc,mg]at h;have C1:s.bn=X.aD+r.pY.length:=by rw[<-fo];exact eL hc
 have auS:s.bn<=r.aP:=jw mg;obtain⟨v,af,h⟩:=eJ (o:=jg s.cL s.bn st.al r.v) h;obtain⟨hp,ax,h⟩:=eJ (o:=Ex s.cL s.bn st.al X.aD r.gL st.h) h;unfold fX at h;rw[zaP]at h;have h:some (dM.ret v ⟨hp,st.al+(r.aP-s.bn)⟩ false)=some fr:=h;cases h;have C4:∀g,g<X.aD->s.cL.get g=some g:=fun g hgn=>db _ _ (d2 _ _ (gO _ _ (aO g hgn)));have a4:∀j l,ι j=some l->j<st.al:=by
  intro j l e;rcases zao j st.al with a4|lD
  ·exact a4
  ·rw[(hw.fresh j lD).1]at e;cases e
 have vC:∀i o,(r.c2 X.aD).get i=some o->∃j p,s.cL.get i=some j∧st.h.get j=some p∧kl s.R o p:=by
  intro i o ao;unfold dS.c2 at ao;rw[NS]at ao;split at ao
  ·rename_i hi;obtain⟨tO,rfl⟩:=zah.1 ao;obtain⟨j,p,aw,e2,bW⟩:=hV (i-X.aD) tO;rw[show X.aD+(i-X.aD)=i by omega]at aw;exact⟨j,p,aw,e2,bW⟩
  ·rcases BE _ _ _ _ ao with hm|hm
   ·obtain⟨j,p,aw,e2,bW⟩:=d3 _ hm;exact⟨j,p,db _ _ aw,e2,bW.mono db⟩
   ·simp at hm
 have Mb:∀i,X.aD<=i->i<s.bn->∃o,(r.c2 X.aD).get i=some o:=by
  intro i hi Me;unfold dS.c2;rw[NS,zab (by omega),bV (by omega)];exact⟨_,rfl⟩
 have WY:∀i,i<s.bn->∃j l,s.cL.get i=some j∧ι j=some l:=by
  intro i hi;rcases zao i X.aD with hn|hn
  ·exact⟨i,_,C4 i hn,hw.me i hn⟩
  ·obtain⟨o,ao⟩:=Mb i hn hi;obtain⟨j,p,aw,e2,bW⟩:=vC i o ao;obtain⟨l,e6,_⟩:=hw.eD j p e2 bW.live.2;exact⟨j,l,aw,e6⟩
 have auR:X.aD<=s.bn:=by omega
 let fz:bC:=fun i=>match s.cL.get i with|some j=>ι j|none=>none
 have x4:∀i j,s.cL.get i=some j->fz i=ι j:=by
  intro i j e;show(match s.cL.get i with|some j=>ι j|none=>none)=_;rw[e]
 have x5:∀i l,fz i=some l->∃j,s.cL.get i=some j∧ι j=some l:=by
  intro i l e;have e:(match s.cL.get i with|some j=>ι j|none=>none)=some l:=e;split at e
  ·rename_i j hj;exact⟨j,hj,e⟩
  ·cases e
 have xE:∀j i l,(fun j i=>s.R i j) j i->ι j=some l->fz i=some l:=fun j i l dm hl=>by rw[x4 i j dm];exact hl
 have akf:bx X fz (r.row X.aD).st w:=by
  refine⟨fun i o ao aq=> ?_,fun i j o p l m hi hB hj hN gS h2 aO e=> ?_,fun i hi=> ?_,fun i l hl=> ?_,fun g hgn=> ?_,?_,fun i l o hl ai ao aq=> ?_⟩
  ·obtain⟨j,p,aw,e2,bW⟩:=vC i o ao;obtain⟨l,e6,ma⟩:=hw.eD j p e2 bW.live.2;exact⟨l,by rw[x4 i j aw];exact e6,bW.symm.YR xE ma⟩
  ·obtain⟨i2,gU,aw,e2,bW⟩:=vC i o hi;obtain⟨h4,gV,aM,aN,bf⟩:=vC j p hj;rw[x4 i i2 aw]at gS;rw[x4 j h4 aM]at h2;have:=hw.inj i2 h4 gU gV l m e2 bW.live.2 aN bf.live.2 gS h2 aO e;subst this;have cP:=(cD.iff _ _).1 aw;have cT:=(cD.iff _ _).1 aM;rw[cP]at cT;exact Option.some.inj cT
  ·have hi:X.aD+dk r.pY<=i:=hi;rw[fo,<-C1]at hi;refine⟨?_,?_⟩
   ·cases e:fz i with
    |none=>rfl
    |some l=>
     obtain⟨j,hj,_⟩:=x5 i l e;have:=cD.lx _ _ hj;omega
   ·cases e:(r.row X.aD).st.h.get i with
    |none=>rfl
    |some o=>
     obtain⟨j,_,aw,_⟩:=vC i o e;have:=cD.lx _ _ aw;omega
  ·obtain⟨j,_,cn⟩:=x5 i l hl;exact hw.gP j l cn
  ·rw[x4 g g (C4 g hgn)];exact hw.me g hgn
  ·exact zcA _ _
  ·obtain⟨j,p,aw,e2,bW⟩:=vC i o ao;rw[x4 i j aw]at hl;exact bW.vv.2 (hw.my j l p hl ai e2 bW.live.2)
 have GI:bM fz r.as as':=((nn.mono d2).mono db).symm.atm xE aY;obtain⟨cP,cT⟩:=hr fz as' w GI akf;refine⟨cP,fun K bA q9=> ?_⟩;obtain⟨kj,v',w',F,a5,bD,dt,ud,HG,am0,am1⟩:=cT K bA q9;have bD:bx X kj ⟨kh r.gL (r.c2 X.aD),r.aP⟩ w':=bD
 let n1:Nat->Nat:=kW s.cL s.bn st.al
 have An:∀i j,s.cL.get i=some j->n1 i=j:=by
  intro i j e;show bm (s.cL.get i) (fun j=>j) _=j;rw[e];rfl
 have Xb:∀i,s.bn<=i->n1 i=st.al+(i-s.bn):=by
  intro i hi;show bm (s.cL.get i) (fun j=>j) _=_;cases e:s.cL.get i with
  |none=>rfl
  |some j=>have:=cD.lx _ _ e;omega
 let aU:bC:=fun j=>if j<st.al then ι j else kj (s.bn+(j-st.al))
 have Hv:∀j,j<st.al->aU j=ι j:=fun j hj=>zab hj;have Hw:∀j,st.al<=j->aU j=kj (s.bn+(j-st.al)):=fun j hj=>zaa (by omega);have hle:ι.le aU:=fun j l e=>by rw[Hv j (a4 j l e)];exact e
 have xC:∀i j l,(fun i j=>j=n1 i) i j->kj i=some l->aU j=some l:=by
  intro i j l e hl;have e:j=n1 i:=e;subst e;rcases zao i s.bn with hi|hi
  ·obtain⟨j,kd,aw,e6⟩:=WY i hi;have:=dt.le i kd (by rw[x4 i j aw];exact e6);rw[hl]at this;cases this;rw[An i j aw,Hv j (a4 j _ e6)];exact e6
  ·rw[Xb i hi,Hw _ (by omega),show s.bn+(st.al+(i-s.bn)-st.al)=i by omega];exact hl
 have aj9:Kh n1 st.h st.al X.aD (r.c2 X.aD) (r.c2 X.aD) st.h:=by
  refine⟨fun j o hj aq=> ?_,fun j hj=> ?_,fun i hi=>hi,fun i _ hi=>hi⟩
  ·by_cases hex:∃i,(r.c2 X.aD).get i≠none∧n1 i=j
   ·obtain⟨i,hi,e⟩:=hex;cases nw:(r.c2 X.aD).get i with
    |none=>exact absurd nw hi
    |some br=>
     obtain⟨h4,p,aw,e2,bW⟩:=vC i br nw;have:h4=j:=by rw[<-e];exact(An i h4 aw).symm
     subst this;rw[hj]at e2;cases e2;exact .inl ⟨i,br,e.symm,nw,bW.mono fun a b iN=>(An a b iN).symm⟩
   ·exact .inr ⟨fun i hi e=>hex ⟨i,hi,e⟩,hj⟩
  ·left;rcases zao j st.al with tO|lD
   ·exact tO
   ·exact absurd (hw.fresh j lD).2 hj
 have oh:=aat r.gL _ _ _ aj9 ax;have hold:∀a l,(kh r.gL (r.c2 X.aD)).get a≠none->fz a=some l->∃j p,s.cL.get a=some j∧st.h.get j=some p∧p≠.dead∧ι j=some l:=by
  intro a l tD hl;obtain⟨j,aw,e2⟩:=x5 a l hl;have LZ:=cD.lx _ _ aw;have:∃o,(r.c2 X.aD).get a=some o:=by
   rcases zao a X.aD with hn|hn
   ·cases nw:(r.c2 X.aD).get a with
    |none=>exact absurd nw (oh.V1 a hn tD)
    |some o=>exact⟨o,rfl⟩
   ·exact Mb a hn LZ
  obtain⟨o,ao⟩:=this;obtain⟨h4,p,aM,aN,bf⟩:=vC a o ao;rw[aw]at aM;cases aM;exact⟨j,p,aw,aN,bf.live.2,e2⟩
 have Wl:∀j o l,st.h.get j=some o->o≠.dead->ι j=some l->(∀i,(kh r.gL (r.c2 X.aD)).get i≠none->n1 i≠j)->∀i l',fz i=some l'->l'.ca≠ix->l'.cG≠l.cG:=by
  intro j o l ao aq hl ae i l' cn ai e;have nC:(kh r.gL (r.c2 X.aD)).get i≠none:=by
   obtain⟨h4,aw,e2⟩:=x5 i l' cn;have LZ:=cD.lx _ _ aw;rcases zao i X.aD with hn|hn
   ·exfalso;rw[C4 i hn]at aw;cases aw;rw[hw.me i hn]at e2;cases e2;exact ai rfl
   ·obtain⟨br,jK⟩:=Mb i hn LZ;exact oh.pY i (by rw[jK];simp)
  obtain⟨h4,p,aw,e2,bW,e6⟩:=hold i l' nC cn;have:=hw.inj h4 j p o l' l e2 bW ao aq e6 hl (.inl ai) e;subst this;exact ae i nC (An i h4 aw)
 refine⟨aU,v',w',F,(Ey _ _ _ _ _ af).E5 xC a5,⟨fun j o hj aq=> ?_,fun i j o p l m hi hB hj hN gS h2 aO e=> ?_,fun j hj=> ?_,fun j l hl=> ?_,fun g hgn=> ?_,?_,fun j l o hl ai hj aq=> ?_⟩,⟨hle,dt.size,fun b hb gb=> ?_,fun j l hl=> ?_,dt.gJ⟩,ud,HG,am0,am1⟩
 ·rcases oh.obj j o hj aq with⟨i,p,aw,e2,bW⟩|⟨aw,e2⟩
  ·obtain⟨l,aM,aN⟩:=bD.eD i p e2 bW.live.1;exact⟨l,xC i j l aw aM,bW.YR xC aN⟩
  ·obtain⟨l,aM,aN⟩:=hw.eD j o e2 aq;refine⟨l,hle j l aM,jl.mono X aN hle ?_⟩;exact dt.kept l.cG (hw.gP j l aM) (Wl j o l e2 aq aM aw)
 ·have key:∀i j o p l m,hp.get i=some o->o≠.dead->hp.get j=some p->p≠.dead->aU i=some l->aU j=some m->(l.ca≠ix∨m.ca≠ix)->l.cG=m.cG->
   (∃a q,i=n1 a∧(kh r.gL (r.c2 X.aD)).get a=some q∧kl (fun i j=>j=n1 i) q o)->((∀a,(kh r.gL (r.c2 X.aD)).get a≠none->n1 a≠j)∧st.h.get j=some p)->False:=by
   intro i j o p l m hi hB hj hN gS h2 aO e ⟨a,q,aw,e2,bW⟩ ⟨aM,aN⟩;obtain⟨eW,ee,_⟩:=bD.eD a q e2 bW.live.1;have:=xC a i eW aw ee;rw[gS]at this;cases this;obtain⟨fc,fa,_⟩:=hw.eD j p aN hN;have:=hle j fc fa;rw[h2]at this;cases this;rcases dt.new a l ee with hn|hn|⟨b,fi,gR,k4,o7⟩
   ·obtain⟨h4,gV,f1,f2,f3,f4⟩:=hold a l (by rw[e2];simp) hn;have:=hw.inj h4 j gV p l m f2 f3 aN hN f4 fa aO e;subst this;exact aM a (by rw[e2];simp) (An a h4 f1)
   ·have:=hw.gP j m fa;omega
   ·exact Wl j p m aN hN fa aM b fi gR k4 (by omega)
  rcases oh.obj i o hi hB with aa|aa<;>rcases oh.obj j p hj hN with aF|aF
  ·obtain⟨a,q,aw,e2,bW⟩:=aa;obtain⟨b,fJ,aM,aN,bf⟩:=aF;obtain⟨eW,ee,_⟩:=bD.eD a q e2 bW.live.1;obtain⟨fc,fa,_⟩:=bD.eD b fJ aN bf.live.1;have t1:=xC a i eW aw ee;rw[gS]at t1;cases t1;have t2:=xC b j fc aM fa;rw[h2]at t2;cases t2;have:=bD.inj a b q fJ l m e2 bW.live.1 aN bf.live.1 ee fa aO e;rw[aw,aM,this]
  ·exact(key i j o p l m hi hB hj hN gS h2 aO e aa aF).elim
  ·exact(key j i p o m l hj hN hi hB h2 gS aO.symm e.symm aF aa).elim
  ·obtain⟨eW,ee,_⟩:=hw.eD i o aa.2 hB;obtain⟨fc,fa,_⟩:=hw.eD j p aF.2 hN;have t1:=hle i eW ee;rw[gS]at t1;cases t1;have t2:=hle j fc fa;rw[h2]at t2;cases t2;exact hw.inj i j o p l m aa.2 hB aF.2 hN ee fa aO e
 ·have hj:st.al+(r.aP-s.bn)<=j:=hj;have GY:∀i,r.aP<=i->kj i=none∧(kh r.gL (r.c2 X.aD)).get i=none:=fun i hi=>bD.fresh i hi;refine⟨by rw[Hw j (by omega)];exact(GY _ (by omega)).1,?_⟩;show hp.get j=none;cases e:hp.get j with
  |none=>rfl
  |some o=>
   exfalso;rcases oh.lx j (by rw[e];simp)with tO|⟨i,aw,e2⟩
   ·omega
   ·rcases zao i s.bn with hi|hi
    ·obtain⟨h4,kd,aM,cb⟩:=WY i hi;rw[show kW s.cL s.bn st.al i=h4 from An i h4 aM]at aw;have:=a4 h4 kd cb;omega
    ·rw[show kW s.cL s.bn st.al i=st.al+(i-s.bn)from Xb i hi]at aw;rcases zao i r.aP with Me|Me
     ·omega
     ·exact e2 (GY i Me).2
 ·rcases zao j st.al with hj|hj
  ·rw[Hv j hj]at hl;exact fy (hw.gP j l hl) dt.size
  ·rw[Hw j hj]at hl;exact bD.gP _ l hl
 ·exact hle _ _ (hw.me g hgn)
 ·exact zaj hw.p2 (zcA _ _)
 ·rcases oh.obj j o hj aq with⟨a,q,aw,e2,bW⟩|⟨aw,e2⟩
  ·obtain⟨eW,ee,_⟩:=bD.eD a q e2 bW.live.1;have t1:=xC a j eW aw ee;rw[hl]at t1;cases t1;exact bW.vv.1 (bD.my a l q ee ai e2 bW.live.1)
  ·obtain⟨eW,ee,_⟩:=hw.eD j o e2 aq;have t1:=hle j eW ee;rw[hl]at t1;cases t1;exact hw.my j l o ee ai e2 aq
 ·refine dt.kept b hb fun i l hl ai=> ?_;obtain⟨j,_,cn⟩:=x5 i l hl;exact gb j l cn ai
 ·rcases zao j st.al with hj|hj
  ·rw[Hv j hj]at hl;exact .inl hl
  ·rw[Hw j hj]at hl;rcases dt.new _ l hl with hn|hn|⟨b,m,gR,k4,o7⟩
   ·obtain⟨h4,aw,_⟩:=x5 _ l hn;have:=cD.lx _ _ aw;omega
   ·exact .inr (.inl hn)
   ·obtain⟨h4,_,e2⟩:=x5 b m gR;exact .inr (.inr ⟨h4,m,e2,k4,o7⟩)
def xv(aH:c6)(as:ac be)(st:ay)(rs:ac (Nat×dS)):am dM:=
 List.rec (motive:=fun _=>am dM) none (fun r _ a8=>cond (Nat.beq r.1 st.al) (bm (r.2.app aH as st) some a8) (cond (Nat.beq r.1 0) (bm (r.2.app aH as st) some a8) a8)) rs
theorem Sk{aH:c6}{as:ac be}{st:ay}:∀{rs:ac (Nat×dS)} {fr:dM},xv aH as st rs=some fr->∃r∈rs,r.2.app aH as st=some fr
 |[],fr,h=>by cases h
 |r::rs,fr,h=>by
  have h:cond (Nat.beq r.1 st.al) (bm (r.2.app aH as st) some (xv aH as st rs)) (cond (Nat.beq r.1 0) (bm (r.2.app aH as st) some (xv aH as st rs)) (xv aH as st rs))=some fr:=h;have EV:xv aH as st rs=some fr->∃dJ∈r::rs,dJ.2.app aH as st=some fr:=fun h=>by
   obtain⟨dJ,J,U⟩:=Sk h;exact⟨dJ,zaM _ J,U⟩
  have aq:bm (r.2.app aH as st) some (xv aH as st rs)=some fr->∃dJ∈r::rs,dJ.2.app aH as st=some fr:=fun h=>by
   cases aY:r.2.app aH as st with
   |none=>rw[aY]at h;exact EV h
   |some x=>rw[aY]at h;cases h;exact⟨r,by simp,aY⟩
  cases hb:Nat.beq r.1 st.al with
  |true=>rw[hb]at h;exact aq h
  |false=>
   rw[hb]at h;cases hc:Nat.beq r.1 0 with
   |true=>rw[hc]at h;exact aq h
   |false=>rw[hc]at h;exact EV h
end Go.ak
namespace Go.ak
variable{X:Ctx}
variable{n:Nat}{gg:n2}{aD:Nat}{f:ci}{r:dS}
def Ao(n:Nat):ar Nat:=Nat.rec (motive:=fun _=>ar Nat) .nil (fun m t=>ar.fin t fun t=>ar.ke (Nat.succ m) t m m) n
theorem DC:∀(n i:Nat),(Ao n).get i=if i<n then some i else none
 |0,i=>by rw[zaa (by omega)];rfl
 |n+1,i=>by
  have e:Ao (n+1)=(Ao n).set n n:=by
   show ar.fin (Ao n) (fun t=>ar.ke (Nat.succ n) t n n)=_;rw[ar.qY,ar.wv]
  rw[e,ar.eo,DC n i];by_cases h:i=n
  ·subst h;rw[zab rfl,zab (by omega)]
  ·rw[zaa h];by_cases aB:i<n
   ·rw[zab aB,zab (by omega)]
   ·rw[zaa aB,zaa (by omega)]
def aqi{s:c6}(J:s.cL=Ao n)(U:s.inv=Ao n)(af:s.bn=n):s.cX∧s.bn=n∧∀g,g<n->s.cL.get g=some g:=by
 refine⟨⟨fun i j=> ?_,fun i j h=> ?_⟩,af,fun g aO=> ?_⟩
 ·rw[J,U,DC,DC];by_cases hi:i<n<;>by_cases hj:j<n<;>simp[hi,hj]<;>omega
 ·rw[J,DC]at h;rw[af];by_cases hi:i<n
  ·exact hi
  ·rw[zaa hi]at h;cases h
 ·rw[J,DC,zab aO]
def dS.eM(r:dS)(aD:Nat)(bB:ar dv)(gg:n2)(n f:Nat):Bool:=
 ar.fin (r.c2 aD) fun h=>ar.fin (kh r.gL h) fun aB=>fX (Nat.add aD (dk r.pY)) fun m=>ak.eM (dc bB gg n (.func (.func f) #[] #[]) r.as none ⟨h,m⟩) r.v ⟨aB,r.aP⟩
def pA{bB:ar dv}(dE:Good X)(iQ:n4 X bB)(sj:u6 X gg)(h:r.eM aD bB gg n f=true):fT X f (r.row aD):=by
 refine aaX dE iQ sj (n:=n) ?_;unfold dS.eM fX at h;rw[ar.qY,ar.qY,zaP]at h;exact h
def dS.kJ(r:dS)(aD g:Nat)(el:ce)(c:Nat)(bB:ar dv)(gg:n2)(n f:Nat):Bool:=
 ar.fin ((r.c2 aD).set g (.cells [.chan (some c)] el (0,1) false)) fun h=>ar.fin ((kh r.gL (r.c2 aD)).set g (.cells [.chan (some c)] el (0,1) false)) fun aB=>fX (Nat.add aD (dk r.pY)) fun m=>
  ak.eM (dc bB gg n (.func (.func f) #[] #[]) r.as none ⟨h,m⟩) r.v ⟨aB,r.aP⟩
def l1{bB:ar dv}(dE:Good X)(iQ:n4 X bB)(sj:u6 X gg){g:Nat}{el:ce}{c:Nat}(h:r.kJ aD g el c bB gg n f=true):fT X f ((r.row aD).pg g el c):=by
 refine aaX dE iQ sj (n:=n) ?_;unfold dS.kJ fX at h;rw[ar.qY,ar.qY,zaP]at h;exact h
def assoc(t:ac (Nat×ac (Nat×dS)))(f:Nat):ac (Nat×dS):=
 List.rec (motive:=fun _=>ac (Nat×dS)) [] (fun p _ a8=>cond (Nat.beq p.1 f) p.2 a8) t
def wq(aH:c6)(t:ac (Nat×ac (Nat×dS))):n2:=fun f as st=>xv aH as st (assoc t f)
def w4(X:Ctx)(f:Nat)(l:ac (Nat×dS)):Prop:=∀r∈l,fT X f (r.2.row X.aD)
def BU(X:Ctx)(t:ac (Nat×ac (Nat×dS))):Prop:=∀p∈t,w4 X p.1 p.2
variable{l:ac (Nat×dS)}{t:ac (Nat×ac (Nat×dS))}
def lb{f:Nat}:w4 X f []:=fun _ h=>by cases h
def eO{f:Nat}(h:fT X f (r.row X.aD))(ai:w4 X f l):w4 X f ((n,r)::l):=List.forall_mem_cons.2 ⟨h,ai⟩
def bL:BU X []:=fun _ h=>by cases h
def lO{f:Nat}(h:w4 X f l)(ai:BU X t):BU X ((f,l)::t):=List.forall_mem_cons.2 ⟨h,ai⟩
theorem QJ:∀{t:ac (Nat×ac (Nat×dS))},BU X t->∀f,w4 X f (assoc t f)
 |[],_,f=>lb
 |p::t,h,f=>by
  show w4 X f (cond (Nat.beq p.1 f) p.2 (assoc t f));cases hb:Nat.beq p.1 f with
  |true=>rw[<-eL hb];exact h p (by simp)
  |false=>exact QJ (fun q hq=>h q (zaM _ hq)) f
def yx{aH:c6}(sk:aH.cX∧aH.bn=X.aD∧∀g,g<X.aD->aH.cL.get g=some g)(aV:BU X t):u6 X (wq aH t):=by
 intro f as st r hr ι as' w aY hw _;obtain⟨row,hm,hh⟩:=Sk hr;exact Qx (QJ aV f row hm) sk.1 sk.2.1 sk.2.2 hh ι as' w aY hw
def aei{r:Row}(hr:fT X f r){ι:bC}{as':ac be}{w:co}(aY:bM ι r.as as')(hw:bx X ι r.st w):
 Calls X.P f as'.toArray w (fun e w'=>∃aU v',e= .returned v'∧bs aU r.v v'∧bx X aU r.st' w'∧fv ι aU w w'):=by
 intro cs;obtain⟨_,U⟩:=hr ι as' w aY hw;obtain⟨aU,v',w',F,J,U,af,ax,a0,ck,dx⟩:=U .normal (fun _=>cs) (fun F eE az=>by
  have ef:F.kind= .normal:=az;simp[tryRecover,ef])
 obtain⟨aM,aN,fn,bf,cb⟩:=ck;exact⟨.returned v',w',F,⟨aU,v',rfl,J,U,af⟩,dx,a0,aM,aN,ax,fn,bf,cb⟩
def Hz(n:Nat):bC:=fun i=>if i<n then some ⟨i,0,0,ix⟩else none
def td(n:Nat)(W:co)(p:Nat×bH):Prop:=
 p.1<n∧∃cs el m C bd,p.2= .cells cs el (0,m) false∧0<m∧W.heap[p.1]? =some (.cells C el bd)∧bM (Hz n) cs C.toList
def J7{α β Fg:Type}(f:α->β->am Fg):ac α->ac β->am (ac Fg)
 |[],[]=>some []
 |a::as,b::bU=>(f a b).bind fun c=>(J7 f as bU).map fun cs=>c::cs
 |_,_=>none
def zB:Nat->ac (Nat×Nat)->Nat->Bool
 |o,[],n=>Nat.beq o n
 |o,p::r,n=>Nat.beq p.1 o&&zB (o+p.2) r n
def zR(P:d9):Nat->ce->DataW Unit->am (ac be)
 |0,_,_=>none
 |n+1,t,d=>
  match P.underlying t,d with
  |some .bool,.lit (.bool b)=>some [.bool b]
  |some (.int _),.lit (.int k m)=>some [.int k m]
  |some .string,.lit (.string s)=>some [.string ⟨⟨s⟩⟩]
  |some (.struct bG),.agg ds=>if zB 0 (bG.toList.map fun f=>(f.offset,P.cellsOf f.type)) (P.cellsOf t)then(J7 (fun(f:Field) d=>zR P n f.type d) bG.toList ds).map List.flatten else none
  |some (.array m e),.agg ds=>if zB 0 ((List.range m).map fun i=>(i*P.cellsOf e,P.cellsOf e)) (P.cellsOf t)then(J7 (fun(_:Nat) d=>zR P n e d) (List.range m) ds).map List.flatten else none
  |_,_=>none
theorem FR(cs:ac be):∀(l:ac (Nat×Nat)) (o:Nat),zB o l cs.length=true->cs.drop o=(l.map fun p=>(cs.drop p.1).take p.2).flatten
 |[],o,h=>by
  have:=eL h;rw[this];simp
 |p::r,o,h=>by
  unfold zB at h;rw[b3]at h;have e:=eL h.1;rw[zaR,zel,<-FR cs r (o+p.2) h.2,e,<-zbC,zbh]
theorem P5{α:Type}{g:α->am (DataW Unit×ac MemPlace)}{k:α->DataW Unit->am (ac be)}{seg:α->ac be}
 (ab:∀a d p vs,g a=some (d,p)->k a d=some vs->seg a=vs):∀(as:ac α) (xs:ac (DataW Unit×ac MemPlace)) (BI:ac (ac be)),as.mapM g=some xs->J7 k as (xs.map (·.1))=some BI->as.map seg=BI
 |[],xs,BI,h,aB=>by
  simp at h;subst h;cases aB;rfl
 |a::as,xs,BI,h,aB=>by
  rw[zdy]at h;obtain⟨x,aa,h⟩:=zcr.1 h;obtain⟨av,aF,h⟩:=zcr.1 h;cases h;obtain⟨vs,aw,aB⟩:=zcr.1 aB;obtain⟨atZ,e2,rfl⟩:=zbm.1 aB;rw[zaR,ab a x.1 x.2 vs aa aw,P5 ab as av atZ aF e2]
theorem CJ{P:d9}{w:co}{base:Nat}{sp:Nat->Bool}{held:Bool}:∀(fuel n:Nat) (t:ce) (cs:ac be) (d:DataW Unit) (p:ac MemPlace) (vs:ac be),
 DataW.trod (fun _=>()) P w base sp held fuel t cs=some (d,p)->zR P n t d=some vs->cs=vs
 |0,_,_,_,_,_,_,h,_=>by simp[DataW.trod]at h
 |_+1,0,_,_,_,_,_,_,h=>by simp[zR]at h
 |fuel+1,n+1,t,cs,d,p,vs,h,aB=>by
  unfold zR at aB;split at aB
  ·rename_i b hu;cases aB;simp only[DataW.trod,hu]at h;split at h<;>first|(rename_i hq;cases hq)|skip
   all_goals first|(cases h;rfl)|(simp at h)
  ·rename_i k k' m hu;cases aB;simp only[DataW.trod,hu]at h;split at h<;>first|(rename_i hq;cases hq)|skip
   all_goals first
    |(split at h
      ·rename_i hc;cases h;rw[hc.1]
      ·cases h)
    |(simp at h)
  ·rename_i s hu;cases aB;simp only[DataW.trod,hu]at h;split at h<;>first|(rename_i hq;cases hq)|skip
   all_goals first
    |(split at h
      ·cases h;rfl
      ·cases h)
    |(simp at h)
  ·rename_i bG ds hu;split at aB
   ·rename_i hc;obtain⟨BI,aw,rfl⟩:=zbm.1 aB;simp only[DataW.trod,hu]at h;split at h
    ·rename_i hl;obtain⟨xs,e2,bW⟩:=zbm.1 h;cases bW;rw[<-hl]at hc;have e6:=FR cs _ 0 hc;rw[zap,zcp]at e6;have ma:=P5 (seg:=fun(f:Field)=>(cs.drop f.offset).take (P.cellsOf f.type)) (fun f d p vs J U=>CJ fuel n f.type _ d p vs J U) _ _ _ e2 aw;rw[<-ma];exact e6
    ·cases h
   ·cases aB
  ·rename_i m e ds hu;split at aB
   ·rename_i hc;obtain⟨BI,aw,rfl⟩:=zbm.1 aB;simp only[DataW.trod,hu]at h;split at h
    ·rename_i hl;obtain⟨xs,e2,bW⟩:=zbm.1 h;cases bW;rw[<-hl]at hc;have e6:=FR cs _ 0 hc;rw[zap,zcp]at e6;have ma:=P5 (seg:=fun(i:Nat)=>(cs.drop (i*P.cellsOf e)).take (P.cellsOf e)) (fun i d p vs J U=>CJ fuel n e _ d p vs J U) _ _ _ e2 aw;rw[<-ma];exact e6
    ·cases h
   ·cases aB
  ·cases aB
theorem XE{P:d9}{w:co}:∀{l:ac (String×DataW Unit)} {ps:ac MemPlace},DataW.LaidVars P w l ps->∀x∈l,∃g t cs fuel p,P.globalNamed x.1=some g∧(P.globals[g]?).map (·.type)=some t∧w.var? P x.1=some cs∧
 DataW.trod (fun _=>()) P w 0 (fun _=>true) false fuel t cs.toList=some (x.2,p)
 |[],_,_,x,aa=>by cases aa
 |(n,d)::r,ps,h,x,aa=>by
  obtain⟨g,t,cs,fuel,p,q,J,U,af,ax,a0,_⟩:=h;rcases zar.1 aa with rfl|aa
  ·exact⟨g,t,cs,fuel,p,J,U,af,ax⟩
  ·exact XE a0 x aa
def Iw:be->Bool
 |.bool _|.int _ _|.string _=>true
 |_=>false
def ao1{ι:bC}{v:be}(h:Iw v=true):bs ι v v:=by
 cases v<;>first|(simp[Iw]at h;done)|constructor
theorem Zu{ι:bC}:∀{vs:ac be},vs.all Iw=true->bM ι vs vs
 |[],_=>.nil ι
 |v::vs,h=>by
  rw[List.all_cons,b3]at h;exact .cons (ao1 h.1) (Zu h.2)
def CP{P:d9}{W:co}{l:ac (String×DataW Unit)}{ps:ac MemPlace}(hl:DataW.LaidVars P W l ps){g N:Nat}{name:String}{d:DataW Unit}{t el:ce}{vs:ac be}{m:Nat}
 (aa:(name,d)∈l) (aO:P.globalNamed name=some g) (aV:(P.globals[g]?).map (·.type)=some t) (ae:zR P n t d=some vs) (hgn:g<N) (hm:0<m) (hp:vs.all Iw=true)
 (pa:∃cs,W.heap[g]? =some (.cells cs el)):td N W (g,.cells vs el (0,m) false):=by
 obtain⟨gr,hd,cs,fuel,p,J,U,af,ax⟩:=XE hl _ aa;simp only at J af ax;rw[aO]at J;cases J;rw[aV]at U;cases U;obtain⟨C,hC⟩:=pa;have aI:C=cs:=by
  simp only[World.var?,aO,Option.bind_some,hC]at af;exact Option.some.inj af
 subst aI;refine⟨hgn,vs,el,m,C,_,rfl,hm,hC,?_⟩;rw[CJ fuel n t _ d p vs ax ae];exact Zu hp
end Go.ak
namespace Go.ak
variable{Q:Nat->dv->Prop}
variable{i:Nat}
def abX(t:ar {p:Nat×dv //Q p.1 p.2}):ar dv:=
 ar.rec (motive:=fun _=>ar dv) .nil (fun _ v _ l r=>.node l (Option.rec (motive:=fun _=>am dv) none (fun p=>some p.1.2) v) r) t
def keyed:ar {p:Nat×dv //Q p.1 p.2}->(Nat->Nat)->Bool
 |.nil,_=>true
 |.node l v r,g=>(match v with|some p=>Nat.beq p.1.1 (g 0)|none=>true)&&(keyed l (fun n=>g (2*n+1))&&keyed r (fun n=>g (2*n+2)))
theorem Pz:∀(t:ar {p:Nat×dv //Q p.1 p.2}) (g:Nat->Nat),keyed t g=true->ar.BM Q (abX t) g
 |.nil,_,_=>trivial
 |.node l v r,g,h=>by
  unfold keyed at h;rw[b3,b3]at h;refine⟨?_,Pz l _ h.2.1,Pz r _ h.2.2⟩;cases v with
  |none=>trivial
  |some p=>
   have e:=eL h.1;show Q (g 0) p.1.2;rw[<-e];exact p.2
def bQ(g:{b:dv //Q i b}):ar {p:Nat×dv //Q p.1 p.2}:=.node .nil (some ⟨(i,g.1),g.2⟩) .nil
def bl(a:ar {p:Nat×dv //Q p.1 p.2})(g:{b:dv //Q i b})(b:ar {p:Nat×dv //Q p.1 p.2}):ar {p:Nat×dv //Q p.1 p.2}:=.node a (some ⟨(i,g.1),g.2⟩) b
def nc(a b:ar {p:Nat×dv //Q p.1 p.2}):ar {p:Nat×dv //Q p.1 p.2}:=.node a none b
end Go.ak
namespace Go.ak.Kb
inductive Kn where
 |bool|int (k:IntKind)|str|bj (e:Nat)|c0 (n e:Nat)|st (l:List (Nat×Nat))|mB (e:Nat)|mp (k v:Nat)|fn|DE|up
inductive BS where
 |l
 |n (a:BS) (k:Nat) (d:Kn) (s b:Nat) (c:BS)
def BS.get:BS->Nat->Kn×Nat×Nat
 |.l,_=>(.up,0,0)
 |.n a k d s b c,t=>match Nat.blt t k with
  |true=>a.get t
  |false=>match Nat.beq t k with
   |true=>(d,s,b)
   |false=>c.get t
structure Env where
 jN:Nat
 kc:Nat
 bn:Nat
 idx:Nat
 lQ:Nat
 ty:BS
 mt:ac (String×ac (Nat×ci)):=[]
 NB:am (Nat×Nat):=none
namespace Env
def Yn(C:Env)(n:String):ac (Nat×ci):=match C.mt.find? (fun p=>p.1==n)with
 |some p=>p.2
 |none=>[]
def d(C:Env)(t:Nat):Kn:=(C.ty.get t).1
def s(C:Env)(t:Nat):Nat:=(C.ty.get t).2.1
def b(C:Env)(t:Nat):Nat:=(C.ty.get t).2.2
def g(C:Env)(t:Nat):Bool:=match C.d t with
 |.st _=>true
 |.c0 _ _=>true
 |_=>false
def R4(C:Env)(t:Nat):Nat:=match C.d t with
 |.st l=>l.foldl (fun n p=>match C.d p.2 with
  |.str=>n+100
  |_=>n+1) 0
 |_=>C.s t
def P4(C:Env):Nat->Nat->ac be
 |0,_=>[]
 |f+1,t=>match C.d t with
  |.bool=>[.bool false]
  |.int k=>[.int k 0]
  |.str=>[.string ⟨#[]⟩]
  |.bj _=>[.slice none 0 0]
  |.c0 n e=>(List.replicate n (C.P4 f e)).flatten
  |.st l=>l.flatMap fun p=>C.P4 f p.2
  |.mB _=>[.pointer none]
  |.mp _ _=>[.map none]
  |.fn=>[.nilFunc]
  |.DE=>[.nilIface]
  |.up=>[]
def z(C:Env)(t:Nat):ac be:=C.P4 20 t
def s9(C:Env)(t:Nat):be:=match C.g t with
 |true=>.agg ⟨C.z t⟩
 |false=>(C.z t).headD .nilIface
def c8(C:Env)(t:Nat):fN:=match C.d t with
 |.int k=>.int k
 |.c0 n e=>match C.d e with
  |.int k=>.arr k n
  |_=>.str
 |_=>.str
def Sa(C:Env)(t:Nat):oJ:=match C.d t with
 |.bj _=>.kA
 |.mp _ _=>.yq
 |.fn=>.wa
 |.DE=>.yp
 |.mB _=>.ptr
 |_=>.sI
def bin(C:Env)(iE:ac Nat)(o:BinOp)(t:Nat)(a b:bi):dg:=
 let u:=match b with
  |.tmp j=>iE.any (Nat.beq j)
  |_=>false
 match C.d t,o,u with
 |.int _,.leq,true=>.ext (.xe false a b)
 |.int _,.gtr,true=>.ext (.xe true a b)
 |.int _,o,_=>.bin o a b
 |.str,o,_=>.bin o a b
 |.st _,.neq,_=>.ext (.qW true (C.R4 t) a b)
 |.c0 _ _,.neq,_=>.ext (.qW true (C.s t) a b)
 |.st _,_,_=>.ext (.qW false (C.R4 t) a b)
 |.c0 _ _,_,_=>.ext (.qW false (C.s t) a b)
 |_,.neq,_=>.eqv true (C.Sa t) a b
 |_,_,_=>.eqv false (C.Sa t) a b
def conv(C:Env)(s t:Nat)(a:bi):dg:=match C.d s,C.d t with
 |.int _,.int k=>.tn k a
 |.str,.str=>.xc a
 |.bj _,.str=>.zt a
 |.str,.bj e=>.vj e a
 |.mB _,.up=>.Ck a
 |.up,.mB e=>.Cl e (C.s e) a
 |_,_=>.refuse
def parts(C:Env)(e:Nat)(ps:ac (Nat×bi)):ac (Nat×Nat×bi):=ps.map fun p=>(p.1*C.s e,C.s e,p.2)
def agK(C:Env)(f:Nat)(as:ac bi):dg:=
 match as,Nat.beq f C.jN,Nat.beq f C.kc,Nat.beq f C.bn,Nat.beq f C.idx with
 |[a],true,_,_,_=>.jN a
 |[a,b],_,true,_,_=>.kc a b
 |[a,b],_,_,true,_=>.ext (.bn a b)
 |[a,b],_,_,_,true=>.ext (.idxs C.lQ a b)
 |as,_,_,_,_=>match as,C.NB with
  |[a],some (g,e)=>match Nat.beq f g with
   |true=>.ext (.AA e a)
   |false=>.call (.func f) [a]
  |as,_=>.call (.func f) as
def len(C:Env)(t:Nat)(a:bi):dg:=match C.d t with
 |.bj _=>.ot a
 |.str=>.ug a
 |.c0 n _=>.x9 n
 |.mp _ _=>.ext (.AB a)
 |.mB e=>match C.d e with
  |.c0 n _=>.x9 n
  |_=>.refuse
 |_=>.refuse
def el(C:Env)(t:Nat):Nat:=match C.d t with
 |.bj e=>e
 |.c0 _ e=>e
 |.mB e=>e
 |_=>0
def adV(C:Env)(f:Builtin)(as:ac bi)(ts:ac Nat):dg:=
 match f,as,ts with
 |.len,[a],t::_=>C.len t a
 |.cap,[a],t::_=>match C.d t with
  |.bj _=>.ext (.zs a)
  |_=>.refuse
 |.delete,[a,b],t::_=>match C.d t with
  |.mp k _=>.ext (.del (C.c8 k) a b)
  |_=>.refuse
 |.append,[a,b],t::_=>.app (C.el t) (C.s (C.el t)) (C.b (C.el t)) a b
 |.max,a::as,_=>.eR a as
 |.min,a::as,_=>.yk a as
 |.copy,[a,b],t::_=>.qR (C.s (C.el t)) a b
 |.recover,_,_=>.wH
 |.unsafeSliceData,[a],_=>.Bo a
 |.unsafeString,[a,b],t::_=>.s0 (C.el t) a b
 |_,_,_=>.refuse
def o3(C:Env)(t f:Nat):Nat×Nat:=match C.d t with
 |.st l=>l.getD f (0,0)
 |_=>(0,0)
def at3(C:Env)(iE:ac Nat):Op->dg
 |.move a=>.lR a
 |.assign a=>.lR a
 |.pick a b c=>.pick a b c
 |.alloc t=>.alloc (C.z t) t
 |.box t a=>.box t a
 |.build t ps=>.build (C.z t) (match C.d t with
  |.st l=>ps.toList.map fun p=>((l.getD p.1 (0,0)).1,C.s (l.getD p.1 (0,0)).2,p.2)
  |.c0 _ e=>C.parts e ps.toList
  |_=>[])
 |.buildSlice t n ps=>.oS (C.el t) n ((List.replicate n (C.z (C.el t))).flatten) (C.parts (C.el t) ps.toList)
 |.load t a=>match C.g t with
  |true=>.qj (C.s t) a
  |false=>.lP a
 |.store t a x=>.store (C.s t) a x
 |.nilCheck a=>.sC a
 |.binOp o t a b _=>C.bin iE o t a b
 |.unOp o _ a=>.un o a
 |.convert s t a=>C.conv s t a
 |.makeInterface t a=>.HV t a
 |.makeFunc f a b=>.uk f a.toList b.toList
 |.makeMap _ _=>.um
 |.makeSlice t l c=>.rr (C.el t) (C.b (C.el t)) (C.z (C.el t)) l c
 |.slice t a aL hi eR=>match C.d t with
  |.str=>.sV a aL hi
  |.c0 n e=>.Bt n (C.s e) a aL hi eR
  |.bj e=>.na (C.s e) a aL hi eR
  |_=>.refuse
 |.fieldAddr t a f=>.xu (C.o3 t f).1 a
 |.field t a f=>.o3 (C.o3 t f).1 (C.s (C.o3 t f).2) (C.g (C.o3 t f).2) a
 |.indexAddr t a i=>match C.d t with
  |.c0 n e=>.so n (C.s e) a i
  |.bj e=>.lL (C.s e) a i
  |_=>.refuse
 |.index t a i=>match C.d t with
  |.str=>.uc a i
  |.c0 n e=>.HE n (C.s e) (C.g e) a i
  |_=>.refuse
 |.typeAssert a _ t ok=>.JS t (C.s9 t) ok a
 |.extract a i=>.xt a i
 |.call c=>match c.callee with
  |.value f=>match f with
   |.func f=>C.agK f c.args.toList
   |f=>.call f c.args.toList
  |.builtin b=>C.adV b c.args.toList c.argTypes.toList
  |.invoke r n=>.inv (C.Yn n) r c.args.toList
 |.defer c=>match c.callee with
  |.value f=>.qS f c.args.toList
  |_=>.refuse
 |.panic a=>.rA a
 |.lookup t m k ok=>match C.d t with
  |.mp a v=>.ext (.look (C.c8 a) (C.s9 v) ok m k)
  |_=>.refuse
 |.mapUpdate t m k v=>match C.d t with
  |.mp a _=>.ext (.gL (C.c8 a) m k v)
  |_=>.refuse
 |.insert t m k v=>match C.d t with
  |.mp a _=>.ext (.gL (C.c8 a) m k v)
  |_=>.refuse
 |.range t m=>match C.d t with
  |.str=>.ext (.Bv m)
  |_=>.ext (.AD m)
 |.next i s=>match s with
  |true=>.ext (.Bu i)
  |false=>.ext (.uw i)
 |.entry i=>.ext (.Az i)
 |_=>.refuse
end Env
def ol:am bi->ac bi
 |none=>[]
 |some a=>[a]
def aua:vc->ac bi
 |.look _ _ _ a b=>[a,b]
 |.gL _ a b c=>[a,b,c]
 |.del _ a b=>[a,b]
 |.AB a=>[a]
 |.AD a=>[a]
 |.Az a=>[a]
 |.bn a b=>[a,b]
 |.qW _ _ a b=>[a,b]
 |.uw a=>[a]
 |.xe _ a b=>[a,b]
 |.idxs _ a b=>[a,b]
 |.Bv a=>[a]
 |.Bu a=>[a]
 |.AA _ a=>[a]
 |.zs a=>[a]
def EV:dg->ac bi
 |.lR a=>[a]
 |.pick a b c=>[a,b,c]
 |.alloc _ _=>[]
 |.box _ a=>[a]
 |.build _ l=>l.map fun p=>p.2.2
 |.oS _ _ _ l=>l.map fun p=>p.2.2
 |.lP a=>[a]
 |.qj _ a=>[a]
 |.store _ a b=>[a,b]
 |.sC a=>[a]
 |.bin _ a b=>[a,b]
 |.eqv _ _ a b=>[a,b]
 |.un _ a=>[a]
 |.tn _ a=>[a]
 |.xc a=>[a]
 |.zt a=>[a]
 |.vj _ a=>[a]
 |.HV _ a=>[a]
 |.uk _ a b=>a++b
 |.um=>[]
 |.rr _ _ _ a b=>[a,b]
 |.sV a b c=>a::(ol b++ol c)
 |.Bt _ _ a b c e=>a::(ol b++(ol c++ol e))
 |.na _ a b c e=>a::(ol b++(ol c++ol e))
 |.xu _ a=>[a]
 |.o3 _ _ _ a=>[a]
 |.so _ _ a b=>[a,b]
 |.lL _ a b=>[a,b]
 |.uc a b=>[a,b]
 |.HE _ _ _ a b=>[a,b]
 |.JS _ _ _ a=>[a]
 |.xt a _=>[a]
 |.call f l=>f::l
 |.inv _ f l=>f::l
 |.H9 _ _ a=>[a]
 |.ot a=>[a]
 |.ug a=>[a]
 |.v3 a=>[a]
 |.app _ _ _ a b=>[a,b]
 |.eR a l=>a::l
 |.yk a l=>a::l
 |.qR _ a b=>[a,b]
 |.qS f l=>f::l
 |.rA a=>[a]
 |.Ck a=>[a]
 |.Cl _ _ a=>[a]
 |.Bo a=>[a]
 |.s0 _ a b=>[a,b]
 |.kc a b=>[a,b]
 |.jN a=>[a]
 |.ext y=>aua y
 |_=>[]
def uR(l:ac bi):ac Nat:=l.filterMap fun
 |.tmp j=>some j
 |_=>none
def fV:dg->Nat
 |.ext y=>match y with
  |.gL _ _ _ _=>0
  |.del _ _ _=>0
  |.AD _=>0
  |.uw _=>0
  |.Bv _=>0
  |.Bu _=>0
  |.AA _ _=>0
  |_=>2
 |.call _ _=>0
 |.inv _ _ _=>0
 |.app _ _ _ _ _=>0
 |.qR _ _ _=>0
 |.wH=>0
 |.qS _ _=>0
 |.rA _=>0
 |.store _ _ _=>0
 |.refuse=>0
 |.s0 _ _ _=>0
 |.v3 _=>0
 |.alloc _ _=>1
 |.box _ _=>1
 |.oS _ _ _ _=>1
 |.vj _ _=>1
 |.um=>1
 |.rr _ _ _ _ _=>1
 |_=>2
def mem(l:ac Nat)(t:Nat):Bool:=l.any (Nat.beq t)
def add(l:ac Nat)(t:Nat):ac Nat:=match mem l t with
 |true=>l
 |false=>l++[t]
def aju(ops:ac Oper)(o:Oper):am (Nat×Bool):=match o.guard with
 |none=>none
 |some (j,w)=>match(ops[j]?).bind (·.dst)with
  |some t=>some (t,w)
  |none=>none
def Ny(t:Nat):ac Oper->am String
 |[]=>none
 |o::os=>match o.op,o.dst with
  |.makeFunc (.method n) _ _,some d=>(match Nat.beq d t with
   |true=>some n
   |false=>Ny t os)
  |_,_=>Ny t os
def acQ(C:Env)(iE:ac Nat)(ops:ac Oper)(o:Oper):bK:=⟨o.dst,(match o.op with
 |.nilCheck (.tmp t)=>(match Ny t ops with
  |some n=>.H9 n (C.Yn n) (.tmp t)
  |none=>.sC (.tmp t))
 |_=>C.at3 iE o.op),aju ops o⟩
def binds(e:Edge):Bool:=match e.ground with
 |.textOnly _=>false
 |.gcOnly _=>false
 |_=>true
def QO:ac Nat->ac Oper->ac Nat
 |B,[]=>B
 |B,o::os=>QO (B++[(o.after.toList.filter binds).foldl (fun m e=>m|||(2^e.on|||B.getD e.on 0)) 0]) os
def ord(n:Nat)(B K:ac Nat):ac Nat:=
 let es:=(List.range n).filter fun i=>Nat.beq (K.getD i 2) 0
 let l:=es.foldl (fun l e=>add (((List.range n).filter fun i=>(B.getD e 0).testBit i).foldl add l) e) []
 (List.range n).foldl add l
def maskAt(m:Nat):Nat->ac Nat->Nat
 |_,[]=>0
 |p,i::l=>(match m.testBit i with
  |true=>2^p
  |false=>0)+maskAt m (p+1) l
def tx(C:Env)(iE:ac Nat)(ops:ac Oper):dq:=
 let xs:=ops.map (acQ C iE ops)
 let K:=xs.map fun x=>fV x.o
 let L:=xs.map fun x=>uR (EV x.o)++(match x.g with
  |some (t,_)=>[t]
  |none=>[])
 let B:=QO [] ops
 let sG:=ord ops.length B K
 let row (p:Nat) (i:Nat):bK×cE:=(xs.getD i ⟨none,.refuse,none⟩,match K.getD i 0 with
  |0=>.eH
  |1=>.hI (L.getD i [])
  |_=>.read (((sG.take p).filter fun j=>Nat.beq (K.getD j 2) 0&& !(B.getD i 0).testBit j).length) (L.getD i []))
 let dU:=(List.range sG.length).foldl (fun l p=>match(xs.getD (sG.getD p 0) ⟨none,.refuse,none⟩).d with
  |none=>l
  |some t=>match(sG.take p).any fun j=>(Nat.beq (K.getD j 2) 0||mem (L.getD j []) t)&& !(B.getD (sG.getD p 0) 0).testBit j with
   |true=>add l t
   |false=>l) []
 .tx ((List.range sG.length).map fun p=>row p (sG.getD p 0)) sG dU (sG.map fun i=>maskAt (B.getD i 0) 0 sG)
def code(C:Env)(iE:ac Nat):Code->dq
 |.skip=>.skip
 |.label _=>.skip
 |.region _ ops afV=>match afV with
  |true=>tx C iE ops.toList
  |false=>.yN (ops.toList.map (acQ C iE ops.toList))
 |.seq a b=>.seq (code C iE a) (code C iE b)
 |.cond x a b=>.cond x (code C iE a) (code C iE b)
 |.block n a=>.block n (code C iE a)
 |.loop a=>.loop (code C iE a)
 |.rangeFunc x ps a b=>.Jn x ps.toList (code C iE a) (code C iE b)
 |.scope a=>.scope (code C iE a)
 |.exit n=>.exit n
 |.ret=>.ret
 |_=>.refuse
def as6(g:Nat)(o:Oper):ac Nat:=match o.op,o.dst with
 |.load _ (.global h),some t=>match Nat.beq g h with
  |true=>[t]
  |false=>[]
 |_,_=>[]
def sZ(g:Nat):Code->ac Nat
 |.region _ ops _=>ops.toList.flatMap (as6 g)
 |.seq a b=>sZ g a++sZ g b
 |.cond _ a b=>sZ g a++sZ g b
 |.block _ a=>sZ g a
 |.loop a=>sZ g a
 |.rangeFunc _ _ a b=>sZ g a++sZ g b
 |.scope a=>sZ g a
 |_=>[]
def res(C:Env):ResultVar->iI
 |.tmp t=>.tmp t
 |.cell t k=>.cell t (C.g k) (C.s k)
def fn(C:Env)(f:Func):dv:=match f.body with
 |none=>⟨0,[],.refuse⟩
 |some c=>⟨f.ntmps,f.results.toList.map (res C),code C (sZ C.lQ c) c⟩
end Go.ak.Kb
