/- An abstract machine, and that its evaluations stand for runs of the model (part 3); no condition. -/
import Derived.KernelRfl
import Derived.LaidLaws
import Derived.Test.YteenccgikdibpaaGreatDoorM2
import Derived.Test.YteenccgikdibpaaGreatDoorM1
noncomputable section
set_option linter.all false
namespace Go.an
variable{X:Ctx}
end Go.an
namespace Go.an
def KO(X:Ctx)(xf:df)(Fn:Func):Bool:=
 match Fn.body with
 |some c=>Nat.beq Fn.ntmps xf.aS&&codeOk X xf.aS xf.body c&&tE X xf.res Fn.results.toList&& !(Fn.name== "runtime.NumGoroutine")
 |none=>false
theorem agx{X:Ctx}{f:FuncId}{xf:df}{Fn:Func}(ab:X.P.funcs[f]? =some Fn)(h:KO X xf Fn=true):∃Fn c,vY X f xf Fn c:=by
 unfold KO at h;split at h
 ·rename_i c hc;simp only[bZ]at h;obtain⟨⟨⟨h1,h2⟩,h3⟩,ay⟩:=h;exact⟨Fn,c,ab,hc,ep h1,h2,h3,by simpa using ay⟩
 ·cases h
def ao.A4{α:Type}(Q:Nat->α->Prop):ao α->(Nat->Nat)->Prop
 |.nil,_=>True
 |.node l v r,g=>(match v with|some x=>Q (g 0) x|none=>True)∧ao.A4 Q l (fun n=>g (2*n+1))∧ao.A4 Q r (fun n=>g (2*n+2))
theorem ao.JD{α:Type}{Q:Nat->α->Prop}:∀(t:ao α) (g:Nat->Nat),ao.A4 Q t g->∀n x,t.get n=some x->Q (g n) x
 |.nil,_,_,n,x,h=>by simp at h
 |.node l v r,g,ha,n,x,h=>by
  obtain⟨h1,h2,h3⟩:=ha;cases n with
  |zero=>rw[ao.wH]at h;subst h;exact h1
  |succ m=>
   rw[ao.pv]at h;split at h
   ·rename_i hm;have:=ao.JD l _ h2 _ x h;have e:2*(m/2)+1=m+1:=by omega
    simp only[e]at this;exact this
   ·rename_i hm;have:=ao.JD r _ h3 _ x h;have e:2*(m/2)+2=m+1:=by omega
    simp only[e]at this;exact this
theorem atM{X:Ctx}{aW:ao df}(h:ao.A4 (fun f xf=>∃Fn c,vY X f xf Fn c) aW id):mY X aW:=
 fun f xf J=>ao.JD aW id h f xf J
def fL:nL:=fun _ _ _=>none
theorem fV(X:Ctx):ua X fL:=fun _ _ _ _ h=>by cases h
structure yz where
 P:Program
 aE:Nat
 jP:FuncId->Bool
 kb:FuncId->Bool
 Dq:∀f,jP f=true->∀x w,(callFunc f #[x]).run P w= .ok (.value x) w
 C4:∀f,kb f=true->∀s c w,(callFunc f #[.string s,.int .u8 c]).run P w= .ok (.value (goInt (match(List.range s.size).find? (fun i=>s[i]! ==c.toNat.toUInt8)with|some i=>(i:Int)|none=> -1))) w
 keys:TypeId->Option fN
 rQ:∀k c9,keys k=some c9->Maps.Keyed P k∧∀v,c9.ok v=true->∃l,keyOf P k v=some l
 pe:FuncId->Bool
 BL:∀f,pe f=true->∀s c w,(callFunc f #[.string s,.int .u8 c]).run P w= .ok (.value (goInt (s.data.toList.countP (fun b=>b==c.toNat.toUInt8):Nat))) w
 pP:FuncId->Bool
 lG:Nat
 Dl:lG<aE
 C6:∀f,pP f=true->∀(s b:ByteArray) (m:Int) w,(load ⟨lG,0,none⟩).run P w= .ok (.int .i64 m) w->2<=b.size->(b.size:Int)<=m->s.size<=1000000->
  (callFunc f #[.string s,.string b]).run P w= .ok (.value (goInt (match n8 b.data.toList s.data.toList with|some i=>(i:Int)|none=> -1))) w
 eqs:TypeId->Option Nat
 wB:∀t n,eqs t=some n->P.eqGuardType P.depth t=false∧∀xs aq b w,xs.size=n%100+n/100->aq.size=n%100+n/100->kB (n%100) xs.toList aq.toList=some b->(Op.equalIn 10000 t (.agg xs) (.agg aq)).run P w= .ok b w
def yz.with(B:yz)(ok:FuncId->Code->dy->Prop):Ctx:=
 {P:=B.P,ok:=ok,aE:=B.aE,jP:=B.jP,kb:=B.kb,Dq:=B.Dq,C4:=B.C4,keys:=B.keys,rQ:=B.rQ,pe:=B.pe,BL:=B.BL,pP:=B.pP,lG:=B.lG,Dl:=B.Dl,C6:=B.C6,eqs:=B.eqs,wB:=B.wB}
def mkCtx(B:yz):Ctx:=B.with fun fn c sn=>∃F,B.P.funcs[fn]? =some F∧codeOk (B.with fun _ _ _=>False) F.ntmps sn c=true
theorem ac3(B:yz)(ok vn:FuncId->Code->dy->Prop):codeOk (B.with ok)=codeOk (B.with vn):=by kernel_rfl
theorem anE(B:yz)(iq:B.P.follows .mixedOrders=true):Good (mkCtx B):=by
 refine⟨iq,fun fn c sn=> ?_⟩;have e:codeOk (mkCtx B)=codeOk (B.with fun _ _ _=>False):=ac3 B _ _;rw[e];exact Iff.rfl
section
variable{X:Ctx}
theorem bt.YU{ι:bA}{st:au}{w:World}(h:bt X ι st w){g:Nat}{u:Value}{el:TypeId}{bn:Nat×Nat}{a8:Bool}(aO:st.h.get g=some (.cells [u] el bn a8)):
 ∃c,bq ι u c∧∀sf,bq ι sf c->bt X ι ⟨st.h.set g (.cells [sf] el bn a8),st.ai⟩ w:=by
 obtain⟨l,hl,C,eT,hC⟩:=h.eK _ _ aO (by simp);obtain⟨c,rz,lV⟩:=hC.cell 0 (by simp);refine⟨c,by simpa using lV,fun sf CU=>⟨fun i o ak av=> ?_,fun i j o p a b ae hz hj hK ha aa Le e=> ?_,fun i ae=> ?_,h.gK,h.lT,h.px,fun i a o ha ah ak av=> ?_⟩⟩
 ·rw[ao.ey]at ak;by_cases e:i=g
  ·rw[if_pos e]at ak;cases ak;subst e;refine⟨l,hl,C,eT,hC.there,hC.room,fun j hj=> ?_,hC.yu,hC.plain⟩;have:j=0:=by simpa using hj
   subst this;exact⟨c,rz,by simpa using CU⟩
  ·rw[if_neg e]at ak;exact h.eK i o ak av
 ·have hh:∀k q,(st.h.set g (.cells [sf] el bn a8)).get k=some q->q≠.dead->∃fg,st.h.get k=some fg∧fg≠.dead:=by
   intro k q U hq;rw[ao.ey]at U;by_cases e:k=g
   ·subst e;exact⟨_,aO,by simp⟩
   ·rw[if_neg e]at U;exact⟨q,U,hq⟩
  obtain⟨bd,h1,h2⟩:=hh i o ae hz;obtain⟨gh,h3,ay⟩:=hh j p hj hK;exact h.inj i j bd gh a b h1 h2 h3 ay ha aa Le e
 ·have:=h.fresh i ae;refine⟨this.1,?_⟩;rw[ao.ey,if_neg]
  ·exact this.2
  ·intro e;subst e;rw[this.2]at aO;cases aO
 ·rw[ao.ey]at ak;by_cases e:i=g
  ·rw[if_pos e]at ak;cases ak;subst e;show a8=false∧bn.1<bn.2;exact h.ma i a _ ha ah aO (by simp)
  ·rw[if_neg e]at ak;exact h.ma i a o ha ah ak av
def Row.oM(r:Row)(g:Nat)(el:TypeId)(c:Nat):Row:=
 ⟨r.as,⟨r.st.h.set g (.cells [.chan (some c)] el (0,1) false),r.st.ai⟩,r.v,⟨r.st'.h.set g (.cells [.chan (some c)] el (0,1) false),r.st'.ai⟩⟩
theorem aqD{st:au}{g:Nat}{o bd:bw}(h:st.h.get g=some o):au.le st ⟨(st.h.set g bd).set g o,st.ai⟩:=by
 refine⟨rfl,fun n x J=> ?_⟩;show((st.h.set g bd).set g o).get n=some x;rw[ao.ey];by_cases e:n=g
 ·subst e;rw[if_pos rfl];rw[h]at J;exact J
 ·rw[if_neg e,ao.ey,if_neg e];exact J
theorem tG{f:FuncId}{r:Row}{g n:Nat}{el:TypeId}(h0:r.st.h.get g=some (.cells [.chan (some 1)] el (0,1) false))(kC:r.st'.h.get g=some (.cells [.chan (some 1)] el (0,1) false))
 (h1:cx X f (r.oM g el (2*n+2))) (h2:cx X f (r.oM g el (2*n+3))):cx X f r:=by
 intro ι as' w ha hw;obtain⟨c,hc,qE⟩:=hw.YU h0;obtain⟨m,rfl,_⟩:=hc.DA (by decide);have key:∀k,Oh k m->cx X f (r.oM g el k)->(∀as w,(callFunc f as).run X.P w= .ok (.enter f as) w)∧
  ∀(K:CallKind) (bz:Bool->List Frame),kR ⟨f,K,none⟩ none ι bz->j0 X ι w ⟨f,K,none⟩ bz (lone (Frame.enter X.P f as'.toArray K) (bz false) w) (.ret r.v r.st' false):=by
  intro k U jL;obtain⟨cn,cz⟩:=jL ι as' w ha (qE _ (.iC k m U));refine⟨cn,fun K bz aQ=> ?_⟩;obtain⟨aV,v',w',F,aL,aR,a7,cl⟩:=cz K bz aQ;obtain⟨dC,lV,alJ⟩:=bt.YU (u:=.chan (some k)) aR (by show(r.st'.h.set g _).get g=_;rw[ao.pw]);obtain⟨iQ,rfl,_⟩:=lV.DA (by intro e;subst e;rcases U with h|⟨_,h,_⟩|⟨_,h,_⟩<;>omega);have dc:=alJ (.chan (some 1)) (.iC 1 iQ (.inl rfl));exact⟨aV,v',w',F,aL,bt.less (aqD kC) dc,a7,cl⟩
 by_cases hm:(n:Int)<=m
 ·exact key _ (.inr (.inl ⟨n,rfl,hm⟩)) h1
 ·exact key _ (.inr (.inr ⟨n,rfl,by omega⟩)) h2
end
end Go.an
namespace Go.an
variable{P:Program}
def Qg(i:Nat)(d:Option TypeDesc):Bool:=match i,d with
 |0,some .string=>true
 |_+1,some (.int _)=>true
 |_,_=>false
def FK(P:Program):List Field->Nat->Nat->Bool
 |[],_,_=>true
 |f::fs,i,o=>Nat.beq f.offset o&&f.name != "_"&&Qg i (P.underlying f.type)&&FK P fs (i-1) (o+1)
def FJ(P:Program)(t n:Nat):Bool:=match P.underlying t with
 |some (.struct fs)=> !P.stoodInHeld t&&Nat.beq fs.size (n%100+n/100)&&FK P fs.toList (n%100) 0&& !P.eqGuardType P.depth t
 |_=>false
theorem Rc(w:World)(d:Nat)(xs aq:Array Value):∀(fs:List Field) (i o:Nat) (b:Bool),FK P fs i o=true->kB i (xs.toList.drop o) (aq.toList.drop o)=some b->xs.size=o+fs.length->aq.size=o+fs.length->
 (Op.eqFields (d+1) xs aq fs).run P w= .ok b w
 |[],i,o,b,_,he,J,aG=>by
  rw[List.drop_of_length_le (by simp;simpa using Nat.le_of_eq J),List.drop_of_length_le (by simp;simpa using Nat.le_of_eq aG)]at he;cases he;simp[Op.eqFields]
 |f::fs,i,o,b,ab,he,J,aG=>by
  unfold FK at ab;simp only[bZ]at ab;obtain⟨⟨⟨h1,h2⟩,h3⟩,ay⟩:=ab;have h1:=ep h1;have hn:f.name≠ "_":=by simpa using h2
  rw[List.length_cons]at J aG;have Dh:o<xs.toList.length:=by simp;omega
  have ans:o<aq.toList.length:=by simp;omega
  rw[List.drop_eq_getElem_cons Dh,List.drop_eq_getElem_cons ans]at he;unfold kB at he;obtain⟨iZ,h0,he⟩:=fy (z:=none) (r:=some b) he (by simp);have alD:∃cZ,kB (i-1) (xs.toList.drop (o+1)) (aq.toList.drop (o+1))=some cZ∧b=(iZ&&cZ):=by
   cases iZ
   ·obtain⟨cZ,fQ,mE⟩:=fy (z:=none) (r:=some b) he (by simp);cases mE;exact⟨cZ,fQ,rfl⟩
   ·exact⟨b,he,by simp⟩
  obtain⟨cZ,fQ,aa⟩:=alD;have a0:=Rc w d xs aq fs (i-1) (o+1) cZ ay fQ (by omega) (by omega);have ajU:xs[f.offset]? =some xs.toList[o]:=by rw[h1];simp
  have ajV:aq[f.offset]? =some aq.toList[o]:=by rw[h1];simp
  generalize xs.toList[o]=x at *;generalize aq.toList[o]=y at *;have U:(i=0∧P.underlying f.type=some .string)∨(i≠0∧∃k,P.underlying f.type=some (.int k)):=by
   unfold Qg at h3;split at h3
   ·exact .inl ⟨rfl,by assumption⟩
   ·exact .inr ⟨by omega,_,by assumption⟩
   ·cases h3
  have hp:∀(cs:Array Value) (v:Value),cs[f.offset]? =some v->(part f.type cs f.offset).run P w= .ok v w:=by
   intro cs v h;rcases U with⟨_,hu⟩|⟨_,k,hu⟩
   ·simp[part,isAgg,run_underlying hu,h]
   ·simp[part,isAgg,run_underlying hu,h]
  have hq:(Op.equalIn (d+1) f.type x y).run P w= .ok iZ w:=by
   rcases U with⟨ae,hu⟩|⟨ae,k,hu⟩
   ·subst ae;have h0:B3 x y=some iZ:=h0;unfold B3 at h0;split at h0
    ·cases h0;rw[run_equalIn_string w d f.type _ _ hu,toList_eq]
    ·cases h0
   ·obtain⟨j,rfl⟩:∃j,i=j+1:=⟨i-1,by omega⟩;have aY:Fz x y=some iZ:=h0;clear h0;cases x<;>cases y<;>try (cases aY;done)
    rename_i bj m bM n;have h0:=aY;clear aY;have h0:(if bj=bM then some (m==n)else none)=some iZ:=h0;by_cases e:bj=bM
    ·subst e;rw[if_pos rfl]at h0;cases h0;exact run_equalIn_int w d f.type _ k _ _ hu
    ·rw[if_neg e]at h0;cases h0
  have aA:=hp xs x ajU;have e2:=hp aq y ajV;simp only[Op.eqFields,hn,ne_eq,not_false_eq_true,if_true,Sem.run_bind,aA,e2,hq,Result.andThen_ok];rw[aa];cases iZ
  ·simp
  ·simpa using a0
theorem agu{t n:Nat}(h:FJ P t n=true):P.eqGuardType P.depth t=false∧∀xs aq b w,xs.size=n%100+n/100->aq.size=n%100+n/100->kB (n%100) xs.toList aq.toList=some b->(Op.equalIn 10000 t (.agg xs) (.agg aq)).run P w= .ok b w:=by
 unfold FJ at h;split at h
 ·rename_i fs hu;simp only[bZ]at h;obtain⟨⟨⟨h1,h2⟩,h3⟩,ay⟩:=h;have h2:=ep h2;have ab:P.fieldsOf t=fs:=by simp[Program.fieldsOf,hu]
  refine⟨by simpa using ay,fun xs aq b w J aG he=> ?_⟩;rw[show(10000:Nat)=9998+1+1 from rfl,run_equalIn_struct w (9998+1) t xs aq (by rw[ab];exact hu) (by simpa using h1),ab];exact Rc w 9998 xs aq fs.toList _ 0 b h3 (by simpa using he) (by simp;omega) (by simp;omega)
 ·cases h
end Go.an
namespace Go.an
inductive fG(R:Nat->Nat->Prop):Value->Value->Prop
 |bool (b:Bool):fG R (.bool b) (.bool b)
 |int (k:IntKind) (n:Int):fG R (.int k n) (.int k n)
 |string (s:ByteArray):fG R (.string s) (.string s)
 |ns:fG R (.pointer none) (.pointer none)
 |ptr (a b:Addr) (h:R a.block b.block) (ak:a.off=b.off) (ha:a.spot=none) (aa:b.spot=none):fG R (.pointer (some a)) (.pointer (some b))
 |nD (n c:Nat):fG R (.slice none n c) (.slice none n c)
 |gH (a b:Addr) (n c:Nat) (h:R a.block b.block) (ak:a.off=b.off) (ha:a.spot=none) (aa:b.spot=none):fG R (.slice (some a) n c) (.slice (some b) n c)
 |pV:fG R (.map none) (.map none)
 |map (i j:Nat) (h:R i j):fG R (.map (some i)) (.map (some j))
 |func (f:FuncId) (xs aq us vs:Array Value) (h1:xs.size=aq.size) (h2:∀i (h:i<xs.size) (aB:i<aq.size),fG R xs[i] aq[i])
  (h3:us.size=vs.size) (ay:∀i (h:i<us.size) (aB:i<vs.size),fG R us[i] vs[i]):fG R (.func (.func f) xs us) (.func (.func f) aq vs)
 |nilFunc:fG R .nilFunc .nilFunc
 |iface (t:TypeId) (v w:Value) (h:fG R v w):fG R (.iface t v) (.iface t w)
 |nilIface:fG R .nilIface .nilIface
 |agg (xs aq:Array Value) (h1:xs.size=aq.size) (h2:∀i (h:i<xs.size) (aB:i<aq.size),fG R xs[i] aq[i]):fG R (.agg xs) (.agg aq)
 |tuple (xs aq:Array Value) (h1:xs.size=aq.size) (h2:∀i (h:i<xs.size) (aB:i<aq.size),fG R xs[i] aq[i]):fG R (.tuple xs) (.tuple aq)
 |chan (c:Nat):fG R (.chan (some c)) (.chan (some c))
theorem fG.mono{R S:Nat->Nat->Prop}(hle:∀i j,R i j->S i j){v w:Value}(h:fG R v w):fG S v w:=by
 induction h with
 |bool b=>exact .bool b
 |int k n=>exact .int k n
 |string s=>exact .string s
 |ns=>exact .ns
 |ptr a b h ak ha aa=>exact .ptr a b (hle _ _ h) ak ha aa
 |nD n c=>exact .nD n c
 |gH a b n c h ak ha aa=>exact .gH a b n c (hle _ _ h) ak ha aa
 |pV=>exact .pV
 |map i j h=>exact .map i j (hle _ _ h)
 |func f xs aq us vs h1 _ h3 _ nm xo=>exact .func f xs aq us vs h1 nm h3 xo
 |nilFunc=>exact .nilFunc
 |iface t v w _ a0=>exact .iface t v w a0
 |nilIface=>exact .nilIface
 |agg xs aq h1 _ a0=>exact .agg xs aq h1 a0
 |tuple xs aq h1 _ a0=>exact .tuple xs aq h1 a0
 |chan c=>exact .chan c
theorem fG.symm{R:Nat->Nat->Prop}{v w:Value}(h:fG R v w):fG (fun j i=>R i j) w v:=by
 induction h with
 |bool b=>exact .bool b
 |int k n=>exact .int k n
 |string s=>exact .string s
 |ns=>exact .ns
 |ptr a b h ak ha aa=>exact .ptr b a h ak.symm aa ha
 |nD n c=>exact .nD n c
 |gH a b n c h ak ha aa=>exact .gH b a n c h ak.symm aa ha
 |pV=>exact .pV
 |map i j h=>exact .map j i h
 |func f xs aq us vs h1 _ h3 _ nm xo=>exact .func f aq xs vs us h1.symm (fun i a b=>nm i b a) h3.symm (fun i a b=>xo i b a)
 |nilFunc=>exact .nilFunc
 |iface t v w _ a0=>exact .iface t w v a0
 |nilIface=>exact .nilIface
 |agg xs aq h1 _ a0=>exact .agg aq xs h1.symm (fun i a b=>a0 i b a)
 |tuple xs aq h1 _ a0=>exact .tuple aq xs h1.symm (fun i a b=>a0 i b a)
 |chan c=>exact .chan c
theorem fG.Ev{R:Nat->Nat->Prop}{kg aV:bA}(cI:∀i j l,R i j->kg i=some l->aV j=some l){v c:Value}(h:fG R v c):∀{x:Value},bq kg v x->bq aV c x:=by
 induction h with
 |bool b=>intro x J;cases J;exact .bool b
 |int k n=>intro x J;cases J;exact .int k n
 |string s=>intro x J;cases J;exact .string s
 |ns=>intro x J;cases J;exact .ns
 |ptr a b h ak ha aa=>
  intro x J;cases J with
  |ptr a l hl ah=>rw[ak];exact .ptr b l (cI _ _ _ h hl) aa
 |nD n c=>intro x J;cases J;exact .nD n c
 |gH a b n c h ak ha aa=>
  intro x J;cases J with
  |gH a l o n c hl ah h3=>exact .gH b l o n c (cI _ _ _ h hl) aa (by rw[<-ak];exact h3)
 |pV=>intro x J;cases J;exact .pV
 |map i j h=>intro x J;cases J with|map r b cj hl=>exact .map j b cj (cI _ _ _ h hl)
 |func f xs aq us vs h1 _ h3 _ nm xo=>
  intro x J;cases J with
  |func m5 g tQ iW asX fX ab aL aR a7 cl=>
   refine .func _ _ aq iW vs fX ?_ (h1.symm.trans aL) (fun i a b=>nm i (by omega) a (aR i (by omega) b)) (h3.symm.trans a7) (fun i a b=>xo i (by omega) a (cl i (by omega) b));rcases ab with⟨e,aG⟩|⟨l,b,e,_⟩
   ·exact .inl ⟨e,aG⟩
   ·cases e
 |nilFunc=>intro x J;cases J;exact .nilFunc
 |iface t v w _ a0=>intro x J;cases J with|iface t v y aH=>exact .iface t w y (a0 aH)
 |nilIface=>intro x J;cases J;exact .nilIface
 |agg xs aq h1 _ a0=>intro x J;cases J with|agg tQ iW aL aR=>exact .agg aq iW (h1.symm.trans aL) (fun i a b=>a0 i (by omega) a (aR i (by omega) b))
 |tuple xs aq h1 _ a0=>intro x J;cases J with|tuple tQ iW aL aR=>exact .tuple aq iW (h1.symm.trans aL) (fun i a b=>a0 i (by omega) a (aR i (by omega) b))
 |chan c=>
  intro x J;by_cases hc:c=0
  ·subst hc;exact .top x
  ·obtain⟨m,rfl,hu⟩:=J.DA hc;exact .iC c m hu
def j3(R:Nat->Nat->Prop)(xs aq:List Value):Prop:=xs.length=aq.length∧∀(i:Nat) (h:i<xs.length) (aB:i<aq.length),fG R xs[i] aq[i]
theorem j3.mono{R S:Nat->Nat->Prop}(hle:∀i j,R i j->S i j){xs aq:List Value}(h:j3 R xs aq):j3 S xs aq:=⟨h.1,fun i a b=>(h.2 i a b).mono hle⟩
theorem j3.symm{R:Nat->Nat->Prop}{xs aq:List Value}(h:j3 R xs aq):j3 (fun j i=>R i j) aq xs:=⟨h.1.symm,fun i a b=>(h.2 i b a).symm⟩
theorem j3.nil(R:Nat->Nat->Prop):j3 R [] []:=⟨rfl,fun i h=>by simp at h⟩
theorem j3.cons{R:Nat->Nat->Prop}{x y:Value}{xs aq:List Value}(h:fG R x y)(ah:j3 R xs aq):j3 R (x::xs) (y::aq):=by
 refine⟨by simp[ah.1],fun i a b=> ?_⟩;cases i with
 |zero=>exact h
 |succ i=>exact ah.2 i (by simpa using a) (by simpa using b)
theorem j3.atb{R:Nat->Nat->Prop}{kg aV:bA}(cI:∀i j l,R i j->kg i=some l->aV j=some l){vs cs xs:List Value}(h:j3 R vs cs)(J:bN kg vs xs):bN aV cs xs:=
 ⟨h.1.symm.trans J.1,fun i a b=>(h.2 i (by have:=h.1;omega) a).Ev cI (J.2 i (by have:=h.1;omega) b)⟩
theorem fG.OY{R:Nat->Nat->Prop}{xs aq:Array Value}(h:j3 R xs.toList aq.toList):fG R (.agg xs) (.agg aq):=
 .agg xs aq (by simpa using h.1) fun i a b=>by have:=h.2 i (by simpa using a) (by simpa using b);rwa [Array.getElem_toList,Array.getElem_toList]at this
theorem fG.tuple'{R:Nat->Nat->Prop}{xs aq:Array Value}(h:j3 R xs.toList aq.toList):fG R (.tuple xs) (.tuple aq):=
 .tuple xs aq (by simpa using h.1) fun i a b=>by have:=h.2 i (by simpa using a) (by simpa using b);rwa [Array.getElem_toList,Array.getElem_toList]at this
theorem fG.Rq{R:Nat->Nat->Prop}{f:FuncId}{xs aq us vs:Array Value}(h:j3 R xs.toList aq.toList)(aB:j3 R us.toList vs.toList):fG R (.func (.func f) xs us) (.func (.func f) aq vs):=
 .func f xs aq us vs (by simpa using h.1) (fun i a b=>by have:=h.2 i (by simpa using a) (by simpa using b);rwa [Array.getElem_toList,Array.getElem_toList]at this) (by simpa using aB.1) (fun i a b=>by have:=aB.2 i (by simpa using a) (by simpa using b);rwa [Array.getElem_toList,Array.getElem_toList]at this)
inductive iG{α β:Type}(R:α->β->Prop):List α->List β->Prop
 |nil:iG R [] []
 |cons {a:α} {b:β} {as:List α} {bW:List β} (h:R a b) (ah:iG R as bW):iG R (a::as) (b::bW)
theorem iG.mono{α β:Type}{R S:α->β->Prop}(hle:∀a b,R a b->S a b){as:List α}{bW:List β}(h:iG R as bW):iG S as bW:=by
 induction h with
 |nil=>exact .nil
 |cons h _ a0=>exact .cons (hle _ _ h) a0
theorem iG.flip{α β:Type}{R:α->β->Prop}{as:List α}{bW:List β}(h:iG R as bW):iG (fun b a=>R a b) bW as:=by
 induction h with
 |nil=>exact .nil
 |cons h _ a0=>exact .cons h a0
theorem iG.perm{α β:Type}{R:α->β->Prop}{l es:List α}(hp:l.Perm es):∀{fs:List β},iG R es fs->∃m:List β,m.Perm fs∧iG R l m:=by
 induction hp with
 |nil=>intro fs h;cases h;exact⟨[],.refl _,.nil⟩
 |cons x _ a0=>
  intro fs h;cases h with
  |cons h ah=>obtain⟨m,h1,h2⟩:=a0 ah;exact⟨_::m,.cons _ h1,.cons h h2⟩
 |swap x y l=>
  intro fs h;cases h with
  |cons h ah=>cases ah with|cons aB ah=>exact⟨_::_::_,.swap _ _ _,.cons aB (.cons h ah)⟩
 |trans _ _ C8 nm=>
  intro fs h;obtain⟨m,h1,h2⟩:=nm h;obtain⟨n,h3,ay⟩:=C8 h2;exact⟨n,h3.trans h1,ay⟩
theorem iG.len{α β:Type}{R:α->β->Prop}{as:List α}{bW:List β}(h:iG R as bW):as.length=bW.length:=by
 induction h with
 |nil=>rfl
 |cons _ _ a0=>simp[a0]
theorem iG.at{α β:Type}{R:α->β->Prop}{as:List α}{bW:List β}(h:iG R as bW):∀(i:Nat) (a:i<as.length) (b:i<bW.length),R as[i] bW[i]:=by
 induction h with
 |nil=>intro i a;simp at a
 |cons h _ a0=>
  intro i a b;cases i with
  |zero=>exact h
  |succ i=>exact a0 i (by simpa using a) (by simpa using b)
structure ob(R:Nat->Nat->Prop)(e f:MapEntry):Prop where
 key:e.key=f.key
 L1:fG R e.key f.key
 val:fG R e.val f.val
 born:e.born=f.born
theorem ob.mono{R S:Nat->Nat->Prop}(hle:∀i j,R i j->S i j){e f:MapEntry}(h:ob R e f):ob S e f:=⟨h.key,h.L1.mono hle,h.val.mono hle,h.born⟩
theorem ob.symm{R:Nat->Nat->Prop}{e f:MapEntry}(h:ob R e f):ob (fun j i=>R i j) f e:=⟨h.key.symm,h.L1.symm,h.val.symm,h.born.symm⟩
inductive kj(R:Nat->Nat->Prop):bw->bw->Prop
 |cells (cs ds:List Value) (e:TypeId) (bn:Nat×Nat) (a8:Bool) (h:j3 R cs ds):kj R (.cells cs e bn a8) (.cells ds e bn a8)
 |map (es fs:List MapEntry) (c:Nat) (h:iG (ob R) es fs):kj R (.map es c) (.map fs c)
theorem kj.mono{R S:Nat->Nat->Prop}(hle:∀i j,R i j->S i j){o p:bw}(h:kj R o p):kj S o p:=by
 cases h with
 |cells cs ds e bn a8 h=>exact .cells cs ds e bn a8 (h.mono hle)
 |map es fs c h=>exact .map es fs c (h.mono fun _ _ h=>h.mono hle)
theorem kj.symm{R:Nat->Nat->Prop}{o p:bw}(h:kj R o p):kj (fun j i=>R i j) p o:=by
 cases h with
 |cells cs ds e bn a8 h=>exact .cells ds cs e bn a8 h.symm
 |map es fs c h=>exact .map fs es c (h.flip.mono fun _ _ h=>h.symm)
theorem kj.live{R:Nat->Nat->Prop}{o p:bw}(h:kj R o p):o≠.dead∧p≠.dead:=by cases h<;>simp
theorem kj.uJ{R:Nat->Nat->Prop}{o p:bw}(h:kj R o p):o.uJ↔p.uJ:=by cases h<;>exact Iff.rfl
variable{X:Ctx}
theorem kj.WU{R:Nat->Nat->Prop}{kg aV:bA}(cI:∀i j l,R i j->kg i=some l->aV j=some l){o p:bw}(h:kj R o p){w:World}{l:Loc}(hm:jm X kg w o l):jm X aV w p l:=by
 cases h with
 |cells cs ds e bn a8 h=>
  obtain⟨C,eT,hC⟩:=hm;refine⟨C,eT,hC.there,by rw[<-h.1];exact hC.room,fun i ae=> ?_,by rw[<-h.1];exact hC.yu,by rw[<-h.1];exact hC.plain⟩;have ea:i<cs.length:=by rw[h.1];exact ae
  obtain⟨c,h1,h2⟩:=hC.cell i ea;exact⟨c,h1,(h.2 i ea ae).Ev cI h2⟩
 |map es fs c h=>
  obtain⟨h0,kC,C,bJ,h1,h2⟩:=hm;have ez:∀f∈fs,∃e∈es,ob R e f:=by
   clear h1 h2;intro f ab
   induction h with
   |nil=>cases ab
   |cons h _ a0=>
    rcases List.mem_cons.1 ab with rfl|ab
    ·exact⟨_,by simp,h⟩
    ·obtain⟨e,he,aB⟩:=a0 ab;exact⟨e,List.mem_cons_of_mem _ he,aB⟩
  have HJ:∀(Q:MapEntry->MapEntry->Prop),(∀a b c d,ob R a c->ob R b d->Q a b->Q c d)->es.Pairwise Q->fs.Pairwise Q:=by
   intro Q oE hp;clear h1 h2 ez
   induction h with
   |nil=>exact .nil
   | @cons a b as bW h ah a0=>
    rw[List.pairwise_cons]at hp⊢;refine⟨fun d av=> ?_,a0 hp.2⟩;have:∃e∈as,ob R e d:=by
     clear a0 hp
     induction ah with
     |nil=>cases av
     |cons aB _ LS=>
      rcases List.mem_cons.1 av with rfl|av
      ·exact⟨_,by simp,aB⟩
      ·obtain⟨e,he,na⟩:=LS av;exact⟨e,List.mem_cons_of_mem _ he,na⟩
    obtain⟨e,he,akE⟩:=this;exact oE a e b d h akE (hp.1 e he)
  refine⟨h0,kC,C,bJ,h1,h2.sC,h2.AO,fun f ab=> ?_,HJ _ (fun a b c d h1 h2 U=>by rw[<-h1.key,<-h2.key];exact U) h2.keys,HJ _ (fun a b c d h1 h2 U=>by rw[<-h1.born,<-h2.born];exact U) h2.yP,?_⟩
  ·obtain⟨e,he,Lc⟩:=ez f ab;rw[<-Lc.born];exact h2.born e he
  ·obtain⟨fp,aL,aR,a7⟩:=h2.same;obtain⟨m,bj,bM⟩:=h.perm aL;refine⟨m,bj,bM.len.symm.trans aR,fun i a b=> ?_⟩;have a':i<fp.length:=by rw[bM.len];exact a
   obtain⟨cn,cz,dp⟩:=a7 i a' b;have q:=bM.at i a' a;exact⟨q.L1.Ev cI cn,q.val.Ev cI cz,by rw[dp,q.born]⟩
end Go.an
namespace Go.an
structure c5 where
 cH:ao Nat
 inv:ao Nat
 bf:Nat
def c5.R(s:c5)(i j:Nat):Prop:=s.cH.get i=some j
structure c5.c2(s:c5):Prop where
 iff:∀i j,s.cH.get i=some j↔s.inv.get j=some i
 kY:∀i j,s.cH.get i=some j->i<s.bf
def c5.le(s t:c5):Prop:=∀i j,s.cH.get i=some j->t.cH.get i=some j
theorem c5.le.refl(s:c5):s.le s:=fun _ _ h=>h
theorem c5.le.trans{s t u:c5}(h:s.le t)(aB:t.le u):s.le u:=fun i j e=>aB i j (h i j e)
def xB(i j:Nat)(s:c5):Option c5:=
 bl (s.inv.get j) (fun gZ=>cond (Nat.beq i gZ) (some s) none)
  (cond (Nat.beq i s.bf) (ao.fin (ao.kd (Nat.succ i) s.cH i j) fun cH=>ao.fin (ao.kd (Nat.succ j) s.inv j i) fun inv=>ga (Nat.succ i) fun c=>some ⟨cH,inv,c⟩) none)
theorem Mi{i j:Nat}{s br:c5}(ah:s.c2)(h:xB i j s=some br):br.c2∧s.le br∧br.R i j:=by
 unfold xB at h;cases hj:s.inv.get j with
 |some gZ=>
  rw[hj]at h;have h:cond (Nat.beq i gZ) (some s) none=some br:=h;cases aa:Nat.beq i gZ with
  |false=>rw[aa]at h;cases h
  |true=>
   rw[aa]at h;cases h;have:=ep aa;subst this;exact⟨ah,.refl s,(ah.iff i j).2 hj⟩
 |none=>
  rw[hj]at h;have h:cond (Nat.beq i s.bf) (ao.fin (ao.kd (Nat.succ i) s.cH i j) fun cH=>ao.fin (ao.kd (Nat.succ j) s.inv j i) fun inv=>ga (Nat.succ i) fun c=>some ⟨cH,inv,c⟩) none=some br:=h;cases aa:Nat.beq i s.bf with
  |false=>rw[aa]at h;cases h
  |true=>
   rw[aa]at h;have e:=ep aa;simp only[cond_true,ao.qs,ao.vu]at h;unfold ga at h;rw[Nat.beq_refl]at h;simp only[cond_true,Option.some.injEq]at h;subst h;have gd:∀b,s.cH.get i≠some b:=fun b aa=>by have:=ah.kY _ _ aa;omega
   refine⟨⟨fun a b=> ?_,fun a b iK=> ?_⟩,fun a b iK=> ?_,?_⟩
   ·show(s.cH.set i j).get a=some b↔(s.inv.set j i).get b=some a;rw[ao.ey,ao.ey];by_cases ha:a=i<;>by_cases lU:b=j
    ·rw[if_pos ha,if_pos lU,ha,lU];simp
    ·rw[if_pos ha,if_neg lU];subst ha;constructor
     ·intro e;exact absurd (Option.some.inj e).symm lU
     ·intro e;exact absurd ((ah.iff _ _).2 e) (gd b)
    ·rw[if_neg ha,if_pos lU];subst lU;constructor
     ·intro e;rw[(ah.iff _ _).1 e]at hj;cases hj
     ·intro e;exact absurd (Option.some.inj e).symm ha
    ·rw[if_neg ha,if_neg lU];exact ah.iff a b
   ·have iK:(s.cH.set i j).get a=some b:=iK;show a<Nat.succ i;rw[ao.ey]at iK;by_cases ha:a=i
    ·omega
    ·rw[if_neg ha]at iK;have:=ah.kY _ _ iK;omega
   ·show(s.cH.set i j).get a=some b;rw[ao.ey,if_neg]
    ·exact iK
    ·intro ha;subst ha;exact gd b iK
   ·show(s.cH.set i j).get i=some j;rw[ao.pw]
def Mf(a b:Option Addr)(s:c5):Option c5:=
 Option.rec (motive:=fun _=>Option c5) (Option.rec (motive:=fun _=>Option c5) (some s) (fun _=>none) b)
  (fun a=>Option.rec (motive:=fun _=>Option c5) none
   (fun b=>cond (Nat.beq a.off b.off) (Option.rec (motive:=fun _=>Option c5) (Option.rec (motive:=fun _=>Option c5) (xB a.block b.block s) (fun _=>none) b.spot) (fun _=>none) a.spot) none) b) a
theorem V0{a b:Option Addr}{s br:c5}(h:Mf a b s=some br):
 (a=none∧b=none∧br=s)∨∃p q,a=some p∧b=some q∧p.off=q.off∧p.spot=none∧q.spot=none∧xB p.block q.block s=some br:=by
 cases a with
 |none=>
  cases b with
  |none=>left;exact⟨rfl,rfl,(Option.some.inj h).symm⟩
  |some q=>cases h
 |some p=>
  cases b with
  |none=>cases h
  |some q=>
   right;obtain⟨M5,xQ,ps⟩:=p;obtain⟨ao4,DM,dj⟩:=q;cases ak:Nat.beq xQ DM with
   |false=>
    have h:cond (Nat.beq xQ DM) _ none=some br:=h;rw[ak]at h;cases h
   |true=>
    cases ps with
    |some x=>
     have h:cond (Nat.beq xQ DM) none none=some br:=h;rw[ak]at h;cases h
    |none=>
     cases dj with
     |some x=>
      have h:cond (Nat.beq xQ DM) none none=some br:=h;rw[ak]at h;cases h
     |none=>
      have h:cond (Nat.beq xQ DM) (xB M5 ao4 s) none=some br:=h;rw[ak]at h;exact⟨_,_,rfl,rfl,ep ak,rfl,rfl,h⟩
def Mh(f g:Fn)(k:Option c5):Option c5:=
 match f,g with
 |.func a,.func b=>cond (Nat.beq a b) k none
 |_,_=>none
theorem anz{f g:Fn}{k:Option c5}{s:c5}(h:Mh f g k=some s):∃a,f= .func a∧g= .func a∧k=some s:=by
 unfold Mh at h;split at h
 ·rename_i a b;cases aa:Nat.beq a b with
  |false=>rw[aa]at h;cases h
  |true=>rw[aa]at h;exact⟨a,rfl,by rw[ep aa],h⟩
 ·cases h
def acH(a b:List UInt8):Bool:=a==b
def J8(a b:Bool):Bool:=cond a b (cond b false true)
theorem P8{a b:Bool}(h:J8 a b=true):a=b:=by cases a<;>cases b<;>first|rfl|cases h
def V6(w:Value)(s:c5):Option c5:=match w with|.nilFunc=>some s|_=>none
def V7(w:Value)(s:c5):Option c5:=match w with|.nilIface=>some s|_=>none
def V1(c:Option Nat)(w:Value)(s:c5):Option c5:=match c,w with|some a,.chan (some b)=>cond (Nat.beq a b) (some s) none|_,_=>none
def YF(f:Fn)(k:FuncId->Option Value):Option Value:=match f with|.func g=>k g|_=>none
def YD(c:Option Nat):Option Value:=match c with|some c=>some (.chan (some c))|none=>none
mutual
def jN:Value->Value->c5->Option c5
 |.bool a,w,s=>mT w (fun b=>cond (J8 a b) (some s) none) none
 |.int k a,w,s=>gB w (fun k' b=>cond (jM k k') (cond (ru a b) (some s) none) none) none
 |.string a,w,s=>jB w (fun b=>cond (acH a.data.toList b.data.toList) (some s) none) none
 |.pointer a,w,s=>iD w (fun b=>Mf a b s) none
 |.slice a n c,w,s=>ku w (fun b b8 bJ=>cond (Nat.beq n b8) (cond (Nat.beq c bJ) (Mf a b s) none) none) none
 |.map a,w,s=>yo w (fun b=>Option.rec (motive:=fun _=>Option c5) (Option.rec (motive:=fun _=>Option c5) (some s) (fun _=>none) b) (fun i=>Option.rec (motive:=fun _=>Option c5) none (fun j=>xB i j s) b) a) none
 |.func f xs us,w,s=>yn w (fun g aq vs=>Mh f g (bl (zW xs aq s) (fun s=>zW us vs s) none)) none
 |.nilFunc,w,s=>V6 w s
 |.nilIface,w,s=>V7 w s
 |.iface t v,w,s=>si w (fun u y=>cond (Nat.beq t u) (jN v y s) none) none
 |.agg xs,w,s=>q2 w (fun aq=>zW xs aq s) none
 |.tuple xs,w,s=>qb w (fun aq=>zW xs aq s) none
 |.chan c,w,s=>V1 c w s
 |_,_,_=>none
def zW:Array Value->Array Value->c5->Option c5
 |⟨xs⟩,aq,s=>xA xs aq.toList s
def xA:List Value->List Value->c5->Option c5
 |[],aq,s=>List.rec (motive:=fun _=>Option c5) (some s) (fun _ _ _=>none) aq
 |x::xs,aq,s=>List.rec (motive:=fun _=>Option c5) none (fun y iW _=>bl (jN x y s) (fun br=>xA xs iW br) none) aq
end
theorem m2{b:Bool}{o:Option c5}{s:c5}(h:cond b o none=some s):b=true∧o=some s:=by
 cases b
 ·cases h
 ·exact⟨rfl,h⟩
theorem rY{α:Type}{o:Option α}{k:α->Option c5}{s:c5}(h:bl o k none=some s):∃a,o=some a∧k a=some s:=fy h (by simp)
mutual
theorem G9:∀(v w:Value) (s br:c5),s.c2->jN v w s=some br->br.c2∧s.le br∧fG br.R v w
 |.bool a,w,s,br,ah,h=>by
  rw[jN]at h;obtain⟨b,rfl,h⟩:=Ok h (by simp);obtain⟨h1,h2⟩:=m2 h;cases h2;rw[P8 h1];exact⟨ah,.refl s,.bool _⟩
 |.int k a,w,s,br,ah,h=>by
  rw[jN]at h;obtain⟨k',b,rfl,h⟩:=jl h (by simp);obtain⟨h1,h⟩:=m2 h;obtain⟨h2,h⟩:=m2 h;cases h;rw[B4]at h2;rw[tc h1,eq_of_beq h2];exact⟨ah,.refl s,.int _ _⟩
 |.float k n,w,s,br,ah,h=>by rw[jN]at h<;>first|cases h|simp
 |.complex k n m,w,s,br,ah,h=>by rw[jN]at h<;>first|cases h|simp
 |.string a,w,s,br,ah,h=>by
  rw[jN]at h;obtain⟨b,rfl,h⟩:=oZ h (by simp);obtain⟨h1,h2⟩:=m2 h;cases h2;have h1:(a.data.toList==b.data.toList)=true:=h1;have e:=eq_of_beq h1;have:a=b:=by cases a;cases b;simp only at e;rw[Array.toList_inj.1 e]
  rw[this];exact⟨ah,.refl s,.string _⟩
 |.pointer a,w,s,br,ah,h=>by
  rw[jN]at h;obtain⟨b,rfl,h⟩:=qa h (by simp);rcases V0 h with⟨rfl,rfl,rfl⟩|⟨p,q,rfl,rfl,h1,h2,h3,ay⟩
  ·exact⟨ah,.refl _,.ns⟩
  ·obtain⟨aL,aR,a7⟩:=Mi ah ay;exact⟨aL,aR,.ptr p q a7 h1 h2 h3⟩
 |.slice a n c,w,s,br,ah,h=>by
  rw[jN]at h;obtain⟨b,b8,bJ,rfl,h⟩:=tO h (by simp);obtain⟨aA,h⟩:=m2 h;obtain⟨e2,h⟩:=m2 h;rw[ep aA,ep e2];rcases V0 h with⟨rfl,rfl,rfl⟩|⟨p,q,rfl,rfl,h1,h2,h3,ay⟩
  ·exact⟨ah,.refl _,.nD _ _⟩
  ·obtain⟨aL,aR,a7⟩:=Mi ah ay;exact⟨aL,aR,.gH p q _ _ a7 h1 h2 h3⟩
 |.map a,w,s,br,ah,h=>by
  rw[jN]at h;have:∃b,w= .map b∧Option.rec (motive:=fun _=>Option c5) (Option.rec (motive:=fun _=>Option c5) (some s) (fun _=>none) b) (fun i=>Option.rec (motive:=fun _=>Option c5) none (fun j=>xB i j s) b) a=some br:=by
   cases w<;>first|cases h|exact⟨_,rfl,h⟩
  obtain⟨b,rfl,h⟩:=this;cases a with
  |none=>
   cases b with
   |none=>cases h;exact⟨ah,.refl _,.pV⟩
   |some j=>cases h
  |some i=>
   cases b with
   |none=>cases h
   |some j=>
    obtain⟨aL,aR,a7⟩:=Mi ah h;exact⟨aL,aR,.map i j a7⟩
 |.func f xs us,w,s,br,ah,h=>by
  rw[jN]at h;obtain⟨g,aq,vs,rfl,h⟩:=Ol h (by simp);obtain⟨a,rfl,rfl,h3⟩:=anz h;obtain⟨s1,h1,h2⟩:=rY h3;obtain⟨iA,hB,la⟩:=G6 xs aq s s1 ah h1;obtain⟨cn,cz,dp⟩:=G6 us vs s1 br iA h2;exact⟨cn,hB.trans cz,.Rq (la.mono cz) dp⟩
 |.nilFunc,w,s,br,ah,h=>by
  rw[jN]at h;unfold V6 at h;split at h
  ·cases h;exact⟨ah,.refl _,.nilFunc⟩
  ·cases h
 |.nilIface,w,s,br,ah,h=>by
  rw[jN]at h;unfold V7 at h;split at h
  ·cases h;exact⟨ah,.refl _,.nilIface⟩
  ·cases h
 |.iface t v,w,s,br,ah,h=>by
  rw[jN]at h;obtain⟨u,y,rfl,h⟩:=Er h (by simp);obtain⟨aA,h⟩:=m2 h;obtain⟨iA,hB,la⟩:=G9 v y s br ah h;rw[ep aA];exact⟨iA,hB,.iface _ _ _ la⟩
 |.agg xs,w,s,br,ah,h=>by
  rw[jN]at h;obtain⟨aq,rfl,h⟩:=AY h (by simp);obtain⟨iA,hB,la⟩:=G6 xs aq s br ah h;exact⟨iA,hB,.OY la⟩
 |.tuple xs,w,s,br,ah,h=>by
  rw[jN]at h;obtain⟨aq,rfl,h⟩:=abb h (by simp);obtain⟨iA,hB,la⟩:=G6 xs aq s br ah h;exact⟨iA,hB,.tuple' la⟩
 |.chan c,w,s,br,ah,h=>by
  rw[jN]at h;unfold V1 at h;split at h
  ·obtain⟨aA,h⟩:=m2 h;cases h;rw[ep aA];exact⟨ah,.refl _,.chan _⟩
  ·cases h
theorem G6:∀(xs aq:Array Value) (s br:c5),s.c2->zW xs aq s=some br->br.c2∧s.le br∧j3 br.R xs.toList aq.toList
 |⟨xs⟩,aq,s,br,ah,h=>by rw[zW]at h;exact G8 xs aq.toList s br ah h
theorem G8:∀(xs aq:List Value) (s br:c5),s.c2->xA xs aq s=some br->br.c2∧s.le br∧j3 br.R xs aq
 |[],aq,s,br,ah,h=>by
  rw[xA]at h;cases aq with
  |nil=>cases h;exact⟨ah,.refl _,.nil _⟩
  |cons y aq=>cases h
 |x::xs,aq,s,br,ah,h=>by
  rw[xA]at h;cases aq with
  |nil=>cases h
  |cons y aq=>
   obtain⟨s1,h1,h2⟩:=rY (o:=jN x y s) h;obtain⟨iA,hB,la⟩:=G9 x y s s1 ah h1;obtain⟨cn,cz,dp⟩:=G8 xs aq s1 br iA h2;exact⟨cn,hB.trans cz,.cons (la.mono cz) dp⟩
end
def Mg(es:List MapEntry):List MapEntry->c5->Option c5:=
 List.rec (motive:=fun _=>List MapEntry->c5->Option c5) (fun fs s=>List.rec (motive:=fun _=>Option c5) (some s) (fun _ _ _=>none) fs)
  (fun e _ a0 fs s=>List.rec (motive:=fun _=>Option c5) none
   (fun f agH _=>cond (Nat.beq e.born f.born) (cond (dD e.key f.key) (bl (jN e.key f.key s) (fun s=>bl (jN e.val f.val s) (fun s=>a0 agH s) none) none) none) none) fs) es
theorem V2:∀(es fs:List MapEntry) (s br:c5),s.c2->Mg es fs s=some br->br.c2∧s.le br∧iG (ob br.R) es fs
 |[],[],s,br,ah,h=>by cases h;exact⟨ah,.refl _,.nil⟩
 |[],_::_,s,br,ah,h=>by cases h
 |_::_,[],s,br,ah,h=>by cases h
 |e::es,f::fs,s,br,ah,h=>by
  have h:cond (Nat.beq e.born f.born) (cond (dD e.key f.key) (bl (jN e.key f.key s) (fun s=>bl (jN e.val f.val s) (fun s=>Mg es fs s) none) none) none) none=some br:=h;obtain⟨aA,h⟩:=m2 h;obtain⟨e2,h⟩:=m2 h;obtain⟨s1,h1,h⟩:=rY h;obtain⟨s2,h2,h⟩:=rY h;obtain⟨iA,hB,la⟩:=G9 _ _ _ _ ah h1;obtain⟨cn,cz,dp⟩:=G9 _ _ _ _ iA h2;obtain⟨ic,kL,p3⟩:=V2 es fs s2 br cn h;exact⟨ic,(hB.trans cz).trans kL,.cons ⟨mV _ _ e2,la.mono (cz.trans kL),dp.mono kL,ep aA⟩ p3⟩
def tf(o p:bw)(s:c5):Option c5:=
 match o,p with
 |.cells cs e bn a8,.cells ds cK eT Cg=>cond (Nat.beq e cK) (cond (Nat.beq bn.1 eT.1) (cond (Nat.beq bn.2 eT.2) (cond (J8 a8 Cg) (xA cs ds s) none) none) none) none
 |.map es c,.map fs bJ=>cond (Nat.beq c bJ) (Mg es fs s) none
 |_,_=>none
theorem V8{o p:bw}{s br:c5}(ah:s.c2)(h:tf o p s=some br):br.c2∧s.le br∧kj br.R o p:=by
 unfold tf at h;split at h
 ·rename_i cs e bn a8 ds cK eT Cg;obtain⟨aA,h⟩:=m2 h;obtain⟨e2,h⟩:=m2 h;obtain⟨b0,h⟩:=m2 h;obtain⟨eS,h⟩:=m2 h;obtain⟨iA,hB,la⟩:=G8 _ _ _ _ ah h;have:bn=eT:=Prod.ext (ep e2) (ep b0);subst this;rw[ep aA,P8 eS];exact⟨iA,hB,.cells _ _ _ _ _ la⟩
 ·obtain⟨aA,h⟩:=m2 h;obtain⟨iA,hB,la⟩:=V2 _ _ _ _ ah h;rw[ep aA];exact⟨iA,hB,.map _ _ _ la⟩
 ·cases h
def G7(h:ao bw)(os:List bw):Nat->c5->Option c5:=
 List.rec (motive:=fun _=>Nat->c5->Option c5) (fun _ s=>some s)
  (fun o _ a0 i s=>bl (s.cH.get i) (fun j=>bl (h.get j) (fun p=>bl (tf o p s) (fun s=>ga (Nat.succ i) fun gZ=>a0 gZ s) none) none) none) os
theorem V3{H:ao bw}:∀(os:List bw) (i:Nat) (s br:c5),s.c2->G7 H os i s=some br->
 br.c2∧s.le br∧∀k (U:k<os.length),∃j p,br.R (i+k) j∧H.get j=some p∧kj br.R os[k] p
 |[],i,s,br,ah,h=>by cases h;exact⟨ah,.refl _,fun k U=>by simp at U⟩
 |o::os,i,s,br,ah,h=>by
  have h:bl (s.cH.get i) (fun j=>bl (H.get j) (fun p=>bl (tf o p s) (fun s=>ga (Nat.succ i) fun gZ=>G7 H os gZ s) none) none) none=some br:=h;obtain⟨j,h1,h⟩:=rY h;obtain⟨p,h2,h⟩:=rY h;obtain⟨s1,h3,h⟩:=rY h;unfold ga at h;rw[Nat.beq_refl]at h;have h:G7 H os (i+1) s1=some br:=h;obtain⟨iA,hB,la⟩:=V8 ah h3;obtain⟨cn,cz,dp⟩:=V3 os (i+1) s1 br iA h;refine⟨cn,hB.trans cz,fun k U=> ?_⟩;cases k with
  |zero=>exact⟨j,p,(hB.trans cz) _ _ h1,h2,la.mono cz⟩
  |succ k=>
   obtain⟨L0,gh,aL,aR,a7⟩:=dp k (by simpa using U);exact⟨L0,gh,by rw[show i+(k+1)=i+1+k by omega];exact aL,aR,by simpa using a7⟩
def kM(cH:ao Nat)(ff dE i:Nat):Nat:=bl (cH.get i) (fun j=>j) (Nat.add dE (Nat.sub i ff))
section
variable(cH:ao Nat)(ff dE:Nat)
def Nx{β:Type}(a:Option Addr)(k:Option Addr->Option β):Option β:=
 Option.rec (motive:=fun _=>Option β) (k none) (fun a=>Option.rec (motive:=fun _=>Option β) (ga (kM cH ff dE a.block) fun b=>k (some ⟨b,a.off,none⟩)) (fun _=>none) a.spot) a
mutual
def jj:Value->Option Value
 |.pointer a=>Nx cH ff dE a fun b=>some (.pointer b)
 |.slice a n c=>Nx cH ff dE a fun b=>some (.slice b n c)
 |.map a=>Option.rec (motive:=fun _=>Option Value) (some (.map none)) (fun i=>ga (kM cH ff dE i) fun j=>some (.map (some j))) a
 |.func f xs us=>YF f fun g=>bl (AB xs) (fun aq=>bl (AB us) (fun vs=>some (.func (.func g) ⟨aq⟩ ⟨vs⟩)) none) none
 |.iface t v=>bl (jj v) (fun w=>some (.iface t w)) none
 |.agg xs=>bl (AB xs) (fun aq=>some (.agg ⟨aq⟩)) none
 |.tuple xs=>bl (AB xs) (fun aq=>some (.tuple ⟨aq⟩)) none
 |.bool b=>some (.bool b)
 |.int k n=>some (.int k n)
 |.string s=>some (.string s)
 |.nilFunc=>some .nilFunc
 |.nilIface=>some .nilIface
 |.chan c=>YD c
 |_=>none
def AB:Array Value->Option (List Value)
 |⟨xs⟩=>AD xs
def AD:List Value->Option (List Value)
 |[]=>some []
 |x::xs=>bl (jj x) (fun y=>bl (AD xs) (fun aq=>some (y::aq)) none) none
end
theorem eY{α β:Type}{o:Option α}{k:α->Option β}{b:β}(h:bl o k none=some b):∃a,o=some a∧k a=some b:=fy h (by simp)
theorem YC{β:Type}{a:Option Addr}{k:Option Addr->Option β}{b:β}(h:Nx cH ff dE a k=some b):
 (a=none∧k none=some b)∨∃p,a=some p∧p.spot=none∧k (some ⟨kM cH ff dE p.block,p.off,none⟩)=some b:=by
 cases a with
 |none=>exact .inl ⟨rfl,h⟩
 |some p=>
  obtain⟨M5,xQ,ps⟩:=p;cases ps with
  |some x=>cases h
  |none=>
   have h:ga (kM cH ff dE M5) (fun b=>k (some ⟨b,xQ,none⟩))=some b:=h;unfold ga at h;rw[Nat.beq_refl]at h;exact .inr ⟨_,rfl,rfl,h⟩
mutual
theorem D0:∀(v w:Value),jj cH ff dE v=some w->fG (fun i j=>j=kM cH ff dE i) v w
 |.bool b,w,h=>by rw[jj]at h;cases h;exact .bool b
 |.int k n,w,h=>by rw[jj]at h;cases h;exact .int k n
 |.float k n,w,h=>by rw[jj]at h<;>first|cases h|simp
 |.complex k n m,w,h=>by rw[jj]at h<;>first|cases h|simp
 |.string s,w,h=>by rw[jj]at h;cases h;exact .string s
 |.pointer a,w,h=>by
  rw[jj]at h;rcases YC cH ff dE h with⟨rfl,h⟩|⟨p,rfl,ah,h⟩
  ·cases h;exact .ns
  ·cases h;exact .ptr _ _ rfl rfl ah rfl
 |.slice a n c,w,h=>by
  rw[jj]at h;rcases YC cH ff dE h with⟨rfl,h⟩|⟨p,rfl,ah,h⟩
  ·cases h;exact .nD _ _
  ·cases h;exact .gH _ _ _ _ rfl rfl ah rfl
 |.map a,w,h=>by
  rw[jj]at h;cases a with
  |none=>cases h;exact .pV
  |some i=>
   have h:ga (kM cH ff dE i) (fun j=>some (Value.map (some j)))=some w:=h;unfold ga at h;rw[Nat.beq_refl]at h;cases h;exact .map _ _ rfl
 |.func f xs us,w,h=>by
  rw[jj]at h;unfold YF at h;split at h
  ·obtain⟨aq,h1,h⟩:=eY h;obtain⟨vs,h2,h⟩:=eY h;cases h;exact .Rq (IC xs aq h1) (IC us vs h2)
  ·cases h
 |.nilFunc,w,h=>by rw[jj]at h;cases h;exact .nilFunc
 |.nilIface,w,h=>by rw[jj]at h;cases h;exact .nilIface
 |.iface t v,w,h=>by
  rw[jj]at h;obtain⟨y,h1,h⟩:=eY h;cases h;exact .iface _ _ _ (D0 v y h1)
 |.agg xs,w,h=>by
  rw[jj]at h;obtain⟨aq,h1,h⟩:=eY h;cases h;exact .OY (IC xs aq h1)
 |.tuple xs,w,h=>by
  rw[jj]at h;obtain⟨aq,h1,h⟩:=eY h;cases h;exact .tuple' (IC xs aq h1)
 |.chan c,w,h=>by
  rw[jj]at h;unfold YD at h;split at h
  ·cases h;exact .chan _
  ·cases h
theorem IC:∀(xs:Array Value) (aq:List Value),AB cH ff dE xs=some aq->j3 (fun i j=>j=kM cH ff dE i) xs.toList aq
 |⟨xs⟩,aq,h=>by rw[AB]at h;exact Nz xs aq h
theorem Nz:∀(xs aq:List Value),AD cH ff dE xs=some aq->j3 (fun i j=>j=kM cH ff dE i) xs aq
 |[],aq,h=>by rw[AD]at h;cases h;exact .nil _
 |x::xs,aq,h=>by
  rw[AD]at h;obtain⟨y,h1,h⟩:=eY h;obtain⟨gi,h2,h⟩:=eY h;cases h;exact .cons (D0 x y h1) (Nz xs gi h2)
end
def Ny(es:List MapEntry):Option (List MapEntry):=
 List.rec (motive:=fun _=>Option (List MapEntry)) (some [])
  (fun e _ r=>bl (jj cH ff dE e.key) (fun k=>cond (dD e.key k) (bl (jj cH ff dE e.val) (fun v=>bl r (fun es=>some (⟨k,v,e.born⟩::es)) none) none) none) none) es
theorem YE:∀(es fs:List MapEntry),Ny cH ff dE es=some fs->iG (ob (fun i j=>j=kM cH ff dE i)) es fs
 |[],fs,h=>by cases h;exact .nil
 |e::es,fs,h=>by
  have h:bl (jj cH ff dE e.key) (fun k=>cond (dD e.key k) (bl (jj cH ff dE e.val) (fun v=>bl (Ny cH ff dE es) (fun es=>some (⟨k,v,e.born⟩::es)) none) none) none) none=some fs:=h;obtain⟨k,h1,h⟩:=eY h;cases U:dD e.key k with
  |false=>rw[U]at h;cases h
  |true=>
   rw[U]at h;obtain⟨v,h2,h⟩:=eY (o:=jj cH ff dE e.val) h;obtain⟨gs,h3,h⟩:=eY h;cases h;exact .cons ⟨mV _ _ U,D0 _ _ _ _ _ h1,D0 _ _ _ _ _ h2,rfl⟩ (YE es gs h3)
def AE(o:bw):Option bw:=
 match o with
 |.cells cs e bn a8=>bl (AD cH ff dE cs) (fun ds=>some (.cells ds e bn a8)) none
 |.map es c=>bl (Ny cH ff dE es) (fun fs=>some (.map fs c)) none
 |.dead=>some .dead
 |_=>none
theorem apI{o p:bw}(h:AE cH ff dE o=some p):(o= .dead∧p= .dead)∨kj (fun i j=>j=kM cH ff dE i) o p:=by
 unfold AE at h;split at h
 ·obtain⟨ds,h1,h⟩:=eY h;cases h;exact .inr (.cells _ _ _ _ _ (Nz _ _ _ _ _ h1))
 ·obtain⟨fs,h1,h⟩:=eY h;cases h;exact .inr (.map _ _ _ (YE _ _ _ _ _ h1))
 ·cases h;exact .inl ⟨rfl,rfl⟩
 ·cases h
def DZ(aE:Nat)(us:List (Nat×bw)):ao bw->Option (ao bw):=
 List.rec (motive:=fun _=>ao bw->Option (ao bw)) (fun h=>some h)
  (fun u _ a0 h=>cond (Nat.ble aE u.1) (ga (kM cH ff dE u.1) fun j=>bl (AE cH ff dE u.2) (fun p=>ao.fin (ao.kd (Nat.succ j) h j p) a0) none) none) us
end
def ke(us:List (Nat×bw)):ao bw->ao bw:=
 List.rec (motive:=fun _=>ao bw->ao bw) (fun h=>h) (fun u _ a0 h=>ao.fin (ao.kd (Nat.succ u.1) h u.1 u.2) a0) us
def Ae(os:List bw):Nat->ao bw->ao bw:=
 List.rec (motive:=fun _=>Nat->ao bw->ao bw) (fun _ h=>h) (fun o _ a0 i h=>ga (Nat.succ i) fun gZ=>ao.fin (ao.kd gZ h i o) fun aB=>a0 gZ aB) os
def xz(h:ao bw)(os:List (Nat×bw)):c5->Option c5:=
 List.rec (motive:=fun _=>c5->Option c5) (fun s=>some s)
  (fun o _ a0 s=>bl (s.cH.get o.1) (fun j=>bl (h.get j) (fun p=>bl (tf o.2 p s) a0 none) none) none) os
theorem V4{H:ao bw}:∀(os:List (Nat×bw)) (s br:c5),s.c2->xz H os s=some br->
 br.c2∧s.le br∧∀o∈os,∃j p,br.R o.1 j∧H.get j=some p∧kj br.R o.2 p
 |[],s,br,ah,h=>by cases h;exact⟨ah,.refl _,fun o ak=>by cases ak⟩
 |o::os,s,br,ah,h=>by
  have h:bl (s.cH.get o.1) (fun j=>bl (H.get j) (fun p=>bl (tf o.2 p s) (xz H os) none) none) none=some br:=h;obtain⟨j,h1,h⟩:=rY h;obtain⟨p,h2,h⟩:=rY h;obtain⟨s1,h3,h⟩:=rY h;obtain⟨iA,hB,la⟩:=V8 ah h3;obtain⟨cn,cz,dp⟩:=V4 os s1 br iA h;refine⟨cn,hB.trans cz,fun bd iv=> ?_⟩;rcases List.mem_cons.1 iv with rfl|iv
  ·exact⟨j,p,(hB.trans cz) _ _ h1,h2,la.mono cz⟩
  ·exact dp bd iv
theorem MI:∀(os:List bw) (i:Nat) (h:ao bw) (k:Nat),(Ae os i h).get k=if i<=k∧k<i+os.length then os[k-i]? else h.get k
 |[],i,h,k=>by rw[if_neg (by simp)];rfl
 |o::os,i,h,k=>by
  have e:Ae (o::os) i h=Ae os (i+1) (h.set i o):=by
   show ga (Nat.succ i) (fun gZ=>ao.fin (ao.kd gZ h i o) fun aB=>Ae os gZ aB)=_;unfold ga;rw[Nat.beq_refl];show ao.fin (ao.kd (Nat.succ i) h i o) (fun aB=>Ae os (i+1) aB)=_;rw[ao.qs,ao.vu]
  rw[e,MI os (i+1) _ k,ao.ey];by_cases U:k=i
  ·subst U;rw[if_neg (by omega),if_pos rfl,if_pos (by simp)];simp
  ·rw[if_neg U];by_cases h1:i+1<=k∧k<i+1+os.length
   ·rw[if_pos h1,if_pos (by simp;omega)];have:k-i=(k-(i+1))+1:=by omega
    rw[this];simp
   ·rw[if_neg h1,if_neg (by simp;omega)]
theorem Ja(u:Nat×bw)(us:List (Nat×bw))(h:ao bw):ke (u::us) h=ke us (h.set u.1 u.2):=by
 show ao.fin (ao.kd (Nat.succ u.1) h u.1 u.2) (ke us)=_;rw[ao.qs,ao.vu]
theorem AX:∀(us:List (Nat×bw)) (h:ao bw) (k:Nat) (o:bw),(ke us h).get k=some o->(k,o)∈us∨h.get k=some o
 |[],_,_,_,e=>.inr e
 |u::us,h,k,o,e=>by
  rw[Ja]at e;rcases AX us _ k o e with hm|hm
  ·exact .inl (List.mem_cons_of_mem _ hm)
  ·rw[ao.ey]at hm;by_cases U:k=u.1
   ·rw[if_pos U]at hm;cases hm;subst U;exact .inl (by simp)
   ·rw[if_neg U]at hm;exact .inr hm
structure bG where
 as:List Value
 gs:List (Nat×bw)
 pk:List bw
 v:Value
 g3:List (Nat×bw)
 aM:Nat
def bG.c8(r:bG)(aE:Nat):ao bw:=Ae r.pk aE (ke r.gs .nil)
def bG.row(r:bG)(aE:Nat):Row:=⟨r.as,⟨r.c8 aE,Nat.add aE (ec r.pk)⟩,r.v,⟨ke r.g3 (r.c8 aE),r.aM⟩⟩
def bG.app(aJ:c5)(r:bG)(as:List Value)(st:au):Option dJ:=
 bl (xA r.as as aJ) (fun s=>bl (xz st.h r.gs s) (fun s=>bl (G7 st.h r.pk aJ.bf s) (fun s=>cond (Nat.beq s.bf (Nat.add aJ.bf (ec r.pk))) (cond (Nat.ble s.bf r.aM)
  (bl (jj s.cH s.bf st.ai r.v) (fun v=>bl (DZ s.cH s.bf st.ai aJ.bf r.g3 st.h) (fun h=>ga (Nat.add st.ai (Nat.sub r.aM s.bf)) fun n=>some (.ret v ⟨h,n⟩ false)) none) none) none) none) none) none) none
structure Jo(nK:Nat->Nat)(H:ao bw)(ai aE:Nat)(h0 aQ hc:ao bw):Prop where
 obj:∀j o,hc.get j=some o->o≠.dead->(∃i p,j=nK i∧aQ.get i=some p∧kj (fun i j=>j=nK i) p o)∨((∀i,aQ.get i≠none->nK i≠j)∧H.get j=some o)
 kY:∀j,hc.get j≠none->j<ai∨∃i,j=nK i∧aQ.get i≠none
 pk:∀i,h0.get i≠none->aQ.get i≠none
 Ug:∀i,i<aE->aQ.get i≠none->h0.get i≠none
theorem YG{cH:ao Nat}{ff dE:Nat}{H:ao bw}{ai aE:Nat}{h0:ao bw}:∀(us:List (Nat×bw)) (aQ hc mF:ao bw),Jo (kM cH ff dE) H ai aE h0 aQ hc->
 DZ cH ff dE aE us hc=some mF->Jo (kM cH ff dE) H ai aE h0 (ke us aQ) mF
 |[],aQ,hc,mF,nV,h=>by cases h;exact nV
 |u::us,aQ,hc,mF,nV,h=>by
  have h:cond (Nat.ble aE u.1) (ga (kM cH ff dE u.1) (fun j=>bl (AE cH ff dE u.2) (fun p=>ao.fin (ao.kd (Nat.succ j) hc j p) (DZ cH ff dE aE us)) none)) none=some mF:=h;cases hu:Nat.ble aE u.1 with
  |false=>rw[hu]at h;cases h
  |true=>
  rw[hu]at h;have hu:=kx hu;have h:ga (kM cH ff dE u.1) (fun j=>bl (AE cH ff dE u.2) (fun p=>ao.fin (ao.kd (Nat.succ j) hc j p) (DZ cH ff dE aE us)) none)=some mF:=h;unfold ga at h;rw[Nat.beq_refl]at h;obtain⟨p,h1,h⟩:=eY (o:=AE cH ff dE u.2) h;rw[ao.qs,ao.vu]at h;rw[Ja];refine YG us _ _ _ ⟨fun j o hj av=> ?_,fun j hj=> ?_,fun i ae=> ?_,fun i ae hh=> ?_⟩ h
  ·rw[ao.ey]at hj;by_cases jq:j=kM cH ff dE u.1
   ·rw[if_pos jq]at hj;cases hj;rcases apI _ _ _ h1 with⟨_,gb⟩|aln
    ·exact absurd gb av
    ·exact .inl ⟨u.1,u.2,jq,by rw[ao.pw],aln⟩
   ·rw[if_neg jq]at hj;rcases nV.obj j o hj av with⟨i,q,aA,e2,b0⟩|⟨aA,e2⟩
    ·refine .inl ⟨i,q,aA,?_,b0⟩;rw[ao.ey,if_neg]
     ·exact e2
     ·intro e;subst e;exact jq aA
    ·refine .inr ⟨fun i ae ah=> ?_,e2⟩;rw[ao.ey]at ae;by_cases oz:i=u.1
     ·subst oz;exact jq ah.symm
     ·rw[if_neg oz]at ae;exact aA i ae ah
  ·rw[ao.ey]at hj;by_cases jq:j=kM cH ff dE u.1
   ·exact .inr ⟨u.1,jq,by rw[ao.pw];simp⟩
   ·rw[if_neg jq]at hj;rcases nV.kY j hj with aP|⟨i,aA,e2⟩
    ·exact .inl aP
    ·refine .inr ⟨i,aA,?_⟩;rw[ao.ey];split
     ·simp
     ·exact e2
  ·rw[ao.ey];split
   ·simp
   ·exact nV.pk i ae
  ·rw[ao.ey,if_neg (by omega)]at hh;exact nV.Ug i ae hh
variable{X:Ctx}
theorem O7{f:FuncId}{r:bG}(aQ:cx X f (r.row X.aE)){aJ:c5}(rJ:aJ.c2)(nX:aJ.bf=X.aE)(aO:∀g,g<X.aE->aJ.cH.get g=some g){as:List Value}{st:au}{fr:dJ}(h:r.app aJ as st=some fr)
 (ι:bA) (as':List Value) (w:World) (ha:bN ι as as') (hw:bt X ι st w):
 (∀as w,(callFunc f as).run X.P w= .ok (.enter f as) w)∧
 ∀(K:CallKind) (bz:Bool->List Frame),kR ⟨f,K,none⟩ none ι bz->j0 X ι w ⟨f,K,none⟩ bz (lone (Frame.enter X.P f as'.toArray K) (bz false) w) fr:=by
 unfold bG.app at h;obtain⟨s1,h1,h⟩:=eY h;obtain⟨s2,ajX,h⟩:=eY h;obtain⟨s,h2,h⟩:=eY h;obtain⟨fY,hi,sv⟩:=G8 _ _ _ _ rJ h1;obtain⟨d1,d2,d3⟩:=V4 _ _ _ fY ajX;obtain⟨cZ,dz,lP⟩:=V3 _ _ _ _ d1 h2;rw[nX]at h lP;cases hc:Nat.beq s.bf (Nat.add X.aE (ec r.pk))with
 |false=>rw[hc]at h;cases h
 |true=>
 cases lV:Nat.ble s.bf r.aM with
 |false=>rw[hc,lV]at h;cases h
 |true=>
 rw[hc,lV]at h;have Cu:s.bf=X.aE+r.pk.length:=by rw[<-fU];exact ep hc
 have auD:s.bf<=r.aM:=kx lV;obtain⟨v,h3,h⟩:=eY (o:=jj s.cH s.bf st.ai r.v) h;obtain⟨hp,ay,h⟩:=eY (o:=DZ s.cH s.bf st.ai X.aE r.g3 st.h) h;unfold ga at h;rw[Nat.beq_refl]at h;have h:some (dJ.ret v ⟨hp,st.ai+(r.aM-s.bf)⟩ false)=some fr:=h;cases h;have Cy:∀g,g<X.aE->s.cH.get g=some g:=fun g rB=>dz _ _ (d2 _ _ (hi _ _ (aO g rB)));have aP:∀j l,ι j=some l->j<st.ai:=by
  intro j l e;rcases Nat.lt_or_ge j st.ai with aP|lz
  ·exact aP
  ·rw[(hw.fresh j lz).1]at e;cases e
 have uT:∀i o,(r.c8 X.aE).get i=some o->∃j p,s.cH.get i=some j∧st.h.get j=some p∧kj s.R o p:=by
  intro i o ak;unfold bG.c8 at ak;rw[MI]at ak;split at ak
  ·rename_i ae;obtain⟨zz,rfl⟩:=List.getElem?_eq_some_iff.1 ak;obtain⟨j,p,aA,e2,b0⟩:=lP (i-X.aE) zz;rw[show X.aE+(i-X.aE)=i by omega]at aA;exact⟨j,p,aA,e2,b0⟩
  ·rcases AX _ _ _ _ ak with hm|hm
   ·obtain⟨j,p,aA,e2,b0⟩:=d3 _ hm;exact⟨j,p,dz _ _ aA,e2,b0.mono dz⟩
   ·simp at hm
 have Ld:∀i,X.aE<=i->i<s.bf->∃o,(r.c8 X.aE).get i=some o:=by
  intro i ae Lg;unfold bG.c8;rw[MI,if_pos (by omega),a9 (by omega)];exact⟨_,rfl⟩
 have U6:∀i,i<s.bf->∃j l,s.cH.get i=some j∧ι j=some l:=by
  intro i ae;rcases Nat.lt_or_ge i X.aE with hn|hn
  ·exact⟨i,_,Cy i hn,hw.lT i hn⟩
  ·obtain⟨o,ak⟩:=Ld i hn ae;obtain⟨j,p,aA,e2,b0⟩:=uT i o ak;obtain⟨l,eS,_⟩:=hw.eK j p e2 b0.live.2;exact⟨j,l,aA,eS⟩
 have auC:X.aE<=s.bf:=by omega
 let fC:bA:=fun i=>match s.cH.get i with|some j=>ι j|none=>none
 have xl:∀i j,s.cH.get i=some j->fC i=ι j:=by
  intro i j e;show(match s.cH.get i with|some j=>ι j|none=>none)=_;rw[e]
 have xm:∀i l,fC i=some l->∃j,s.cH.get i=some j∧ι j=some l:=by
  intro i l e;have e:(match s.cH.get i with|some j=>ι j|none=>none)=some l:=e;split at e
  ·rename_i j hj;exact⟨j,hj,e⟩
  ·cases e
 have wN:∀j i l,(fun j i=>s.R i j) j i->ι j=some l->fC i=some l:=fun j i l cI hl=>by rw[xl i j cI];exact hl
 have ake:bt X fC (r.row X.aE).st w:=by
  refine⟨fun i o ak av=> ?_,fun i j o p l m ae hz hj hK gQ hU aO e=> ?_,fun i ae=> ?_,fun i l hl=> ?_,fun g rB=> ?_,?_,fun i l o hl ah ak av=> ?_⟩
  ·obtain⟨j,p,aA,e2,b0⟩:=uT i o ak;obtain⟨l,eS,j5⟩:=hw.eK j p e2 b0.live.2;exact⟨l,by rw[xl i j aA];exact eS,b0.symm.WU wN j5⟩
  ·obtain⟨i2,iA,aA,e2,b0⟩:=uT i o ae;obtain⟨hW,hB,aL,aR,a7⟩:=uT j p hj;rw[xl i i2 aA]at gQ;rw[xl j hW aL]at hU;have:=hw.inj i2 hW iA hB l m e2 b0.live.2 aR a7.live.2 gQ hU aO e;subst this;have cn:=(cZ.iff _ _).1 aA;have cz:=(cZ.iff _ _).1 aL;rw[cn]at cz;exact Option.some.inj cz
  ·have ae:X.aE+ec r.pk<=i:=ae;rw[fU,<-Cu]at ae;refine⟨?_,?_⟩
   ·cases e:fC i with
    |none=>rfl
    |some l=>
     obtain⟨j,hj,_⟩:=xm i l e;have:=cZ.kY _ _ hj;omega
   ·cases e:(r.row X.aE).st.h.get i with
    |none=>rfl
    |some o=>
     obtain⟨j,_,aA,_⟩:=uT i o e;have:=cZ.kY _ _ aA;omega
  ·obtain⟨j,_,cu⟩:=xm i l hl;exact hw.gK j l cu
  ·rw[xl g g (Cy g rB)];exact hw.lT g rB
  ·exact Nat.le_add_right _ _
  ·obtain⟨j,p,aA,e2,b0⟩:=uT i o ak;rw[xl i j aA]at hl;exact b0.uJ.2 (hw.ma j l p hl ah e2 b0.live.2)
 have F1:bN fC r.as as':=((sv.mono d2).mono dz).symm.atb wN ha;obtain⟨cn,cz⟩:=aQ fC as' w F1 ake;refine⟨cn,fun K bz qD=> ?_⟩;obtain⟨kg,v',w',F,bj,bM,dK,tb,GM,amN,amO⟩:=cz K bz qD;have bM:bt X kg ⟨ke r.g3 (r.c8 X.aE),r.aM⟩ w':=bM
 let nK:Nat->Nat:=kM s.cH s.bf st.ai
 have zO:∀i j,s.cH.get i=some j->nK i=j:=by
  intro i j e;show bl (s.cH.get i) (fun j=>j) _=j;rw[e];rfl
 have Vi:∀i,s.bf<=i->nK i=st.ai+(i-s.bf):=by
  intro i ae;show bl (s.cH.get i) (fun j=>j) _=_;cases e:s.cH.get i with
  |none=>rfl
  |some j=>have:=cZ.kY _ _ e;omega
 let aV:bA:=fun j=>if j<st.ai then ι j else kg (s.bf+(j-st.ai))
 have GG:∀j,j<st.ai->aV j=ι j:=fun j hj=>if_pos hj;have GH:∀j,st.ai<=j->aV j=kg (s.bf+(j-st.ai)):=fun j hj=>if_neg (by omega);have hle:ι.le aV:=fun j l e=>by rw[GG j (aP j l e)];exact e
 have wK:∀i j l,(fun i j=>j=nK i) i j->kg i=some l->aV j=some l:=by
  intro i j l e hl;have e:j=nK i:=e;subst e;rcases Nat.lt_or_ge i s.bf with ae|ae
  ·obtain⟨j,k7,aA,eS⟩:=U6 i ae;have:=dK.le i k7 (by rw[xl i j aA];exact eS);rw[hl]at this;cases this;rw[zO i j aA,GG j (aP j _ eS)];exact eS
  ·rw[Vi i ae,GH _ (by omega),show s.bf+(st.ai+(i-s.bf)-st.ai)=i by omega];exact hl
 have aj8:Jo nK st.h st.ai X.aE (r.c8 X.aE) (r.c8 X.aE) st.h:=by
  refine⟨fun j o hj av=> ?_,fun j hj=> ?_,fun i ae=>ae,fun i _ ae=>ae⟩
  ·by_cases hex:∃i,(r.c8 X.aE).get i≠none∧nK i=j
   ·obtain⟨i,ae,e⟩:=hex;cases oz:(r.c8 X.aE).get i with
    |none=>exact absurd oz ae
    |some bd=>
     obtain⟨hW,p,aA,e2,b0⟩:=uT i bd oz;have:hW=j:=by rw[<-e];exact(zO i hW aA).symm
     subst this;rw[hj]at e2;cases e2;exact .inl ⟨i,bd,e.symm,oz,b0.mono fun a b iK=>(zO a b iK).symm⟩
   ·exact .inr ⟨fun i ae e=>hex ⟨i,ae,e⟩,hj⟩
  ·left;rcases Nat.lt_or_ge j st.ai with zz|lz
   ·exact zz
   ·exact absurd (hw.fresh j lz).2 hj
 have nV:=YG r.g3 _ _ _ aj8 ay;have hold:∀a l,(ke r.g3 (r.c8 X.aE)).get a≠none->fC a=some l->∃j p,s.cH.get a=some j∧st.h.get j=some p∧p≠.dead∧ι j=some l:=by
  intro a l sP hl;obtain⟨j,aA,e2⟩:=xm a l hl;have K2:=cZ.kY _ _ aA;have:∃o,(r.c8 X.aE).get a=some o:=by
   rcases Nat.lt_or_ge a X.aE with hn|hn
   ·cases oz:(r.c8 X.aE).get a with
    |none=>exact absurd oz (nV.Ug a hn sP)
    |some o=>exact⟨o,rfl⟩
   ·exact Ld a hn K2
  obtain⟨o,ak⟩:=this;obtain⟨hW,p,aL,aR,a7⟩:=uT a o ak;rw[aA]at aL;cases aL;exact⟨j,p,aA,aR,a7.live.2,e2⟩
 have Uy:∀j o l,st.h.get j=some o->o≠.dead->ι j=some l->(∀i,(ke r.g3 (r.c8 X.aE)).get i≠none->nK i≠j)->∀i l',fC i=some l'->l'.cj≠im->l'.cJ≠l.cJ:=by
  intro j o l ak av hl ab i l' cu ah e;have kn:(ke r.g3 (r.c8 X.aE)).get i≠none:=by
   obtain⟨hW,aA,e2⟩:=xm i l' cu;have K2:=cZ.kY _ _ aA;rcases Nat.lt_or_ge i X.aE with hn|hn
   ·exfalso;rw[Cy i hn]at aA;cases aA;rw[hw.lT i hn]at e2;cases e2;exact ah rfl
   ·obtain⟨bd,iv⟩:=Ld i hn K2;exact nV.pk i (by rw[iv];simp)
  obtain⟨hW,p,aA,e2,b0,eS⟩:=hold i l' kn cu;have:=hw.inj hW j p o l' l e2 b0 ak av eS hl (.inl ah) e;subst this;exact ab i kn (zO i hW aA)
 refine⟨aV,v',w',F,(D0 _ _ _ _ _ h3).Ev wK bj,⟨fun j o hj av=> ?_,fun i j o p l m ae hz hj hK gQ hU aO e=> ?_,fun j hj=> ?_,fun j l hl=> ?_,fun g rB=> ?_,?_,fun j l o hl ah hj av=> ?_⟩,⟨hle,dK.size,fun b aa gd=> ?_,fun j l hl=> ?_,dK.gU⟩,tb,GM,amN,amO⟩
 ·rcases nV.obj j o hj av with⟨i,p,aA,e2,b0⟩|⟨aA,e2⟩
  ·obtain⟨l,aL,aR⟩:=bM.eK i p e2 b0.live.1;exact⟨l,wK i j l aA aL,b0.WU wK aR⟩
  ·obtain⟨l,aL,aR⟩:=hw.eK j o e2 av;refine⟨l,hle j l aL,jm.mono X aR hle ?_⟩;exact dK.kept l.cJ (hw.gK j l aL) (Uy j o l e2 av aL aA)
 ·have key:∀i j o p l m,hp.get i=some o->o≠.dead->hp.get j=some p->p≠.dead->aV i=some l->aV j=some m->(l.cj≠im∨m.cj≠im)->l.cJ=m.cJ->
   (∃a q,i=nK a∧(ke r.g3 (r.c8 X.aE)).get a=some q∧kj (fun i j=>j=nK i) q o)->((∀a,(ke r.g3 (r.c8 X.aE)).get a≠none->nK a≠j)∧st.h.get j=some p)->False:=by
   intro i j o p l m ae hz hj hK gQ hU aO e ⟨a,q,aA,e2,b0⟩ ⟨aL,aR⟩;obtain⟨fp,dh,_⟩:=bM.eK a q e2 b0.live.1;have:=wK a i fp aA dh;rw[gQ]at this;cases this;obtain⟨fK,dC,_⟩:=hw.eK j p aR hK;have:=hle j fK dC;rw[hU]at this;cases this;rcases dK.new a l dh with hn|hn|⟨b,fq,fQ,k2,mE⟩
   ·obtain⟨hW,hB,f1,f2,f3,f4⟩:=hold a l (by rw[e2];simp) hn;have:=hw.inj hW j hB p l m f2 f3 aR hK f4 dC aO e;subst this;exact aL a (by rw[e2];simp) (zO a hW f1)
   ·have:=hw.gK j m dC;omega
   ·exact Uy j p m aR hK dC aL b fq fQ k2 (by omega)
  rcases nV.obj i o ae hz with J|J<;>rcases nV.obj j p hj hK with aG|aG
  ·obtain⟨a,q,aA,e2,b0⟩:=J;obtain⟨b,fg,aL,aR,a7⟩:=aG;obtain⟨fp,dh,_⟩:=bM.eK a q e2 b0.live.1;obtain⟨fK,dC,_⟩:=bM.eK b fg aR a7.live.1;have t1:=wK a i fp aA dh;rw[gQ]at t1;cases t1;have t2:=wK b j fK aL dC;rw[hU]at t2;cases t2;have:=bM.inj a b q fg l m e2 b0.live.1 aR a7.live.1 dh dC aO e;rw[aA,aL,this]
  ·exact(key i j o p l m ae hz hj hK gQ hU aO e J aG).elim
  ·exact(key j i p o m l hj hK ae hz hU gQ aO.symm e.symm aG J).elim
  ·obtain⟨fp,dh,_⟩:=hw.eK i o J.2 hz;obtain⟨fK,dC,_⟩:=hw.eK j p aG.2 hK;have t1:=hle i fp dh;rw[gQ]at t1;cases t1;have t2:=hle j fK dC;rw[hU]at t2;cases t2;exact hw.inj i j o p l m J.2 hz aG.2 hK dh dC aO e
 ·have hj:st.ai+(r.aM-s.bf)<=j:=hj;have Gb:∀i,r.aM<=i->kg i=none∧(ke r.g3 (r.c8 X.aE)).get i=none:=fun i ae=>bM.fresh i ae;refine⟨by rw[GH j (by omega)];exact(Gb _ (by omega)).1,?_⟩;show hp.get j=none;cases e:hp.get j with
  |none=>rfl
  |some o=>
   exfalso;rcases nV.kY j (by rw[e];simp)with zz|⟨i,aA,e2⟩
   ·omega
   ·rcases Nat.lt_or_ge i s.bf with ae|ae
    ·obtain⟨hW,k7,aL,cl⟩:=U6 i ae;rw[show kM s.cH s.bf st.ai i=hW from zO i hW aL]at aA;have:=aP hW k7 cl;omega
    ·rw[show kM s.cH s.bf st.ai i=st.ai+(i-s.bf)from Vi i ae]at aA;rcases Nat.lt_or_ge i r.aM with Lg|Lg
     ·omega
     ·exact e2 (Gb i Lg).2
 ·rcases Nat.lt_or_ge j st.ai with hj|hj
  ·rw[GG j hj]at hl;exact e4 (hw.gK j l hl) dK.size
  ·rw[GH j hj]at hl;exact bM.gK _ l hl
 ·exact hle _ _ (hw.lT g rB)
 ·exact Nat.le_trans hw.px (Nat.le_add_right _ _)
 ·rcases nV.obj j o hj av with⟨a,q,aA,e2,b0⟩|⟨aA,e2⟩
  ·obtain⟨fp,dh,_⟩:=bM.eK a q e2 b0.live.1;have t1:=wK a j fp aA dh;rw[hl]at t1;cases t1;exact b0.uJ.1 (bM.ma a l q dh ah e2 b0.live.1)
  ·obtain⟨fp,dh,_⟩:=hw.eK j o e2 av;have t1:=hle j fp dh;rw[hl]at t1;cases t1;exact hw.ma j l o dh ah e2 av
 ·refine dK.kept b aa fun i l hl ah=> ?_;obtain⟨j,_,cu⟩:=xm i l hl;exact gd j l cu ah
 ·rcases Nat.lt_or_ge j st.ai with hj|hj
  ·rw[GG j hj]at hl;exact .inl hl
  ·rw[GH j hj]at hl;rcases dK.new _ l hl with hn|hn|⟨b,m,fQ,k2,mE⟩
   ·obtain⟨hW,aA,_⟩:=xm _ l hn;have:=cZ.kY _ _ aA;omega
   ·exact .inr (.inl hn)
   ·obtain⟨hW,_,e2⟩:=xm b m fQ;exact .inr (.inr ⟨hW,m,e2,k2,mE⟩)
def wE(aJ:c5)(as:List Value)(st:au)(rs:List (Nat×bG)):Option dJ:=
 List.rec (motive:=fun _=>Option dJ) none (fun r _ a0=>cond (Nat.beq r.1 st.ai) (bl (r.2.app aJ as st) some a0) (cond (Nat.beq r.1 0) (bl (r.2.app aJ as st) some a0) a0)) rs
theorem Re{aJ:c5}{as:List Value}{st:au}:∀{rs:List (Nat×bG)} {fr:dJ},wE aJ as st rs=some fr->∃r∈rs,r.2.app aJ as st=some fr
 |[],fr,h=>by cases h
 |r::rs,fr,h=>by
  have h:cond (Nat.beq r.1 st.ai) (bl (r.2.app aJ as st) some (wE aJ as st rs)) (cond (Nat.beq r.1 0) (bl (r.2.app aJ as st) some (wE aJ as st rs)) (wE aJ as st rs))=some fr:=h;have El:wE aJ as st rs=some fr->∃dH∈r::rs,dH.2.app aJ as st=some fr:=fun h=>by
   obtain⟨dH,h1,h2⟩:=Re h;exact⟨dH,List.mem_cons_of_mem _ h1,h2⟩
  have av:bl (r.2.app aJ as st) some (wE aJ as st rs)=some fr->∃dH∈r::rs,dH.2.app aJ as st=some fr:=fun h=>by
   cases ha:r.2.app aJ as st with
   |none=>rw[ha]at h;exact El h
   |some x=>rw[ha]at h;cases h;exact⟨r,by simp,ha⟩
  cases aa:Nat.beq r.1 st.ai with
  |true=>rw[aa]at h;exact av h
  |false=>
   rw[aa]at h;cases hc:Nat.beq r.1 0 with
   |true=>rw[hc]at h;exact av h
   |false=>rw[hc]at h;exact El h
end Go.an
namespace Go.an
variable{X:Ctx}
def zP(n:Nat):ao Nat:=Nat.rec (motive:=fun _=>ao Nat) .nil (fun m t=>ao.fin t fun t=>ao.kd (Nat.succ m) t m m) n
theorem C5:∀(n i:Nat),(zP n).get i=if i<n then some i else none
 |0,i=>by rw[if_neg (by omega)];rfl
 |n+1,i=>by
  have e:zP (n+1)=(zP n).set n n:=by
   show ao.fin (zP n) (fun t=>ao.kd (Nat.succ n) t n n)=_;rw[ao.qs,ao.vu]
  rw[e,ao.ey,C5 n i];by_cases h:i=n
  ·subst h;rw[if_pos rfl,if_pos (by omega)]
  ·rw[if_neg h];by_cases aB:i<n
   ·rw[if_pos aB,if_pos (by omega)]
   ·rw[if_neg aB,if_neg (by omega)]
theorem ap9{s:c5}{n:Nat}(h1:s.cH=zP n)(h2:s.inv=zP n)(h3:s.bf=n):s.c2∧s.bf=n∧∀g,g<n->s.cH.get g=some g:=by
 refine⟨⟨fun i j=> ?_,fun i j h=> ?_⟩,h3,fun g aO=> ?_⟩
 ·rw[h1,h2,C5,C5];by_cases ae:i<n<;>by_cases hj:j<n<;>simp[ae,hj]<;>omega
 ·rw[h1,C5]at h;rw[h3];by_cases ae:i<n
  ·exact ae
  ·rw[if_neg ae]at h;cases h
 ·rw[h1,C5,if_pos aO]
def bG.bK(r:bG)(aE:Nat)(aW:ao df)(gg:nL)(n f:Nat):Bool:=
 ao.fin (r.c8 aE) fun h=>ao.fin (ke r.g3 h) fun aB=>ga (Nat.add aE (ec r.pk)) fun m=>an.bK (cC aW gg n (.func (.func f) #[] #[]) r.as none ⟨h,m⟩) r.v ⟨aB,r.aM⟩
theorem dq{aW:ao df}{gg:nL}(dv:Good X)(h8:mY X aW)(rH:ua X gg){n aE:Nat}{f:FuncId}{r:bG}(h:r.bK aE aW gg n f=true):cx X f (r.row aE):=by
 refine Y4 dv h8 rH (n:=n) ?_;unfold bG.bK ga at h;rw[ao.qs,ao.qs,Nat.beq_refl]at h;exact h
def bG.kz(r:bG)(aE g:Nat)(el:TypeId)(c:Nat)(aW:ao df)(gg:nL)(n f:Nat):Bool:=
 ao.fin ((r.c8 aE).set g (.cells [.chan (some c)] el (0,1) false)) fun h=>ao.fin ((ke r.g3 (r.c8 aE)).set g (.cells [.chan (some c)] el (0,1) false)) fun aB=>ga (Nat.add aE (ec r.pk)) fun m=>
  an.bK (cC aW gg n (.func (.func f) #[] #[]) r.as none ⟨h,m⟩) r.v ⟨aB,r.aM⟩
theorem lK{aW:ao df}{gg:nL}(dv:Good X)(h8:mY X aW)(rH:ua X gg){n aE:Nat}{f:FuncId}{r:bG}{g:Nat}{el:TypeId}{c:Nat}(h:r.kz aE g el c aW gg n f=true):cx X f ((r.row aE).oM g el c):=by
 refine Y4 dv h8 rH (n:=n) ?_;unfold bG.kz ga at h;rw[ao.qs,ao.qs,Nat.beq_refl]at h;exact h
def assoc(t:List (Nat×List (Nat×bG)))(f:Nat):List (Nat×bG):=
 List.rec (motive:=fun _=>List (Nat×bG)) [] (fun p _ a0=>cond (Nat.beq p.1 f) p.2 a0) t
def eH(aJ:c5)(t:List (Nat×List (Nat×bG))):nL:=fun f as st=>wE aJ as st (assoc t f)
def v8(X:Ctx)(f:Nat)(l:List (Nat×bG)):Prop:=∀r∈l,cx X f (r.2.row X.aE)
def Bb(X:Ctx)(t:List (Nat×List (Nat×bG))):Prop:=∀p∈t,v8 X p.1 p.2
theorem bo{f:Nat}:v8 X f []:=fun _ h=>by cases h
theorem ag{f n:Nat}{r:bG}{l:List (Nat×bG)}(h:cx X f (r.row X.aE))(ah:v8 X f l):v8 X f ((n,r)::l):=List.forall_mem_cons.2 ⟨h,ah⟩
theorem bD:Bb X []:=fun _ h=>by cases h
theorem bp{f:Nat}{l:List (Nat×bG)}{t:List (Nat×List (Nat×bG))}(h:v8 X f l)(ah:Bb X t):Bb X ((f,l)::t):=List.forall_mem_cons.2 ⟨h,ah⟩
theorem PI:∀{t:List (Nat×List (Nat×bG))},Bb X t->∀f,v8 X f (assoc t f)
 |[],_,f=>bo
 |p::t,h,f=>by
  show v8 X f (cond (Nat.beq p.1 f) p.2 (assoc t f));cases aa:Nat.beq p.1 f with
  |true=>rw[<-ep aa];exact h p (by simp)
  |false=>exact PI (fun q hq=>h q (List.mem_cons_of_mem _ hq)) f
theorem eL{aJ:c5}(rJ:aJ.c2∧aJ.bf=X.aE∧∀g,g<X.aE->aJ.cH.get g=some g){t:List (Nat×List (Nat×bG))}(aN:Bb X t):ua X (eH aJ t):=by
 intro f as st r aQ ι as' w ha hw _;obtain⟨row,hm,hh⟩:=Re aQ;exact O7 (PI aN f row hm) rJ.1 rJ.2.1 rJ.2.2 hh ι as' w ha hw
theorem acL{f:FuncId}{r:Row}(aQ:cx X f r){ι:bA}{as':List Value}{w:World}(ha:bN ι r.as as')(hw:bt X ι r.st w):
 Calls X.P f as'.toArray w (fun e w'=>∃aV v',e= .returned v'∧bq aV r.v v'∧bt X aV r.st' w'∧fF ι aV w w'):=by
 intro cs;obtain⟨_,h2⟩:=aQ ι as' w ha hw;obtain⟨aV,v',w',F,h1,h2,h3,ay,aY,b7,dn⟩:=h2 .normal (fun _=>cs) (fun F ew ar=>by
  have c6:F.kind= .normal:=ar;simp[tryRecover,c6])
 obtain⟨aL,aR,fn,a7,cl⟩:=b7;exact⟨.returned v',w',F,⟨aV,v',rfl,h1,h2,h3⟩,dn,aY,aL,aR,ay,fn,a7,cl⟩
def GJ(n:Nat):bA:=fun i=>if i<n then some ⟨i,0,0,im⟩else none
def tX(n:Nat)(W:World)(p:Nat×bw):Prop:=
 p.1<n∧∃cs el m C bn,p.2= .cells cs el (0,m) false∧0<m∧W.heap[p.1]? =some (.cells C el bn)∧bN (GJ n) cs C.toList
def Ji{α β yy:Type}(f:α->β->Option yy):List α->List β->Option (List yy)
 |[],[]=>some []
 |a::as,b::bW=>(f a b).bind fun c=>(Ji f as bW).map fun cs=>c::cs
 |_,_=>none
def y1:Nat->List (Nat×Nat)->Nat->Bool
 |o,[],n=>Nat.beq o n
 |o,p::r,n=>Nat.beq p.1 o&&y1 (o+p.2) r n
def zf(P:Program):Nat->TypeId->DataW Unit->Option (List Value)
 |0,_,_=>none
 |n+1,t,d=>
  match P.underlying t,d with
  |some .bool,.lit (.bool b)=>some [.bool b]
  |some (.int _),.lit (.int k m)=>some [.int k m]
  |some .string,.lit (.string s)=>some [.string ⟨⟨s⟩⟩]
  |some (.struct fs),.agg ds=>if y1 0 (fs.toList.map fun f=>(f.offset,P.cellsOf f.type)) (P.cellsOf t)then(Ji (fun(f:Field) d=>zf P n f.type d) fs.toList ds).map List.flatten else none
  |some (.array m e),.agg ds=>if y1 0 ((List.range m).map fun i=>(i*P.cellsOf e,P.cellsOf e)) (P.cellsOf t)then(Ji (fun(_:Nat) d=>zf P n e d) (List.range m) ds).map List.flatten else none
  |_,_=>none
theorem Fb(cs:List Value):∀(l:List (Nat×Nat)) (o:Nat),y1 o l cs.length=true->cs.drop o=(l.map fun p=>(cs.drop p.1).take p.2).flatten
 |[],o,h=>by
  have:=ep h;rw[this];simp
 |p::r,o,h=>by
  unfold y1 at h;rw[bZ]at h;have e:=ep h.1;rw[List.map_cons,List.flatten_cons,<-Fb cs r (o+p.2) h.2,e,<-List.drop_drop,List.take_append_drop]
theorem OD{α:Type}{g:α->Option (DataW Unit×List MemPlace)}{k:α->DataW Unit->Option (List Value)}{seg:α->List Value}
 (U:∀a d p vs,g a=some (d,p)->k a d=some vs->seg a=vs):∀(as:List α) (xs:List (DataW Unit×List MemPlace)) (A0:List (List Value)),as.mapM g=some xs->Ji k as (xs.map (·.1))=some A0->as.map seg=A0
 |[],xs,A0,h,aB=>by
  simp at h;subst h;cases aB;rfl
 |a::as,xs,A0,h,aB=>by
  rw[List.mapM_cons]at h;obtain⟨x,J,h⟩:=Option.bind_eq_some_iff.1 h;obtain⟨aq,aG,h⟩:=Option.bind_eq_some_iff.1 h;cases h;obtain⟨vs,aA,aB⟩:=Option.bind_eq_some_iff.1 aB;obtain⟨atI,e2,rfl⟩:=Option.map_eq_some_iff.1 aB;rw[List.map_cons,U a x.1 x.2 vs J aA,OD U as aq atI aG e2]
theorem B9{P:Program}{w:World}{base:Nat}{sp:Nat->Bool}{held:Bool}:∀(fuel n:Nat) (t:TypeId) (cs:List Value) (d:DataW Unit) (p:List MemPlace) (vs:List Value),
 DataW.trod (fun _=>()) P w base sp held fuel t cs=some (d,p)->zf P n t d=some vs->cs=vs
 |0,_,_,_,_,_,_,h,_=>by simp[DataW.trod]at h
 |_+1,0,_,_,_,_,_,_,h=>by simp[zf]at h
 |fuel+1,n+1,t,cs,d,p,vs,h,aB=>by
  unfold zf at aB;split at aB
  ·rename_i b hu;cases aB;simp only[DataW.trod,hu]at h;split at h<;>first|(rename_i hq;cases hq)|skip
   all_goals first|(cases h;rfl)|(simp at h)
  ·rename_i k k' m hu;cases aB;simp only[DataW.trod,hu]at h;split at h<;>first|(rename_i hq;cases hq)|skip
   all_goals first
    |(split at h
      ·rename_i hc;cases h;rw[hc.1]
      ·cases h)
    |(simp at h)
  ·rename_i s hu;cases aB;simp only[DataW.trod,hu]at h;split at h<;>first|(rename_i hq;cases hq)|skip
   all_goals first
    |(split at h
      ·cases h;rfl
      ·cases h)
    |(simp at h)
  ·rename_i fs ds hu;split at aB
   ·rename_i hc;obtain⟨A0,aA,rfl⟩:=Option.map_eq_some_iff.1 aB;simp only[DataW.trod,hu]at h;split at h
    ·rename_i hl;obtain⟨xs,e2,b0⟩:=Option.map_eq_some_iff.1 h;cases b0;rw[<-hl]at hc;have eS:=Fb cs _ 0 hc;rw[List.drop_zero,List.map_map]at eS;have j5:=OD (seg:=fun(f:Field)=>(cs.drop f.offset).take (P.cellsOf f.type)) (fun f d p vs h1 h2=>B9 fuel n f.type _ d p vs h1 h2) _ _ _ e2 aA;rw[<-j5];exact eS
    ·cases h
   ·cases aB
  ·rename_i m e ds hu;split at aB
   ·rename_i hc;obtain⟨A0,aA,rfl⟩:=Option.map_eq_some_iff.1 aB;simp only[DataW.trod,hu]at h;split at h
    ·rename_i hl;obtain⟨xs,e2,b0⟩:=Option.map_eq_some_iff.1 h;cases b0;rw[<-hl]at hc;have eS:=Fb cs _ 0 hc;rw[List.drop_zero,List.map_map]at eS;have j5:=OD (seg:=fun(i:Nat)=>(cs.drop (i*P.cellsOf e)).take (P.cellsOf e)) (fun i d p vs h1 h2=>B9 fuel n e _ d p vs h1 h2) _ _ _ e2 aA;rw[<-j5];exact eS
    ·cases h
   ·cases aB
  ·cases aB
theorem VK{P:Program}{w:World}:∀{l:List (String×DataW Unit)} {ps:List MemPlace},DataW.LaidVars P w l ps->∀x∈l,∃g t cs fuel p,P.globalNamed x.1=some g∧(P.globals[g]?).map (·.type)=some t∧w.var? P x.1=some cs∧
 DataW.trod (fun _=>()) P w 0 (fun _=>true) false fuel t cs.toList=some (x.2,p)
 |[],_,_,x,J=>by cases J
 |(n,d)::r,ps,h,x,J=>by
  obtain⟨g,t,cs,fuel,p,q,h1,h2,h3,ay,aY,_⟩:=h;rcases List.mem_cons.1 J with rfl|J
  ·exact⟨g,t,cs,fuel,p,h1,h2,h3,ay⟩
  ·exact VK aY x J
def HC:Value->Bool
 |.bool _|.int _ _|.string _=>true
 |_=>false
theorem aoQ{ι:bA}{v:Value}(h:HC v=true):bq ι v v:=by
 cases v<;>first|(simp[HC]at h;done)|constructor
theorem XF{ι:bA}:∀{vs:List Value},vs.all HC=true->bN ι vs vs
 |[],_=>.nil ι
 |v::vs,h=>by
  rw[List.all_cons,bZ]at h;exact .cons (aoQ h.1) (XF h.2)
theorem FU{P:Program}{W:World}{l:List (String×DataW Unit)}{ps:List MemPlace}(hl:DataW.LaidVars P W l ps){n g N:Nat}{name:String}{d:DataW Unit}{t el:TypeId}{vs:List Value}{m:Nat}
 (J:(name,d)∈l) (aO:P.globalNamed name=some g) (aN:(P.globals[g]?).map (·.type)=some t) (ab:zf P n t d=some vs) (rB:g<N) (hm:0<m) (hp:vs.all HC=true)
 (zJ:∃cs,W.heap[g]? =some (.cells cs el)):tX N W (g,.cells vs el (0,m) false):=by
 obtain⟨jb,gV,cs,fuel,p,h1,h2,h3,ay⟩:=VK hl _ J;simp only at h1 h3 ay;rw[aO]at h1;cases h1;rw[aN]at h2;cases h2;obtain⟨C,hC⟩:=zJ;have aH:C=cs:=by
  simp only[World.var?,aO,Option.bind_some,hC]at h3;exact Option.some.inj h3
 subst aH;refine⟨rB,vs,el,m,C,_,rfl,hm,hC,?_⟩;rw[B9 fuel n t _ d p vs ay ab];exact XF hp
end Go.an
namespace Go.an
variable{Q:Nat->df->Prop}
def ZZ(t:ao {p:Nat×df //Q p.1 p.2}):ao df:=
 ao.rec (motive:=fun _=>ao df) .nil (fun _ v _ l r=>.node l (Option.rec (motive:=fun _=>Option df) none (fun p=>some p.1.2) v) r) t
def keyed:ao {p:Nat×df //Q p.1 p.2}->(Nat->Nat)->Bool
 |.nil,_=>true
 |.node l v r,g=>(match v with|some p=>Nat.beq p.1.1 (g 0)|none=>true)&&(keyed l (fun n=>g (2*n+1))&&keyed r (fun n=>g (2*n+2)))
theorem N7:∀(t:ao {p:Nat×df //Q p.1 p.2}) (g:Nat->Nat),keyed t g=true->ao.A4 Q (ZZ t) g
 |.nil,_,_=>trivial
 |.node l v r,g,h=>by
  unfold keyed at h;rw[bZ,bZ]at h;refine⟨?_,N7 l _ h.2.1,N7 r _ h.2.2⟩;cases v with
  |none=>trivial
  |some p=>
   have e:=ep h.1;show Q (g 0) p.1.2;rw[<-e];exact p.2
def bX{i:Nat}(g:{b:df //Q i b}):ao {p:Nat×df //Q p.1 p.2}:=.node .nil (some ⟨(i,g.1),g.2⟩) .nil
def bm{i:Nat}(a:ao {p:Nat×df //Q p.1 p.2})(g:{b:df //Q i b})(b:ao {p:Nat×df //Q p.1 p.2}):ao {p:Nat×df //Q p.1 p.2}:=.node a (some ⟨(i,g.1),g.2⟩) b
def lf(a b:ao {p:Nat×df //Q p.1 p.2}):ao {p:Nat×df //Q p.1 p.2}:=.node a none b
end Go.an
namespace Go.an.Jl
inductive Jr where
 |bool|int (k:IntKind)|str|a6 (e:Nat)|cr (n e:Nat)|st (l:List (Nat×Nat))|mc (e:Nat)|mp (k v:Nat)|fn|C7|up
inductive Ba where
 |l
 |n (a:Ba) (k:Nat) (d:Jr) (s b:Nat) (c:Ba)
def Ba.get:Ba->Nat->Jr×Nat×Nat
 |.l,_=>(.up,0,0)
 |.n a k d s b c,t=>match Nat.blt t k with
  |true=>a.get t
  |false=>match Nat.beq t k with
   |true=>(d,s,b)
   |false=>c.get t
structure Env where
 jP:Nat
 kb:Nat
 bf:Nat
 idx:Nat
 lG:Nat
 ty:Ba
 mt:List (String×List (Nat×FuncId)):=[]
namespace Env
def Wr(C:Env)(n:String):List (Nat×FuncId):=match C.mt.find? (fun p=>p.1==n)with
 |some p=>p.2
 |none=>[]
def d(C:Env)(t:Nat):Jr:=(C.ty.get t).1
def s(C:Env)(t:Nat):Nat:=(C.ty.get t).2.1
def b(C:Env)(t:Nat):Nat:=(C.ty.get t).2.2
def g(C:Env)(t:Nat):Bool:=match C.d t with
 |.st _=>true
 |.cr _ _=>true
 |_=>false
def QZ(C:Env)(t:Nat):Nat:=match C.d t with
 |.st l=>l.foldl (fun n p=>match C.d p.2 with
  |.str=>n+100
  |_=>n+1) 0
 |_=>C.s t
def OC(C:Env):Nat->Nat->List Value
 |0,_=>[]
 |f+1,t=>match C.d t with
  |.bool=>[.bool false]
  |.int k=>[.int k 0]
  |.str=>[.string ⟨#[]⟩]
  |.a6 _=>[.slice none 0 0]
  |.cr n e=>(List.replicate n (C.OC f e)).flatten
  |.st l=>l.flatMap fun p=>C.OC f p.2
  |.mc _=>[.pointer none]
  |.mp _ _=>[.map none]
  |.fn=>[.nilFunc]
  |.C7=>[.nilIface]
  |.up=>[]
def z(C:Env)(t:Nat):List Value:=C.OC 20 t
def so(C:Env)(t:Nat):Value:=match C.g t with
 |true=>.agg ⟨C.z t⟩
 |false=>(C.z t).headD .nilIface
def c9(C:Env)(t:Nat):fN:=match C.d t with
 |.int k=>.int k
 |.cr n e=>match C.d e with
  |.int k=>.arr k n
  |_=>.str
 |_=>.str
def Q5(C:Env)(t:Nat):o1:=match C.d t with
 |.a6 _=>.mP
 |.mp _ _=>.xJ
 |.fn=>.vi
 |.C7=>.xI
 |.mc _=>.ptr
 |_=>.r4
def bin(C:Env)(iC:List Nat)(o:BinOp)(t:Nat)(a b:Operand):dd:=
 let u:=match b with
  |.tmp j=>iC.any (Nat.beq j)
  |_=>false
 match C.d t,o,u with
 |.int _,.leq,true=>.ext (.wm false a b)
 |.int _,.gtr,true=>.ext (.wm true a b)
 |.int _,o,_=>.bin o a b
 |.str,o,_=>.bin o a b
 |.st _,.neq,_=>.ext (.qp true (C.QZ t) a b)
 |.cr _ _,.neq,_=>.ext (.qp true (C.s t) a b)
 |.st _,_,_=>.ext (.qp false (C.QZ t) a b)
 |.cr _ _,_,_=>.ext (.qp false (C.s t) a b)
 |_,.neq,_=>.eqv true (C.Q5 t) a b
 |_,_,_=>.eqv false (C.Q5 t) a b
def conv(C:Env)(s t:Nat)(a:Operand):dd:=match C.d s,C.d t with
 |.int _,.int k=>.sB k a
 |.str,.str=>.wj a
 |.a6 _,.str=>.yS a
 |.str,.a6 e=>.uv e a
 |.mc _,.up=>.Fe a
 |.up,.mc e=>.Fg e (C.s e) a
 |_,_=>.refuse
def parts(C:Env)(e:Nat)(ps:List (Nat×Operand)):List (Nat×Nat×Operand):=ps.map fun p=>(p.1*C.s e,C.s e,p.2)
def agm(C:Env)(f:Nat)(as:List Operand):dd:=
 match as,Nat.beq f C.jP,Nat.beq f C.kb,Nat.beq f C.bf,Nat.beq f C.idx with
 |[a],true,_,_,_=>.jP a
 |[a,b],_,true,_,_=>.kb a b
 |[a,b],_,_,true,_=>.ext (.bf a b)
 |[a,b],_,_,_,true=>.ext (.idxs C.lG a b)
 |as,_,_,_,_=>.call (.func f) as
def len(C:Env)(t:Nat)(a:Operand):dd:=match C.d t with
 |.a6 _=>.oN a
 |.str=>.te a
 |.cr n _=>.xv n
 |.mp _ _=>.ext (.z1 a)
 |.mc e=>match C.d e with
  |.cr n _=>.xv n
  |_=>.refuse
 |_=>.refuse
def el(C:Env)(t:Nat):Nat:=match C.d t with
 |.a6 e=>e
 |.cr _ e=>e
 |.mc e=>e
 |_=>0
def acq(C:Env)(f:Builtin)(as:List Operand)(ts:List Nat):dd:=
 match f,as,ts with
 |.len,[a],t::_=>C.len t a
 |.delete,[a,b],t::_=>match C.d t with
  |.mp k _=>.ext (.del (C.c9 k) a b)
  |_=>.refuse
 |.append,[a,b],t::_=>.app (C.el t) (C.s (C.el t)) (C.b (C.el t)) a b
 |.max,a::as,_=>.eU a as
 |.min,a::as,_=>.xE a as
 |.copy,[a,b],t::_=>.qm (C.s (C.el t)) a b
 |.recover,_,_=>.vF
 |.unsafeSliceData,[a],_=>.Eb a
 |.unsafeString,[a,b],t::_=>.vO (C.el t) a b
 |_,_,_=>.refuse
def oB(C:Env)(t f:Nat):Nat×Nat:=match C.d t with
 |.st l=>l.getD f (0,0)
 |_=>(0,0)
def atK(C:Env)(iC:List Nat):Op->dd
 |.move a=>.l4 a
 |.assign a=>.l4 a
 |.pick a b c=>.pick a b c
 |.alloc t=>.alloc (C.z t) t
 |.box t a=>.box t a
 |.build t ps=>.build (C.z t) (match C.d t with
  |.st l=>ps.toList.map fun p=>((l.getD p.1 (0,0)).1,C.s (l.getD p.1 (0,0)).2,p.2)
  |.cr _ e=>C.parts e ps.toList
  |_=>[])
 |.buildSlice t n ps=>.ot (C.el t) n ((List.replicate n (C.z (C.el t))).flatten) (C.parts (C.el t) ps.toList)
 |.load t a=>match C.g t with
  |true=>.pT (C.s t) a
  |false=>.lE a
 |.store t a x=>.store (C.s t) a x
 |.nilCheck a=>.rV a
 |.binOp o t a b _=>C.bin iC o t a b
 |.unOp o _ a=>.un o a
 |.convert s t a=>C.conv s t a
 |.makeInterface t a=>.Hc t a
 |.makeFunc f a b=>.ti f a.toList b.toList
 |.makeMap _ _=>.tj
 |.makeSlice t l c=>.oO (C.el t) (C.b (C.el t)) (C.z (C.el t)) l c
 |.slice t a bb ae eU=>match C.d t with
  |.str=>.sa a bb ae
  |.cr n e=>.AQ n (C.s e) a bb ae eU
  |.a6 e=>.nE (C.s e) a bb ae eU
  |_=>.refuse
 |.fieldAddr t a f=>.wD (C.oB t f).1 a
 |.field t a f=>.oB (C.oB t f).1 (C.s (C.oB t f).2) (C.g (C.oB t f).2) a
 |.indexAddr t a i=>match C.d t with
  |.cr n e=>.s6 n (C.s e) a i
  |.a6 e=>.lD (C.s e) a i
  |_=>.refuse
 |.index t a i=>match C.d t with
  |.str=>.u9 a i
  |.cr n e=>.GL n (C.s e) (C.g e) a i
  |_=>.refuse
 |.typeAssert a _ t ok=>.I4 t (C.so t) ok a
 |.extract a i=>.wC a i
 |.call c=>match c.callee with
  |.value f=>match f with
   |.func f=>C.agm f c.args.toList
   |f=>.call f c.args.toList
  |.builtin b=>C.acq b c.args.toList c.argTypes.toList
  |.invoke r n=>.inv (C.Wr n) r c.args.toList
 |.defer c=>match c.callee with
  |.value f=>.qn f c.args.toList
  |_=>.refuse
 |.panic a=>.qQ a
 |.lookup t m k ok=>match C.d t with
  |.mp a v=>.ext (.look (C.c9 a) (C.so v) ok m k)
  |_=>.refuse
 |.mapUpdate t m k v=>match C.d t with
  |.mp a _=>.ext (.g3 (C.c9 a) m k v)
  |_=>.refuse
 |.insert t m k v=>match C.d t with
  |.mp a _=>.ext (.g3 (C.c9 a) m k v)
  |_=>.refuse
 |.range _ m=>.ext (.z2 m)
 |.next i _=>.ext (.tn i)
 |.entry i=>.ext (.z0 i)
 |_=>.refuse
end Env
def ol:Option Operand->List Operand
 |none=>[]
 |some a=>[a]
def atP:ue->List Operand
 |.look _ _ _ a b=>[a,b]
 |.g3 _ a b c=>[a,b,c]
 |.del _ a b=>[a,b]
 |.z1 a=>[a]
 |.z2 a=>[a]
 |.z0 a=>[a]
 |.bf a b=>[a,b]
 |.qp _ _ a b=>[a,b]
 |.tn a=>[a]
 |.wm _ a b=>[a,b]
 |.idxs _ a b=>[a,b]
def El:dd->List Operand
 |.l4 a=>[a]
 |.pick a b c=>[a,b,c]
 |.alloc _ _=>[]
 |.box _ a=>[a]
 |.build _ l=>l.map fun p=>p.2.2
 |.ot _ _ _ l=>l.map fun p=>p.2.2
 |.lE a=>[a]
 |.pT _ a=>[a]
 |.store _ a b=>[a,b]
 |.rV a=>[a]
 |.bin _ a b=>[a,b]
 |.eqv _ _ a b=>[a,b]
 |.un _ a=>[a]
 |.sB _ a=>[a]
 |.wj a=>[a]
 |.yS a=>[a]
 |.uv _ a=>[a]
 |.Hc _ a=>[a]
 |.ti _ a b=>a++b
 |.tj=>[]
 |.oO _ _ _ a b=>[a,b]
 |.sa a b c=>a::(ol b++ol c)
 |.AQ _ _ a b c e=>a::(ol b++(ol c++ol e))
 |.nE _ a b c e=>a::(ol b++(ol c++ol e))
 |.wD _ a=>[a]
 |.oB _ _ _ a=>[a]
 |.s6 _ _ a b=>[a,b]
 |.lD _ a b=>[a,b]
 |.u9 a b=>[a,b]
 |.GL _ _ _ a b=>[a,b]
 |.I4 _ _ _ a=>[a]
 |.wC a _=>[a]
 |.call f l=>f::l
 |.inv _ f l=>f::l
 |.Hn _ _ a=>[a]
 |.oN a=>[a]
 |.te a=>[a]
 |.vd a=>[a]
 |.app _ _ _ a b=>[a,b]
 |.eU a l=>a::l
 |.xE a l=>a::l
 |.qm _ a b=>[a,b]
 |.qn f l=>f::l
 |.qQ a=>[a]
 |.Fe a=>[a]
 |.Fg _ _ a=>[a]
 |.Eb a=>[a]
 |.vO _ a b=>[a,b]
 |.kb a b=>[a,b]
 |.jP a=>[a]
 |.ext y=>atP y
 |_=>[]
def tL(l:List Operand):List Nat:=l.filterMap fun
 |.tmp j=>some j
 |_=>none
def gl:dd->Nat
 |.ext y=>match y with
  |.g3 _ _ _ _=>0
  |.del _ _ _=>0
  |.z2 _=>0
  |.tn _=>0
  |_=>2
 |.call _ _=>0
 |.inv _ _ _=>0
 |.app _ _ _ _ _=>0
 |.qm _ _ _=>0
 |.vF=>0
 |.qn _ _=>0
 |.qQ _=>0
 |.store _ _ _=>0
 |.refuse=>0
 |.vO _ _ _=>0
 |.vd _=>0
 |.alloc _ _=>1
 |.box _ _=>1
 |.ot _ _ _ _=>1
 |.uv _ _=>1
 |.tj=>1
 |.oO _ _ _ _ _=>1
 |_=>2
def mem(l:List Nat)(t:Nat):Bool:=l.any (Nat.beq t)
def add(l:List Nat)(t:Nat):List Nat:=match mem l t with
 |true=>l
 |false=>l++[t]
def ajp(ops:List Oper)(o:Oper):Option (Nat×Bool):=match o.guard with
 |none=>none
 |some (j,w)=>match(ops[j]?).bind (·.dst)with
  |some t=>some (t,w)
  |none=>none
def Mm(t:Nat):List Oper->Option String
 |[]=>none
 |o::os=>match o.op,o.dst with
  |.makeFunc (.method n) _ _,some d=>(match Nat.beq d t with
   |true=>some n
   |false=>Mm t os)
  |_,_=>Mm t os
def abk(C:Env)(iC:List Nat)(ops:List Oper)(o:Oper):bL:=⟨o.dst,(match o.op with
 |.nilCheck (.tmp t)=>(match Mm t ops with
  |some n=>.Hn n (C.Wr n) (.tmp t)
  |none=>.rV (.tmp t))
 |_=>C.atK iC o.op),ajp ops o⟩
def binds(e:Edge):Bool:=match e.ground with
 |.textOnly _=>false
 |.gcOnly _=>false
 |_=>true
def PK:List Nat->List Oper->List Nat
 |B,[]=>B
 |B,o::os=>PK (B++[(o.after.toList.filter binds).foldl (fun m e=>m|||(2^e.on|||B.getD e.on 0)) 0]) os
def ord(n:Nat)(B K:List Nat):List Nat:=
 let es:=(List.range n).filter fun i=>Nat.beq (K.getD i 2) 0
 let l:=es.foldl (fun l e=>add (((List.range n).filter fun i=>(B.getD e 0).testBit i).foldl add l) e) []
 (List.range n).foldl add l
def maskAt(m:Nat):Nat->List Nat->Nat
 |_,[]=>0
 |p,i::l=>(match m.testBit i with
  |true=>2^p
  |false=>0)+maskAt m (p+1) l
def sI(C:Env)(iC:List Nat)(ops:List Oper):dy:=
 let xs:=ops.map (abk C iC ops)
 let K:=xs.map fun x=>gl x.o
 let L:=xs.map fun x=>tL (El x.o)++(match x.g with
  |some (t,_)=>[t]
  |none=>[])
 let B:=PK [] ops
 let rZ:=ord ops.length B K
 let row (p:Nat) (i:Nat):bL×cL:=(xs.getD i ⟨none,.refuse,none⟩,match K.getD i 0 with
  |0=>.eO
  |1=>.hP (L.getD i [])
  |_=>.read (((rZ.take p).filter fun j=>Nat.beq (K.getD j 2) 0&& !(B.getD i 0).testBit j).length) (L.getD i []))
 let dZ:=(List.range rZ.length).foldl (fun l p=>match(xs.getD (rZ.getD p 0) ⟨none,.refuse,none⟩).d with
  |none=>l
  |some t=>match(rZ.take p).any fun j=>(Nat.beq (K.getD j 2) 0||mem (L.getD j []) t)&& !(B.getD (rZ.getD p 0) 0).testBit j with
   |true=>add l t
   |false=>l) []
 .sI ((List.range rZ.length).map fun p=>row p (rZ.getD p 0)) rZ dZ (rZ.map fun i=>maskAt (B.getD i 0) 0 rZ)
def code(C:Env)(iC:List Nat):Code->dy
 |.skip=>.skip
 |.label _=>.skip
 |.region _ ops afq=>match afq with
  |true=>sI C iC ops.toList
  |false=>.yb (ops.toList.map (abk C iC ops.toList))
 |.seq a b=>.seq (code C iC a) (code C iC b)
 |.cond x a b=>.cond x (code C iC a) (code C iC b)
 |.block n a=>.block n (code C iC a)
 |.loop a=>.loop (code C iC a)
 |.rangeFunc x ps a b=>.II x ps.toList (code C iC a) (code C iC b)
 |.scope a=>.scope (code C iC a)
 |.exit n=>.exit n
 |.ret=>.ret
 |_=>.refuse
def asU(g:Nat)(o:Oper):List Nat:=match o.op,o.dst with
 |.load _ (.global h),some t=>match Nat.beq g h with
  |true=>[t]
  |false=>[]
 |_,_=>[]
def sg(g:Nat):Code->List Nat
 |.region _ ops _=>ops.toList.flatMap (asU g)
 |.seq a b=>sg g a++sg g b
 |.cond _ a b=>sg g a++sg g b
 |.block _ a=>sg g a
 |.loop a=>sg g a
 |.rangeFunc _ _ a b=>sg g a++sg g b
 |.scope a=>sg g a
 |_=>[]
def res(C:Env):ResultVar->ig
 |.tmp t=>.tmp t
 |.cell t k=>.cell t (C.g k) (C.s k)
def fn(C:Env)(f:Func):df:=match f.body with
 |none=>⟨0,[],.refuse⟩
 |some c=>⟨f.ntmps,f.results.toList.map (res C),code C (sg C.lG c) c⟩
end Go.an.Jl
