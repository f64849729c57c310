/- An abstract machine, and that its evaluations stand for runs of the model (part 3); no condition. -/
import Derived.KernelRfl
import Derived.LaidLaws
import Derived.Test.YtdinjknpilkilaaGreatDoorM2
import Derived.Test.YtdinjknpilkilaaGreatDoorM1
noncomputable section
set_option linter.all false
namespace Go.ah
variable{X:Ctx}
end Go.ah
namespace Go.ah
variable{X:Ctx}{α:Type}
def Hg(X:Ctx)(xf:dy)(Fn:Func):Bool:=
 match Fn.body with
 |some c=>Nat.beq Fn.ntmps xf.aP&&codeOk X xf.aP xf.body c&&vA X xf.res Fn.results.toList&& !(Fn.name== "runtime.NumGoroutine")
 |none=>false
def Ue{f:ci}{xf:dy}{Fn:Func}(U:X.P.funcs[f]? =some Fn)(h:Hg X xf Fn=true):∃Fn c,xD X f xf Fn c:=by
 unfold Hg at h;split at h
 ·rename_i c hc;simp only[b4]at h;obtain⟨⟨⟨h1,h2⟩,ab⟩,aD⟩:=h;exact⟨Fn,c,U,hc,eo h1,h2,ab,by simpa using aD⟩
 ·cases h
def an.Cz(Q:Nat->α->Prop):an α->(Nat->Nat)->Prop
 |.nil,_=>True
 |.node l v r,g=>(match v with|some x=>Q (g 0) x|none=>True)∧an.Cz Q l (fun n=>g (2*n+1))∧an.Cz Q r (fun n=>g (2*n+2))
def an.Lf{Q:Nat->α->Prop}:∀(t:an α) (g:Nat->Nat),an.Cz Q t g->∀n x,t.get n=some x->Q (g n) x
 |.nil,_,_,n,x,h=>by simp at h
 |.node l v r,g,ha,n,x,h=>by
  obtain⟨h1,h2,ab⟩:=ha;cases n with
  |zero=>rw[an.yj]at h;subst h;exact h1
  |succ m=>
   rw[an.qH]at h;split at h
   ·rename_i hm;have:=an.Lf l _ h2 _ x h;have e:2*(m/2)+1=m+1:=by omega
    simp only[e]at this;exact this
   ·rename_i hm;have:=an.Lf r _ ab _ x h;have e:2*(m/2)+2=m+1:=by omega
    simp only[e]at this;exact this
def auW{bn:an dy}(h:an.Cz (fun f xf=>∃Fn c,xD X f xf Fn c) bn id):pF X bn:=
 fun f xf J=>an.Lf bn id h f xf J
def pt:qn:=fun _ _ _=>none
def qe(X:Ctx):xH X pt:=fun _ _ _ _ h=>by cases h
structure z7 where
 P:f5
 az:Nat
 kI:ci->Bool
 k4:ci->Bool
 EN:∀f,kI f=true->∀x w,(callFunc f #[x]).run P w= .ok (.value x) w
 Ep:∀f,k4 f=true->∀s c w,(callFunc f #[.string s,.int .u8 c]).run P w= .ok (.value (goInt (match(List.range s.size).find? (fun i=>s[i]! ==c.toNat.toUInt8)with|some i=>(i:Int)|none=> -1))) w
 keys:ce->am fW
 td:∀k cX,keys k=some cX->Maps.Keyed P k∧∀v,cX.ok v=true->∃l,keyOf P k v=some l
 qy:ci->Bool
 C5:∀f,qy f=true->∀s c w,(callFunc f #[.string s,.int .u8 c]).run P w= .ok (.value (goInt (s.data.toList.countP (fun b=>b==c.toNat.toUInt8):Nat))) w
 qV:ci->Bool
 m1:Nat
 EE:m1<az
 Es:∀f,qV f=true->∀(s b:f6) (m:Int) w,(load ⟨m1,0,none⟩).run P w= .ok (.int .i64 m) w->2<=b.size->(b.size:Int)<=m->s.size<=1000000->
  (callFunc f #[.string s,.string b]).run P w= .ok (.value (goInt (match px b.data.toList s.data.toList with|some i=>(i:Int)|none=> -1))) w
 eqs:ce->am Nat
 ya:∀t n,eqs t=some n->P.eqGuardType P.depth t=false∧∀xs al b w,xs.size=n%100+n/100->al.size=n%100+n/100->o8 (n%100) xs.toList al.toList=some b->(Op.equalIn 10000 t (.agg xs) (.agg al)).run P w= .ok b w
def z7.with(B:z7)(ok:ci->Code->dw->Prop):Ctx:=
 {P:=B.P,ok:=ok,az:=B.az,kI:=B.kI,k4:=B.k4,EN:=B.EN,Ep:=B.Ep,keys:=B.keys,td:=B.td,qy:=B.qy,C5:=B.C5,qV:=B.qV,m1:=B.m1,EE:=B.EE,Es:=B.Es,eqs:=B.eqs,ya:=B.ya}
def mkCtx(B:z7):Ctx:=B.with fun fn c tH=>∃F,B.P.funcs[fn]? =some F∧codeOk (B.with fun _ _ _=>False) F.ntmps tH c=true
def afl(B:z7)(ok wX:ci->Code->dw->Prop):codeOk (B.with ok)=codeOk (B.with wX):=by kernel_rfl
def aoJ(B:z7)(eZ:B.P.follows .mixedOrders=true):Good (mkCtx B):=by
 refine⟨eZ,fun fn c tH=> ?_⟩;have e:codeOk (mkCtx B)=codeOk (B.with fun _ _ _=>False):=afl B _ _;rw[e];exact Iff.rfl
section
variable{X:Ctx}
def Row.r7(r:Row)(g:Nat)(el:ce)(c:Nat):Row:=
 ⟨r.as,⟨r.st.h.set g (.cells [.chan (some c)] el (0,1) false),r.st.aj⟩,r.v,⟨r.st'.h.set g (.cells [.chan (some c)] el (0,1) false),r.st'.aj⟩⟩
end
end Go.ah
namespace Go.ah
variable{P:f5}
def SK(i:Nat)(d:am TypeDesc):Bool:=match i,d with
 |0,some .string=>true
 |_+1,some (.int _)=>true
 |_,_=>false
def He(P:f5):ac Field->Nat->Nat->Bool
 |[],_,_=>true
 |f::cj,i,o=>Nat.beq f.offset o&&f.name != "_"&&SK i (P.underlying f.type)&&He P cj (i-1) (o+1)
def Hd(P:f5)(t n:Nat):Bool:=match P.underlying t with
 |some (.struct cj)=> !P.stoodInHeld t&&Nat.beq cj.size (n%100+n/100)&&He P cj.toList (n%100) 0&& !P.eqGuardType P.depth t
 |_=>false
theorem Ua(w:d7)(d:Nat)(xs al:ap be):∀(cj:ac Field) (i o:Nat) (b:Bool),He P cj i o=true->o8 i (xs.toList.drop o) (al.toList.drop o)=some b->xs.size=o+cj.length->al.size=o+cj.length->
 (Op.eqFields (d+1) xs al cj).run P w= .ok b w
 |[],i,o,b,_,he,J,ay=>by
  rw[zcl (by simp;simpa using zde J),zcl (by simp;simpa using zde ay)]at he;cases he;simp[Op.eqFields]
 |f::cj,i,o,b,U,he,J,ay=>by
  unfold He at U;simp only[b4]at U;obtain⟨⟨⟨h1,h2⟩,ab⟩,aD⟩:=U;have h1:=eo h1;have hn:f.name≠ "_":=by simpa using h2
  rw[zax]at J ay;have EA:o<xs.toList.length:=by simp;omega
  have aoD:o<al.toList.length:=by simp;omega
  rw[zel EA,zel aoD]at he;unfold o8 at he;obtain⟨b0,h0,he⟩:=gO (z:=none) (r:=some b) he (by simp);have amA:∃c3,o8 (i-1) (xs.toList.drop (o+1)) (al.toList.drop (o+1))=some c3∧b=(b0&&c3):=by
   cases b0
   ·obtain⟨c3,iU,mm⟩:=gO (z:=none) (r:=some b) he (by simp);cases mm;exact⟨c3,iU,rfl⟩
   ·exact⟨b,he,by simp⟩
  obtain⟨c3,iU,hb⟩:=amA;have a1:=Ua w d xs al cj (i-1) (o+1) c3 aD iU (by omega) (by omega);have akP:xs[f.offset]? =some xs.toList[o]:=by rw[h1];simp
  have akQ:al[f.offset]? =some al.toList[o]:=by rw[h1];simp
  generalize xs.toList[o]=x at *;generalize al.toList[o]=y at *;have hk:(i=0∧P.underlying f.type=some .string)∨(i≠0∧∃k,P.underlying f.type=some (.int k)):=by
   unfold SK at ab;split at ab
   ·exact .inl ⟨rfl,by assumption⟩
   ·exact .inr ⟨by omega,_,by assumption⟩
   ·cases ab
  have hp:∀(cs:ap be) (v:be),cs[f.offset]? =some v->(part f.type cs f.offset).run P w= .ok v w:=by
   intro cs v h;rcases hk with⟨_,hu⟩|⟨_,k,hu⟩
   ·simp[part,isAgg,run_underlying hu,h]
   ·simp[part,isAgg,run_underlying hu,h]
  have hq:(Op.equalIn (d+1) f.type x y).run P w= .ok b0 w:=by
   rcases hk with⟨aa,hu⟩|⟨aa,k,hu⟩
   ·subst aa;have h0:G5 x y=some b0:=h0;unfold G5 at h0;split at h0
    ·cases h0;rw[run_equalIn_string w d f.type _ _ hu,toList_eq]
    ·cases h0
   ·obtain⟨j,rfl⟩:∃j,i=j+1:=⟨i-1,by omega⟩;have bg:Mq x y=some b0:=h0;clear h0;cases x<;>cases y<;>try (cases bg;done)
    rename_i bf m bL n;have h0:=bg;clear bg;have h0:(if bf=bL then some (m==n)else none)=some b0:=h0;by_cases e:bf=bL
    ·subst e;rw[zab rfl]at h0;cases h0;exact run_equalIn_int w d f.type _ k _ _ hu
    ·rw[zaa e]at h0;cases h0
  have aq:=hp xs x akP;have e2:=hp al y akQ;simp only[Op.eqFields,hn,ne_eq,not_false_eq_true,if_true,Sem.run_bind,aq,e2,hq,Result.andThen_ok];rw[hb];cases b0
  ·simp
  ·simpa using a1
def ahZ{t n:Nat}(h:Hd P t n=true):P.eqGuardType P.depth t=false∧∀xs al b w,xs.size=n%100+n/100->al.size=n%100+n/100->o8 (n%100) xs.toList al.toList=some b->(Op.equalIn 10000 t (.agg xs) (.agg al)).run P w= .ok b w:=by
 unfold Hd at h;split at h
 ·rename_i cj hu;simp only[b4]at h;obtain⟨⟨⟨h1,h2⟩,ab⟩,aD⟩:=h;have h2:=eo h2;have U:P.fieldsOf t=cj:=by simp[Program.fieldsOf,hu]
  refine⟨by simpa using aD,fun xs al b w J ay he=> ?_⟩;rw[show(10000:Nat)=9998+1+1 from rfl,run_equalIn_struct w (9998+1) t xs al (by rw[U];exact hu) (by simpa using h1),U];exact Ua w 9998 xs al cj.toList _ 0 b ab (by simpa using he) (by simp;omega) (by simp;omega)
 ·cases h
end Go.ah
namespace Go.ah
inductive gj(R:Nat->Nat->Prop):Value->Value->Prop
 |bool (b:Bool):gj R (.bool b) (.bool b)
 |int (k:IntKind) (n:Int):gj R (.int k n) (.int k n)
 |string (s:ByteArray):gj R (.string s) (.string s)
 |oQ:gj R (.pointer none) (.pointer none)
 |ptr (a b:Addr) (h:R a.block b.block) (ak:a.off=b.off) (ha:a.spot=none) (hb:b.spot=none):gj R (.pointer (some a)) (.pointer (some b))
 |oW (n c:Nat):gj R (.slice none n c) (.slice none n c)
 |hv (a b:Addr) (n c:Nat) (h:R a.block b.block) (ak:a.off=b.off) (ha:a.spot=none) (hb:b.spot=none):gj R (.slice (some a) n c) (.slice (some b) n c)
 |qZ:gj R (.map none) (.map none)
 |map (i j:Nat) (h:R i j):gj R (.map (some i)) (.map (some j))
 |func (f:FuncId) (xs al us vs:Array Value) (h1:xs.size=al.size) (h2:∀i (h:i<xs.size) (aC:i<al.size),gj R xs[i] al[i])
  (ab:us.size=vs.size) (aD:∀i (h:i<us.size) (aC:i<vs.size),gj R us[i] vs[i]):gj R (.func (.func f) xs us) (.func (.func f) al vs)
 |nilFunc:gj R .nilFunc .nilFunc
 |iface (t:TypeId) (v w:Value) (h:gj R v w):gj R (.iface t v) (.iface t w)
 |nilIface:gj R .nilIface .nilIface
 |agg (xs al:Array Value) (h1:xs.size=al.size) (h2:∀i (h:i<xs.size) (aC:i<al.size),gj R xs[i] al[i]):gj R (.agg xs) (.agg al)
 |tuple (xs al:Array Value) (h1:xs.size=al.size) (h2:∀i (h:i<xs.size) (aC:i<al.size),gj R xs[i] al[i]):gj R (.tuple xs) (.tuple al)
 |chan (c:Nat):gj R (.chan (some c)) (.chan (some c))
variable{v w:be}
def gj.mono{R S:Nat->Nat->Prop}(hle:∀i j,R i j->S i j)(h:gj R v w):gj S v w:=by
 induction h with
 |bool b=>exact .bool b
 |int k n=>exact .int k n
 |string s=>exact .string s
 |oQ=>exact .oQ
 |ptr a b h ak ha hb=>exact .ptr a b (hle _ _ h) ak ha hb
 |oW n c=>exact .oW n c
 |hv a b n c h ak ha hb=>exact .hv a b n c (hle _ _ h) ak ha hb
 |qZ=>exact .qZ
 |map i j h=>exact .map i j (hle _ _ h)
 |func f xs al us vs h1 _ ab _ oH y1=>exact .func f xs al us vs h1 oH ab y1
 |nilFunc=>exact .nilFunc
 |iface t v w _ a1=>exact .iface t v w a1
 |nilIface=>exact .nilIface
 |agg xs al h1 _ a1=>exact .agg xs al h1 a1
 |tuple xs al h1 _ a1=>exact .tuple xs al h1 a1
 |chan c=>exact .chan c
def gj.symm{R:Nat->Nat->Prop}(h:gj R v w):gj (fun j i=>R i j) w v:=by
 induction h with
 |bool b=>exact .bool b
 |int k n=>exact .int k n
 |string s=>exact .string s
 |oQ=>exact .oQ
 |ptr a b h ak ha hb=>exact .ptr b a h ak.symm hb ha
 |oW n c=>exact .oW n c
 |hv a b n c h ak ha hb=>exact .hv b a n c h ak.symm hb ha
 |qZ=>exact .qZ
 |map i j h=>exact .map j i h
 |func f xs al us vs h1 _ ab _ oH y1=>exact .func f al xs vs us h1.symm (fun i a b=>oH i b a) ab.symm (fun i a b=>y1 i b a)
 |nilFunc=>exact .nilFunc
 |iface t v w _ a1=>exact .iface t w v a1
 |nilIface=>exact .nilIface
 |agg xs al h1 _ a1=>exact .agg al xs h1.symm (fun i a b=>a1 i b a)
 |tuple xs al h1 _ a1=>exact .tuple al xs h1.symm (fun i a b=>a1 i b a)
 |chan c=>exact .chan c
def gj.FT{R:Nat->Nat->Prop}{ll aR:bx}(dY:∀i j l,R i j->ll i=some l->aR j=some l){c:be}(h:gj R v c):∀{x:be},bq ll v x->bq aR c x:=by
 induction h with
 |bool b=>intro x J;cases J;exact .bool b
 |int k n=>intro x J;cases J;exact .int k n
 |string s=>intro x J;cases J;exact .string s
 |oQ=>intro x J;cases J;exact .oQ
 |ptr a b h ak ha hb=>
  intro x J;cases J with
  |ptr a l hl af=>rw[ak];exact .ptr b l (dY _ _ _ h hl) hb
 |oW n c=>intro x J;cases J;exact .oW n c
 |hv a b n c h ak ha hb=>
  intro x J;cases J with
  |hv a l o n c hl af ab=>exact .hv b l o n c (dY _ _ _ h hl) hb (by rw[<-ak];exact ab)
 |qZ=>intro x J;cases J;exact .qZ
 |map i j h=>intro x J;cases J with|map r b ch hl=>exact .map j b ch (dY _ _ _ h hl)
 |func f xs al us vs h1 _ ab _ oH y1=>
  intro x J;cases J with
  |func rP g vG jR awb gG U aH aI bj cn=>
   refine .func _ _ al jR vs gG ?_ (h1.symm.trans aH) (fun i a b=>oH i (by omega) a (aI i (by omega) b)) (ab.symm.trans bj) (fun i a b=>y1 i (by omega) a (cn i (by omega) b));rcases U with⟨e,ay⟩|⟨l,b,e,_⟩
   ·exact .inl ⟨e,ay⟩
   ·cases e
 |nilFunc=>intro x J;cases J;exact .nilFunc
 |iface t v w _ a1=>intro x J;cases J with|iface t v y aB=>exact .iface t w y (a1 aB)
 |nilIface=>intro x J;cases J;exact .nilIface
 |agg xs al h1 _ a1=>intro x J;cases J with|agg vG jR aH aI=>exact .agg al jR (h1.symm.trans aH) (fun i a b=>a1 i (by omega) a (aI i (by omega) b))
 |tuple xs al h1 _ a1=>intro x J;cases J with|tuple vG jR aH aI=>exact .tuple al jR (h1.symm.trans aH) (fun i a b=>a1 i (by omega) a (aI i (by omega) b))
 |chan c=>
  intro x J;by_cases hc:c=0
  ·subst hc;exact .top x
  ·obtain⟨m,rfl,hu⟩:=J.O5 hc;exact .ks c m hu
def kS(R:Nat->Nat->Prop)(xs al:ac be):Prop:=xs.length=al.length∧∀(i:Nat) (h:i<xs.length) (aC:i<al.length),gj R xs[i] al[i]
variable{xs:ac be}{al:ap be}
def kS.mono{R S:Nat->Nat->Prop}(hle:∀i j,R i j->S i j){al:ac be}(h:kS R xs al):kS S xs al:=⟨h.1,fun i a b=>(h.2 i a b).mono hle⟩
def kS.symm{R:Nat->Nat->Prop}{al:ac be}(h:kS R xs al):kS (fun j i=>R i j) al xs:=⟨h.1.symm,fun i a b=>(h.2 i b a).symm⟩
def kS.nil(R:Nat->Nat->Prop):kS R [] []:=⟨rfl,fun i h=>by simp at h⟩
def kS.cons{R:Nat->Nat->Prop}{x y:be}{xs al:ac be}(h:gj R x y)(af:kS R xs al):kS R (x::xs) (y::al):=by
 refine⟨by simp[af.1],fun i a b=> ?_⟩;cases i with
 |zero=>exact h
 |succ i=>exact af.2 i (by simpa using a) (by simpa using b)
def kS.auj{R:Nat->Nat->Prop}{ll aR:bx}(dY:∀i j l,R i j->ll i=some l->aR j=some l){vs cs:ac be}(h:kS R vs cs)(J:bI ll vs xs):bI aR cs xs:=
 ⟨h.1.symm.trans J.1,fun i a b=>(h.2 i (by have:=h.1;omega) a).FT dY (J.2 i (by have:=h.1;omega) b)⟩
def gj.RK{R:Nat->Nat->Prop}{xs:ap be}(h:kS R xs.toList al.toList):gj R (.agg xs) (.agg al):=
 .agg xs al (by simpa using h.1) fun i a b=>by have:=h.2 i (by simpa using a) (by simpa using b);rwa [zaO,zaO]at this
def gj.tuple'{R:Nat->Nat->Prop}{xs:ap be}(h:kS R xs.toList al.toList):gj R (.tuple xs) (.tuple al):=
 .tuple xs al (by simpa using h.1) fun i a b=>by have:=h.2 i (by simpa using a) (by simpa using b);rwa [zaO,zaO]at this
def gj.Uq{R:Nat->Nat->Prop}{f:ci}{xs us vs:ap be}(h:kS R xs.toList al.toList)(aC:kS R us.toList vs.toList):gj R (.func (.func f) xs us) (.func (.func f) al vs):=
 .func f xs al us vs (by simpa using h.1) (fun i a b=>by have:=h.2 i (by simpa using a) (by simpa using b);rwa [zaO,zaO]at this) (by simpa using aC.1) (fun i a b=>by have:=aC.2 i (by simpa using a) (by simpa using b);rwa [zaO,zaO]at this)
inductive jG{α β:Type}(R:α->β->Prop):List α->List β->Prop
 |nil:jG R [] []
 |cons {a:α} {b:β} {as:List α} {bs:List β} (h:R a b) (af:jG R as bs):jG R (a::as) (b::bs)
variable{α β:Type}{as:ac α}
def jG.mono{R S:α->β->Prop}(hle:∀a b,R a b->S a b){bs:ac β}(h:jG R as bs):jG S as bs:=by
 induction h with
 |nil=>exact .nil
 |cons h _ a1=>exact .cons (hle _ _ h) a1
def jG.flip{R:α->β->Prop}{bs:ac β}(h:jG R as bs):jG (fun b a=>R a b) bs as:=by
 induction h with
 |nil=>exact .nil
 |cons h _ a1=>exact .cons h a1
def jG.perm{R:α->β->Prop}{l es:ac α}(hp:l.Perm es):∀{cj:ac β},jG R es cj->∃m:ac β,m.Perm cj∧jG R l m:=by
 induction hp with
 |nil=>intro cj h;cases h;exact⟨[],.refl _,.nil⟩
 |cons x _ a1=>
  intro cj h;cases h with
  |cons h af=>obtain⟨m,h1,h2⟩:=a1 af;exact⟨_::m,.cons _ h1,.cons h h2⟩
 |swap x y l=>
  intro cj h;cases h with
  |cons h af=>cases af with|cons aC af=>exact⟨_::_::_,.swap _ _ _,.cons aC (.cons h af)⟩
 |trans _ _ Et oH=>
  intro cj h;obtain⟨m,h1,h2⟩:=oH h;obtain⟨n,ab,aD⟩:=Et h2;exact⟨n,ab.trans h1,aD⟩
def jG.len{R:α->β->Prop}{bs:ac β}(h:jG R as bs):as.length=bs.length:=by
 induction h with
 |nil=>rfl
 |cons _ _ a1=>simp[a1]
theorem jG.at{α β:Type}{R:α->β->Prop}{as:ac α}{bs:ac β}(h:jG R as bs):∀(i:Nat) (a:i<as.length) (b:i<bs.length),R as[i] bs[i]:=by
 induction h with
 |nil=>intro i a;simp at a
 |cons h _ a1=>
  intro i a b;cases i with
  |zero=>exact h
  |succ i=>exact a1 i (by simpa using a) (by simpa using b)
structure pB(R:Nat->Nat->Prop)(e f:d9):Prop where
 key:e.key=f.key
 Oi:gj R e.key f.key
 val:gj R e.val f.val
 born:e.born=f.born
variable{e f:d9}
def pB.mono{R S:Nat->Nat->Prop}(hle:∀i j,R i j->S i j)(h:pB R e f):pB S e f:=⟨h.key,h.Oi.mono hle,h.val.mono hle,h.born⟩
def pB.symm{R:Nat->Nat->Prop}(h:pB R e f):pB (fun j i=>R i j) f e:=⟨h.key.symm,h.Oi.symm,h.val.symm,h.born.symm⟩
inductive lp(R:Nat->Nat->Prop):bt->bt->Prop
 |cells (cs ds:List Value) (e:TypeId) (bk:Nat×Nat) (a3:Bool) (h:kS R cs ds):lp R (.cells cs e bk a3) (.cells ds e bk a3)
 |map (es cj:List MapEntry) (c:Nat) (h:jG (pB R) es cj):lp R (.map es c) (.map cj c)
variable{o p:bt}
def lp.mono{R S:Nat->Nat->Prop}(hle:∀i j,R i j->S i j)(h:lp R o p):lp S o p:=by
 cases h with
 |cells cs ds e bk a3 h=>exact .cells cs ds e bk a3 (h.mono hle)
 |map es cj c h=>exact .map es cj c (h.mono fun _ _ h=>h.mono hle)
def lp.symm{R:Nat->Nat->Prop}(h:lp R o p):lp (fun j i=>R i j) p o:=by
 cases h with
 |cells cs ds e bk a3 h=>exact .cells ds cs e bk a3 h.symm
 |map es cj c h=>exact .map cj es c (h.flip.mono fun _ _ h=>h.symm)
def lp.live{R:Nat->Nat->Prop}(h:lp R o p):o≠.dead∧p≠.dead:=by cases h<;>simp
def lp.wj{R:Nat->Nat->Prop}(h:lp R o p):o.wj↔p.wj:=by cases h<;>exact Iff.rfl
variable{X:Ctx}
def lp.ZI{R:Nat->Nat->Prop}{ll aR:bx}(dY:∀i j l,R i j->ll i=some l->aR j=some l)(h:lp R o p){w:d7}{l:Loc}(hm:kb X ll w o l):kb X aR w p l:=by
 cases h with
 |cells cs ds e bk a3 h=>
  obtain⟨C,fk,hC⟩:=hm;refine⟨C,fk,hC.there,by rw[<-h.1];exact hC.room,fun i aa=> ?_,by rw[<-h.1];exact hC.Cx,by rw[<-h.1];exact hC.plain⟩;have eC:i<cs.length:=by rw[h.1];exact aa
  obtain⟨c,h1,h2⟩:=hC.cell i eC;exact⟨c,h1,(h.2 i eC aa).FT dY h2⟩
 |map es cj c h=>
  obtain⟨h0,kh,C,bW,h1,h2⟩:=hm;have eI:∀f∈cj,∃e∈es,pB R e f:=by
   clear h1 h2;intro f U
   induction h with
   |nil=>cases U
   |cons h _ a1=>
    rcases zap.1 U with rfl|U
    ·exact⟨_,by simp,h⟩
    ·obtain⟨e,he,aC⟩:=a1 U;exact⟨e,zaB _ he,aC⟩
  have aaF:∀(Q:d9->d9->Prop),(∀a b c d,pB R a c->pB R b d->Q a b->Q c d)->es.Pairwise Q->cj.Pairwise Q:=by
   intro Q ml hp;clear h1 h2 eI
   induction h with
   |nil=>exact .nil
   | @cons a b as bs h af a1=>
    rw[zev]at hp⊢;refine⟨fun d ao=> ?_,a1 hp.2⟩;have:∃e∈as,pB R e d:=by
     clear a1 hp
     induction af with
     |nil=>cases ao
     |cons aC _ N4=>
      rcases zap.1 ao with rfl|ao
      ·exact⟨_,by simp,aC⟩
      ·obtain⟨e,he,uA⟩:=N4 ao;exact⟨e,zaB _ he,uA⟩
    obtain⟨e,he,alE⟩:=this;exact ml a e b d h alE (hp.1 e he)
  refine⟨h0,kh,C,bW,h1,h2.ub,h2.Ci,fun f U=> ?_,aaF _ (fun a b c d h1 h2 hk=>by rw[<-h1.key,<-h2.key];exact hk) h2.keys,aaF _ (fun a b c d h1 h2 hk=>by rw[<-h1.born,<-h2.born];exact hk) h2.Aq,?_⟩
  ·obtain⟨e,he,Nd⟩:=eI f U;rw[<-Nd.born];exact h2.born e he
  ·obtain⟨gE,aH,aI,bj⟩:=h2.same;obtain⟨m,bf,bL⟩:=h.perm aH;refine⟨m,bf,bL.len.symm.trans aI,fun i a b=> ?_⟩;have a':i<gE.length:=by rw[bL.len];exact a
   obtain⟨eD,eU,fT⟩:=bj i a' b;have q:=bL.at i a' a;exact⟨q.Oi.FT dY eD,q.val.FT dY eU,by rw[fT,q.born]⟩
end Go.ah
namespace Go.ah
structure dd where
 cO:an Nat
 inv:an Nat
 a6:Nat
def dd.R(s:dd)(i j:Nat):Prop:=s.cO.get i=some j
structure dd.cY(s:dd):Prop where
 iff:∀i j,s.cO.get i=some j↔s.inv.get j=some i
 mM:∀i j,s.cO.get i=some j->i<s.a6
def dd.le(s t:dd):Prop:=∀i j,s.cO.get i=some j->t.cO.get i=some j
def dd.le.refl(s:dd):s.le s:=fun _ _ h=>h
def dd.le.trans{s t u:dd}(h:s.le t)(aC:t.le u):s.le u:=fun i j e=>aC i j (h i j e)
def zc(i j:Nat)(s:dd):am dd:=
 bm (s.inv.get j) (fun c4=>cond (Nat.beq i c4) (some s) none)
  (cond (Nat.beq i s.a6) (an.fin (an.ld (Nat.succ i) s.cO i j) fun cO=>an.fin (an.ld (Nat.succ j) s.inv j i) fun inv=>g4 (Nat.succ i) fun c=>some ⟨cO,inv,c⟩) none)
def OB{i j:Nat}{s bh:dd}(af:s.cY)(h:zc i j s=some bh):bh.cY∧s.le bh∧bh.R i j:=by
 unfold zc at h;cases hj:s.inv.get j with
 |some c4=>
  rw[hj]at h;have h:cond (Nat.beq i c4) (some s) none=some bh:=h;cases hb:Nat.beq i c4 with
  |false=>rw[hb]at h;cases h
  |true=>
   rw[hb]at h;cases h;have:=eo hb;subst this;exact⟨af,.refl s,(af.iff i j).2 hj⟩
 |none=>
  rw[hj]at h;have h:cond (Nat.beq i s.a6) (an.fin (an.ld (Nat.succ i) s.cO i j) fun cO=>an.fin (an.ld (Nat.succ j) s.inv j i) fun inv=>g4 (Nat.succ i) fun c=>some ⟨cO,inv,c⟩) none=some bh:=h;cases hb:Nat.beq i s.a6 with
  |false=>rw[hb]at h;cases h
  |true=>
   rw[hb]at h;have e:=eo hb;simp only[cond_true,an.uw,an.w7]at h;unfold g4 at h;rw[zaN]at h;simp only[cond_true,Option.some.injEq]at h;subst h;have gL:∀b,s.cO.get i≠some b:=fun b hb=>by have:=af.mM _ _ hb;omega
   refine⟨⟨fun a b=> ?_,fun a b iT=> ?_⟩,fun a b iT=> ?_,?_⟩
   ·show(s.cO.set i j).get a=some b↔(s.inv.set j i).get b=some a;rw[an.e8,an.e8];by_cases ha:a=i<;>by_cases jt:b=j
    ·rw[zab ha,zab jt,ha,jt];simp
    ·rw[zab ha,zaa jt];subst ha;constructor
     ·intro e;exact absurd (Option.some.inj e).symm jt
     ·intro e;exact absurd ((af.iff _ _).2 e) (gL b)
    ·rw[zaa ha,zab jt];subst jt;constructor
     ·intro e;rw[(af.iff _ _).1 e]at hj;cases hj
     ·intro e;exact absurd (Option.some.inj e).symm ha
    ·rw[zaa ha,zaa jt];exact af.iff a b
   ·have iT:(s.cO.set i j).get a=some b:=iT;show a<Nat.succ i;rw[an.e8]at iT;by_cases ha:a=i
    ·omega
    ·rw[zaa ha]at iT;have:=af.mM _ _ iT;omega
   ·show(s.cO.set i j).get a=some b;rw[an.e8,zaa]
    ·exact iT
    ·intro ha;subst ha;exact gL b iT
   ·show(s.cO.set i j).get i=some j;rw[an.uz]
def Oy(a b:am Addr)(s:dd):am dd:=
 Option.rec (motive:=fun _=>am dd) (Option.rec (motive:=fun _=>am dd) (some s) (fun _=>none) b)
  (fun a=>Option.rec (motive:=fun _=>am dd) none
   (fun b=>cond (Nat.beq a.off b.off) (Option.rec (motive:=fun _=>am dd) (Option.rec (motive:=fun _=>am dd) (zc a.block b.block s) (fun _=>none) b.spot) (fun _=>none) a.spot) none) b) a
def YQ{a b:am Addr}{s bh:dd}(h:Oy a b s=some bh):
 (a=none∧b=none∧bh=s)∨∃p q,a=some p∧b=some q∧p.off=q.off∧p.spot=none∧q.spot=none∧zc p.block q.block s=some bh:=by
 cases a with
 |none=>
  cases b with
  |none=>left;exact⟨rfl,rfl,(Option.some.inj h).symm⟩
  |some q=>cases h
 |some p=>
  cases b with
  |none=>cases h
  |some q=>
   right;obtain⟨Pw,zv,ps⟩:=p;obtain⟨aqj,E9,dt⟩:=q;cases ak:Nat.beq zv E9 with
   |false=>
    have h:cond (Nat.beq zv E9) _ none=some bh:=h;rw[ak]at h;cases h
   |true=>
    cases ps with
    |some x=>
     have h:cond (Nat.beq zv E9) none none=some bh:=h;rw[ak]at h;cases h
    |none=>
     cases dt with
     |some x=>
      have h:cond (Nat.beq zv E9) none none=some bh:=h;rw[ak]at h;cases h
     |none=>
      have h:cond (Nat.beq zv E9) (zc Pw aqj s) none=some bh:=h;rw[ak]at h;exact⟨_,_,rfl,rfl,eo ak,rfl,rfl,h⟩
def OA(f g:Fn)(k:am dd):am dd:=
 match f,g with
 |.func a,.func b=>cond (Nat.beq a b) k none
 |_,_=>none
def aoG{f g:Fn}{k:am dd}{s:dd}(h:OA f g k=some s):∃a,f= .func a∧g= .func a∧k=some s:=by
 unfold OA at h;split at h
 ·rename_i a b;cases hb:Nat.beq a b with
  |false=>rw[hb]at h;cases h
  |true=>rw[hb]at h;exact⟨a,rfl,by rw[eo hb],h⟩
 ·cases h
def aeY(a b:ac bv):Bool:=a==b
def LC(a b:Bool):Bool:=cond a b (cond b false true)
def SC{a b:Bool}(h:LC a b=true):a=b:=by cases a<;>cases b<;>first|rfl|cases h
def YW(w:be)(s:dd):am dd:=match w with|.nilFunc=>some s|_=>none
def YX(w:be)(s:dd):am dd:=match w with|.nilIface=>some s|_=>none
def YR(c:am Nat)(w:be)(s:dd):am dd:=match c,w with|some a,.chan (some b)=>cond (Nat.beq a b) (some s) none|_,_=>none
def abt(f:Fn)(k:ci->am be):am be:=match f with|.func g=>k g|_=>none
def abq(c:am Nat):am be:=match c with|some c=>some (.chan (some c))|none=>none
mutual
def kH:be->be->dd->am dd
 |.bool a,w,s=>oc w (fun b=>cond (LC a b) (some s) none) none
 |.int k a,w,s=>g2 w (fun k' b=>cond (kG k k') (cond (sT a b) (some s) none) none) none
 |.string a,w,s=>jE w (fun b=>cond (aeY a.data.toList b.data.toList) (some s) none) none
 |.pointer a,w,s=>jD w (fun b=>Oy a b s) none
 |.slice a n c,w,s=>j8 w (fun b b1 bW=>cond (Nat.beq n b1) (cond (Nat.beq c bW) (Oy a b s) none) none) none
 |.map a,w,s=>zX w (fun b=>Option.rec (motive:=fun _=>am dd) (Option.rec (motive:=fun _=>am dd) (some s) (fun _=>none) b) (fun i=>Option.rec (motive:=fun _=>am dd) none (fun j=>zc i j s) b) a) none
 |.func f xs us,w,s=>Cr w (fun g al vs=>OA f g (bm (Bv xs al s) (fun s=>Bv us vs s) none)) none
 |.nilFunc,w,s=>YW w s
 |.nilIface,w,s=>YX w s
 |.iface t v,w,s=>zW w (fun u y=>cond (Nat.beq t u) (kH v y s) none) none
 |.agg xs,w,s=>vE w (fun al=>Bv xs al s) none
 |.tuple xs,w,s=>rr w (fun al=>Bv xs al s) none
 |.chan c,w,s=>YR c w s
 |_,_,_=>none
def Bv:ap be->ap be->dd->am dd
 |⟨xs⟩,al,s=>zb xs al.toList s
def zb:ac be->ac be->dd->am dd
 |[],al,s=>List.rec (motive:=fun _=>am dd) (some s) (fun _ _ _=>none) al
 |x::xs,al,s=>List.rec (motive:=fun _=>am dd) none (fun y jR _=>bm (kH x y s) (fun bh=>zb xs jR bh) none) al
end
def om{b:Bool}{o:am dd}{s:dd}(h:cond b o none=some s):b=true∧o=some s:=by
 cases b
 ·cases h
 ·exact⟨rfl,h⟩
def tm{α:Type}{o:am α}{k:α->am dd}{s:dd}(h:bm o k none=some s):∃a,o=some a∧k a=some s:=gO h (by simp)
mutual
theorem II:∀(v w:be) (s bh:dd),s.cY->kH v w s=some bh->bh.cY∧s.le bh∧gj bh.R v w
 |.bool a,w,s,bh,af,h=>by
  rw[kH]at h;obtain⟨b,rfl,h⟩:=Rd h (by simp);obtain⟨h1,h2⟩:=om h;cases h2;rw[SC h1];exact⟨af,.refl s,.bool _⟩
 |.int k a,w,s,bh,af,h=>by
  rw[kH]at h;obtain⟨k',b,rfl,h⟩:=j7 h (by simp);obtain⟨h1,h⟩:=om h;obtain⟨h2,h⟩:=om h;cases h;rw[Dn]at h2;rw[u0 h1,zcM h2];exact⟨af,.refl s,.int _ _⟩
 |.float k n,w,s,bh,af,h=>by rw[kH]at h<;>first|cases h|simp
 |.complex k n m,w,s,bh,af,h=>by rw[kH]at h<;>first|cases h|simp
 |.string a,w,s,bh,af,h=>by
  rw[kH]at h;obtain⟨b,rfl,h⟩:=ql h (by simp);obtain⟨h1,h2⟩:=om h;cases h2;have h1:(a.data.toList==b.data.toList)=true:=h1;have e:=zcM h1;have:a=b:=by cases a;cases b;simp only at e;rw[Array.toList_inj.1 e]
  rw[this];exact⟨af,.refl s,.string _⟩
 |.pointer a,w,s,bh,af,h=>by
  rw[kH]at h;obtain⟨b,rfl,h⟩:=rp h (by simp);rcases YQ h with⟨rfl,rfl,rfl⟩|⟨p,q,rfl,rfl,h1,h2,ab,aD⟩
  ·exact⟨af,.refl _,.oQ⟩
  ·obtain⟨aH,aI,bj⟩:=OB af aD;exact⟨aH,aI,.ptr p q bj h1 h2 ab⟩
 |.slice a n c,w,s,bh,af,h=>by
  rw[kH]at h;obtain⟨b,b1,bW,rfl,h⟩:=xy h (by simp);obtain⟨aq,h⟩:=om h;obtain⟨e2,h⟩:=om h;rw[eo aq,eo e2];rcases YQ h with⟨rfl,rfl,rfl⟩|⟨p,q,rfl,rfl,h1,h2,ab,aD⟩
  ·exact⟨af,.refl _,.oW _ _⟩
  ·obtain⟨aH,aI,bj⟩:=OB af aD;exact⟨aH,aI,.hv p q _ _ bj h1 h2 ab⟩
 |.map a,w,s,bh,af,h=>by
  rw[kH]at h;have:∃b,w= .map b∧Option.rec (motive:=fun _=>am dd) (Option.rec (motive:=fun _=>am dd) (some s) (fun _=>none) b) (fun i=>Option.rec (motive:=fun _=>am dd) none (fun j=>zc i j s) b) a=some bh:=by
   cases w<;>first|cases h|exact⟨_,rfl,h⟩
  obtain⟨b,rfl,h⟩:=this;cases a with
  |none=>
   cases b with
   |none=>cases h;exact⟨af,.refl _,.qZ⟩
   |some j=>cases h
  |some i=>
   cases b with
   |none=>cases h
   |some j=>
    obtain⟨aH,aI,bj⟩:=OB af h;exact⟨aH,aI,.map i j bj⟩
 |.func f xs us,w,s,bh,af,h=>by
  rw[kH]at h;obtain⟨g,al,vs,rfl,h⟩:=Re h (by simp);obtain⟨a,rfl,rfl,ab⟩:=aoG h;obtain⟨s1,h1,h2⟩:=tm ab;obtain⟨jO,hZ,lH⟩:=IF xs al s s1 af h1;obtain⟨eD,eU,fT⟩:=IF us vs s1 bh jO h2;exact⟨eD,hZ.trans eU,.Uq (lH.mono eU) fT⟩
 |.nilFunc,w,s,bh,af,h=>by
  rw[kH]at h;unfold YW at h;split at h
  ·cases h;exact⟨af,.refl _,.nilFunc⟩
  ·cases h
 |.nilIface,w,s,bh,af,h=>by
  rw[kH]at h;unfold YX at h;split at h
  ·cases h;exact⟨af,.refl _,.nilIface⟩
  ·cases h
 |.iface t v,w,s,bh,af,h=>by
  rw[kH]at h;obtain⟨u,y,rfl,h⟩:=Rf h (by simp);obtain⟨aq,h⟩:=om h;obtain⟨jO,hZ,lH⟩:=II v y s bh af h;rw[eo aq];exact⟨jO,hZ,.iface _ _ _ lH⟩
 |.agg xs,w,s,bh,af,h=>by
  rw[kH]at h;obtain⟨al,rfl,h⟩:=zV h (by simp);obtain⟨jO,hZ,lH⟩:=IF xs al s bh af h;exact⟨jO,hZ,.RK lH⟩
 |.tuple xs,w,s,bh,af,h=>by
  rw[kH]at h;obtain⟨al,rfl,h⟩:=adx h (by simp);obtain⟨jO,hZ,lH⟩:=IF xs al s bh af h;exact⟨jO,hZ,.tuple' lH⟩
 |.chan c,w,s,bh,af,h=>by
  rw[kH]at h;unfold YR at h;split at h
  ·obtain⟨aq,h⟩:=om h;cases h;rw[eo aq];exact⟨af,.refl _,.chan _⟩
  ·cases h
theorem IF:∀(xs al:ap be) (s bh:dd),s.cY->Bv xs al s=some bh->bh.cY∧s.le bh∧kS bh.R xs.toList al.toList
 |⟨xs⟩,al,s,bh,af,h=>by rw[Bv]at h;exact IH xs al.toList s bh af h
theorem IH:∀(xs al:ac be) (s bh:dd),s.cY->zb xs al s=some bh->bh.cY∧s.le bh∧kS bh.R xs al
 |[],al,s,bh,af,h=>by
  rw[zb]at h;cases al with
  |nil=>cases h;exact⟨af,.refl _,.nil _⟩
  |cons y al=>cases h
 |x::xs,al,s,bh,af,h=>by
  rw[zb]at h;cases al with
  |nil=>cases h
  |cons y al=>
   obtain⟨s1,h1,h2⟩:=tm (o:=kH x y s) h;obtain⟨jO,hZ,lH⟩:=II x y s s1 af h1;obtain⟨eD,eU,fT⟩:=IH xs al s1 bh jO h2;exact⟨eD,hZ.trans eU,.cons (lH.mono eU) fT⟩
end
def Oz(es:ac d9):ac d9->dd->am dd:=
 List.rec (motive:=fun _=>ac d9->dd->am dd) (fun cj s=>List.rec (motive:=fun _=>am dd) (some s) (fun _ _ _=>none) cj)
  (fun e _ a1 cj s=>List.rec (motive:=fun _=>am dd) none
   (fun f aib _=>cond (Nat.beq e.born f.born) (cond (dU e.key f.key) (bm (kH e.key f.key s) (fun s=>bm (kH e.val f.val s) (fun s=>a1 aib s) none) none) none) none) cj) es
theorem YS:∀(es cj:ac d9) (s bh:dd),s.cY->Oz es cj s=some bh->bh.cY∧s.le bh∧jG (pB bh.R) es cj
 |[],[],s,bh,af,h=>by cases h;exact⟨af,.refl _,.nil⟩
 |[],_::_,s,bh,af,h=>by cases h
 |_::_,[],s,bh,af,h=>by cases h
 |e::es,f::cj,s,bh,af,h=>by
  have h:cond (Nat.beq e.born f.born) (cond (dU e.key f.key) (bm (kH e.key f.key s) (fun s=>bm (kH e.val f.val s) (fun s=>Oz es cj s) none) none) none) none=some bh:=h;obtain⟨aq,h⟩:=om h;obtain⟨e2,h⟩:=om h;obtain⟨s1,h1,h⟩:=tm h;obtain⟨s2,h2,h⟩:=tm h;obtain⟨jO,hZ,lH⟩:=II _ _ _ _ af h1;obtain⟨eD,eU,fT⟩:=II _ _ _ _ jO h2;obtain⟨lh,n7,xh⟩:=YS es cj s2 bh eD h;exact⟨lh,(hZ.trans eU).trans n7,.cons ⟨od _ _ e2,lH.mono (eU.trans n7),fT.mono n7,eo aq⟩ xh⟩
def u9(o p:bt)(s:dd):am dd:=
 match o,p with
 |.cells cs e bk a3,.cells ds cK fk DC=>cond (Nat.beq e cK) (cond (Nat.beq bk.1 fk.1) (cond (Nat.beq bk.2 fk.2) (cond (LC a3 DC) (zb cs ds s) none) none) none) none
 |.map es c,.map cj bW=>cond (Nat.beq c bW) (Oz es cj s) none
 |_,_=>none
def YY{o p:bt}{s bh:dd}(af:s.cY)(h:u9 o p s=some bh):bh.cY∧s.le bh∧lp bh.R o p:=by
 unfold u9 at h;split at h
 ·rename_i cs e bk a3 ds cK fk DC;obtain⟨aq,h⟩:=om h;obtain⟨e2,h⟩:=om h;obtain⟨bS,h⟩:=om h;obtain⟨gK,h⟩:=om h;obtain⟨jO,hZ,lH⟩:=IH _ _ _ _ af h;have:bk=fk:=Prod.ext (eo e2) (eo bS);subst this;rw[eo aq,SC gK];exact⟨jO,hZ,.cells _ _ _ _ _ lH⟩
 ·obtain⟨aq,h⟩:=om h;obtain⟨jO,hZ,lH⟩:=YS _ _ _ _ af h;rw[eo aq];exact⟨jO,hZ,.map _ _ _ lH⟩
 ·cases h
def IG(h:an bt)(os:ac bt):Nat->dd->am dd:=
 List.rec (motive:=fun _=>Nat->dd->am dd) (fun _ s=>some s)
  (fun o _ a1 i s=>bm (s.cO.get i) (fun j=>bm (h.get j) (fun p=>bm (u9 o p s) (fun s=>g4 (Nat.succ i) fun c4=>a1 c4 s) none) none) none) os
theorem YT{H:an bt}:∀(os:ac bt) (i:Nat) (s bh:dd),s.cY->IG H os i s=some bh->
 bh.cY∧s.le bh∧∀k (hk:k<os.length),∃j p,bh.R (i+k) j∧H.get j=some p∧lp bh.R os[k] p
 |[],i,s,bh,af,h=>by cases h;exact⟨af,.refl _,fun k hk=>by simp at hk⟩
 |o::os,i,s,bh,af,h=>by
  have h:bm (s.cO.get i) (fun j=>bm (H.get j) (fun p=>bm (u9 o p s) (fun s=>g4 (Nat.succ i) fun c4=>IG H os c4 s) none) none) none=some bh:=h;obtain⟨j,h1,h⟩:=tm h;obtain⟨p,h2,h⟩:=tm h;obtain⟨s1,ab,h⟩:=tm h;unfold g4 at h;rw[zaN]at h;have h:IG H os (i+1) s1=some bh:=h;obtain⟨jO,hZ,lH⟩:=YY af ab;obtain⟨eD,eU,fT⟩:=YT os (i+1) s1 bh jO h;refine⟨eD,hZ.trans eU,fun k hk=> ?_⟩;cases k with
  |zero=>exact⟨j,p,(hZ.trans eU) _ _ h1,h2,lH.mono eU⟩
  |succ k=>
   obtain⟨Og,dZ,aH,aI,bj⟩:=fT k (by simpa using hk);exact⟨Og,dZ,by rw[show i+(k+1)=i+1+k by omega];exact aH,aI,by simpa using bj⟩
def l7(cO:an Nat)(e4 dV i:Nat):Nat:=bm (cO.get i) (fun j=>j) (Nat.add dV (Nat.sub i e4))
section
variable(cO:an Nat)(e4 dV:Nat)
def Qe{β:Type}(a:am Addr)(k:am Addr->am β):am β:=
 Option.rec (motive:=fun _=>am β) (k none) (fun a=>Option.rec (motive:=fun _=>am β) (g4 (l7 cO e4 dV a.block) fun b=>k (some ⟨b,a.off,none⟩)) (fun _=>none) a.spot) a
mutual
def j3:be->am be
 |.pointer a=>Qe cO e4 dV a fun b=>some (.pointer b)
 |.slice a n c=>Qe cO e4 dV a fun b=>some (.slice b n c)
 |.map a=>Option.rec (motive:=fun _=>am be) (some (.map none)) (fun i=>g4 (l7 cO e4 dV i) fun j=>some (.map (some j))) a
 |.func f xs us=>abt f fun g=>bm (B3 xs) (fun al=>bm (B3 us) (fun vs=>some (.func (.func g) ⟨al⟩ ⟨vs⟩)) none) none
 |.iface t v=>bm (j3 v) (fun w=>some (.iface t w)) none
 |.agg xs=>bm (B3 xs) (fun al=>some (.agg ⟨al⟩)) none
 |.tuple xs=>bm (B3 xs) (fun al=>some (.tuple ⟨al⟩)) none
 |.bool b=>some (.bool b)
 |.int k n=>some (.int k n)
 |.string s=>some (.string s)
 |.nilFunc=>some .nilFunc
 |.nilIface=>some .nilIface
 |.chan c=>abq c
 |_=>none
def B3:ap be->am (ac be)
 |⟨xs⟩=>B4 xs
def B4:ac be->am (ac be)
 |[]=>some []
 |x::xs=>bm (j3 x) (fun y=>bm (B4 xs) (fun al=>some (y::al)) none) none
end
variable{β:Type}
def e6{α:Type}{o:am α}{k:α->am β}{b:β}(h:bm o k none=some b):∃a,o=some a∧k a=some b:=gO h (by simp)
def abp{a:am Addr}{k:am Addr->am β}{b:β}(h:Qe cO e4 dV a k=some b):
 (a=none∧k none=some b)∨∃p,a=some p∧p.spot=none∧k (some ⟨l7 cO e4 dV p.block,p.off,none⟩)=some b:=by
 cases a with
 |none=>exact .inl ⟨rfl,h⟩
 |some p=>
  obtain⟨Pw,zv,ps⟩:=p;cases ps with
  |some x=>cases h
  |none=>
   have h:g4 (l7 cO e4 dV Pw) (fun b=>k (some ⟨b,zv,none⟩))=some b:=h;unfold g4 at h;rw[zaN]at h;exact .inr ⟨_,rfl,rfl,h⟩
mutual
theorem Fl:∀(v w:be),j3 cO e4 dV v=some w->gj (fun i j=>j=l7 cO e4 dV i) v w
 |.bool b,w,h=>by rw[j3]at h;cases h;exact .bool b
 |.int k n,w,h=>by rw[j3]at h;cases h;exact .int k n
 |.float k n,w,h=>by rw[j3]at h<;>first|cases h|simp
 |.complex k n m,w,h=>by rw[j3]at h<;>first|cases h|simp
 |.string s,w,h=>by rw[j3]at h;cases h;exact .string s
 |.pointer a,w,h=>by
  rw[j3]at h;rcases abp cO e4 dV h with⟨rfl,h⟩|⟨p,rfl,af,h⟩
  ·cases h;exact .oQ
  ·cases h;exact .ptr _ _ rfl rfl af rfl
 |.slice a n c,w,h=>by
  rw[j3]at h;rcases abp cO e4 dV h with⟨rfl,h⟩|⟨p,rfl,af,h⟩
  ·cases h;exact .oW _ _
  ·cases h;exact .hv _ _ _ _ rfl rfl af rfl
 |.map a,w,h=>by
  rw[j3]at h;cases a with
  |none=>cases h;exact .qZ
  |some i=>
   have h:g4 (l7 cO e4 dV i) (fun j=>some (Value.map (some j)))=some w:=h;unfold g4 at h;rw[zaN]at h;cases h;exact .map _ _ rfl
 |.func f xs us,w,h=>by
  rw[j3]at h;unfold abt at h;split at h
  ·obtain⟨al,h1,h⟩:=e6 h;obtain⟨vs,h2,h⟩:=e6 h;cases h;exact .Uq (J8 xs al h1) (J8 us vs h2)
  ·cases h
 |.nilFunc,w,h=>by rw[j3]at h;cases h;exact .nilFunc
 |.nilIface,w,h=>by rw[j3]at h;cases h;exact .nilIface
 |.iface t v,w,h=>by
  rw[j3]at h;obtain⟨y,h1,h⟩:=e6 h;cases h;exact .iface _ _ _ (Fl v y h1)
 |.agg xs,w,h=>by
  rw[j3]at h;obtain⟨al,h1,h⟩:=e6 h;cases h;exact .RK (J8 xs al h1)
 |.tuple xs,w,h=>by
  rw[j3]at h;obtain⟨al,h1,h⟩:=e6 h;cases h;exact .tuple' (J8 xs al h1)
 |.chan c,w,h=>by
  rw[j3]at h;unfold abq at h;split at h
  ·cases h;exact .chan _
  ·cases h
theorem J8:∀(xs:ap be) (al:ac be),B3 cO e4 dV xs=some al->kS (fun i j=>j=l7 cO e4 dV i) xs.toList al
 |⟨xs⟩,al,h=>by rw[B3]at h;exact Qg xs al h
theorem Qg:∀(xs al:ac be),B4 cO e4 dV xs=some al->kS (fun i j=>j=l7 cO e4 dV i) xs al
 |[],al,h=>by rw[B4]at h;cases h;exact .nil _
 |x::xs,al,h=>by
  rw[B4]at h;obtain⟨y,h1,h⟩:=e6 h;obtain⟨gS,h2,h⟩:=e6 h;cases h;exact .cons (Fl x y h1) (Qg xs gS h2)
end
def Qf(es:ac d9):am (ac d9):=
 List.rec (motive:=fun _=>am (ac d9)) (some [])
  (fun e _ r=>bm (j3 cO e4 dV e.key) (fun k=>cond (dU e.key k) (bm (j3 cO e4 dV e.val) (fun v=>bm r (fun es=>some (⟨k,v,e.born⟩::es)) none) none) none) none) es
theorem abr:∀(es cj:ac d9),Qf cO e4 dV es=some cj->jG (pB (fun i j=>j=l7 cO e4 dV i)) es cj
 |[],cj,h=>by cases h;exact .nil
 |e::es,cj,h=>by
  have h:bm (j3 cO e4 dV e.key) (fun k=>cond (dU e.key k) (bm (j3 cO e4 dV e.val) (fun v=>bm (Qf cO e4 dV es) (fun es=>some (⟨k,v,e.born⟩::es)) none) none) none) none=some cj:=h;obtain⟨k,h1,h⟩:=e6 h;cases hk:dU e.key k with
  |false=>rw[hk]at h;cases h
  |true=>
   rw[hk]at h;obtain⟨v,h2,h⟩:=e6 (o:=j3 cO e4 dV e.val) h;obtain⟨gs,ab,h⟩:=e6 h;cases h;exact .cons ⟨od _ _ hk,Fl _ _ _ _ _ h1,Fl _ _ _ _ _ h2,rfl⟩ (abr es gs ab)
def B5(o:bt):am bt:=
 match o with
 |.cells cs e bk a3=>bm (B4 cO e4 dV cs) (fun ds=>some (.cells ds e bk a3)) none
 |.map es c=>bm (Qf cO e4 dV es) (fun cj=>some (.map cj c)) none
 |.dead=>some .dead
 |_=>none
def aqN{o p:bt}(h:B5 cO e4 dV o=some p):(o= .dead∧p= .dead)∨lp (fun i j=>j=l7 cO e4 dV i) o p:=by
 unfold B5 at h;split at h
 ·obtain⟨ds,h1,h⟩:=e6 h;cases h;exact .inr (.cells _ _ _ _ _ (Qg _ _ _ _ _ h1))
 ·obtain⟨cj,h1,h⟩:=e6 h;cases h;exact .inr (.map _ _ _ (abr _ _ _ _ _ h1))
 ·cases h;exact .inl ⟨rfl,rfl⟩
 ·cases h
def Fk(az:Nat)(us:ac (Nat×bt)):an bt->am (an bt):=
 List.rec (motive:=fun _=>an bt->am (an bt)) (fun h=>some h)
  (fun u _ a1 h=>cond (Nat.ble az u.1) (g4 (l7 cO e4 dV u.1) fun j=>bm (B5 cO e4 dV u.2) (fun p=>an.fin (an.ld (Nat.succ j) h j p) a1) none) none) us
end
def lL(us:ac (Nat×bt)):an bt->an bt:=
 List.rec (motive:=fun _=>an bt->an bt) (fun h=>h) (fun u _ a1 h=>an.fin (an.ld (Nat.succ u.1) h u.1 u.2) a1) us
def BN(os:ac bt):Nat->an bt->an bt:=
 List.rec (motive:=fun _=>Nat->an bt->an bt) (fun _ h=>h) (fun o _ a1 i h=>g4 (Nat.succ i) fun c4=>an.fin (an.ld c4 h i o) fun aC=>a1 c4 aC) os
def za(h:an bt)(os:ac (Nat×bt)):dd->am dd:=
 List.rec (motive:=fun _=>dd->am dd) (fun s=>some s)
  (fun o _ a1 s=>bm (s.cO.get o.1) (fun j=>bm (h.get j) (fun p=>bm (u9 o.2 p s) a1 none) none) none) os
theorem YU{H:an bt}:∀(os:ac (Nat×bt)) (s bh:dd),s.cY->za H os s=some bh->
 bh.cY∧s.le bh∧∀o∈os,∃j p,bh.R o.1 j∧H.get j=some p∧lp bh.R o.2 p
 |[],s,bh,af,h=>by cases h;exact⟨af,.refl _,fun o ak=>by cases ak⟩
 |o::os,s,bh,af,h=>by
  have h:bm (s.cO.get o.1) (fun j=>bm (H.get j) (fun p=>bm (u9 o.2 p s) (za H os) none) none) none=some bh:=h;obtain⟨j,h1,h⟩:=tm h;obtain⟨p,h2,h⟩:=tm h;obtain⟨s1,ab,h⟩:=tm h;obtain⟨jO,hZ,lH⟩:=YY af ab;obtain⟨eD,eU,fT⟩:=YU os s1 bh jO h;refine⟨eD,hZ.trans eU,fun bD lC=> ?_⟩;rcases zap.1 lC with rfl|lC
  ·exact⟨j,p,(hZ.trans eU) _ _ h1,h2,lH.mono eU⟩
  ·exact fT bD lC
theorem O3:∀(os:ac bt) (i:Nat) (h:an bt) (k:Nat),(BN os i h).get k=if i<=k∧k<i+os.length then os[k-i]? else h.get k
 |[],i,h,k=>by rw[zaa (by simp)];rfl
 |o::os,i,h,k=>by
  have e:BN (o::os) i h=BN os (i+1) (h.set i o):=by
   show g4 (Nat.succ i) (fun c4=>an.fin (an.ld c4 h i o) fun aC=>BN os c4 aC)=_;unfold g4;rw[zaN];show an.fin (an.ld (Nat.succ i) h i o) (fun aC=>BN os (i+1) aC)=_;rw[an.uw,an.w7]
  rw[e,O3 os (i+1) _ k,an.e8];by_cases hk:k=i
  ·subst hk;rw[zaa (by omega),zab rfl,zab (by simp)];simp
  ·rw[zaa hk];by_cases h1:i+1<=k∧k<i+1+os.length
   ·rw[zab h1,zab (by simp;omega)];have:k-i=(k-(i+1))+1:=by omega
    rw[this];simp
   ·rw[zaa h1,zaa (by simp;omega)]
def KC(u:Nat×bt)(us:ac (Nat×bt))(h:an bt):lL (u::us) h=lL us (h.set u.1 u.2):=by
 show an.fin (an.ld (Nat.succ u.1) h u.1 u.2) (lL us)=_;rw[an.uw,an.w7]
theorem Cq:∀(us:ac (Nat×bt)) (h:an bt) (k:Nat) (o:bt),(lL us h).get k=some o->(k,o)∈us∨h.get k=some o
 |[],_,_,_,e=>.inr e
 |u::us,h,k,o,e=>by
  rw[KC]at e;rcases Cq us _ k o e with hm|hm
  ·exact .inl (zaB _ hm)
  ·rw[an.e8]at hm;by_cases hk:k=u.1
   ·rw[zab hk]at hm;cases hm;subst hk;exact .inl (by simp)
   ·rw[zaa hk]at hm;exact .inr hm
structure ec where
 as:ac be
 gs:ac (Nat×bt)
 rL:ac bt
 v:be
 hI:ac (Nat×bt)
 aG:Nat
def ec.dC(r:ec)(az:Nat):an bt:=BN r.rL az (lL r.gs .nil)
def ec.row(r:ec)(az:Nat):Row:=⟨r.as,⟨r.dC az,Nat.add az (dL r.rL)⟩,r.v,⟨lL r.hI (r.dC az),r.aG⟩⟩
def ec.app(aK:dd)(r:ec)(as:ac be)(st:au):am eb:=
 bm (zb r.as as aK) (fun s=>bm (za st.h r.gs s) (fun s=>bm (IG st.h r.rL aK.a6 s) (fun s=>cond (Nat.beq s.a6 (Nat.add aK.a6 (dL r.rL))) (cond (Nat.ble s.a6 r.aG)
  (bm (j3 s.cO s.a6 st.aj r.v) (fun v=>bm (Fk s.cO s.a6 st.aj aK.a6 r.hI st.h) (fun h=>g4 (Nat.add st.aj (Nat.sub r.aG s.a6)) fun n=>some (.ret v ⟨h,n⟩ false)) none) none) none) none) none) none) none
structure KV(o0:Nat->Nat)(H:an bt)(aj az:Nat)(h0 aL hc:an bt):Prop where
 obj:∀j o,hc.get j=some o->o≠.dead->(∃i p,j=o0 i∧aL.get i=some p∧lp (fun i j=>j=o0 i) p o)∨((∀i,aL.get i≠none->o0 i≠j)∧H.get j=some o)
 mM:∀j,hc.get j≠none->j<aj∨∃i,j=o0 i∧aL.get i≠none
 rL:∀i,h0.get i≠none->aL.get i≠none
 W0:∀i,i<az->aL.get i≠none->h0.get i≠none
theorem abu{cO:an Nat}{e4 dV:Nat}{H:an bt}{aj az:Nat}{h0:an bt}:∀(us:ac (Nat×bt)) (aL hc nX:an bt),KV (l7 cO e4 dV) H aj az h0 aL hc->
 Fk cO e4 dV az us hc=some nX->KV (l7 cO e4 dV) H aj az h0 (lL us aL) nX
 |[],aL,hc,nX,pc,h=>by cases h;exact pc
 |u::us,aL,hc,nX,pc,h=>by
  have h:cond (Nat.ble az u.1) (g4 (l7 cO e4 dV u.1) (fun j=>bm (B5 cO e4 dV u.2) (fun p=>an.fin (an.ld (Nat.succ j) hc j p) (Fk cO e4 dV az us)) none)) none=some nX:=h;cases hu:Nat.ble az u.1 with
  |false=>rw[hu]at h;cases h
  |true=>
  rw[hu]at h;have hu:=kv hu;have h:g4 (l7 cO e4 dV u.1) (fun j=>bm (B5 cO e4 dV u.2) (fun p=>an.fin (an.ld (Nat.succ j) hc j p) (Fk cO e4 dV az us)) none)=some nX:=h;unfold g4 at h;rw[zaN]at h;obtain⟨p,h1,h⟩:=e6 (o:=B5 cO e4 dV u.2) h;rw[an.uw,an.w7]at h;rw[KC];refine abu us _ _ _ ⟨fun j o hj ao=> ?_,fun j hj=> ?_,fun i aa=> ?_,fun i aa hh=> ?_⟩ h
  ·rw[an.e8]at hj;by_cases kf:j=l7 cO e4 dV u.1
   ·rw[zab kf]at hj;cases hj;rcases aqN _ _ _ h1 with⟨_,g5⟩|amk
    ·exact absurd g5 ao
    ·exact .inl ⟨u.1,u.2,kf,by rw[an.uz],amk⟩
   ·rw[zaa kf]at hj;rcases pc.obj j o hj ao with⟨i,q,aq,e2,bS⟩|⟨aq,e2⟩
    ·refine .inl ⟨i,q,aq,?_,bS⟩;rw[an.e8,zaa]
     ·exact e2
     ·intro e;subst e;exact kf aq
    ·refine .inr ⟨fun i aa af=> ?_,e2⟩;rw[an.e8]at aa;by_cases ga:i=u.1
     ·subst ga;exact kf af.symm
     ·rw[zaa ga]at aa;exact aq i aa af
  ·rw[an.e8]at hj;by_cases kf:j=l7 cO e4 dV u.1
   ·exact .inr ⟨u.1,kf,by rw[an.uz];simp⟩
   ·rw[zaa kf]at hj;rcases pc.mM j hj with aE|⟨i,aq,e2⟩
    ·exact .inl aE
    ·refine .inr ⟨i,aq,?_⟩;rw[an.e8];split
     ·simp
     ·exact e2
  ·rw[an.e8];split
   ·simp
   ·exact pc.rL i aa
  ·rw[an.e8,zaa (by omega)]at hh;exact pc.W0 i aa hh
variable{X:Ctx}
def RQ{f:ci}{r:ec}(aL:hf X f (r.row X.az)){aK:dd}(mY:aK.cY)(pd:aK.a6=X.az)(aO:∀g,g<X.az->aK.cO.get g=some g){as:ac be}{st:au}{fr:eb}(h:r.app aK as st=some fr)
 (ι:bx) (as':ac be) (w:d7) (ha:bI ι as as') (hw:bz X ι st w):
 (∀as w,(callFunc f as).run X.P w= .ok (.enter f as) w)∧
 ∀(K:CallKind) (bB:Bool->ac Frame),mf ⟨f,K,none⟩ none ι bB->kR X ι w ⟨f,K,none⟩ bB (lone (Frame.enter X.P f as'.toArray K) (bB false) w) fr:=by
 unfold ec.app at h;obtain⟨s1,h1,h⟩:=e6 h;obtain⟨s2,akV,h⟩:=e6 h;obtain⟨s,h2,h⟩:=e6 h;obtain⟨gU,hM,pG⟩:=IH _ _ _ _ mY h1;obtain⟨d1,d2,d3⟩:=YU _ _ _ gU akV;obtain⟨c3,eP,lq⟩:=YT _ _ _ _ d1 h2;rw[pd]at h lq;cases hc:Nat.beq s.a6 (Nat.add X.az (dL r.rL))with
 |false=>rw[hc]at h;cases h
 |true=>
 cases pT:Nat.ble s.a6 r.aG with
 |false=>rw[hc,pT]at h;cases h
 |true=>
 rw[hc,pT]at h;have DJ:s.a6=X.az+r.rL.length:=by rw[<-fC];exact eo hc
 have XH:s.a6<=r.aG:=kv pT;obtain⟨v,ab,h⟩:=e6 (o:=j3 s.cO s.a6 st.aj r.v) h;obtain⟨hp,aD,h⟩:=e6 (o:=Fk s.cO s.a6 st.aj X.az r.hI st.h) h;unfold g4 at h;rw[zaN]at h;have h:some (eb.ret v ⟨hp,st.aj+(r.aG-s.a6)⟩ false)=some fr:=h;cases h;have pV:∀g,g<X.az->s.cO.get g=some g:=fun g sZ=>eP _ _ (d2 _ _ (hM _ _ (aO g sZ)));have aE:∀j l,ι j=some l->j<st.aj:=by
  intro j l e;rcases zao j st.aj with aE|mR
  ·exact aE
  ·rw[(hw.fresh j mR).1]at e;cases e
 have wu:∀i o,(r.dC X.az).get i=some o->∃j p,s.cO.get i=some j∧st.h.get j=some p∧lp s.R o p:=by
  intro i o ak;unfold ec.dC at ak;rw[O3]at ak;split at ak
  ·rename_i aa;obtain⟨Bb,rfl⟩:=zaf.1 ak;obtain⟨j,p,aq,e2,bS⟩:=lq (i-X.az) Bb;rw[show X.az+(i-X.az)=i by omega]at aq;exact⟨j,p,aq,e2,bS⟩
  ·rcases Cq _ _ _ _ ak with hm|hm
   ·obtain⟨j,p,aq,e2,bS⟩:=d3 _ hm;exact⟨j,p,eP _ _ aq,e2,bS.mono eP⟩
   ·simp at hm
 have Nf:∀i,X.az<=i->i<s.a6->∃o,(r.dC X.az).get i=some o:=by
  intro i aa A7;unfold ec.dC;rw[O3,zab (by omega),bE (by omega)];exact⟨_,rfl⟩
 have XP:∀i,i<s.a6->∃j l,s.cO.get i=some j∧ι j=some l:=by
  intro i aa;rcases zao i X.az with hn|hn
  ·exact⟨i,_,pV i hn,hw.nW i hn⟩
  ·obtain⟨o,ak⟩:=Nf i hn aa;obtain⟨j,p,aq,e2,bS⟩:=wu i o ak;obtain⟨l,gK,_⟩:=hw.fe j p e2 bS.live.2;exact⟨j,l,aq,gK⟩
 have avB:X.az<=s.a6:=by omega
 let gi:bx:=fun i=>match s.cO.get i with|some j=>ι j|none=>none
 have yY:∀i j,s.cO.get i=some j->gi i=ι j:=by
  intro i j e;show(match s.cO.get i with|some j=>ι j|none=>none)=_;rw[e]
 have yZ:∀i l,gi i=some l->∃j,s.cO.get i=some j∧ι j=some l:=by
  intro i l e;have e:(match s.cO.get i with|some j=>ι j|none=>none)=some l:=e;split at e
  ·rename_i j hj;exact⟨j,hj,e⟩
  ·cases e
 have yq:∀j i l,(fun j i=>s.R i j) j i->ι j=some l->gi i=some l:=fun j i l dY hl=>by rw[yY i j dY];exact hl
 have alf:bz X gi (r.row X.az).st w:=by
  refine⟨fun i o ak ao=> ?_,fun i j o p l m aa iV hj ia iX iY aO e=> ?_,fun i aa=> ?_,fun i l hl=> ?_,fun g sZ=> ?_,?_,fun i l o hl af ak ao=> ?_⟩
  ·obtain⟨j,p,aq,e2,bS⟩:=wu i o ak;obtain⟨l,gK,o7⟩:=hw.fe j p e2 bS.live.2;exact⟨l,by rw[yY i j aq];exact gK,bS.symm.ZI yq o7⟩
  ·obtain⟨i2,jO,aq,e2,bS⟩:=wu i o aa;obtain⟨iA,hZ,aH,aI,bj⟩:=wu j p hj;rw[yY i i2 aq]at iX;rw[yY j iA aH]at iY;have:=hw.inj i2 iA jO hZ l m e2 bS.live.2 aI bj.live.2 iX iY aO e;subst this;have eD:=(c3.iff _ _).1 aq;have eU:=(c3.iff _ _).1 aH;rw[eD]at eU;exact Option.some.inj eU
  ·have aa:X.az+dL r.rL<=i:=aa;rw[fC,<-DJ]at aa;refine⟨?_,?_⟩
   ·cases e:gi i with
    |none=>rfl
    |some l=>
     obtain⟨j,hj,_⟩:=yZ i l e;have:=c3.mM _ _ hj;omega
   ·cases e:(r.row X.az).st.h.get i with
    |none=>rfl
    |some o=>
     obtain⟨j,_,aq,_⟩:=wu i o e;have:=c3.mM _ _ aq;omega
  ·obtain⟨j,_,cy⟩:=yZ i l hl;exact hw.hN j l cy
  ·rw[yY g g (pV g sZ)];exact hw.nW g sZ
  ·exact zcG _ _
  ·obtain⟨j,p,aq,e2,bS⟩:=wu i o ak;rw[yY i j aq]at hl;exact bS.wj.2 (hw.oO j l p hl af e2 bS.live.2)
 have Hs:bI gi r.as as':=((pG.mono d2).mono eP).symm.auj yq ha;obtain⟨eD,eU⟩:=aL gi as' w Hs alf;refine⟨eD,fun K bB rZ=> ?_⟩;obtain⟨ll,v',w',F,bf,bL,eM,uZ,Ip,anP,anQ⟩:=eU K bB rZ;have bL:bz X ll ⟨lL r.hI (r.dC X.az),r.aG⟩ w':=bL
 let o0:Nat->Nat:=l7 s.cO s.a6 st.aj
 have Bo:∀i j,s.cO.get i=some j->o0 i=j:=by
  intro i j e;show bm (s.cO.get i) (fun j=>j) _=j;rw[e];rfl
 have XZ:∀i,s.a6<=i->o0 i=st.aj+(i-s.a6):=by
  intro i aa;show bm (s.cO.get i) (fun j=>j) _=_;cases e:s.cO.get i with
  |none=>rfl
  |some j=>have:=c3.mM _ _ e;omega
 let aR:bx:=fun j=>if j<st.aj then ι j else ll (s.a6+(j-st.aj))
 have Ia:∀j,j<st.aj->aR j=ι j:=fun j hj=>zab hj;have Ib:∀j,st.aj<=j->aR j=ll (s.a6+(j-st.aj)):=fun j hj=>zaa (by omega);have hle:ι.le aR:=fun j l e=>by rw[Ia j (aE j l e)];exact e
 have yn:∀i j l,(fun i j=>j=o0 i) i j->ll i=some l->aR j=some l:=by
  intro i j l e hl;have e:j=o0 i:=e;subst e;rcases zao i s.a6 with aa|aa
  ·obtain⟨j,ny,aq,gK⟩:=XP i aa;have:=eM.le i ny (by rw[yY i j aq];exact gK);rw[hl]at this;cases this;rw[Bo i j aq,Ia j (aE j _ gK)];exact gK
  ·rw[XZ i aa,Ib _ (by omega),show s.a6+(st.aj+(i-s.a6)-st.aj)=i by omega];exact hl
 have ak7:KV o0 st.h st.aj X.az (r.dC X.az) (r.dC X.az) st.h:=by
  refine⟨fun j o hj ao=> ?_,fun j hj=> ?_,fun i aa=>aa,fun i _ aa=>aa⟩
  ·by_cases hex:∃i,(r.dC X.az).get i≠none∧o0 i=j
   ·obtain⟨i,aa,e⟩:=hex;cases ga:(r.dC X.az).get i with
    |none=>exact absurd ga aa
    |some bD=>
     obtain⟨iA,p,aq,e2,bS⟩:=wu i bD ga;have:iA=j:=by rw[<-e];exact(Bo i iA aq).symm
     subst this;rw[hj]at e2;cases e2;exact .inl ⟨i,bD,e.symm,ga,bS.mono fun a b iT=>(Bo a b iT).symm⟩
   ·exact .inr ⟨fun i aa e=>hex ⟨i,aa,e⟩,hj⟩
  ·left;rcases zao j st.aj with Bb|mR
   ·exact Bb
   ·exact absurd (hw.fresh j mR).2 hj
 have pc:=abu r.hI _ _ _ ak7 aD;have hold:∀a l,(lL r.hI (r.dC X.az)).get a≠none->gi a=some l->∃j p,s.cO.get a=some j∧st.h.get j=some p∧p≠.dead∧ι j=some l:=by
  intro a l uC hl;obtain⟨j,aq,e2⟩:=yZ a l hl;have MZ:=c3.mM _ _ aq;have:∃o,(r.dC X.az).get a=some o:=by
   rcases zao a X.az with hn|hn
   ·cases ga:(r.dC X.az).get a with
    |none=>exact absurd ga (pc.W0 a hn uC)
    |some o=>exact⟨o,rfl⟩
   ·exact Nf a hn MZ
  obtain⟨o,ak⟩:=this;obtain⟨iA,p,aH,aI,bj⟩:=wu a o ak;rw[aq]at aH;cases aH;exact⟨j,p,aq,aI,bj.live.2,e2⟩
 have Xj:∀j o l,st.h.get j=some o->o≠.dead->ι j=some l->(∀i,(lL r.hI (r.dC X.az)).get i≠none->o0 i≠j)->∀i l',gi i=some l'->l'.ch≠js->l'.cJ≠l.cJ:=by
  intro j o l ak ao hl U i l' cy af e;have gA:(lL r.hI (r.dC X.az)).get i≠none:=by
   obtain⟨iA,aq,e2⟩:=yZ i l' cy;have MZ:=c3.mM _ _ aq;rcases zao i X.az with hn|hn
   ·exfalso;rw[pV i hn]at aq;cases aq;rw[hw.nW i hn]at e2;cases e2;exact af rfl
   ·obtain⟨bD,lC⟩:=Nf i hn MZ;exact pc.rL i (by rw[lC];simp)
  obtain⟨iA,p,aq,e2,bS,gK⟩:=hold i l' gA cy;have:=hw.inj iA j p o l' l e2 bS ak ao gK hl (.inl af) e;subst this;exact U i gA (Bo i iA aq)
 refine⟨aR,v',w',F,(Fl _ _ _ _ _ ab).FT yn bf,⟨fun j o hj ao=> ?_,fun i j o p l m aa iV hj ia iX iY aO e=> ?_,fun j hj=> ?_,fun j l hl=> ?_,fun g sZ=> ?_,?_,fun j l o hl af hj ao=> ?_⟩,⟨hle,eM.size,fun b hb gL=> ?_,fun j l hl=> ?_,eM.hx⟩,uZ,Ip,anP,anQ⟩
 ·rcases pc.obj j o hj ao with⟨i,p,aq,e2,bS⟩|⟨aq,e2⟩
  ·obtain⟨l,aH,aI⟩:=bL.fe i p e2 bS.live.1;exact⟨l,yn i j l aq aH,bS.ZI yn aI⟩
  ·obtain⟨l,aH,aI⟩:=hw.fe j o e2 ao;refine⟨l,hle j l aH,kb.mono X aI hle ?_⟩;exact eM.kept l.cJ (hw.hN j l aH) (Xj j o l e2 ao aH aq)
 ·have key:∀i j o p l m,hp.get i=some o->o≠.dead->hp.get j=some p->p≠.dead->aR i=some l->aR j=some m->(l.ch≠js∨m.ch≠js)->l.cJ=m.cJ->
   (∃a q,i=o0 a∧(lL r.hI (r.dC X.az)).get a=some q∧lp (fun i j=>j=o0 i) q o)->((∀a,(lL r.hI (r.dC X.az)).get a≠none->o0 a≠j)∧st.h.get j=some p)->False:=by
   intro i j o p l m aa iV hj ia iX iY aO e ⟨a,q,aq,e2,bS⟩ ⟨aH,aI⟩;obtain⟨gE,fg,_⟩:=bL.fe a q e2 bS.live.1;have:=yn a i gE aq fg;rw[iX]at this;cases this;obtain⟨jb,e1,_⟩:=hw.fe j p aI ia;have:=hle j jb e1;rw[iY]at this;cases this;rcases eM.new a l fg with hn|hn|⟨b,gF,iU,kW,mm⟩
   ·obtain⟨iA,hZ,f1,f2,f3,f4⟩:=hold a l (by rw[e2];simp) hn;have:=hw.inj iA j hZ p l m f2 f3 aI ia f4 e1 aO e;subst this;exact aH a (by rw[e2];simp) (Bo a iA f1)
   ·have:=hw.hN j m e1;omega
   ·exact Xj j p m aI ia e1 aH b gF iU kW (by omega)
  rcases pc.obj i o aa iV with J|J<;>rcases pc.obj j p hj ia with ay|ay
  ·obtain⟨a,q,aq,e2,bS⟩:=J;obtain⟨b,gZ,aH,aI,bj⟩:=ay;obtain⟨gE,fg,_⟩:=bL.fe a q e2 bS.live.1;obtain⟨jb,e1,_⟩:=bL.fe b gZ aI bj.live.1;have t1:=yn a i gE aq fg;rw[iX]at t1;cases t1;have t2:=yn b j jb aH e1;rw[iY]at t2;cases t2;have:=bL.inj a b q gZ l m e2 bS.live.1 aI bj.live.1 fg e1 aO e;rw[aq,aH,this]
  ·exact(key i j o p l m aa iV hj ia iX iY aO e J ay).elim
  ·exact(key j i p o m l hj ia aa iV iY iX aO.symm e.symm ay J).elim
  ·obtain⟨gE,fg,_⟩:=hw.fe i o J.2 iV;obtain⟨jb,e1,_⟩:=hw.fe j p ay.2 ia;have t1:=hle i gE fg;rw[iX]at t1;cases t1;have t2:=hle j jb e1;rw[iY]at t2;cases t2;exact hw.inj i j o p l m J.2 iV ay.2 ia fg e1 aO e
 ·have hj:st.aj+(r.aG-s.a6)<=j:=hj;have oz:∀i,r.aG<=i->ll i=none∧(lL r.hI (r.dC X.az)).get i=none:=fun i aa=>bL.fresh i aa;refine⟨by rw[Ib j (by omega)];exact(oz _ (by omega)).1,?_⟩;show hp.get j=none;cases e:hp.get j with
  |none=>rfl
  |some o=>
   exfalso;rcases pc.mM j (by rw[e];simp)with Bb|⟨i,aq,e2⟩
   ·omega
   ·rcases zao i s.a6 with aa|aa
    ·obtain⟨iA,ny,aH,cn⟩:=XP i aa;rw[show l7 s.cO s.a6 st.aj i=iA from Bo i iA aH]at aq;have:=aE iA ny cn;omega
    ·rw[show l7 s.cO s.a6 st.aj i=st.aj+(i-s.a6)from XZ i aa]at aq;rcases zao i r.aG with A7|A7
     ·omega
     ·exact e2 (oz i A7).2
 ·rcases zao j st.aj with hj|hj
  ·rw[Ia j hj]at hl;exact gH (hw.hN j l hl) eM.size
  ·rw[Ib j hj]at hl;exact bL.hN _ l hl
 ·exact hle _ _ (hw.nW g sZ)
 ·exact zag hw.rR (zcG _ _)
 ·rcases pc.obj j o hj ao with⟨a,q,aq,e2,bS⟩|⟨aq,e2⟩
  ·obtain⟨gE,fg,_⟩:=bL.fe a q e2 bS.live.1;have t1:=yn a j gE aq fg;rw[hl]at t1;cases t1;exact bS.wj.1 (bL.oO a l q fg af e2 bS.live.1)
  ·obtain⟨gE,fg,_⟩:=hw.fe j o e2 ao;have t1:=hle j gE fg;rw[hl]at t1;cases t1;exact hw.oO j l o fg af e2 ao
 ·refine eM.kept b hb fun i l hl af=> ?_;obtain⟨j,_,cy⟩:=yZ i l hl;exact gL j l cy af
 ·rcases zao j st.aj with hj|hj
  ·rw[Ia j hj]at hl;exact .inl hl
  ·rw[Ib j hj]at hl;rcases eM.new _ l hl with hn|hn|⟨b,m,iU,kW,mm⟩
   ·obtain⟨iA,aq,_⟩:=yZ _ l hn;have:=c3.mM _ _ aq;omega
   ·exact .inr (.inl hn)
   ·obtain⟨iA,_,e2⟩:=yZ b m iU;exact .inr (.inr ⟨iA,m,e2,kW,mm⟩)
def ye(aK:dd)(as:ac be)(st:au)(rs:ac (Nat×ec)):am eb:=
 List.rec (motive:=fun _=>am eb) none (fun r _ a1=>cond (Nat.beq r.1 st.aj) (bm (r.2.app aK as st) some a1) (cond (Nat.beq r.1 0) (bm (r.2.app aK as st) some a1) a1)) rs
theorem Uc{aK:dd}{as:ac be}{st:au}:∀{rs:ac (Nat×ec)} {fr:eb},ye aK as st rs=some fr->∃r∈rs,r.2.app aK as st=some fr
 |[],fr,h=>by cases h
 |r::rs,fr,h=>by
  have h:cond (Nat.beq r.1 st.aj) (bm (r.2.app aK as st) some (ye aK as st rs)) (cond (Nat.beq r.1 0) (bm (r.2.app aK as st) some (ye aK as st rs)) (ye aK as st rs))=some fr:=h;have FK:ye aK as st rs=some fr->∃ee∈r::rs,ee.2.app aK as st=some fr:=fun h=>by
   obtain⟨ee,h1,h2⟩:=Uc h;exact⟨ee,zaB _ h1,h2⟩
  have ao:bm (r.2.app aK as st) some (ye aK as st rs)=some fr->∃ee∈r::rs,ee.2.app aK as st=some fr:=fun h=>by
   cases ha:r.2.app aK as st with
   |none=>rw[ha]at h;exact FK h
   |some x=>rw[ha]at h;cases h;exact⟨r,by simp,ha⟩
  cases hb:Nat.beq r.1 st.aj with
  |true=>rw[hb]at h;exact ao h
  |false=>
   rw[hb]at h;cases hc:Nat.beq r.1 0 with
   |true=>rw[hc]at h;exact ao h
   |false=>rw[hc]at h;exact FK h
end Go.ah
namespace Go.ah
variable{X:Ctx}
variable{n:Nat}
def Bp(n:Nat):an Nat:=Nat.rec (motive:=fun _=>an Nat) .nil (fun m t=>an.fin t fun t=>an.ld (Nat.succ m) t m m) n
theorem Er:∀(n i:Nat),(Bp n).get i=if i<n then some i else none
 |0,i=>by rw[zaa (by omega)];rfl
 |n+1,i=>by
  have e:Bp (n+1)=(Bp n).set n n:=by
   show an.fin (Bp n) (fun t=>an.ld (Nat.succ n) t n n)=_;rw[an.uw,an.w7]
  rw[e,an.e8,Er n i];by_cases h:i=n
  ·subst h;rw[zab rfl,zab (by omega)]
  ·rw[zaa h];by_cases aC:i<n
   ·rw[zab aC,zab (by omega)]
   ·rw[zaa aC,zaa (by omega)]
def arn{s:dd}(h1:s.cO=Bp n)(h2:s.inv=Bp n)(ab:s.a6=n):s.cY∧s.a6=n∧∀g,g<n->s.cO.get g=some g:=by
 refine⟨⟨fun i j=> ?_,fun i j h=> ?_⟩,ab,fun g aO=> ?_⟩
 ·rw[h1,h2,Er,Er];by_cases aa:i<n<;>by_cases hj:j<n<;>simp[aa,hj]<;>omega
 ·rw[h1,Er]at h;rw[ab];by_cases aa:i<n
  ·exact aa
  ·rw[zaa aa]at h;cases h
 ·rw[h1,Er,zab aO]
def ec.iD(r:ec)(az:Nat)(bn:an dy)(hT:qn)(n f:Nat):Bool:=
 an.fin (r.dC az) fun h=>an.fin (lL r.hI h) fun aC=>g4 (Nat.add az (dL r.rL)) fun m=>ah.iD (cG bn hT n (.func (.func f) #[] #[]) r.as none ⟨h,m⟩) r.v ⟨aC,r.aG⟩
def kp{bn:an dy}{hT:qn}(eh:Good X)(kn:pF X bn)(wC:xH X hT){az:Nat}{f:ci}{r:ec}(h:r.iD az bn hT n f=true):hf X f (r.row az):=by
 refine arz eh kn wC (n:=n) ?_;unfold ec.iD g4 at h;rw[an.uw,an.uw,zaN]at h;exact h
def assoc(t:ac (Nat×ac (Nat×ec)))(f:Nat):ac (Nat×ec):=
 List.rec (motive:=fun _=>ac (Nat×ec)) [] (fun p _ a1=>cond (Nat.beq p.1 f) p.2 a1) t
def q8(aK:dd)(t:ac (Nat×ac (Nat×ec))):qn:=fun f as st=>ye aK as st (assoc t f)
def xI(X:Ctx)(f:Nat)(l:ac (Nat×ec)):Prop:=∀r∈l,hf X f (r.2.row X.az)
def CK(X:Ctx)(t:ac (Nat×ac (Nat×ec))):Prop:=∀p∈t,xI X p.1 p.2
variable{f:Nat}{l:ac (Nat×ec)}{t:ac (Nat×ac (Nat×ec))}
def gm:xI X f []:=fun _ h=>by cases h
def dK{r:ec}(h:hf X f (r.row X.az))(af:xI X f l):xI X f ((n,r)::l):=List.forall_mem_cons.2 ⟨h,af⟩
def k0:CK X []:=fun _ h=>by cases h
def gD(h:xI X f l)(af:CK X t):CK X ((f,l)::t):=List.forall_mem_cons.2 ⟨h,af⟩
theorem Sf:∀{t:ac (Nat×ac (Nat×ec))},CK X t->∀f,xI X f (assoc t f)
 |[],_,f=>gm
 |p::t,h,f=>by
  show xI X f (cond (Nat.beq p.1 f) p.2 (assoc t f));cases hb:Nat.beq p.1 f with
  |true=>rw[<-eo hb];exact h p (by simp)
  |false=>exact Sf (fun q hq=>h q (zaB _ hq)) f
def si{aK:dd}(mY:aK.cY∧aK.a6=X.az∧∀g,g<X.az->aK.cO.get g=some g)(aF:CK X t):xH X (q8 aK t):=by
 intro f as st r aL ι as' w ha hw _;obtain⟨row,hm,hh⟩:=Uc aL;exact RQ (Sf aF f row hm) mY.1 mY.2.1 mY.2.2 hh ι as' w ha hw
def ae3{f:ci}{r:Row}(aL:hf X f r){ι:bx}{as':ac be}{w:d7}(ha:bI ι r.as as')(hw:bz X ι r.st w):
 Calls X.P f as'.toArray w (fun e w'=>∃aR v',e= .returned v'∧bq aR r.v v'∧bz X aR r.st' w'∧fY ι aR w w'):=by
 intro cs;obtain⟨_,h2⟩:=aL ι as' w ha hw;obtain⟨aR,v',w',F,h1,h2,ab,aD,bg,cv,dq⟩:=h2 .normal (fun _=>cs) (fun F e7 ar=>by
  have dG:F.kind= .normal:=ar;simp[tryRecover,dG])
 obtain⟨aH,aI,fn,bj,cn⟩:=cv;exact⟨.returned v',w',F,⟨aR,v',rfl,h1,h2,ab⟩,dq,bg,aH,aI,aD,fn,bj,cn⟩
def Ii(n:Nat):bx:=fun i=>if i<n then some ⟨i,0,0,js⟩else none
def Aa(n:Nat)(W:d7)(p:Nat×bt):Prop:=
 p.1<n∧∃cs el m C bk,p.2= .cells cs el (0,m) false∧0<m∧W.heap[p.1]? =some (.cells C el bk)∧bI (Ii n) cs C.toList
def KN{α β FY:Type}(f:α->β->am FY):ac α->ac β->am (ac FY)
 |[],[]=>some []
 |a::as,b::bs=>(f a b).bind fun c=>(KN f as bs).map fun cs=>c::cs
 |_,_=>none
def AD:Nat->ac (Nat×Nat)->Nat->Bool
 |o,[],n=>Nat.beq o n
 |o,p::r,n=>Nat.beq p.1 o&&AD (o+p.2) r n
def AU(P:f5):Nat->ce->DataW Unit->am (ac be)
 |0,_,_=>none
 |n+1,t,d=>
  match P.underlying t,d with
  |some .bool,.lit (.bool b)=>some [.bool b]
  |some (.int _),.lit (.int k m)=>some [.int k m]
  |some .string,.lit (.string s)=>some [.string ⟨⟨s⟩⟩]
  |some (.struct cj),.agg ds=>if AD 0 (cj.toList.map fun f=>(f.offset,P.cellsOf f.type)) (P.cellsOf t)then(KN (fun(f:Field) d=>AU P n f.type d) cj.toList ds).map List.flatten else none
  |some (.array m e),.agg ds=>if AD 0 ((List.range m).map fun i=>(i*P.cellsOf e,P.cellsOf e)) (P.cellsOf t)then(KN (fun(_:Nat) d=>AU P n e d) (List.range m) ds).map List.flatten else none
  |_,_=>none
theorem GF(cs:ac be):∀(l:ac (Nat×Nat)) (o:Nat),AD o l cs.length=true->cs.drop o=(l.map fun p=>(cs.drop p.1).take p.2).flatten
 |[],o,h=>by
  have:=eo h;rw[this];simp
 |p::r,o,h=>by
  unfold AD at h;rw[b4]at h;have e:=eo h.1;rw[zaZ,zeA,<-GF cs r (o+p.2) h.2,e,<-zbC,zbD]
theorem Ro{α:Type}{g:α->am (DataW Unit×ac MemPlace)}{k:α->DataW Unit->am (ac be)}{seg:α->ac be}
 (hk:∀a d p vs,g a=some (d,p)->k a d=some vs->seg a=vs):∀(as:ac α) (xs:ac (DataW Unit×ac MemPlace)) (Cu:ac (ac be)),as.mapM g=some xs->KN k as (xs.map (·.1))=some Cu->as.map seg=Cu
 |[],xs,Cu,h,aC=>by
  simp at h;subst h;cases aC;rfl
 |a::as,xs,Cu,h,aC=>by
  rw[zdI]at h;obtain⟨x,J,h⟩:=zcu.1 h;obtain⟨al,ay,h⟩:=zcu.1 h;cases h;obtain⟨vs,aq,aC⟩:=zcu.1 aC;obtain⟨auS,e2,rfl⟩:=zbv.1 aC;rw[zaZ,hk a x.1 x.2 vs J aq,Ro hk as al auS ay e2]
theorem Du{P:f5}{w:d7}{base:Nat}{sp:Nat->Bool}{held:Bool}:∀(fuel n:Nat) (t:ce) (cs:ac be) (d:DataW Unit) (p:ac MemPlace) (vs:ac be),
 DataW.trod (fun _=>()) P w base sp held fuel t cs=some (d,p)->AU P n t d=some vs->cs=vs
 |0,_,_,_,_,_,_,h,_=>by simp[DataW.trod]at h
 |_+1,0,_,_,_,_,_,_,h=>by simp[AU]at h
 |fuel+1,n+1,t,cs,d,p,vs,h,aC=>by
  unfold AU at aC;split at aC
  ·rename_i b hu;cases aC;simp only[DataW.trod,hu]at h;split at h<;>first|(rename_i hq;cases hq)|skip
   all_goals first|(cases h;rfl)|(simp at h)
  ·rename_i k k' m hu;cases aC;simp only[DataW.trod,hu]at h;split at h<;>first|(rename_i hq;cases hq)|skip
   all_goals first
    |(split at h
      ·rename_i hc;cases h;rw[hc.1]
      ·cases h)
    |(simp at h)
  ·rename_i s hu;cases aC;simp only[DataW.trod,hu]at h;split at h<;>first|(rename_i hq;cases hq)|skip
   all_goals first
    |(split at h
      ·cases h;rfl
      ·cases h)
    |(simp at h)
  ·rename_i cj ds hu;split at aC
   ·rename_i hc;obtain⟨Cu,aq,rfl⟩:=zbv.1 aC;simp only[DataW.trod,hu]at h;split at h
    ·rename_i hl;obtain⟨xs,e2,bS⟩:=zbv.1 h;cases bS;rw[<-hl]at hc;have gK:=GF cs _ 0 hc;rw[zar,zch]at gK;have o7:=Ro (seg:=fun(f:Field)=>(cs.drop f.offset).take (P.cellsOf f.type)) (fun f d p vs h1 h2=>Du fuel n f.type _ d p vs h1 h2) _ _ _ e2 aq;rw[<-o7];exact gK
    ·cases h
   ·cases aC
  ·rename_i m e ds hu;split at aC
   ·rename_i hc;obtain⟨Cu,aq,rfl⟩:=zbv.1 aC;simp only[DataW.trod,hu]at h;split at h
    ·rename_i hl;obtain⟨xs,e2,bS⟩:=zbv.1 h;cases bS;rw[<-hl]at hc;have gK:=GF cs _ 0 hc;rw[zar,zch]at gK;have o7:=Ro (seg:=fun(i:Nat)=>(cs.drop (i*P.cellsOf e)).take (P.cellsOf e)) (fun i d p vs h1 h2=>Du fuel n e _ d p vs h1 h2) _ _ _ e2 aq;rw[<-o7];exact gK
    ·cases h
   ·cases aC
  ·cases aC
theorem Ys{P:f5}{w:d7}:∀{l:ac (String×DataW Unit)} {ps:ac MemPlace},DataW.LaidVars P w l ps->∀x∈l,∃g t cs fuel p,P.globalNamed x.1=some g∧(P.globals[g]?).map (·.type)=some t∧w.var? P x.1=some cs∧
 DataW.trod (fun _=>()) P w 0 (fun _=>true) false fuel t cs.toList=some (x.2,p)
 |[],_,_,x,J=>by cases J
 |(n,d)::r,ps,h,x,J=>by
  obtain⟨g,t,cs,fuel,p,q,h1,h2,ab,aD,bg,_⟩:=h;rcases zap.1 J with rfl|J
  ·exact⟨g,t,cs,fuel,p,h1,h2,ab,aD⟩
  ·exact Ys bg x J
def Jy:be->Bool
 |.bool _|.int _ _|.string _=>true
 |_=>false
def ap2{ι:bx}{v:be}(h:Jy v=true):bq ι v v:=by
 cases v<;>first|(simp[Jy]at h;done)|constructor
theorem aaq{ι:bx}:∀{vs:ac be},vs.all Jy=true->bI ι vs vs
 |[],_=>.nil ι
 |v::vs,h=>by
  rw[zeB,b4]at h;exact .cons (ap2 h.1) (aaq h.2)
def MM{P:f5}{W:d7}{l:ac (String×DataW Unit)}{ps:ac MemPlace}(hl:DataW.LaidVars P W l ps){g N:Nat}{name:String}{d:DataW Unit}{t el:ce}{vs:ac be}{m:Nat}
 (J:(name,d)∈l) (aO:P.globalNamed name=some g) (aF:(P.globals[g]?).map (·.type)=some t) (U:AU P n t d=some vs) (sZ:g<N) (hm:0<m) (hp:vs.all Jy=true)
 (NO:∃cs,W.heap[g]? =some (.cells cs el)):Aa N W (g,.cells vs el (0,m) false):=by
 obtain⟨hr,cL,cs,fuel,p,h1,h2,ab,aD⟩:=Ys hl _ J;simp only at h1 ab aD;rw[aO]at h1;cases h1;rw[aF]at h2;cases h2;obtain⟨C,hC⟩:=NO;have aB:C=cs:=by
  simp only[World.var?,aO,Option.bind_some,hC]at ab;exact Option.some.inj ab
 subst aB;refine⟨sZ,vs,el,m,C,_,rfl,hm,hC,?_⟩;rw[Du fuel n t _ d p vs aD U];exact aaq hp
end Go.ah
namespace Go.ah
variable{Q:Nat->dy->Prop}
variable{i:Nat}
def acW(t:an {p:Nat×dy //Q p.1 p.2}):an dy:=
 an.rec (motive:=fun _=>an dy) .nil (fun _ v _ l r=>.node l (Option.rec (motive:=fun _=>am dy) none (fun p=>some p.1.2) v) r) t
def keyed:an {p:Nat×dy //Q p.1 p.2}->(Nat->Nat)->Bool
 |.nil,_=>true
 |.node l v r,g=>(match v with|some p=>Nat.beq p.1.1 (g 0)|none=>true)&&(keyed l (fun n=>g (2*n+1))&&keyed r (fun n=>g (2*n+2)))
theorem QZ:∀(t:an {p:Nat×dy //Q p.1 p.2}) (g:Nat->Nat),keyed t g=true->an.Cz Q (acW t) g
 |.nil,_,_=>trivial
 |.node l v r,g,h=>by
  unfold keyed at h;rw[b4,b4]at h;refine⟨?_,QZ l _ h.2.1,QZ r _ h.2.2⟩;cases v with
  |none=>trivial
  |some p=>
   have e:=eo h.1;show Q (g 0) p.1.2;rw[<-e];exact p.2
def b9(g:{b:dy //Q i b}):an {p:Nat×dy //Q p.1 p.2}:=.node .nil (some ⟨(i,g.1),g.2⟩) .nil
def bF(a:an {p:Nat×dy //Q p.1 p.2})(g:{b:dy //Q i b})(b:an {p:Nat×dy //Q p.1 p.2}):an {p:Nat×dy //Q p.1 p.2}:=.node a (some ⟨(i,g.1),g.2⟩) b
def fU(a b:an {p:Nat×dy //Q p.1 p.2}):an {p:Nat×dy //Q p.1 p.2}:=.node a none b
end Go.ah
namespace Go.ah.CB
inductive K4 where
 |bool|int (k:IntKind)|str|aN (e:Nat)|cz (n e:Nat)|st (l:List (Nat×Nat))|oP (e:Nat)|mp (k v:Nat)|fn|N3|up
inductive CJ where
 |l
 |n (a:CJ) (k:Nat) (d:K4) (s b:Nat) (c:CJ)
def CJ.get:CJ->Nat->K4×Nat×Nat
 |.l,_=>(.up,0,0)
 |.n a k d s b c,t=>match Nat.blt t k with
  |true=>a.get t
  |false=>match Nat.beq t k with
   |true=>(d,s,b)
   |false=>c.get t
structure Env where
 kI:Nat
 k4:Nat
 a6:Nat
 idx:Nat
 m1:Nat
 ty:CJ
 mt:ac (String×ac (Nat×ci)):=[]
 aoM:am (Nat×Nat):=none
namespace Env
def Y9(C:Env)(n:String):ac (Nat×ci):=match C.mt.find? (fun p=>p.1==n)with
 |some p=>p.2
 |none=>[]
def d(C:Env)(t:Nat):K4:=(C.ty.get t).1
def s(C:Env)(t:Nat):Nat:=(C.ty.get t).2.1
def b(C:Env)(t:Nat):Nat:=(C.ty.get t).2.2
def g(C:Env)(t:Nat):Bool:=match C.d t with
 |.st _=>true
 |.cz _ _=>true
 |_=>false
def TS(C:Env)(t:Nat):Nat:=match C.d t with
 |.st l=>l.foldl (fun n p=>match C.d p.2 with
  |.str=>n+100
  |_=>n+1) 0
 |_=>C.s t
def Rn(C:Env):Nat->Nat->ac be
 |0,_=>[]
 |f+1,t=>match C.d t with
  |.bool=>[.bool false]
  |.int k=>[.int k 0]
  |.str=>[.string ⟨#[]⟩]
  |.aN _=>[.slice none 0 0]
  |.cz n e=>(List.replicate n (C.Rn f e)).flatten
  |.st l=>l.flatMap fun p=>C.Rn f p.2
  |.oP _=>[.pointer none]
  |.mp _ _=>[.map none]
  |.fn=>[.nilFunc]
  |.N3=>[.nilIface]
  |.up=>[]
def z(C:Env)(t:Nat):ac be:=C.Rn 20 t
def tJ(C:Env)(t:Nat):be:=match C.g t with
 |true=>.agg ⟨C.z t⟩
 |false=>(C.z t).headD .nilIface
def cX(C:Env)(t:Nat):fW:=match C.d t with
 |.int k=>.int k
 |.cz n e=>match C.d e with
  |.int k=>.arr k n
  |_=>.str
 |_=>.str
def T1(C:Env)(t:Nat):pC:=match C.d t with
 |.aN _=>.sd
 |.mp _ _=>.zm
 |.fn=>.wQ
 |.N3=>.zl
 |.oP _=>.ptr
 |_=>.tu
def bin(C:Env)(ks:ac Nat)(o:BinOp)(t:Nat)(a b:bi):de:=
 let u:=match b with
  |.tmp j=>ks.any (Nat.beq j)
  |_=>false
 match C.d t,o,u with
 |.int _,.leq,true=>.ext (.xW false a b)
 |.int _,.gtr,true=>.ext (.xW true a b)
 |.int _,o,_=>.bin o a b
 |.str,o,_=>.bin o a b
 |.st _,.neq,_=>.ext (.uu true (C.TS t) a b)
 |.cz _ _,.neq,_=>.ext (.uu true (C.s t) a b)
 |.st _,_,_=>.ext (.uu false (C.TS t) a b)
 |.cz _ _,_,_=>.ext (.uu false (C.s t) a b)
 |_,.neq,_=>.eqv true (C.T1 t) a b
 |_,_,_=>.eqv false (C.T1 t) a b
def conv(C:Env)(s t:Nat)(a:bi):de:=match C.d s,C.d t with
 |.int _,.int k=>.tZ k a
 |.str,.str=>.xV a
 |.aN _,.str=>.Av a
 |.str,.aN e=>.vX e a
 |.oP _,.up=>.C6 a
 |.up,.oP e=>.C7 e (C.s e) a
 |_,_=>.refuse
def parts(C:Env)(e:Nat)(ps:ac (Nat×bi)):ac (Nat×Nat×bi):=ps.map fun p=>(p.1*C.s e,C.s e,p.2)
def ahR(C:Env)(f:Nat)(as:ac bi):de:=
 match as,Nat.beq f C.kI,Nat.beq f C.k4,Nat.beq f C.a6,Nat.beq f C.idx with
 |[a],true,_,_,_=>.kI a
 |[a,b],_,true,_,_=>.k4 a b
 |[a,b],_,_,true,_=>.ext (.a6 a b)
 |[a,b],_,_,_,true=>.ext (.idxs C.m1 a b)
 |as,_,_,_,_=>match as,C.aoM with
  |[a],some (g,e)=>match Nat.beq f g with
   |true=>.ext (.IQ e a)
   |false=>.call (.func f) [a]
  |as,_=>.call (.func f) as
def len(C:Env)(t:Nat)(a:bi):de:=match C.d t with
 |.aN _=>.p8 a
 |.str=>.u7 a
 |.cz n _=>.y7 n
 |.mp _ _=>.ext (.BA a)
 |.oP e=>match C.d e with
  |.cz n _=>.y7 n
  |_=>.refuse
 |_=>.refuse
def el(C:Env)(t:Nat):Nat:=match C.d t with
 |.aN e=>e
 |.cz _ e=>e
 |.oP e=>e
 |_=>0
def aeC(C:Env)(f:Builtin)(as:ac bi)(ts:ac Nat):de:=
 match f,as,ts with
 |.len,[a],t::_=>C.len t a
 |.cap,[a],t::_=>match C.d t with
  |.aN _=>.ext (.LP a)
  |_=>.refuse
 |.delete,[a,b],t::_=>match C.d t with
  |.mp k _=>.ext (.del (C.cX k) a b)
  |_=>.refuse
 |.append,[a,b],t::_=>.app (C.el t) (C.s (C.el t)) (C.b (C.el t)) a b
 |.max,a::as,_=>.fb a as
 |.min,a::as,_=>.zf a as
 |.copy,[a,b],t::_=>.rI (C.s (C.el t)) a b
 |.recover,_,_=>.xl
 |.unsafeSliceData,[a],_=>.Ce a
 |.unsafeString,[a,b],t::_=>.tE (C.el t) a b
 |_,_,_=>.refuse
def pO(C:Env)(t f:Nat):Nat×Nat:=match C.d t with
 |.st l=>l.getD f (0,0)
 |_=>(0,0)
def auU(C:Env)(ks:ac Nat):Op->de
 |.move a=>.m3 a
 |.assign a=>.m3 a
 |.pick a b c=>.pick a b c
 |.alloc t=>.alloc (C.z t) t
 |.box t a=>.box t a
 |.build t ps=>.build (C.z t) (match C.d t with
  |.st l=>ps.toList.map fun p=>((l.getD p.1 (0,0)).1,C.s (l.getD p.1 (0,0)).2,p.2)
  |.cz _ e=>C.parts e ps.toList
  |_=>[])
 |.buildSlice t n ps=>.pJ (C.el t) n ((List.replicate n (C.z (C.el t))).flatten) (C.parts (C.el t) ps.toList)
 |.load t a=>match C.g t with
  |true=>.p9 (C.s t) a
  |false=>.lE a
 |.store t a x=>.store (C.s t) a x
 |.nilCheck a=>.tj a
 |.binOp o t a b _=>C.bin ks o t a b
 |.unOp o _ a=>.un o a
 |.convert s t a=>C.conv s t a
 |.makeInterface t a=>.IP t a
 |.makeFunc f a b=>.vb f a.toList b.toList
 |.makeMap _ _=>.vc
 |.makeSlice t l c=>.qc (C.el t) (C.b (C.el t)) (C.z (C.el t)) l c
 |.slice t a lo aa fb=>match C.d t with
  |.str=>.tA a lo aa
  |.cz n e=>.FC n (C.s e) a lo aa fb
  |.aN e=>.n9 (C.s e) a lo aa fb
  |_=>.refuse
 |.fieldAddr t a f=>.yd (C.pO t f).1 a
 |.field t a f=>.pO (C.pO t f).1 (C.s (C.pO t f).2) (C.g (C.pO t f).2) a
 |.indexAddr t a i=>match C.d t with
  |.cz n e=>.uT n (C.s e) a i
  |.aN e=>.mZ (C.s e) a i
  |_=>.refuse
 |.index t a i=>match C.d t with
  |.str=>.uY a i
  |.cz n e=>.Im n (C.s e) (C.g e) a i
  |_=>.refuse
 |.typeAssert a _ t ok=>.Ky t (C.tJ t) ok a
 |.extract a i=>.yc a i
 |.call c=>match c.callee with
  |.value f=>match f with
   |.func f=>C.ahR f c.args.toList
   |f=>.call f c.args.toList
  |.builtin b=>C.aeC b c.args.toList c.argTypes.toList
  |.invoke r n=>.inv (C.Y9 n) r c.args.toList
 |.defer c=>match c.callee with
  |.value f=>.rK f c.args.toList
  |_=>.refuse
 |.panic a=>.sk a
 |.lookup t m k ok=>match C.d t with
  |.mp a v=>.ext (.look (C.cX a) (C.tJ v) ok m k)
  |_=>.refuse
 |.mapUpdate t m k v=>match C.d t with
  |.mp a _=>.ext (.hI (C.cX a) m k v)
  |_=>.refuse
 |.insert t m k v=>match C.d t with
  |.mp a _=>.ext (.hI (C.cX a) m k v)
  |_=>.refuse
 |.range t m=>match C.d t with
  |.str=>.ext (.Kr m)
  |_=>.ext (.BB m)
 |.next i s=>match s with
  |true=>.ext (.Kq i)
  |false=>.ext (.EP i)
 |.entry i=>.ext (.Bz i)
 |_=>.refuse
end Env
def ol:am bi->ac bi
 |none=>[]
 |some a=>[a]
def auY:vQ->ac bi
 |.look _ _ _ a b=>[a,b]
 |.hI _ a b c=>[a,b,c]
 |.del _ a b=>[a,b]
 |.BA a=>[a]
 |.BB a=>[a]
 |.Bz a=>[a]
 |.a6 a b=>[a,b]
 |.uu _ _ a b=>[a,b]
 |.EP a=>[a]
 |.xW _ a b=>[a,b]
 |.idxs _ a b=>[a,b]
 |.Kr a=>[a]
 |.Kq a=>[a]
 |.IQ _ a=>[a]
 |.LP a=>[a]
def FK:de->ac bi
 |.m3 a=>[a]
 |.pick a b c=>[a,b,c]
 |.alloc _ _=>[]
 |.box _ a=>[a]
 |.build _ l=>l.map fun p=>p.2.2
 |.pJ _ _ _ l=>l.map fun p=>p.2.2
 |.lE a=>[a]
 |.p9 _ a=>[a]
 |.store _ a b=>[a,b]
 |.tj a=>[a]
 |.bin _ a b=>[a,b]
 |.eqv _ _ a b=>[a,b]
 |.un _ a=>[a]
 |.tZ _ a=>[a]
 |.xV a=>[a]
 |.Av a=>[a]
 |.vX _ a=>[a]
 |.IP _ a=>[a]
 |.vb _ a b=>a++b
 |.vc=>[]
 |.qc _ _ _ a b=>[a,b]
 |.tA a b c=>a::(ol b++ol c)
 |.FC _ _ a b c e=>a::(ol b++(ol c++ol e))
 |.n9 _ a b c e=>a::(ol b++(ol c++ol e))
 |.yd _ a=>[a]
 |.pO _ _ _ a=>[a]
 |.uT _ _ a b=>[a,b]
 |.mZ _ a b=>[a,b]
 |.uY a b=>[a,b]
 |.Im _ _ _ a b=>[a,b]
 |.Ky _ _ _ a=>[a]
 |.yc a _=>[a]
 |.call f l=>f::l
 |.inv _ f l=>f::l
 |.OS _ _ a=>[a]
 |.p8 a=>[a]
 |.u7 a=>[a]
 |.wM a=>[a]
 |.app _ _ _ a b=>[a,b]
 |.fb a l=>a::l
 |.zf a l=>a::l
 |.rI _ a b=>[a,b]
 |.rK f l=>f::l
 |.sk a=>[a]
 |.C6 a=>[a]
 |.C7 _ _ a=>[a]
 |.Ce a=>[a]
 |.tE _ a b=>[a,b]
 |.k4 a b=>[a,b]
 |.kI a=>[a]
 |.ext y=>auY y
 |_=>[]
def vD(l:ac bi):ac Nat:=l.filterMap fun
 |.tmp j=>some j
 |_=>none
def fj:de->Nat
 |.ext y=>match y with
  |.hI _ _ _ _=>0
  |.del _ _ _=>0
  |.BB _=>0
  |.EP _=>0
  |.Kr _=>0
  |.Kq _=>0
  |.IQ _ _=>0
  |_=>2
 |.call _ _=>0
 |.inv _ _ _=>0
 |.app _ _ _ _ _=>0
 |.rI _ _ _=>0
 |.xl=>0
 |.rK _ _=>0
 |.sk _=>0
 |.store _ _ _=>0
 |.refuse=>0
 |.tE _ _ _=>0
 |.wM _=>0
 |.alloc _ _=>1
 |.box _ _=>1
 |.pJ _ _ _ _=>1
 |.vX _ _=>1
 |.vc=>1
 |.qc _ _ _ _ _=>1
 |_=>2
def mem(l:ac Nat)(t:Nat):Bool:=l.any (Nat.beq t)
def add(l:ac Nat)(t:Nat):ac Nat:=match mem l t with
 |true=>l
 |false=>l++[t]
def akt(ops:ac Oper)(o:Oper):am (Nat×Bool):=match o.guard with
 |none=>none
 |some (j,w)=>match(ops[j]?).bind (·.dst)with
  |some t=>some (t,w)
  |none=>none
def OD(t:Nat):ac Oper->am String
 |[]=>none
 |o::os=>match o.op,o.dst with
  |.makeFunc (.method n) _ _,some d=>(match Nat.beq d t with
   |true=>some n
   |false=>OD t os)
  |_,_=>OD t os
def adO(C:Env)(ks:ac Nat)(ops:ac Oper)(o:Oper):bA:=⟨o.dst,(match o.op with
 |.nilCheck (.tmp t)=>(match OD t ops with
  |some n=>.OS n (C.Y9 n) (.tmp t)
  |none=>.tj (.tmp t))
 |_=>C.auU ks o.op),akt ops o⟩
def binds(e:Edge):Bool:=match e.ground with
 |.textOnly _=>false
 |.gcOnly _=>false
 |_=>true
def Si:ac Nat->ac Oper->ac Nat
 |B,[]=>B
 |B,o::os=>Si (B++[(o.after.toList.filter binds).foldl (fun m e=>m|||(2^e.on|||B.getD e.on 0)) 0]) os
def ord(n:Nat)(B K:ac Nat):ac Nat:=
 let es:=(List.range n).filter fun i=>Nat.beq (K.getD i 2) 0
 let l:=es.foldl (fun l e=>add (((List.range n).filter fun i=>(B.getD e 0).testBit i).foldl add l) e) []
 (List.range n).foldl add l
def maskAt(m:Nat):Nat->ac Nat->Nat
 |_,[]=>0
 |p,i::l=>(match m.testBit i with
  |true=>2^p
  |false=>0)+maskAt m (p+1) l
def uo(C:Env)(ks:ac Nat)(ops:ac Oper):dw:=
 let xs:=ops.map (adO C ks ops)
 let K:=xs.map fun x=>fj x.o
 let L:=xs.map fun x=>vD (FK x.o)++(match x.g with
  |some (t,_)=>[t]
  |none=>[])
 let B:=Si [] ops
 let tn:=ord ops.length B K
 let row (p:Nat) (i:Nat):bA×cx:=(xs.getD i ⟨none,.refuse,none⟩,match K.getD i 0 with
  |0=>.ep
  |1=>.im (L.getD i [])
  |_=>.read (((tn.take p).filter fun j=>Nat.beq (K.getD j 2) 0&& !(B.getD i 0).testBit j).length) (L.getD i []))
 let ek:=(List.range tn.length).foldl (fun l p=>match(xs.getD (tn.getD p 0) ⟨none,.refuse,none⟩).d with
  |none=>l
  |some t=>match(tn.take p).any fun j=>(Nat.beq (K.getD j 2) 0||mem (L.getD j []) t)&& !(B.getD (tn.getD p 0) 0).testBit j with
   |true=>add l t
   |false=>l) []
 .uo ((List.range tn.length).map fun p=>row p (tn.getD p 0)) tn ek (tn.map fun i=>maskAt (B.getD i 0) 0 tn)
def code(C:Env)(ks:ac Nat):Code->dw
 |.skip=>.skip
 |.label _=>.skip
 |.region _ ops agI=>match agI with
  |true=>uo C ks ops.toList
  |false=>.vz (ops.toList.map (adO C ks ops.toList))
 |.seq a b=>.seq (code C ks a) (code C ks b)
 |.cond x a b=>.cond x (code C ks a) (code C ks b)
 |.block n a=>.block n (code C ks a)
 |.loop a=>.loop (code C ks a)
 |.rangeFunc x ps a b=>.Ca x ps.toList (code C ks a) (code C ks b)
 |.scope a=>.scope (code C ks a)
 |.exit n=>.exit n
 |.ret=>.ret
 |_=>.refuse
def at6(g:Nat)(o:Oper):ac Nat:=match o.op,o.dst with
 |.load _ (.global h),some t=>match Nat.beq g h with
  |true=>[t]
  |false=>[]
 |_,_=>[]
def tD(g:Nat):Code->ac Nat
 |.region _ ops _=>ops.toList.flatMap (at6 g)
 |.seq a b=>tD g a++tD g b
 |.cond _ a b=>tD g a++tD g b
 |.block _ a=>tD g a
 |.loop a=>tD g a
 |.rangeFunc _ _ a b=>tD g a++tD g b
 |.scope a=>tD g a
 |_=>[]
def res(C:Env):ResultVar->jq
 |.tmp t=>.tmp t
 |.cell t k=>.cell t (C.g k) (C.s k)
def fn(C:Env)(f:Func):dy:=match f.body with
 |none=>⟨0,[],.refuse⟩
 |some c=>⟨f.ntmps,f.results.toList.map (res C),code C (tD C.m1 c) c⟩
end Go.ah.CB
