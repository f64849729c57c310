/- An abstract machine, and that its evaluations stand for runs of the model (part 1); no condition. -/
import Derived.Calls
import Derived.Laws.Cells
import Derived.Maps.Keyed
import Derived.Lib.Strings
import Derived.KernelRfl
noncomputable section
set_option linter.all false
namespace Go.an
universe u
theorem a9{α:Type u}{l:List α}{i:Nat}(h:i<l.length):l[i]? =some l[i]:=List.getElem?_eq_getElem h
theorem bZ(a b:Bool):((a&&b)=true)=(a=true∧b=true):=Bool.and_eq_true a b
theorem ep{n m:Nat}(h:Nat.beq n m=true):n=m:=Nat.eq_of_beq_eq_true h
theorem e4{n m k:Nat}(h:n<m)(g:m<=k):n<k:=Nat.lt_of_lt_of_le h g
theorem hF{m n:Nat}(k:Nat)(h:m<=n):m*k<=n*k:=Nat.mul_le_mul_right k h
theorem mu{m n:Nat}(k:Nat)(h:m<=n):k*m<=k*n:=Nat.mul_le_mul_left k h
theorem gW{a b:Nat}(h:a<b):a%b=a:=Nat.mod_eq_of_lt h
theorem b5(n:Nat):n<=n:=Nat.le_refl n
theorem hf{α:Type u}{i:Nat}{l:List α}(h:i<l.length):l.drop i=l[i]::l.drop (i+1):=List.drop_eq_getElem_cons h
theorem dr{α:Type u}{l:List α}{n:Nat}(h:n<l.length):l[n]∈l:=List.getElem_mem h
theorem kx{n m:Nat}(h:Nat.ble n m=true):n<=m:=Nat.le_of_ble_eq_true h
inductive ao(α:Type)where
 |nil:ao α
 |node (l:ao α) (v:Option α) (r:ao α):ao α
namespace ao
variable{α β:Type}
def get(t:ao α):Nat->Option α:=
 ao.rec (motive:=fun _=>Nat->Option α) (fun _=>none)
  (fun _ v _ ajv a8 n=>Nat.rec (motive:=fun _=>Option α) v (fun m _=>Nat.rec (motive:=fun _=>Option α) (ajv (Nat.div m 2)) (fun _ _=>a8 (Nat.div m 2)) (Nat.mod m 2)) n) t
def e9(f:Nat):ao α->Nat->α->(ao α->β)->β:=
 Nat.rec (motive:=fun _=>ao α->Nat->α->(ao α->β)->β) (fun t _ _ k=>k t)
  (fun _ a0 t n x k=>
   ao.rec (motive:=fun _=>β)
    (Nat.rec (motive:=fun _=>β) (k (.node .nil (some x) .nil))
     (fun m _=>Nat.rec (motive:=fun _=>β) (a0 .nil (Nat.div m 2) x fun l'=>k (.node l' none .nil)) (fun _ _=>a0 .nil (Nat.div m 2) x fun dH=>k (.node .nil none dH)) (Nat.mod m 2)) n)
    (fun l v r _ _=>
     Nat.rec (motive:=fun _=>β) (k (.node l (some x) r))
      (fun m _=>Nat.rec (motive:=fun _=>β) (a0 l (Nat.div m 2) x fun l'=>k (.node l' v r)) (fun _ _=>a0 r (Nat.div m 2) x fun dH=>k (.node l v dH)) (Nat.mod m 2)) n) t) f
def set(t:ao α)(n:Nat)(x:α):ao α:=e9 (Nat.succ n) t n x id
def WB(v:Option α)(r:ao α)(l:ao α):ao α:=
 ao.rec (motive:=fun _=>ao α) (.node .nil v r) (fun a b c _ _=>.node (.node a b c) v r) l
def WC(l:ao α)(v:Option α)(r:ao α):ao α:=
 ao.rec (motive:=fun _=>ao α) (.node l v .nil) (fun a b c _ _=>.node l v (.node a b c)) r
def HG(a0:ao α->Nat->α->ao α)(l:ao α)(v:Option α)(r:ao α)(m:Nat)(x:α):ao α:=
 Nat.rec (motive:=fun _=>ao α) (WB v r (a0 l (Nat.div m 2) x)) (fun _ _=>WC l v (a0 r (Nat.div m 2) x)) (Nat.mod m 2)
def HF(a0:ao α->Nat->α->ao α)(l:ao α)(v:Option α)(r:ao α)(n:Nat)(x:α):ao α:=
 Nat.rec (motive:=fun _=>ao α) (.node l (some x) r) (fun m _=>HG a0 l v r m x) n
def aoX(a0:ao α->Nat->α->ao α)(t:ao α)(n:Nat)(x:α):ao α:=
 ao.rec (motive:=fun _=>ao α) (HF a0 .nil none .nil n x) (fun l v r _ _=>HF a0 l v r n x) t
def kd(f:Nat):ao α->Nat->α->ao α:=
 Nat.rec (motive:=fun _=>ao α->Nat->α->ao α) (fun t _ _=>t) (fun _ a0=>aoX a0) f
def fin(t:ao α)(k:ao α->β):β:=
 ao.rec (motive:=fun _=>β) (k .nil) (fun a b c _ _=>k (.node a b c)) t
end ao
inductive o1 where
 |r4
 |mP
 |xJ
 |vi
 |xI
 |ptr
 |agg (ps:List (Nat×Nat×Bool×o1))
inductive fN where
 |int (k:IntKind)
 |str
 |arr (k:IntKind) (n:Nat)
inductive ue where
 |look (c9:fN) (zero:Value) (ok:Bool) (m k:Operand)
 |g3 (c9:fN) (m k v:Operand)
 |del (c9:fN) (m k:Operand)
 |z1 (m:Operand)
 |z2 (m:Operand)
 |z0 (it:Operand)
 |bf (s c:Operand)
 |qp (neg:Bool) (n:Nat) (x y:Operand)
 |tn (it:Operand)
 |wm (gt:Bool) (x y:Operand)
 |idxs (g:Nat) (s b:Operand)
inductive dd where
 |l4 (x:Operand)
 |pick (c a b:Operand)
 |alloc (z:List Value) (elem:TypeId)
 |box (elem:TypeId) (x:Operand)
 |build (z:List Value) (ps:List (Nat×Nat×Operand))
 |ot (elem:TypeId) (len:Nat) (z:List Value) (ps:List (Nat×Nat×Operand))
 |lE (a:Operand)
 |pT (n:Nat) (a:Operand)
 |store (n:Nat) (a x:Operand)
 |rV (x:Operand)
 |Hn (name:String) (hv:List (Nat×FuncId)) (x:Operand)
 |bin (op:BinOp) (x y:Operand)
 |eqv (neg:Bool) (e:o1) (x y:Operand)
 |un (op:UnOp) (x:Operand)
 |sB (k:IntKind) (x:Operand)
 |wj (x:Operand)
 |yS (x:Operand)
 |uv (elem:TypeId) (x:Operand)
 |Hc (t:TypeId) (x:Operand)
 |ti (fn:Fn) (first fl:List Operand)
 |tj
 |oO (elem:TypeId) (bytes:Nat) (z:List Value) (len cap:Operand)
 |sa (x:Operand) (bb ae:Option Operand)
 |AQ (n a4:Nat) (x:Operand) (bb ae eU:Option Operand)
 |nE (a4:Nat) (x:Operand) (bb ae eU:Option Operand)
 |wD (off:Nat) (x:Operand)
 |oB (off a4:Nat) (agg:Bool) (x:Operand)
 |s6 (n a4:Nat) (x i:Operand)
 |lD (a4:Nat) (x i:Operand)
 |u9 (x i:Operand)
 |GL (n a4:Nat) (agg:Bool) (x i:Operand)
 |I4 (t:TypeId) (zero:Value) (ok:Bool) (x:Operand)
 |wC (x:Operand) (i:Nat)
 |call (f:Operand) (args:List Operand)
 |inv (hv:List (Nat×FuncId)) (x:Operand) (args:List Operand)
 |oN (x:Operand)
 |te (x:Operand)
 |xv (n:Nat)
 |vd (x:Operand)
 |app (elem:TypeId) (a4 bytes:Nat) (s x:Operand)
 |eU (x:Operand) (xs:List Operand)
 |xE (x:Operand) (xs:List Operand)
 |qm (a4:Nat) (d s:Operand)
 |vF
 |qn (f:Operand) (args:List Operand)
 |qQ (x:Operand)
 |Fe (x:Operand)
 |Fg (elem n:Nat) (x:Operand)
 |Eb (x:Operand)
 |vO (elem:TypeId) (x n:Operand)
 |kb (s c:Operand)
 |jP (x:Operand)
 |ext (y:ue)
 |refuse
structure bL where
 d:Option Tmp
 o:dd
 g:Option (Tmp×Bool)
inductive cL where
 |eO
 |hP (ts:List Tmp)
 |read (back:Nat) (ts:List Tmp)
inductive dy where
 |skip
 |yb (ops:List bL)
 |sI (ops:List (bL×cL)) (cb:List Nat) (dZ:List Tmp) (ms:List Nat)
 |seq (a b:dy)
 |cond (c:Operand) (a b:dy)
 |block (id:Nat) (b:dy)
 |loop (b:dy)
 |II (f:Operand) (params:List Tmp) (assign body:dy)
 |exit (id:Nat)
 |scope (b:dy)
 |ret
 |refuse
inductive dF where
 |norm
 |exit (id:Nat)
 |ret
 |bk (v:Value)
inductive ig where
 |tmp (t:Tmp)
 |cell (a:Tmp) (agg:Bool) (n:Nat)
structure df where
 aS:Nat
 res:List ig
 body:dy
inductive bw where
 |cells (cs:List Value) (elem:TypeId) (bn:Nat×Nat) (a8:Bool)
 |map (es:List MapEntry) (clock:Nat)
 |Zz (s:ByteArray) (pos:Nat)
 |th (m:Option Nat) (since:Nat) (seen:List Nat) (AR:Nat)
 |loop (st:LoopState) (pending:Option dF) (fn:FuncId) (tmps:ao Value) (params:List Tmp) (assign body:dy) (defers:Nat)
 |iI (calls:Option (List Deferred))
 |dead
structure au where
 h:ao bw
 ai:Nat
structure aT where
 t:ao Value
 c4:List Deferred
 bk:Option Value
 cF:Bool
 b4:Option Nat
def aT.tmp(fr:aT)(n:Nat):Value:=
 Option.rec (motive:=fun _=>Value) (.chan (some 0)) (fun v=>v) (fr.t.get n)
def aT.aj(fr:aT)(x:Operand):Value:=
 Operand.rec (motive:=fun _=>Value) (fun t=>fr.tmp t) (fun v=>v) (fun g=>.pointer (some ⟨g,0,none⟩)) (fun f=>.func (.func f) #[] #[]) x
def aT.Wj(t:ao Value)(c4:List Deferred)(bk:Option Value)(cF:Bool)(b4:Option Nat):aT:=
 ao.rec (motive:=fun _=>aT) ⟨.nil,c4,bk,cF,b4⟩ (fun a b c _ _=>⟨.node a b c,c4,bk,cF,b4⟩) t
def aT.HF(d:Nat)(v:Value)(fr:aT):aT:=
 aT.rec (motive:=fun _=>aT) (fun t c4 bk cF b4=>aT.Wj (ao.kd (Nat.succ d) t d v) c4 bk cF b4) fr
def aT.put(fr:aT)(d:Option Tmp)(v:Value):aT:=
 Option.rec (motive:=fun _=>aT) fr (fun d=>aT.HF d v fr) d
inductive aZ where
 |ok (v:Value) (fr:aT) (st:au)
 |bk (v:Value) (st:au)
 |no
inductive dJ where
 |ret (v:Value) (st:au) (ew:Bool)
 |bk (v:Value) (st:au) (ew:Bool)
 |no
section lists
variable{α β:Type}
def N6(n:Nat):List α->Option (List α):=
 Nat.rec (motive:=fun _=>List α->Option (List α)) (fun _=>some [])
  (fun _ a0 l=>List.rec (motive:=fun _=>Option (List α)) none
   (fun x xs _=>Option.rec (motive:=fun _=>Option (List α)) none (fun r=>some (x::r)) (a0 xs)) l) n
def Kx(n:Nat):List α->List α:=
 Nat.rec (motive:=fun _=>List α->List α) (fun l=>l)
  (fun _ a0 l=>List.rec (motive:=fun _=>List α) [] (fun _ xs _=>a0 xs) l) n
def p0(l:List α):Nat->List α->(List α->β)->β->β:=
 List.rec (motive:=fun _=>Nat->List α->(List α->β)->β->β) (fun _ vs k z=>List.rec (motive:=fun _=>β) (k []) (fun _ _ _=>z) vs)
  (fun y aq a0 n vs k z=>
   Nat.rec (motive:=fun _=>β)
    (List.rec (motive:=fun _=>β) (k (y::aq)) (fun v vs _=>a0 0 vs (fun l'=>k (v::l')) z) vs)
    (fun m _=>a0 m vs (fun l'=>k (y::l')) z) n) l
end lists
def ga{β:Type}(n:Nat)(k:Nat->β):β:=cond (Nat.beq n n) (k n) (k n)
def Rj{β:Type}(n:Int)(k:Int->β):β:=
 Int.rec (motive:=fun _=>β) (fun m=>ga m fun m=>k (.ofNat m)) (fun m=>ga m fun m=>k (.negSucc m)) n
def au.jv{β:Type}(st:au)(o:bw)(k:Nat->au->β):β:=
 ga st.ai fun n=>ao.fin (ao.kd (Nat.succ n) st.h n o) fun h=>k n ⟨h,Nat.succ n⟩
def ik(v:Value):List Value:=v.cells.toList
def s9:Value->Bool
 |.chan _=>true
 |_=>false
def mx:Value->Bool
 |.agg _|.tuple _|.chan _=>false
 |_=>true
def hH(vs:List Value):Bool:=List.rec (motive:=fun _=>Bool) true (fun v _ r=>cond (mx v) r false) vs
mutual
def dD:Value->Value->Bool
 |.bool a,.bool b=>a==b
 |.int k a,.int k' b=>decide (k=k')&&a==b
 |.float k a,.float k' b=>decide (k=k')&&a==b
 |.complex k a c,.complex k' b d=>decide (k=k')&&a==b&&c==d
 |.string a,.string b=>a.data.toList==b.data.toList
 |.pointer a,.pointer b=>a==b
 |.slice a l c,.slice b l' bJ=>a==b&&l==l'&&c==bJ
 |.map a,.map b=>a==b
 |.chan a,.chan b=>a==b
 |.func f x y,.func g u v=>decide (f=g)&&vP x u&&vP y v
 |.nilFunc,.nilFunc=>true
 |.iface t v,.iface u w=>t==u&&dD v w
 |.nilIface,.nilIface=>true
 |.agg a,.agg b=>vP a b
 |.tuple a,.tuple b=>vP a b
 |_,_=>false
def vP:Array Value->Array Value->Bool
 |⟨a⟩,⟨b⟩=>lh a b
def lh:List Value->List Value->Bool
 |[],[]=>true
 |a::as,b::bW=>dD a b&&lh as bW
 |_,_=>false
end
mutual
theorem AZ:∀v:Value,dD v v=true
 |.bool a=>by simp[dD]
 |.int k a=>by simp[dD]
 |.float k a=>by simp[dD]
 |.complex k a c=>by simp[dD]
 |.string a=>by simp[dD]
 |.pointer a=>by simp[dD]
 |.slice a l c=>by simp[dD]
 |.map a=>by simp[dD]
 |.chan a=>by simp[dD]
 |.func f x y=>by simp[dD,Je x,Je y]
 |.nilFunc=>by simp[dD]
 |.iface t v=>by simp[dD,AZ v]
 |.nilIface=>by simp[dD]
 |.agg a=>by simp[dD,Je a]
 |.tuple a=>by simp[dD,Je a]
theorem Je:∀v:Array Value,vP v v=true
 |⟨a⟩=>by simp[vP,abd a]
theorem abd:∀v:List Value,lh v v=true
 |[]=>by simp[lh]
 |a::as=>by simp[lh,AZ a,abd as]
end
mutual
theorem mV:∀v w:Value,dD v w=true->v=w
 |.bool a,w,h=>by cases w<;>simp_all [dD]
 |.int k a,w,h=>by cases w<;>simp_all [dD]
 |.float k a,w,h=>by cases w<;>simp_all [dD]
 |.complex k a c,w,h=>by cases w<;>simp_all [dD]
 |.string a,w,h=>by
  cases w<;>simp_all [dD];rename_i b;cases a;cases b;simp_all
 |.pointer a,w,h=>by cases w<;>simp_all [dD]
 |.slice a l c,w,h=>by cases w<;>simp_all [dD]
 |.map a,w,h=>by cases w<;>simp_all [dD]
 |.chan a,w,h=>by cases w<;>simp_all [dD]
 |.func f x y,w,h=>by
  cases w<;>simp[dD]at h;rename_i g u v;simp[h.1.1,Jd x u h.1.2,Jd y v h.2]
 |.nilFunc,w,h=>by cases w<;>simp_all [dD]
 |.iface t v,w,h=>by
  cases w<;>simp[dD]at h;rename_i u x;simp[h.1,mV v x h.2]
 |.nilIface,w,h=>by cases w<;>simp_all [dD]
 |.agg a,w,h=>by
  cases w<;>simp[dD]at h;rename_i b;simp[Jd a b h]
 |.tuple a,w,h=>by
  cases w<;>simp[dD]at h;rename_i b;simp[Jd a b h]
theorem Jd:∀v w:Array Value,vP v w=true->v=w
 |⟨a⟩,⟨b⟩,h=>by simp[vP]at h;simp[yp a b h]
theorem yp:∀v w:List Value,lh v w=true->v=w
 |[],[],_=>rfl
 |a::as,b::bW,h=>by simp[lh]at h;simp[mV a b h.1,yp as bW h.2]
 |[],_::_,h=>by simp[lh]at h
 |_::_,[],h=>by simp[lh]at h
end
end Go.an
namespace Go.an
def tk(n:Int)(M:Nat):Nat:=
 Int.rec (motive:=fun _=>Nat) (fun m=>Nat.mod m M) (fun m=>Nat.sub (Nat.sub M 1) (Nat.mod m M)) n
def A3(M:Nat)(n:Int):Int:=.ofNat (tk n M)
def yr(M H:Nat)(n:Int):Int:=
 ga (tk n M) fun r=>cond (Nat.ble (Nat.succ r) H) (.ofNat r) (.negSucc (Nat.sub (Nat.sub M 1) r))
def nJ(k:IntKind)(n:Int):Int:=
 IntKind.rec (motive:=fun _=>Int->Int) (yr 256 128) (yr 65536 32768) (yr 4294967296 2147483648) (yr 18446744073709551616 9223372036854775808)
  (A3 256) (A3 65536) (A3 4294967296) (A3 18446744073709551616) k n
theorem Wp(n:Int)(M:Nat)(h:0<M):(tk n M:Int)=n%M:=by
 cases n with
 |ofNat m=>rfl
 |negSucc m=>
  show((M-1-m%M:Nat):Int)=_;rw[Int.negSucc_emod _ (by omega)];have:m%M<M:=Nat.mod_lt _ h;omega
theorem sl(M:Nat)(n:Int)(h:0<M):A3 M n=n%M:=Wp n M h
theorem ys(M H:Nat)(n:Int)(h:0<M):yr M H n=if n%M>=H then n%M-M else n%M:=by
 have e:=Wp n M h;have aP:tk n M<M:=by have:=Int.emod_lt_of_pos n (show(0:Int)<M by omega);omega
 unfold yr ga;rw[Nat.beq_refl];rw[<-e];simp only[cond];by_cases c:tk n M<H
 ·rw[Nat.ble_eq_true_of_le c];rw[if_neg (by omega)];rfl
 ·have:Nat.ble (Nat.succ (tk n M)) H=false:=by
   rw[Bool.eq_false_iff];intro hh;exact c (kx hh)
  rw[this];rw[if_pos (by omega)];show Int.negSucc (M-1-tk n M)=_;omega
theorem kO(k:IntKind)(n:Int):nJ k n=k.wrap n:=by
 cases k
 all_goals simp only[nJ,IntKind.wrap,IntKind.bits,IntKind.signed]
 ·rw[ys 256 128 n (by decide)];simp
 ·rw[ys 65536 32768 n (by decide)];simp
 ·rw[ys 4294967296 2147483648 n (by decide)];simp
 ·rw[ys 18446744073709551616 9223372036854775808 n (by decide)];simp
 ·rw[sl 256 n (by decide)];rfl
 ·rw[sl 65536 n (by decide)];rfl
 ·rw[sl 4294967296 n (by decide)];rfl
 ·rw[sl 18446744073709551616 n (by decide)];rfl
def yk(m n:Nat):Int:=cond (Nat.ble n m) (.ofNat (Nat.sub m n)) (.negSucc (Nat.sub (Nat.sub n m) 1))
theorem Ei(m n:Nat):yk m n=(m:Int)-n:=by
 unfold yk;by_cases h:n<=m
 ·rw[Nat.ble_eq_true_of_le h];show((m-n:Nat):Int)=_;omega
 ·have:Nat.ble n m=false:=by rw[Bool.eq_false_iff];intro hh;exact h (kx hh)
  rw[this];show Int.negSucc (n-m-1)=_;omega
def Bf(a b:Int):Int:=
 Int.rec (motive:=fun _=>Int)
  (fun m=>Int.rec (motive:=fun _=>Int) (fun n=>.ofNat (Nat.add m n)) (fun n=>yk m (Nat.succ n)) b)
  (fun m=>Int.rec (motive:=fun _=>Int) (fun n=>yk n (Nat.succ m)) (fun n=>.negSucc (Nat.succ (Nat.add m n))) b) a
theorem OS(a b:Int):Bf a b=a+b:=by
 cases a with
 |ofNat m=>
  cases b with
  |ofNat n=>rfl
  |negSucc n=>simp only[Bf,Ei];show(m:Int)-((n+1:Nat):Int)=(m:Int)+Int.negSucc n;omega
 |negSucc m=>
  cases b with
  |ofNat n=>simp only[Bf,Ei];show(n:Int)-((m+1:Nat):Int)=Int.negSucc m+(n:Int);omega
  |negSucc n=>rfl
def Hj(a:Int):Int:=
 Int.rec (motive:=fun _=>Int) (fun m=>yk 0 m) (fun m=>.ofNat (Nat.succ m)) a
theorem Mr(a:Int):Hj a= -a:=by
 cases a with
 |ofNat m=>simp only[Hj,Ei];show((0:Nat):Int)-(m:Int)= -(m:Int);omega
 |negSucc m=>rfl
def z3(a b:Int):Int:=
 Int.rec (motive:=fun _=>Int)
  (fun m=>Int.rec (motive:=fun _=>Int) (fun n=>.ofNat (Nat.mul m n)) (fun n=>yk 0 (Nat.mul m (Nat.succ n))) b)
  (fun m=>Int.rec (motive:=fun _=>Int) (fun n=>yk 0 (Nat.mul (Nat.succ m) n)) (fun n=>.ofNat (Nat.mul (Nat.succ m) (Nat.succ n))) b) a
theorem Mo(a b:Int):z3 a b=a*b:=by
 cases a with
 |ofNat m=>
  cases b with
  |ofNat n=>rfl
  |negSucc n=>
   simp only[z3,Ei];show(0:Int)-((m*(n+1):Nat):Int)=(m:Int)* -((n:Int)+1);rw[Int.mul_neg];push_cast;omega
 |negSucc m=>
  cases b with
  |ofNat n=>
   simp only[z3,Ei];show(0:Int)-(((m+1)*n:Nat):Int)= -((m:Int)+1)*n;rw[Int.neg_mul];push_cast;omega
  |negSucc n=>
   simp only[z3];show(((m+1)*(n+1):Nat):Int)= -((m:Int)+1)* -((n:Int)+1);rw[Int.neg_mul_neg];push_cast;rfl
def l2(a b:Int):Bool:=
 Int.rec (motive:=fun _=>Bool)
  (fun m=>Int.rec (motive:=fun _=>Bool) (fun n=>Nat.ble m n) (fun _=>false) b)
  (fun m=>Int.rec (motive:=fun _=>Bool) (fun _=>true) (fun n=>Nat.ble n m) b) a
theorem rS(a b:Int):l2 a b=decide (a<=b):=by
 cases a with
 |ofNat m=>
  cases b with
  |ofNat n=>simp only[l2];rw[Bool.eq_iff_iff];simp
  |negSucc n=>simp only[l2];rw[Bool.eq_iff_iff];simp;omega
 |negSucc m=>
  cases b with
  |ofNat n=>simp only[l2];rw[Bool.eq_iff_iff];simp;omega
  |negSucc n=>simp only[l2];rw[Bool.eq_iff_iff];simp;omega
def ru(a b:Int):Bool:=
 Int.rec (motive:=fun _=>Bool)
  (fun m=>Int.rec (motive:=fun _=>Bool) (fun n=>Nat.beq m n) (fun _=>false) b)
  (fun m=>Int.rec (motive:=fun _=>Bool) (fun _=>false) (fun n=>Nat.beq n m) b) a
theorem B4(a b:Int):ru a b=(a==b):=by
 cases a with
 |ofNat m=>
  cases b with
  |ofNat n=>simp only[ru];rw[Bool.eq_iff_iff];simp;omega
  |negSucc n=>simp only[ru];rw[Bool.eq_iff_iff];simp
 |negSucc m=>
  cases b with
  |ofNat n=>simp only[ru];rw[Bool.eq_iff_iff];simp
  |negSucc n=>simp only[ru];rw[Bool.eq_iff_iff];simp;omega
section
variable{β:Type}
def mT(v:Value)(k:Bool->β)(z:β):β:=
 @Value.rec (fun _=>β) (fun _=>Unit) (fun _=>Unit) (fun hO=>k hO) (fun _ _=>z) (fun _ _=>z) (fun _ _ _=>z) (fun _=>z) (fun _=>z) (fun _ _ _=>z) (fun _=>z) (fun _=>z) (fun _ _ _ _ _=>z) z (fun _ _ _=>z) z (fun _ _=>z) (fun _ _=>z) (fun _ _=>()) () (fun _ _ _ _=>()) v
def gB(v:Value)(k:IntKind->Int->β)(z:β):β:=
 @Value.rec (fun _=>β) (fun _=>Unit) (fun _=>Unit) (fun _=>z) (fun hO dR=>k hO dR) (fun _ _=>z) (fun _ _ _=>z) (fun _=>z) (fun _=>z) (fun _ _ _=>z) (fun _=>z) (fun _=>z) (fun _ _ _ _ _=>z) z (fun _ _ _=>z) z (fun _ _=>z) (fun _ _=>z) (fun _ _=>()) () (fun _ _ _ _=>()) v
def jB(v:Value)(k:ByteArray->β)(z:β):β:=
 @Value.rec (fun _=>β) (fun _=>Unit) (fun _=>Unit) (fun _=>z) (fun _ _=>z) (fun _ _=>z) (fun _ _ _=>z) (fun hO=>k hO) (fun _=>z) (fun _ _ _=>z) (fun _=>z) (fun _=>z) (fun _ _ _ _ _=>z) z (fun _ _ _=>z) z (fun _ _=>z) (fun _ _=>z) (fun _ _=>()) () (fun _ _ _ _=>()) v
def iD(v:Value)(k:Option Addr->β)(z:β):β:=
 @Value.rec (fun _=>β) (fun _=>Unit) (fun _=>Unit) (fun _=>z) (fun _ _=>z) (fun _ _=>z) (fun _ _ _=>z) (fun _=>z) (fun hO=>k hO) (fun _ _ _=>z) (fun _=>z) (fun _=>z) (fun _ _ _ _ _=>z) z (fun _ _ _=>z) z (fun _ _=>z) (fun _ _=>z) (fun _ _=>()) () (fun _ _ _ _=>()) v
def ku(v:Value)(k:Option Addr->Nat->Nat->β)(z:β):β:=
 @Value.rec (fun _=>β) (fun _=>Unit) (fun _=>Unit) (fun _=>z) (fun _ _=>z) (fun _ _=>z) (fun _ _ _=>z) (fun _=>z) (fun _=>z) (fun hO dR vT=>k hO dR vT) (fun _=>z) (fun _=>z) (fun _ _ _ _ _=>z) z (fun _ _ _=>z) z (fun _ _=>z) (fun _ _=>z) (fun _ _=>()) () (fun _ _ _ _=>()) v
def yn(v:Value)(k:Fn->Array Value->Array Value->β)(z:β):β:=
 @Value.rec (fun _=>β) (fun _=>Unit) (fun _=>Unit) (fun _=>z) (fun _ _=>z) (fun _ _=>z) (fun _ _ _=>z) (fun _=>z) (fun _=>z) (fun _ _ _=>z) (fun _=>z) (fun _=>z) (fun hO dR vT _ _=>k hO dR vT) z (fun _ _ _=>z) z (fun _ _=>z) (fun _ _=>z) (fun _ _=>()) () (fun _ _ _ _=>()) v
def si(v:Value)(k:TypeId->Value->β)(z:β):β:=
 @Value.rec (fun _=>β) (fun _=>Unit) (fun _=>Unit) (fun _=>z) (fun _ _=>z) (fun _ _=>z) (fun _ _ _=>z) (fun _=>z) (fun _=>z) (fun _ _ _=>z) (fun _=>z) (fun _=>z) (fun _ _ _ _ _=>z) z (fun hO dR _=>k hO dR) z (fun _ _=>z) (fun _ _=>z) (fun _ _=>()) () (fun _ _ _ _=>()) v
def q2(v:Value)(k:Array Value->β)(z:β):β:=
 @Value.rec (fun _=>β) (fun _=>Unit) (fun _=>Unit) (fun _=>z) (fun _ _=>z) (fun _ _=>z) (fun _ _ _=>z) (fun _=>z) (fun _=>z) (fun _ _ _=>z) (fun _=>z) (fun _=>z) (fun _ _ _ _ _=>z) z (fun _ _ _=>z) z (fun hO _=>k hO) (fun _ _=>z) (fun _ _=>()) () (fun _ _ _ _=>()) v
def qb(v:Value)(k:Array Value->β)(z:β):β:=
 @Value.rec (fun _=>β) (fun _=>Unit) (fun _=>Unit) (fun _=>z) (fun _ _=>z) (fun _ _=>z) (fun _ _ _=>z) (fun _=>z) (fun _=>z) (fun _ _ _=>z) (fun _=>z) (fun _=>z) (fun _ _ _ _ _=>z) z (fun _ _ _=>z) z (fun _ _=>z) (fun hO _=>k hO) (fun _ _=>()) () (fun _ _ _ _=>()) v
def yo(v:Value)(k:Option Nat->β)(z:β):β:=
 @Value.rec (fun _=>β) (fun _=>Unit) (fun _=>Unit) (fun _=>z) (fun _ _=>z) (fun _ _=>z) (fun _ _ _=>z) (fun _=>z) (fun _=>z) (fun _ _ _=>z) (fun hO=>k hO) (fun _=>z) (fun _ _ _ _ _=>z) z (fun _ _ _=>z) z (fun _ _=>z) (fun _ _=>z) (fun _ _=>()) () (fun _ _ _ _=>()) v
end
def ib:Value:=.chan (some 0)
abbrev bQ:=Value->List Value->Option Value->au->dJ
section elim
variable{α β:Type}
def bl(o:Option α)(k:α->β)(z:β):β:=Option.rec (motive:=fun _=>β) z k o
def eo(a b:Nat)(x y:β):β:=cond (Nat.ble a b) x y
def et(a b:Nat)(x y:β):β:=cond (Nat.beq a b) x y
def hA(n:Int)(k:Nat->β)(z:β):β:=Int.rec (motive:=fun _=>β) k (fun _=>z) n
def ec(l:List α):Nat:=List.rec (motive:=fun _=>Nat) 0 (fun _ _ n=>Nat.succ n) l
def fZ(l m:List α):List α:=List.rec (motive:=fun _=>List α) m (fun x _ r=>x::r) l
def il(l:List α)(off n:Nat)(k:List α->β)(z:β):β:=bl (N6 n (Kx off l)) k z
def one(l:List α)(k:α->β)(z:β):β:=
 List.rec (motive:=fun _=>β) z (fun x xs _=>List.rec (motive:=fun _=>β) (k x) (fun _ _ _=>z) xs) l
end elim
def hM{β:Type}(k:IntKind)(n:Int)(c:Value->β):β:=Rj n fun m=>c (.int k m)
def jM(a b:IntKind):Bool:=Nat.beq a.ctorIdx b.ctorIdx
def Bz(f:Nat->Nat->Nat)(g:Int)(k:IntKind)(a b:Int)(c:Value->aZ):aZ:=
 hA a (fun m=>hA b (fun n=>hM k (nJ k (.ofNat (f (tk (.ofNat m) (2^k.bits)) (tk (.ofNat n) (2^k.bits))))) c) (hM k g c)) (hM k g c)
def PN(k:IntKind)(a b:Int)(c:Value->aZ):aZ:=hM k (nJ k (Bf a b)) c
def P1(k:IntKind)(a b:Int)(c:Value->aZ):aZ:=hM k (nJ k (Bf a (Hj b))) c
def PW(k:IntKind)(a b:Int)(c:Value->aZ):aZ:=hM k (nJ k (z3 a b)) c
def PZ(k:IntKind)(a b:Int)(c:Value->aZ):aZ:=cond (ru b 0) .no (hA a (fun m=>hA b (fun n=>hM k (nJ k (.ofNat (Nat.div m n))) c) (hM k (k.wrap (a.tdiv b)) c)) (hM k (k.wrap (a.tdiv b)) c))
def P0(k:IntKind)(a b:Int)(c:Value->aZ):aZ:=cond (ru b 0) .no (hA a (fun m=>hA b (fun n=>hM k (.ofNat (Nat.mod m n)) c) (hM k (a.tmod b) c)) (hM k (a.tmod b) c))
def PO(k:IntKind)(a b:Int)(c:Value->aZ):aZ:=Bz Nat.land (k.wrap (BitVec.ofInt k.bits a&&&BitVec.ofInt k.bits b).toNat) k a b c
def PY(k:IntKind)(a b:Int)(c:Value->aZ):aZ:=Bz Nat.lor (k.wrap (BitVec.ofInt k.bits a|||BitVec.ofInt k.bits b).toNat) k a b c
def P2(k:IntKind)(a b:Int)(c:Value->aZ):aZ:=Bz Nat.xor (k.wrap (BitVec.ofInt k.bits a^^^BitVec.ofInt k.bits b).toNat) k a b c
def PQ(k:IntKind)(a b:Int)(c:Value->aZ):aZ:=hM k (k.wrap (BitVec.ofInt k.bits a&&& ~~~(BitVec.ofInt k.bits b)).toNat) c
def PR(_k:IntKind)(a b:Int)(c:Value->aZ):aZ:=c (.bool (ru a b))
def PX(_k:IntKind)(a b:Int)(c:Value->aZ):aZ:=c (.bool (!ru a b))
def PV(_k:IntKind)(a b:Int)(c:Value->aZ):aZ:=c (.bool (!l2 b a))
def PU(_k:IntKind)(a b:Int)(c:Value->aZ):aZ:=c (.bool (l2 a b))
def PT(_k:IntKind)(a b:Int)(c:Value->aZ):aZ:=c (.bool (!l2 a b))
def PS(_k:IntKind)(a b:Int)(c:Value->aZ):aZ:=c (.bool (l2 b a))
def JZ(_k:IntKind)(_a _b:Int)(_c:Value->aZ):aZ:=.no
def yO(op:BinOp)(k:IntKind)(a b:Int)(c:Value->aZ):aZ:=
 BinOp.rec (motive:=fun _=>IntKind->Int->Int->(Value->aZ)->aZ) PN P1 PW PZ P0 PO PY P2 JZ JZ PQ PR PX PV PU PT PS op k a b c
def By(op:BinOp)(x y:ByteArray)(c:Value->aZ):aZ:=
 match op with
 |.add=>eo (Nat.add (ec x.data.toList) (ec y.data.toList)) (2^40) (c (.string ⟨⟨fZ x.data.toList y.data.toList⟩⟩)) .no
 |.eql=>c (.bool (x.data.toList==y.data.toList))
 |.neq=>c (.bool (!(x.data.toList==y.data.toList)))
 |_=>.no
def yh(k:IntKind)(a:Int)(n:Nat):Int:=nJ k (z3 a (.ofNat (Nat.pow 2 (min n k.bits))))
def tJ(k:IntKind)(a:Int)(n:Nat):Int:=
 hA a (fun m=>.ofNat (Nat.div m (Nat.pow 2 (min n k.bits)))) (a.fdiv (2^(min n k.bits)))
def afH(_op:BinOp)(k:IntKind)(a:Int)(_yk:IntKind)(b:Int)(c:Value->aZ):aZ:=hA b (fun n=>hM k (yh k a n) c) .no
def afI(_op:BinOp)(k:IntKind)(a:Int)(_yk:IntKind)(b:Int)(c:Value->aZ):aZ:=hA b (fun n=>hM k (tJ k a n) c) .no
def m4(op:BinOp)(k:IntKind)(a:Int)(vU:IntKind)(b:Int)(c:Value->aZ):aZ:=cond (jM k vU) (yO op k a b c) .no
def zb(op:BinOp)(k:IntKind)(a:Int)(vU:IntKind)(b:Int)(c:Value->aZ):aZ:=
 BinOp.rec (motive:=fun _=>BinOp->IntKind->Int->IntKind->Int->(Value->aZ)->aZ) m4 m4 m4 m4 m4 m4 m4 m4 afH afI m4 m4 m4 m4 m4 m4 m4 op op k a vU b c
def B5(op:BinOp)(x y:Value)(c:Value->aZ):aZ:=
 gB x (fun k a=>gB y (fun vU b=>zb op k a vU b c) .no)
 (jB x (fun a=>jB y (fun b=>By op a b c) .no) .no)
def tr(off a4:Nat)(agg:Bool)(cs:List Value):Option Value:=
 il cs off a4 (fun vs=>cond agg (some (.agg ⟨vs⟩)) (one vs (fun v=>some v) none)) none
def pn:Value->Value->Option Bool
 |.slice none _ _,.slice b _ _=>some b.isNone
 |.slice (some _) _ _,.slice none _ _=>some false
 |_,_=>none
def B2:Value->Value->Option Bool
 |.map none,.map b=>some b.isNone
 |.map (some _),.map none=>some false
 |_,_=>none
def y8:Value->Value->Option Bool
 |.nilFunc,.nilFunc=>some true
 |.nilFunc,.func _ _ _=>some false
 |.func _ _ _,.nilFunc=>some false
 |_,_=>none
def B1:Value->Value->Option Bool
 |.nilIface,.nilIface=>some true
 |.nilIface,.iface _ _=>some false
 |.iface _ _,.nilIface=>some false
 |_,_=>none
def uD:Value->Value->Option Bool
 |.pointer none,.pointer b=>some b.isNone
 |.pointer (some _),.pointer none=>some false
 |.pointer (some a),.pointer (some b)=>if a.block=b.block∧a.spot=none∧b.spot=none then some (a.off==b.off)else none
 |_,_=>none
def za:Value->Value->Option Bool
 |.bool a,.bool b=>some (a==b)
 |.int k a,.int k' b=>if k=k' then some (a==b)else none
 |.string a,.string b=>some (a.data.toList==b.data.toList)
 |_,_=>none
def mD:Nat->o1->Value->Value->Option Bool
 |_,.r4,x,y=>za x y
 |_,.mP,x,y=>pn x y
 |_,.xJ,x,y=>B2 x y
 |_,.vi,x,y=>y8 x y
 |_,.xI,x,y=>B1 x y
 |_,.ptr,x,y=>uD x y
 |0,.agg _,_,_=>none
 |n+1,.agg ps,.agg xs,.agg aq=>Q2 n xs.toList aq.toList ps
 |_,.agg _,_,_=>none
 where
 Q2 (n:Nat) (xs aq:List Value):List (Nat×Nat×Bool×o1)->Option Bool
  |[]=>some true
  |(off,a4,hx,e)::rest=>
   match tr off a4 hx xs,tr off a4 hx aq with
   |some x,some y=>
    match mD n e x y with
    |some true=>Q2 n xs aq rest
    |r=>r
   |_,_=>none
def zc(op:UnOp)(x:Value)(c:Value->aZ):aZ:=
 match op with
 |.neg=>gB x (fun k n=>hM k (nJ k (Hj n)) c) .no
 |.xor=>gB x (fun k n=>hM k (k.wrap (BitVec.ofInt k.bits (if k.signed then -1 else k.max)^^^BitVec.ofInt k.bits n).toNat) c) .no
 |.not=>mT x (fun b=>c (.bool (!b))) .no
 |_=>.no
def nP(fr:aT)(ps:List (Nat×Nat×Operand)):List Value->(List Value->aZ)->aZ:=
 List.rec (motive:=fun _=>List Value->(List Value->aZ)->aZ) (fun cs c=>c cs)
  (fun p _ a0 cs c=>
   (fun v=>cond (s9 v) .no ((fun vs=>et (ec vs) p.2.1 (eo (Nat.add p.1 p.2.1) (ec cs) (p0 cs p.1 vs (fun cs'=>a0 cs' c) .no) .no) .no) (ik v))) (fr.aj p.2.2)) ps
def bytesOf(vs:List Value):Option (List UInt8):=
 List.rec (motive:=fun _=>Option (List UInt8)) (some [])
  (fun v _ r=>gB v (fun k n=>cond (jM k .u8) (bl r (fun bW=>some (UInt8.ofNat n.toNat::bW)) none) none) none) vs
def n9(bW:List UInt8):List Value:=
 List.rec (motive:=fun _=>List Value) [] (fun b _ r=>Value.int .u8 (.ofNat b.toNat)::r) bW
def e5(fr:aT)(x:Option Operand)(dflt y:Nat)(k:Nat->aZ):aZ:=
 bl x (fun x=>gB (fr.aj x) (fun _ n=>hA n (fun n=>eo n y (k n) .no) .no) .no) (k dflt)
def BD{β:Type}(o:Option bw)(k:List Value->TypeId->Nat×Nat->Bool->β)(z:β):β:=
 bl o (fun o=>bw.rec (motive:=fun _=>β) k (fun _ _=>z) (fun _ _=>z) (fun _ _ _ _=>z) (fun _ _ _ _ _ _ _ _=>z) (fun _=>z) z o) z
def au.gL{β:Type}(st:au)(a:Addr)(k:List Value->TypeId->Nat×Nat->Bool->β)(z:β):β:=
 bl a.spot (fun _=>z) (BD (st.h.get a.block) k z)
def au.load{β:Type}(st:au)(a:Addr)(n:Nat)(k:List Value->β)(z:β):β:=
 st.gL a (fun cs _ _ _=>il cs a.off n k z) z
def au.g9{β:Type}(st:au)(id:Nat)(o:bw)(k:au->β):β:=
 ao.fin (ao.kd (Nat.succ id) st.h id o) fun h=>k ⟨h,st.ai⟩
def au.store{β:Type}(st:au)(a:Addr)(vs:List Value)(k:au->β)(z:β):β:=
 st.gL a (fun cs elem bn a8=>eo bn.2 bn.1 (p0 cs a.off vs (fun cs'=>st.g9 a.block (.cells cs' elem bn a8) k) z) z) z
def kZ(fr:aT)(st:au)(elem:TypeId)(a4 bytes:Nat)(base:Option Addr)(len cap:Nat)(n:Nat)(new:List Value):aZ:=
 (fun mO=>
  eo (Nat.mul (Nat.add (Nat.mul 2 mO) 768) (Nat.succ bytes)) (2^40)
   (bl base
    (fun a=>st.gL a (fun cs el bn a8=>
     eo bn.2 bn.1 (eo len cap (eo (Nat.add a.off (Nat.mul cap a4)) (ec cs) (et el elem
      (et n 0 (.ok (.slice (some a) len cap) fr st)
       (cond a8
        (il cs a.off (Nat.mul len a4) (fun old=>st.g9 a.block .dead fun st=>st.jv (.cells (fZ old new) elem (0,0) true) fun id st=>.ok (.slice (some ⟨id,0,none⟩) mO mO) fr st) .no)
        (eo mO cap
         (p0 cs (Nat.add a.off (Nat.mul len a4)) new (fun cs'=>st.g9 a.block (.cells cs' el bn false) fun st=>.ok (.slice (some a) mO cap) fr st) .no)
         (il cs a.off (Nat.mul len a4) (fun old=>st.jv (.cells (fZ old new) elem (0,0) true) fun id st=>.ok (.slice (some ⟨id,0,none⟩) mO mO) fr st) .no))))
      .no) .no) .no) .no) .no)
    (et len 0 (et cap 0
     (et n 0 (.ok (.slice none 0 0) fr st)
      (st.jv (.cells new elem (0,0) true) fun id st=>.ok (.slice (some ⟨id,0,none⟩) mO mO) fr st))
     .no) .no))
   .no) (Nat.add len n)
def Dj(k:IntKind)(fr:aT)(xs:List Operand):Int->Option Int:=
 List.rec (motive:=fun _=>Int->Option Int) (fun m=>some m)
  (fun x _ a0 m=>gB (fr.aj x) (fun k' y=>cond (jM k k') (a0 (cond (l2 y m) m y)) none) none) xs
def Dk(k:IntKind)(fr:aT)(xs:List Operand):Int->Option Int:=
 List.rec (motive:=fun _=>Int->Option Int) (fun m=>some m)
  (fun x _ a0 m=>gB (fr.aj x) (fun k' y=>cond (jM k k') (a0 (cond (l2 m y) m y)) none) none) xs
def dT(fr:aT)(xs:List Operand):List Value:=
 List.rec (motive:=fun _=>List Value) [] (fun x _ r=>fr.aj x::r) xs
def my(z:List Value)(n:Nat):List Value:=
 Nat.rec (motive:=fun _=>List Value) [] (fun _ r=>fZ z r) n
def GI(k:IntKind)(n:Int):Bool:=l2 k.min n&&l2 n k.max
def fN.ok(c9:fN)(v:Value):Bool:=
 match c9 with
 |.int k=>gB v (fun k' n=>jM k k'&&GI k n) false
 |.str=>jB v (fun s=>Nat.ble (ec s.data.toList) (2^40)) false
 |.arr k n=>q2 v (fun xs=>Nat.beq (ec xs.toList) n&&xs.toList.all (fun x=>gB x (fun k' m=>jM k k'&&GI k m) false)) false
def qM{β:Type}(o:Option bw)(k:List MapEntry->Nat->β)(z:β):β:=
 bl o (fun o=>bw.rec (motive:=fun _=>β) (fun _ _ _ _=>z) k (fun _ _=>z) (fun _ _ _ _=>z) (fun _ _ _ _ _ _ _ _=>z) (fun _=>z) z o) z
def LZ{β:Type}(o:Option bw)(k:Option Nat->Nat->List Nat->Nat->β)(z:β):β:=
 bl o (fun o=>bw.rec (motive:=fun _=>β) (fun _ _ _ _=>z) (fun _ _=>z) (fun _ _=>z) k (fun _ _ _ _ _ _ _ _=>z) (fun _=>z) z o) z
def vb(c9:fN)(es:List MapEntry):Bool:=es.all (fun e=>c9.ok e.key)
def pU(k:Value)(es:List MapEntry):Option MapEntry:=es.find? (fun e=>dD k e.key)
def zZ(k v:Value)(es:List MapEntry):List MapEntry:=es.map (fun e=>cond (dD k e.key) ⟨e.key,v,e.born⟩ e)
def zX(k:Value)(es:List MapEntry):List MapEntry:=es.filter (fun e=> !dD k e.key)
def Fz:Value->Value->Option Bool
 |.int k a,.int k' b=>if k=k' then some (a==b)else none
 |_,_=>none
def B3:Value->Value->Option Bool
 |.string a,.string b=>some (a.data.toList==b.data.toList)
 |_,_=>none
def Fx(i:Nat)(x y:Value):Option Bool:=match i with
 |0=>B3 x y
 |_=>Fz x y
def kB:Nat->List Value->List Value->Option Bool
 |_,[],[]=>some true
 |i,x::xs,y::aq=>bl (Fx i x y) (fun b=>cond b (kB (i-1) xs aq) (bl (kB (i-1) xs aq) (fun _=>some false) none)) none
 |_,_,_=>none
def BK(n:Nat):Value->Option Bool
 |.chan (some c)=>if c%2=0 then(if 2<=c∧n<=(c-2)/2 then some true else none)else(if 3<=c∧(c-3)/2<=n then some false else none)
 |_=>none
def LR(n:Nat)(c:Value):Bool:=match BK n c with|some true=>true|_=>false
def vt:List UInt8->List UInt8->Bool
 |[],_=>true
 |a::as,b::bW=>a==b&&vt as bW
 |_::_,[]=>false
def n8(b:List UInt8):List UInt8->Option Nat
 |[]=>if b.isEmpty then some 0 else none
 |x::xs=>if vt b (x::xs)then some 0 else(n8 b xs).map (· +1)
def am8(l:List Nat):Option Nat:=l.getLast?
def po(fr:aT)(st:au)(y:ue):aZ:=
 match y with
 |.look c9 z ok m k=>(fun key=>cond (c9.ok key)
  (yo (fr.aj m) (fun r=>bl r (fun id=>qM (st.h.get id) (fun es _=>cond (vb c9 es) (bl (pU key es) (fun e=>.ok (cond ok (.tuple #[e.val,.bool true]) e.val) fr st) (.ok (cond ok (.tuple #[z,.bool false]) z) fr st)) .no) .no)
   (.ok (cond ok (.tuple #[z,.bool false]) z) fr st)) .no) .no) (fr.aj k)
 |.g3 c9 m k v=>(fun key=>cond (c9.ok key)
  (yo (fr.aj m) (fun r=>bl r (fun id=>qM (st.h.get id) (fun es clock=>cond (vb c9 es)
   (bl (pU key es) (fun _=>st.g9 id (.map (zZ key (fr.aj v) es) clock) fun st=>.ok undef fr st)
    (st.g9 id (.map (es++[⟨key,fr.aj v,clock⟩]) (Nat.succ clock)) fun st=>.ok undef fr st)) .no) .no) .no) .no) .no) (fr.aj k)
 |.del c9 m k=>(fun key=>cond (c9.ok key)
  (yo (fr.aj m) (fun r=>bl r (fun id=>qM (st.h.get id) (fun es clock=>cond (vb c9 es) (st.g9 id (.map (zX key es) clock) fun st=>.ok undef fr st) .no) .no) .no) .no) .no) (fr.aj k)
 |.z1 m=>yo (fr.aj m) (fun r=>bl r (fun id=>qM (st.h.get id) (fun es _=>ga (ec es) fun n=>.ok (.int .i64 (.ofNat n)) fr st) .no) (.ok (.int .i64 0) fr st)) .no
 |.z2 m=>yo (fr.aj m) (fun r=>bl r (fun id=>qM (st.h.get id) (fun _ clock=>st.jv (.th (some id) clock [] clock) fun id st=>.ok (.pointer (some ⟨id,0,none⟩)) fr st) .no)
  (st.jv (.th none 0 [] 0) fun id st=>.ok (.pointer (some ⟨id,0,none⟩)) fr st)) .no
 |.z0 it=>iD (fr.aj it) (fun p=>bl p (fun a=>bl a.spot (fun _=>.no) (et a.off 0 (LZ (st.h.get a.block) (fun m _ seen AR=>
  bl m (fun id=>bl (am8 seen) (fun s=>qM (st.h.get id) (fun es clock=>et clock AR (eo (Nat.succ s) clock (bl (es.find? (fun e=>Nat.beq e.born s)) (fun e=>.ok (.tuple #[e.key,e.val]) fr st) .no) .no) .no) .no) .no) .no) .no) .no)) .no) .no
 |.bf s c=>jB (fr.aj s) (fun s=>gB (fr.aj c) (fun k c=>cond (jM k .u8) (hA c (fun c=>.ok (.int .i64 (.ofNat (s.data.toList.countP (fun b=>b==UInt8.ofNat c)))) fr st) .no) .no) .no) .no
 |.qp neg n x y=>q2 (fr.aj x) (fun xs=>q2 (fr.aj y) (fun aq=>et (ec xs.toList) (Nat.add (Nat.mod n 100) (Nat.div n 100)) (et (ec aq.toList) (Nat.add (Nat.mod n 100) (Nat.div n 100)) (bl (kB (Nat.mod n 100) xs.toList aq.toList) (fun b=>.ok (.bool (cond neg (!b) b)) fr st) .no) .no) .no) .no) .no
 |.tn _=>.no
 |.wm gt x y=>gB (fr.aj x) (fun k n=>cond (jM k .i64) (hA n (fun n=>bl (BK n (fr.aj y)) (fun b=>.ok (.bool (cond gt (!b) b)) fr st) .no) .no) .no) .no
 |.idxs g s b=>jB (fr.aj s) (fun s=>jB (fr.aj b) (fun b=>BD (st.h.get g) (fun cs _ _ a8=>cond a8 .no (one cs (fun c=>cond (LR (ec b.data.toList) c) (eo 2 (ec b.data.toList) (eo (ec s.data.toList) 1000000
  (.ok (.int .i64 (bl (n8 b.data.toList s.data.toList) (fun i=>.ofNat i) (.negSucc 0))) fr st) .no) .no) .no) .no)) .no) .no) .no
def vK(t:Nat)(hv:List (Nat×FuncId)):Option FuncId:=
 List.rec (motive:=fun _=>Option FuncId) none (fun p _ a0=>cond (Nat.beq p.1 t) (some p.2) a0) hv
def pO(c:UInt8)(l:List UInt8):Option Nat:=
 List.rec (motive:=fun _=>Option Nat) none (fun b _ r=>cond (Nat.beq b.toNat c.toNat) (some 0) (bl r (fun i=>some (Nat.succ i)) none)) l
def Xe(x:Operand)(_call:bQ)(fr:aT)(st:au):aZ:=
 .ok (fr.aj x) fr st
def Xh(c:Operand)(a:Operand)(b:Operand)(_call:bQ)(fr:aT)(st:au):aZ:=
 mT (fr.aj c) (fun t=>.ok (cond t (fr.aj a) (fr.aj b)) fr st) .no
def xN(z:List Value)(elem:TypeId)(_call:bQ)(fr:aT)(st:au):aZ:=
 st.jv (.cells z elem (0,0) false) fun id st=>.ok (.pointer (some ⟨id,0,none⟩)) fr st
def Aj(elem:TypeId)(x:Operand)(_call:bQ)(fr:aT)(st:au):aZ:=
 (fun v=>cond (s9 v) .no (st.jv (.cells (ik v) elem (0,0) false) fun id st=>.ok (.pointer (some ⟨id,0,none⟩)) fr st)) (fr.aj x)
def MR(z:List Value)(ps:List (Nat×Nat×Operand))(_call:bQ)(fr:aT)(st:au):aZ:=
 nP fr ps z fun cs=>.ok (.agg ⟨cs⟩) fr st
def Ak(elem:TypeId)(len:Nat)(z:List Value)(ps:List (Nat×Nat×Operand))(_call:bQ)(fr:aT)(st:au):aZ:=
 nP fr ps z fun cs=>st.jv (.cells cs elem (0,0) false) fun id st=>.ok (.slice (some ⟨id,0,none⟩) len len) fr st
def Hw(a:Operand)(_call:bQ)(fr:aT)(st:au):aZ:=
 iD (fr.aj a) (fun p=>bl p (fun a=>st.load a 1 (fun vs=>one vs (fun v=>.ok v fr st) .no) .no) .no) .no
def Hx(n:Nat)(a:Operand)(_call:bQ)(fr:aT)(st:au):aZ:=
 iD (fr.aj a) (fun p=>bl p (fun a=>st.load a n (fun vs=>.ok (.agg ⟨vs⟩) fr st) .no) .no) .no
def Xm(n:Nat)(a:Operand)(x:Operand)(_call:bQ)(fr:aT)(st:au):aZ:=
 iD (fr.aj a) (fun p=>bl p (fun a=>(fun vs=>et (ec vs) n (cond (hH vs) (st.store a vs (fun st=>.ok undef fr st) .no) .no) .no) (ik (fr.aj x))) .no) .no
def MT(x:Operand)(_call:bQ)(fr:aT)(st:au):aZ:=
 iD (fr.aj x) (fun p=>bl p (fun a=>.ok (.pointer (some a)) fr st) .no) (yn (fr.aj x) (fun f a b=>match f with|.func g=>.ok (.func (.func g) a b) fr st|_=>.no) .no)
def MU(name:String)(hv:List (Nat×FuncId))(x:Operand)(_call:bQ)(fr:aT)(st:au):aZ:=
 yn (fr.aj x) (fun f a b=>match f with|.method n=>cond (n==name) (match a.toList with|[.iface t _]=>bl (vK t hv) (fun _=>.ok (.func (.method n) a b) fr st) .no|_=>.no) .no|_=>.no) .no
def MQ(op:BinOp)(x:Operand)(y:Operand)(_call:bQ)(fr:aT)(st:au):aZ:=
 B5 op (fr.aj x) (fr.aj y) fun v=>.ok v fr st
def W2(neg:Bool)(e:o1)(x:Operand)(y:Operand)(_call:bQ)(fr:aT)(st:au):aZ:=
 bl (mD 8 e (fr.aj x) (fr.aj y)) (fun b=>.ok (.bool (cond neg (!b) b)) fr st) .no
def MW(op:UnOp)(x:Operand)(_call:bQ)(fr:aT)(st:au):aZ:=
 zc op (fr.aj x) fun v=>.ok v fr st
def WY(k:IntKind)(x:Operand)(_call:bQ)(fr:aT)(st:au):aZ:=
 gB (fr.aj x) (fun _ n=>hM k (nJ k n) fun v=>.ok v fr st) .no
def WX(x:Operand)(_call:bQ)(fr:aT)(st:au):aZ:=
 jB (fr.aj x) (fun s=>.ok (.string s) fr st) .no
def Hu(x:Operand)(_call:bQ)(fr:aT)(st:au):aZ:=
 ku (fr.aj x) (fun a n _=>bl a (fun a=>st.load a n (fun vs=>bl (bytesOf vs) (fun bW=>.ok (.string ⟨⟨bW⟩⟩) fr st) .no) .no) (.ok (.string ⟨⟨[]⟩⟩) fr st)) .no
def Al(elem:TypeId)(x:Operand)(_call:bQ)(fr:aT)(st:au):aZ:=
 jB (fr.aj x) (fun s=>(fun n=>eo n (2^40) (st.jv (.cells (n9 s.data.toList) elem (0,0) true) fun id st=>.ok (.slice (some ⟨id,0,none⟩) n n) fr st) .no) (ec s.data.toList)) .no
def Xc(t:TypeId)(x:Operand)(_call:bQ)(fr:aT)(st:au):aZ:=
 .ok (.iface t (fr.aj x)) fr st
def Xb(fn:Fn)(first:List Operand)(fl:List Operand)(_call:bQ)(fr:aT)(st:au):aZ:=
 .ok (.func fn ⟨dT fr first⟩ ⟨dT fr fl⟩) fr st
def xO(_call:bQ)(fr:aT)(st:au):aZ:=
 st.jv (.map [] 0) fun id st=>.ok (.map (some id)) fr st
def r3(elem:TypeId)(bytes:Nat)(z:List Value)(len:Operand)(cap:Operand)(_call:bQ)(fr:aT)(st:au):aZ:=
 gB (fr.aj len) (fun _ l=>gB (fr.aj cap) (fun _ c=>hA l (fun l=>hA c (fun c=>eo l c (eo (Nat.mul c (Nat.succ bytes)) (2^40) (st.jv (.cells (my z c) elem (0,0) false) fun id st=>.ok (.slice (some ⟨id,0,none⟩) l c) fr st) .no) .no) .no) .no) .no) .no
def Xl(x:Operand)(bb:Option Operand)(ae:Option Operand)(_call:bQ)(fr:aT)(st:au):aZ:=
 jB (fr.aj x) (fun s=>(fun n=>e5 fr ae n n fun h=>e5 fr bb 0 h fun l=>il s.data.toList l (Nat.sub h l) (fun bW=>.ok (.string ⟨⟨bW⟩⟩) fr st) .no) (ec s.data.toList)) .no
def Am(n:Nat)(a4:Nat)(x:Operand)(bb:Option Operand)(ae:Option Operand)(eU:Option Operand)(_call:bQ)(fr:aT)(st:au):aZ:=
 iD (fr.aj x) (fun p=>bl p (fun a=>st.gL a (fun _ _ _ a8=>cond a8 .no (e5 fr eU n n fun m=>e5 fr ae n m fun h=>e5 fr bb 0 h fun l=>.ok (.slice (some (et m l a (a.add (Nat.mul l a4)))) (Nat.sub h l) (Nat.sub m l)) fr st)) .no) .no) .no
def Xk(a4:Nat)(x:Operand)(bb:Option Operand)(ae:Option Operand)(eU:Option Operand)(_call:bQ)(fr:aT)(st:au):aZ:=
 ku (fr.aj x) (fun b len cap=>bl b (fun a=>st.gL a (fun _ _ _ a8=>cond a8 (bl eU (fun _=>.no) (eo len cap (e5 fr ae len len fun h=>e5 fr bb 0 h fun l=>.ok (.slice (some (a.add (Nat.mul l a4))) (Nat.sub h l) (Nat.sub cap l)) fr st) .no)) (e5 fr eU cap cap fun m=>e5 fr ae len m fun h=>e5 fr bb 0 h fun l=>.ok (.slice (some (et m l a (a.add (Nat.mul l a4)))) (Nat.sub h l) (Nat.sub m l)) fr st)) .no) (e5 fr eU cap cap fun m=>e5 fr ae len m fun h=>e5 fr bb 0 h fun l=>.ok (.slice none (Nat.sub h l) (Nat.sub m l)) fr st)) .no
def W4(off:Nat)(x:Operand)(_call:bQ)(fr:aT)(st:au):aZ:=
 iD (fr.aj x) (fun p=>bl p (fun a=>.ok (.pointer (some (a.add off))) fr st) .no) .no
def W5(off:Nat)(a4:Nat)(agg:Bool)(x:Operand)(_call:bQ)(fr:aT)(st:au):aZ:=
 q2 (fr.aj x) (fun cs=>bl (tr off a4 agg cs.toList) (fun v=>.ok v fr st) .no) .no
def vq(n:Nat)(a4:Nat)(x:Operand)(i:Operand)(_call:bQ)(fr:aT)(st:au):aZ:=
 iD (fr.aj x) (fun p=>bl p (fun a=>gB (fr.aj i) (fun _ j=>hA j (fun j=>eo (Nat.succ j) n (.ok (.pointer (some (a.add (Nat.mul j a4)))) fr st) .no) .no) .no) .no) .no
def W6(a4:Nat)(x:Operand)(i:Operand)(_call:bQ)(fr:aT)(st:au):aZ:=
 ku (fr.aj x) (fun b len _=>bl b (fun a=>gB (fr.aj i) (fun _ j=>hA j (fun j=>eo (Nat.succ j) len (.ok (.pointer (some (a.add (Nat.mul j a4)))) fr st) .no) .no) .no) .no) .no
def W8(x:Operand)(i:Operand)(_call:bQ)(fr:aT)(st:au):aZ:=
 jB (fr.aj x) (fun s=>gB (fr.aj i) (fun _ j=>hA j (fun j=>il s.data.toList j 1 (fun bW=>one bW (fun b=>.ok (.int .u8 (.ofNat b.toNat)) fr st) .no) .no) .no) .no) .no
def W7(n:Nat)(a4:Nat)(agg:Bool)(x:Operand)(i:Operand)(_call:bQ)(fr:aT)(st:au):aZ:=
 q2 (fr.aj x) (fun cs=>gB (fr.aj i) (fun _ j=>hA j (fun j=>eo (Nat.succ j) n (bl (tr (Nat.mul j a4) a4 agg cs.toList) (fun v=>.ok v fr st) .no) .no) .no) .no) .no
def MV(t:TypeId)(zero:Value)(ok:Bool)(x:Operand)(_call:bQ)(fr:aT)(st:au):aZ:=
 si (fr.aj x) (fun u v=>et u t (.ok (cond ok (.tuple #[v,.bool true]) v) fr st) (cond ok (.ok (.tuple #[zero,.bool false]) fr st) .no)) (match fr.aj x with|.nilIface=>cond ok (.ok (.tuple #[zero,.bool false]) fr st) .no|_=>.no)
def W3(x:Operand)(i:Nat)(_call:bQ)(fr:aT)(st:au):aZ:=
 qb (fr.aj x) (fun vs=>il vs.toList i 1 (fun l=>one l (fun v=>.ok v fr st) .no) .no) .no
def aou(f:Operand)(args:List Operand)(call:bQ)(fr:aT)(st:au):aZ:=
 dJ.rec (motive:=fun _=>aZ) (fun v st _=>.ok v fr st) (fun v st _=>.bk v st) .no (call (fr.aj f) (dT fr args) none st)
def aoA(hv:List (Nat×FuncId))(x:Operand)(args:List Operand)(call:bQ)(fr:aT)(st:au):aZ:=
 si (fr.aj x) (fun t v=>bl (vK t hv) (fun g=>dJ.rec (motive:=fun _=>aZ) (fun v st _=>.ok v fr st) (fun v st _=>.bk v st) .no (call (.func (.func g) #[] #[]) (v::dT fr args) none st)) .no) .no
def W9(x:Operand)(_call:bQ)(fr:aT)(st:au):aZ:=
 ku (fr.aj x) (fun _ n _=>.ok (.int .i64 (.ofNat n)) fr st) .no
def Xa(x:Operand)(_call:bQ)(fr:aT)(st:au):aZ:=
 jB (fr.aj x) (fun s=>ga (ec s.data.toList) fun n=>.ok (.int .i64 (.ofNat n)) fr st) .no
def MS(n:Nat)(_call:bQ)(fr:aT)(st:au):aZ:=
 .ok (.int .i64 (.ofNat n)) fr st
def aoB(_x:Operand)(_call:bQ)(_fr:aT)(_st:au):aZ:=
 .no
def WW(elem:TypeId)(a4:Nat)(bytes:Nat)(s:Operand)(x:Operand)(_call:bQ)(fr:aT)(st:au):aZ:=
 ku (fr.aj s) (fun base len cap=>ku (fr.aj x) (fun b n _=>bl b (fun b=>st.load b (Nat.mul n a4) (fun new=>cond (hH new) (kZ fr st elem a4 bytes base len cap n new) .no) .no) (et n 0 (kZ fr st elem a4 bytes base len cap 0 []) .no)) (jB (fr.aj x) (fun s=>et a4 1 (kZ fr st elem a4 bytes base len cap (ec s.data.toList) (n9 s.data.toList)) .no) .no)) .no
def Xf(x:Operand)(xs:List Operand)(_call:bQ)(fr:aT)(st:au):aZ:=
 gB (fr.aj x) (fun k n=>bl (Dj k fr xs n) (fun m=>hM k m fun v=>.ok v fr st) .no) .no
def Xd(x:Operand)(xs:List Operand)(_call:bQ)(fr:aT)(st:au):aZ:=
 gB (fr.aj x) (fun k n=>bl (Dk k fr xs n) (fun m=>hM k m fun v=>.ok v fr st) .no) .no
def W0(a4:Nat)(d:Operand)(s:Operand)(_call:bQ)(fr:aT)(st:au):aZ:=
 ku (fr.aj d) (fun a dl _=>ku (fr.aj s) (fun b a6 _=>bl a (fun a=>bl b (fun b=>(fun n=>st.load b (Nat.mul n a4) (fun vs=>cond (hH vs) (st.store a vs (fun st=>.ok (.int .i64 (.ofNat n)) fr st) .no) .no) .no) (eo a6 dl a6 dl)) (et a6 0 (.ok (.int .i64 0) fr st) .no)) (et dl 0 (.ok (.int .i64 0) fr st) .no)) .no) .no
def aoH(_call:bQ)(fr:aT)(st:au):aZ:=
 bl fr.b4 (fun _=>.no) (bl fr.bk (fun v=>cond fr.cF (.ok .nilIface fr st) (.ok v ⟨fr.t,fr.c4,fr.bk,true,fr.b4⟩ st)) (.ok .nilIface fr st))
def aow(f:Operand)(args:List Operand)(_call:bQ)(fr:aT)(st:au):aZ:=
 bl fr.b4 (fun _=>.no) (yn (fr.aj f) (fun fn first fl=>match fn with|.func g=>.ok undef ⟨fr.t,{target:=.fn (.func g) fl,args:=⟨fZ first.toList (dT fr args)⟩}::fr.c4,fr.bk,fr.cF,fr.b4⟩ st|_=>.no) .no)
def aoG(x:Operand)(_call:bQ)(fr:aT)(st:au):aZ:=
 si (fr.aj x) (fun t v=>.bk (.iface t v) st) .no
def WZ(x:Operand)(_call:bQ)(fr:aT)(st:au):aZ:=
 iD (fr.aj x) (fun p=>bl p (fun a=>st.gL a (fun cs _ _ _=>eo (Nat.succ a.off) (ec cs) (.ok (.pointer (some a)) fr st) .no) .no) .no) .no
def W1(elem:Nat)(n:Nat)(x:Operand)(_call:bQ)(fr:aT)(st:au):aZ:=
 iD (fr.aj x) (fun p=>bl p (fun a=>st.gL a (fun cs el _ a8=>cond a8 .no (et a.off 0 (et el elem (et (ec cs) n (.ok (.pointer (some a)) fr st) .no) .no) .no)) .no) .no) .no
def Xj(x:Operand)(_call:bQ)(fr:aT)(st:au):aZ:=
 ku (fr.aj x) (fun b _ c=>bl b (fun a=>et c 0 .no (.ok (.pointer (some a)) fr st)) (.ok (.pointer none) fr st)) .no
def Xn(elem:TypeId)(x:Operand)(n:Operand)(_call:bQ)(fr:aT)(st:au):aZ:=
 iD (fr.aj x) (fun p=>gB (fr.aj n) (fun _ n=>hA n (fun n=>et n 0 (.ok (.string ⟨⟨[]⟩⟩) fr st) (bl p (fun a=>eo n (2^40) (st.gL a (fun cs el bn a8=>eo bn.2 bn.1 (et el elem (il cs a.off n (fun vs=>bl (bytesOf vs) (fun bW=>st.g9 a.block (.cells cs el (a.off,Nat.add a.off n) a8) fun st=>.ok (.string ⟨⟨bW⟩⟩) fr st) .no) .no) .no) .no) .no) .no) .no)) .no) .no) .no
def Hv(s:Operand)(c:Operand)(_call:bQ)(fr:aT)(st:au):aZ:=
 jB (fr.aj s) (fun s=>gB (fr.aj c) (fun k c=>cond (jM k .u8) (hA c (fun c=>.ok (.int .i64 (bl (pO (UInt8.ofNat c) s.data.toList) (fun i=>.ofNat i) (.negSucc 0))) fr st) .no) .no) .no) .no
def Xg(x:Operand)(_call:bQ)(fr:aT)(st:au):aZ:=
 .ok (fr.aj x) fr st
def aox(y:ue)(_call:bQ)(fr:aT)(st:au):aZ:=
 po fr st y
def aoI(_call:bQ)(_fr:aT)(_st:au):aZ:=
 .no
def b2(call:bQ)(o:dd)(fr:aT)(st:au):aZ:=
 dd.rec (motive:=fun _=>bQ->aT->au->aZ) Xe Xh xN Aj MR Ak Hw Hx Xm MT MU MQ W2 MW WY WX Hu Al Xc Xb xO r3 Xl Am Xk W4 W5 vq W6 W8 W7 MV W3 aou aoA W9 Xa MS aoB WW Xf Xd W0 aoH aow aoG WZ W1 Xj Xn Hv Xg aox aoI o call fr st
inductive cY where
 |out (e:dF) (fr:aT) (st:au)
 |no
def hY{β:Type}(fr:aT)(g:Option (Tmp×Bool))(yes hs z:β):β:=
 bl g (fun p=>mT (fr.tmp p.1) (fun b=>cond b (cond p.2 yes hs) (cond p.2 hs yes)) (qb (fr.tmp p.1) (fun _=>hs) z)) yes
def dd.m0:dd->Bool
 |.call _ _|.inv _ _ _|.qQ _=>true
 |_=>false
def iJ(call:bQ)(ops:List bL):aT->au->cY:=
 List.rec (motive:=fun _=>aT->au->cY) (fun fr st=>.out .norm fr st)
  (fun x _ a0 fr st=>
   hY fr x.g
    (aZ.rec (motive:=fun _=>cY) (fun v fr st=>a0 (fr.put x.d v) st) (fun v st=>cond x.o.m0 (.out (.bk v) fr st) .no) .no (b2 call x.o fr st))
    (a0 (fr.put x.d undef) st) .no) ops
def sameAt(call:bQ)(o:dd)(fr:aT)(v:Value)(ai:Nat)(n:Nat):List (ao bw)->Bool:=
 Nat.rec (motive:=fun _=>List (ao bw)->Bool) (fun _=>true)
  (fun _ a0 ah=>List.rec (motive:=fun _=>Bool) false
   (fun h ah _=>aZ.rec (motive:=fun _=>Bool) (fun v' _ _=>cond (dD v v') (a0 ah) false) (fun _ _=>false) false (b2 call o fr ⟨h,ai⟩)) ah) n
def n0{β:Type}(t:ao Value)(ts:List Tmp)(k:ao Value->β):β:=
 List.rec (motive:=fun _=>ao Value->β) (fun m=>k m) (fun x _ a0 m=>bl (t.get x) (fun v=>ao.e9 (Nat.succ x) m x v a0) (a0 m)) ts .nil
def oT(fr:aT)(ts:List Tmp):aT:=
 List.rec (motive:=fun _=>aT->aT) (fun fr=>fr) (fun t _ a0 fr=>a0 (fr.put (some t) ib)) ts fr
def GU{α β:Type}(xs:List α)(a b:β):β:=List.rec (motive:=fun _=>β) a (fun _ _ _=>b) xs
def hR(call:bQ)(ops:List (bL×cL)):List (ao bw)->aT->au->cY:=
 List.rec (motive:=fun _=>List (ao bw)->aT->au->cY) (fun _ fr st=>.out .norm fr st)
  (fun x xs a0 yj fr st=>
   cL.rec (motive:=fun _=>cY)
    (hY fr x.1.g
     (aZ.rec (motive:=fun _=>cY) (fun v aI st'=>eo st.ai st'.ai (a0 (st'.h::yj) (aT.put ⟨fr.t,aI.c4,aI.bk,aI.cF,aI.b4⟩ x.1.d v) st') .no) (fun v st'=>cond x.1.o.m0 (GU xs (.out (.bk v) fr st') .no) .no) .no (b2 call x.1.o fr st))
     (a0 (st.h::yj) (fr.put x.1.d undef) st) .no)
    (fun ts=>n0 fr.t ts fun t=>hY ⟨t,[],none,false,none⟩ x.1.g
     (aZ.rec (motive:=fun _=>cY) (fun v _ st'=>a0 yj (fr.put x.1.d v) st') (fun _ _=>.no) .no (b2 call x.1.o ⟨t,[],none,false,none⟩ st))
     (a0 yj (fr.put x.1.d undef) st) .no)
    (fun back ts=>n0 fr.t ts fun t=>hY ⟨t,[],none,false,none⟩ x.1.g
     (aZ.rec (motive:=fun _=>cY) (fun v _ _=>cond (sameAt call x.1.o ⟨t,[],none,false,none⟩ v st.ai (Nat.succ back) yj) (a0 yj (fr.put x.1.d v) st) .no) (fun _ _=>.no) .no (b2 call x.1.o ⟨t,[],none,false,none⟩ st))
     (a0 yj (fr.put x.1.d undef) st) .no)
    x.2) ops
def l3{β:Type}(o:Option bw)(k:LoopState->Option dF->FuncId->ao Value->List Tmp->dy->dy->Nat->β)(z:β):β:=
 bl o (fun o=>bw.rec (motive:=fun _=>β) (fun _ _ _ _=>z) (fun _ _=>z) (fun _ _=>z) (fun _ _ _ _=>z) k (fun _=>z) z o) z
def oY(r:cY)(k:aT->au->cY):cY:=
 cY.rec (motive:=fun _=>cY) (fun e fr st=>dF.rec (motive:=fun _=>cY) (k fr st) (fun i=>.out (.exit i) fr st) (.out .ret fr st) (fun v=>.out (.bk v) fr st) e) .no r
def EZ(id:Nat)(r:cY):cY:=
 cY.rec (motive:=fun _=>cY) (fun e fr st=>dF.rec (motive:=fun _=>cY) (.out .norm fr st) (fun i=>et i id (.out .norm fr st) (.out (.exit i) fr st)) (.out .ret fr st) (fun v=>.out (.bk v) fr st) e) .no r
def Qw(v:Value)(a b:cY):cY:=mT v (fun t=>cond t a b) .no
def IJ(l:Nat)(aI:aT)(r:dJ):cY:=
 dJ.rec (motive:=fun _=>cY)
  (fun _ st _=>l3 (st.h.get l) (fun s fW qt t ps a b d=>
   LoopState.rec (motive:=fun _=>cY)
    (st.g9 l (.loop .exhausted fW qt t ps a b d) fun st=>bl fW (fun e=>.out e aI st) (.out .norm aI st))
    .no
    (st.g9 l (.loop .exhausted fW qt t ps a b d) fun st=>bl fW (fun e=>.out e aI st) (.out .norm aI st))
    .no s) .no)
  (fun v st _=>.out (.bk v) aI st) .no r
def B6(call:bQ)(fn:FuncId)(f:Operand)(params:List Tmp)(assign body:dy)(fr:aT)(st:au):cY:=
 bl fr.b4 (fun _=>.no)
  (st.jv (.iI (some [])) fun r st=>
   st.jv (.loop .ready none fn fr.t params assign body r) fun l st=>
   IJ l ⟨fr.t,{target:=.collected r,args:= #[]}::fr.c4,fr.bk,fr.cF,fr.b4⟩ (call (fr.aj f) [.func (.yield l) #[] #[]] none st))
def dA(call:bQ)(cd:Nat)(fn:FuncId)(c:dy):aT->au->cY:=
 dy.rec (motive:=fun _=>aT->au->cY)
  (fun fr st=>.out .norm fr st)
  (fun ops=>iJ call ops)
  (fun ops _ dZ _ fr st=>hR call ops [st.h] (oT fr dZ) st)
  (fun _ _ BZ oy fr st=>oY (BZ fr st) oy)
  (fun c _ _ BZ oy fr st=>Qw (fr.aj c) (BZ fr st) (oy fr st))
  (fun id _ e fr st=>EZ id (e fr st))
  (fun _ e fr st=>
   Nat.rec (motive:=fun _=>aT->au->cY) (fun _ _=>.no)
    (fun _ a0 fr st=>oY (e fr st) a0) cd fr st)
  (fun f params assign body _ _=>B6 call fn f params assign body)
  (fun id fr st=>.out (.exit id) fr st)
  (fun _ e=>e)
  (fun fr st=>.out .ret fr st)
  (fun _ _=>.no) c
def nO(vs:List Value):Nat->ao Value->ao Value:=
 List.rec (motive:=fun _=>Nat->ao Value->ao Value) (fun _ t=>t) (fun v _ a0 i t=>ao.e9 (Nat.succ i) t i v fun t=>a0 (Nat.succ i) t) vs
def nt(ts:List Tmp):List Value->ao Value->ao Value:=
 List.rec (motive:=fun _=>List Value->ao Value->ao Value) (fun _ m=>m)
  (fun t _ a0 vs m=>List.rec (motive:=fun _=>ao Value) m (fun v vs _=>ao.e9 (Nat.succ t) m t v fun m=>a0 vs m) vs) ts
def qq(fr:aT)(st:au)(rs:List ig):Option (List Value):=
 List.rec (motive:=fun _=>Option (List Value)) (some [])
  (fun r _ a0=>bl a0 (fun vs=>
   ig.rec (motive:=fun _=>Option (List Value)) (fun t=>some (fr.tmp t::vs))
    (fun a agg n=>iD (fr.tmp a) (fun p=>bl p (fun ad=>st.load ad n (fun cs=>cond agg (some (.agg ⟨cs⟩::vs)) (one cs (fun v=>some (v::vs)) none)) none) none) none) r) none) rs
def jV(call:bQ):List Deferred->Option Value->au->Option (Option Value×au)
 |[],m,st=>some (m,st)
 |{target:=.collected r,.. }::ds,m,st=>
  match st.h.get r with
  |some (.iI (some []))=>st.g9 r (.iI none) fun st=>jV call ds m st
  |_=>none
 |{target:=.fn (.func g) fl,args}::ds,m,st=>
  match call (.func (.func g) #[] fl) args.toList m st with
  |.ret _ st ew=>
   match m,ew with
   |some _,true=>jV call ds none st
   |_,_=>jV call ds m st
  |.bk v st _=>
   match m with
   |none=>jV call ds (some v) st
   |some _=>none
  |.no=>none
 |_::_,_,_=>none
abbrev nL:=FuncId->List Value->au->Option dJ
def nQ(call:bQ)(res:List ig)(m:Option Value)(fr:aT)(st:au):dJ:=
 bl (jV call fr.c4 m st)
  (fun p=>bl p.1 (fun v=>.bk v p.2 fr.cF)
   (bl (qq fr p.2 res) (fun vs=>one vs (fun v=>.ret v p.2 fr.cF) (.ret (.tuple ⟨vs⟩) p.2 fr.cF)) .no)) .no
def pc(call:bQ)(n:Nat)(f:FuncId)(xf:df)(as:List Value)(bk:Option Value)(st:au):dJ:=
 eo (ec as) xf.aS
  (cY.rec (motive:=fun _=>dJ)
   (fun e fr st=>dF.rec (motive:=fun _=>dJ) (nQ call xf.res none fr st) (fun _=>.no) (nQ call xf.res none fr st) (fun v=>nQ call xf.res (some v) fr st) e)
   .no (dA call n f xf.body ⟨nO as 0 .nil,[],bk,false,none⟩ st)) .no
def p5(l:Nat)(r:cY):dJ:=
 cY.rec (motive:=fun _=>dJ)
  (fun e fr st=>
   List.rec (motive:=fun _=>dJ)
    (dF.rec (motive:=fun _=>dJ)
     (l3 (st.h.get l) (fun _ _ fn t ps a b d=>st.g9 l (.loop .ready none fn t ps a b d) fun st=>.ret (.bool true) st false) .no)
     (fun i=>l3 (st.h.get l) (fun _ _ fn t ps a b d=>st.g9 l (.loop .done (some (.exit i)) fn t ps a b d) fun st=>.ret (.bool false) st false) .no)
     (l3 (st.h.get l) (fun _ _ fn t ps a b d=>st.g9 l (.loop .done (some .ret) fn t ps a b d) fun st=>.ret (.bool false) st false) .no)
     (fun v=>.bk v st false) e)
    (fun _ _ _=>.no) fr.c4)
  .no r
def AJ(call:bQ)(n:Nat)(l:Nat)(f:FuncId)(body:dy)(fr:aT)(st:au):dJ:=
 l3 (st.h.get l) (fun s fW fn t ps a b d=>
  LoopState.rec (motive:=fun _=>dJ)
   (st.g9 l (.loop .busy fW fn t ps a b d) fun st=>p5 l (dA call n f body fr st))
   .no .no .no s) .no
def yw(call:bQ)(n:Nat)(l:Nat)(args:List Value)(st:au):dJ:=
 l3 (st.h.get l) (fun _ _ fn t ps du body _=>
  et (ec args) (ec ps)
   (cY.rec (motive:=fun _=>dJ)
    (fun e fr st=>dF.rec (motive:=fun _=>dJ) (AJ call n l fn body fr st) (fun _=>.no) .no (fun _=>.no) e) .no
    (dA call n fn du ⟨nt ps args t,[],none,false,some l⟩ st)) .no) .no
def cC(aW:ao df)(gg:nL)(fuel:Nat):bQ:=
 Nat.rec (motive:=fun _=>bQ) (fun _ _ _ _=>.no)
  (fun n a0 j6 args bk st=>
   yn j6 (fun fn first fl=>
    Fn.rec (motive:=fun _=>dJ)
     (fun f=>(fun as=>bl bk (fun _=>bl (aW.get f) (fun xf=>pc a0 n f xf as bk st) .no) (bl (gg f as st) (fun r=>r) (bl (aW.get f) (fun xf=>pc a0 n f xf as bk st) .no))) (fZ first.toList (fZ args fl.toList)))
     (fun _=>.no) (fun _ _=>.no) (fun _ _ _ _=>.no)
     (fun l=>List.rec (motive:=fun _=>dJ) (List.rec (motive:=fun _=>dJ) (bl bk (fun _=>.no) (yw a0 n l args st)) (fun _ _ _=>.no) fl.toList) (fun _ _ _=>.no) first.toList)
     fn) .no) fuel
end Go.an
namespace Go.an
namespace ao
variable{α β:Type}
@[simp] theorem get_nil (n:Nat):(ao.nil:ao α).get n=none:=rfl
theorem wH(l r:ao α)(v:Option α):(ao.node l v r).get 0=v:=rfl
theorem He{β:Sort _}(m:Nat)(a b:β):Nat.rec (motive:=fun _=>β) a (fun _ _=>b) (Nat.mod m 2)=if m%2=0 then a else b:=by
 show Nat.rec (motive:=fun _=>β) a (fun _ _=>b) (m%2)=_;rcases Nat.mod_two_eq_zero_or_one m with h|h
 ·rw[h];rfl
 ·rw[h];rfl
theorem pv(l r:ao α)(v:Option α)(m:Nat):(ao.node l v r).get (m+1)=if m%2=0 then l.get (m/2)else r.get (m/2):=
 He m (l.get (m/2)) (r.get (m/2))
theorem aqz(f:Nat)(x:α)(k:ao α->β):e9 (f+1) .nil 0 x k=k (.node .nil (some x) .nil):=rfl
theorem IN(f m:Nat)(x:α)(k:ao α->β):e9 (f+1) .nil (m+1) x k=if m%2=0 then e9 f .nil (m/2) x (fun l'=>k (.node l' none .nil))else e9 f .nil (m/2) x (fun dH=>k (.node .nil none dH)):=He m _ _
theorem aqA(f:Nat)(l r:ao α)(v:Option α)(x:α)(k:ao α->β):e9 (f+1) (.node l v r) 0 x k=k (.node l (some x) r):=rfl
theorem IP(f m:Nat)(l r:ao α)(v:Option α)(x:α)(k:ao α->β):e9 (f+1) (.node l v r) (m+1) x k=if m%2=0 then e9 f l (m/2) x (fun l'=>k (.node l' v r))else e9 f r (m/2) x (fun dH=>k (.node l v dH)):=He m _ _
theorem mj{α:Type}:∀(f:Nat) (β:Type) (t:ao α) (n:Nat) (x:α) (k:ao α->β),e9 f t n x k=k (e9 f t n x id)
 |0,_,_,_,_,_=>rfl
 |f+1,β,t,n,x,k=>by
  cases t with
  |nil=>
   cases n with
   |zero=>rfl
   |succ m=>
    rw[IN,IN];split
    ·rw[mj f _ .nil (m/2) x (fun l'=>k (ao.node l' none ao.nil)),mj f _ .nil (m/2) x (fun l'=>id (ao.node l' none ao.nil))];rfl
    ·rw[mj f _ .nil (m/2) x (fun dH=>k (ao.node ao.nil none dH)),mj f _ .nil (m/2) x (fun dH=>id (ao.node ao.nil none dH))];rfl
  |node l v r=>
   cases n with
   |zero=>rfl
   |succ m=>
    rw[IP,IP];split
    ·rw[mj f _ l (m/2) x (fun l'=>k (ao.node l' v r)),mj f _ l (m/2) x (fun l'=>id (ao.node l' v r))];rfl
    ·rw[mj f _ r (m/2) x (fun dH=>k (ao.node l v dH)),mj f _ r (m/2) x (fun dH=>id (ao.node l v dH))];rfl
theorem yf(t:ao α)(n:Nat)(x:α)(k:ao α->β):e9 (Nat.succ n) t n x k=k (t.set n x):=mj _ _ t n x k
theorem an3(v:Option α)(r l:ao α):WB v r l= .node l v r:=by cases l<;>rfl
theorem an4(v:Option α)(l r:ao α):WC l v r= .node l v r:=by cases r<;>rfl
theorem qs(t:ao α)(k:ao α->β):fin t k=k t:=by cases t<;>rfl
theorem XN(a0:ao α->Nat->α->ao α)(l r:ao α)(v:Option α)(m:Nat)(x:α):
 HG a0 l v r m x=if m%2=0 then .node (a0 l (m/2) x) v r else .node l v (a0 r (m/2) x):=by
 rw[<-an3,<-an4];exact He m _ _
theorem HH:∀(f:Nat) (t:ao α) (n:Nat) (x:α),kd f t n x=e9 f t n x id
 |0,_,_,_=>rfl
 |f+1,t,n,x=>by
  cases t with
  |nil=>
   cases n with
   |zero=>rfl
   |succ m=>
    rw[IN];show HG (kd f) .nil none .nil m x=_;rw[XN,HH f];split
    ·rw[mj f _ .nil (m/2) x (fun l'=>id (ao.node l' none ao.nil))];rfl
    ·rw[mj f _ .nil (m/2) x (fun dH=>id (ao.node ao.nil none dH))];rfl
  |node l v r=>
   cases n with
   |zero=>rfl
   |succ m=>
    rw[IP];show HG (kd f) l v r m x=_;rw[XN,HH f,HH f];split
    ·rw[mj f _ l (m/2) x (fun l'=>id (ao.node l' v r))];rfl
    ·rw[mj f _ r (m/2) x (fun dH=>id (ao.node l v dH))];rfl
theorem vu(t:ao α)(n:Nat)(x:α):kd (Nat.succ n) t n x=t.set n x:=HH _ t n x
theorem FT:∀(f:Nat) (t:ao α) (n:Nat) (x:α) (j:Nat),n<f->(e9 f t n x id).get j=if j=n then some x else t.get j
 |0,_,_,_,_,h=>by omega
 |f+1,t,n,x,j,h=>by
  cases t with
  |nil=>
   cases n with
   |zero=>
    cases j with
    |zero=>rfl
    |succ j=>rw[aqz];show(ao.node .nil (some x) .nil:ao α).get (j+1)=_;rw[pv];simp
   |succ m=>
    have a0:=fun i=>FT f (.nil:ao α) (m/2) x i (by omega);rw[IN];split
    ·rename_i hm;rw[mj f _ .nil (m/2) x (fun l'=>id (ao.node l' none ao.nil))];show(ao.node _ none .nil:ao α).get j=_;cases j with
     |zero=>rw[wH];simp
     |succ j=>
      rw[pv];by_cases hj:j%2=0
      ·rw[if_pos hj,a0];by_cases e:j=m
       ·subst e;simp
       ·rw[if_neg (by omega),if_neg (by omega)];simp
      ·rw[if_neg hj,if_neg (by omega)];simp
    ·rename_i hm;rw[mj f _ .nil (m/2) x (fun dH=>id (ao.node ao.nil none dH))];show(ao.node .nil none _:ao α).get j=_;cases j with
     |zero=>rw[wH];simp
     |succ j=>
      rw[pv];by_cases hj:j%2=0
      ·rw[if_pos hj,if_neg (by omega)];simp
      ·rw[if_neg hj,a0];by_cases e:j=m
       ·subst e;simp
       ·rw[if_neg (by omega),if_neg (by omega)];simp
  |node l v r=>
   cases n with
   |zero=>
    cases j with
    |zero=>rfl
    |succ j=>rw[aqA];show(ao.node l (some x) r:ao α).get (j+1)=_;rw[pv,pv,if_neg (by omega:¬(j+1=0))]
   |succ m=>
    rw[IP];split
    ·rename_i hm;have a0:=fun i=>FT f l (m/2) x i (by omega);rw[mj f _ l (m/2) x (fun l'=>id (ao.node l' v r))];show(ao.node _ v r:ao α).get j=_;cases j with
     |zero=>rw[wH,if_neg (by omega)];rfl
     |succ j=>
      rw[pv,pv];by_cases hj:j%2=0
      ·rw[if_pos hj,if_pos hj,a0];by_cases e:j=m
       ·subst e;simp
       ·rw[if_neg (by omega),if_neg (by omega)]
      ·rw[if_neg hj,if_neg hj,if_neg (by omega)]
    ·rename_i hm;have a0:=fun i=>FT f r (m/2) x i (by omega);rw[mj f _ r (m/2) x (fun dH=>id (ao.node l v dH))];show(ao.node l v _:ao α).get j=_;cases j with
     |zero=>rw[wH,if_neg (by omega)];rfl
     |succ j=>
      rw[pv,pv];by_cases hj:j%2=0
      ·rw[if_pos hj,if_pos hj,if_neg (by omega)]
      ·rw[if_neg hj,if_neg hj,a0];by_cases e:j=m
       ·subst e;simp
       ·rw[if_neg (by omega),if_neg (by omega)]
theorem ey(t:ao α)(n:Nat)(x:α)(j:Nat):(t.set n x).get j=if j=n then some x else t.get j:=
 FT (n+1) t n x j (by omega)
@[simp] theorem pw (t:ao α) (n:Nat) (x:α):(t.set n x).get n=some x:=by rw[ey,if_pos rfl]
theorem h6(t:ao α){n j:Nat}(x:α)(h:j≠n):(t.set n x).get j=t.get j:=by rw[ey,if_neg h]
end ao
theorem Nb(fr:aT)(d:Tmp)(v:Value):fr.put (some d) v=⟨fr.t.set d v,fr.c4,fr.bk,fr.cF,fr.b4⟩:=by
 show aT.Wj (ao.kd (Nat.succ d) fr.t d v) fr.c4 fr.bk fr.cF fr.b4=_;rw[ao.vu];cases fr.t.set d v<;>rfl
theorem sd(fr:aT)(d:Option Tmp)(v:Value)(j:Nat):(fr.put d v).tmp j=if d=some j then v else fr.tmp j:=by
 cases d with
 |none=>simp[aT.put]
 |some d=>
  rw[Nb];simp only[aT.tmp,ao.ey,Option.some.injEq];by_cases h:j=d
  ·subst h;simp
  ·rw[if_neg h,if_neg (fun e=>h e.symm)]
theorem vv(fr:aT)(d:Option Tmp)(v:Value):(fr.put d v).c4=fr.c4∧(fr.put d v).bk=fr.bk∧(fr.put d v).cF=fr.cF∧(fr.put d v).b4=fr.b4:=by
 cases d with
 |none=>simp[aT.put]
 |some d=>rw[Nb];exact⟨rfl,rfl,rfl,rfl⟩
structure Loc where
 cJ:Nat
 cR:Nat
 ex:Nat
 cj:Nat->Nat
def im:Nat->Nat:=fun _=>0
theorem LQ:(id:Nat->Nat)≠im:=fun h=>by have:=congrFun h 1;simp[im]at this
abbrev bA:=Nat->Option Loc
def bA.le(ι aV:bA):Prop:=∀i l,ι i=some l->aV i=some l
theorem bA.le.refl(ι:bA):ι.le ι:=fun _ _ h=>h
theorem bA.le.trans{ι aV fc:bA}(h:ι.le aV)(aB:aV.le fc):ι.le fc:=fun i l ae=>aB i l (h i l ae)
def yB(ι:bA)(f g:Fn):Prop:=(f=g∧∀l,f≠.yield l)∨∃l b,f= .yield l∧g= .yield b∧ι l=some ⟨b,0,0,id⟩
def Oh(c:Nat)(m:Int):Prop:=c=1∨(∃k:Nat,c=2*k+2∧(k:Int)<=m)∨∃k:Nat,c=2*k+3∧m<k
inductive bq(ι:bA):Value->Value->Prop
 |bool (b:Bool):bq ι (.bool b) (.bool b)
 |int (k:IntKind) (n:Int):bq ι (.int k n) (.int k n)
 |float (k:FloatKind) (b:Nat):bq ι (.float k b) (.float k b)
 |string (s:ByteArray):bq ι (.string s) (.string s)
 |ns:bq ι (.pointer none) (.pointer none)
 |ptr (a:Addr) (l:Loc) (h:ι a.block=some l) (ah:a.spot=none):bq ι (.pointer (some a)) (.pointer (some ⟨l.cJ,l.cR+a.off,none⟩))
 |nD (n c:Nat):bq ι (.slice none n c) (.slice none n c)
 |gH (a:Addr) (l:Loc) (o n c:Nat) (h:ι a.block=some l) (ah:a.spot=none) (ak:o=l.cR+a.off∨(n=0∧c=0∧l.ex=0)):
  bq ι (.slice (some a) n c) (.slice (some ⟨l.cJ,o,none⟩) n (c+l.ex))
 |pV:bq ι (.map none) (.map none)
 |map (r b:Nat) (cj:Nat->Nat) (h:ι r=some ⟨b,0,0,cj⟩):bq ι (.map (some r)) (.map (some b))
 |func (f g:Fn) (xs aq us vs:Array Value) (ab:yB ι f g) (h1:xs.size=aq.size) (h2:∀i (h:i<xs.size) (aB:i<aq.size),bq ι xs[i] aq[i])
  (h3:us.size=vs.size) (ay:∀i (h:i<us.size) (aB:i<vs.size),bq ι us[i] vs[i]):bq ι (.func f xs us) (.func g aq vs)
 |nilFunc:bq ι .nilFunc .nilFunc
 |iface (t:TypeId) (v w:Value) (h:bq ι v w):bq ι (.iface t v) (.iface t w)
 |nilIface:bq ι .nilIface .nilIface
 |agg (xs aq:Array Value) (h1:xs.size=aq.size) (h2:∀i (h:i<xs.size) (aB:i<aq.size),bq ι xs[i] aq[i]):bq ι (.agg xs) (.agg aq)
 |tuple (xs aq:Array Value) (h1:xs.size=aq.size) (h2:∀i (h:i<xs.size) (aB:i<aq.size),bq ι xs[i] aq[i]):bq ι (.tuple xs) (.tuple aq)
 |iC (c:Nat) (m:Int) (h:Oh c m):bq ι (.chan (some c)) (.int .i64 m)
 |top (c:Value):bq ι ib c
theorem yB.mono{ι aV:bA}(hle:ι.le aV){f g:Fn}(h:yB ι f g):yB aV f g:=by
 rcases h with h|⟨l,b,h1,h2,h3⟩
 ·exact .inl h
 ·exact .inr ⟨l,b,h1,h2,hle _ _ h3⟩
theorem bq.mono{ι aV:bA}(hle:ι.le aV){v w:Value}(h:bq ι v w):bq aV v w:=by
 induction h with
 |bool b=>exact .bool b
 |int k n=>exact .int k n
 |float k n=>exact .float k n
 |string s=>exact .string s
 |ns=>exact .ns
 |ptr a l h ah=>exact .ptr a l (hle _ _ h) ah
 |nD n c=>exact .nD n c
 |gH a l o n c h ah ak=>exact .gH a l o n c (hle _ _ h) ah ak
 |pV=>exact .pV
 |map r b cj h=>exact .map r b cj (hle _ _ h)
 |func f g xs aq us vs ab h1 _ h3 _ nm xo=>exact .func f g xs aq us vs (ab.mono hle) h1 nm h3 xo
 |nilFunc=>exact .nilFunc
 |iface t v w _ a0=>exact .iface t v w a0
 |nilIface=>exact .nilIface
 |agg xs aq h1 _ a0=>exact .agg xs aq h1 a0
 |tuple xs aq h1 _ a0=>exact .tuple xs aq h1 a0
 |iC c m h=>exact .iC c m h
 |top c=>exact .top c
def bN(ι:bA)(xs aq:List Value):Prop:=xs.length=aq.length∧∀(i:Nat) (h:i<xs.length) (aB:i<aq.length),bq ι xs[i] aq[i]
theorem bN.mono{ι aV:bA}(hle:ι.le aV){xs aq:List Value}(h:bN ι xs aq):bN aV xs aq:=⟨h.1,fun i a b=>(h.2 i a b).mono hle⟩
theorem bN.nil(ι:bA):bN ι [] []:=⟨rfl,fun i h=>by simp at h⟩
theorem bN.cons{ι:bA}{x y:Value}{xs aq:List Value}(h:bq ι x y)(ah:bN ι xs aq):bN ι (x::xs) (y::aq):=by
 refine⟨by simp[ah.1],fun i a b=> ?_⟩;cases i with
 |zero=>exact h
 |succ i=>exact ah.2 i (by simpa using a) (by simpa using b)
theorem bN.cons_inv{ι:bA}{x:Value}{xs aq:List Value}(h:bN ι (x::xs) aq):∃y iW,aq=y::iW∧bq ι x y∧bN ι xs iW:=by
 cases aq with
 |nil=>have:=h.1;simp at this
 |cons y iW=>
  refine⟨y,iW,rfl,h.2 0 (by simp) (by simp),by simpa using h.1,fun i a b=> ?_⟩;exact h.2 (i+1) (by simpa using a) (by simpa using b)
theorem bN.vj{ι:bA}{aq:List Value}(h:bN ι [] aq):aq=[]:=by
 cases aq with
 |nil=>rfl
 |cons y aq=>have:=h.1;simp at this
theorem bN.append{ι:bA}:∀{xs aq us vs:List Value},bN ι xs aq->bN ι us vs->bN ι (xs++us) (aq++vs)
 |[],aq,us,vs,h,aB=>by rw[h.vj];simpa using aB
 |x::xs,aq,us,vs,h,aB=>by
  obtain⟨y,iW,rfl,h1,h2⟩:=h.cons_inv;simpa using bN.cons h1 (h2.append aB)
theorem bN.drop{ι:bA}:∀(n:Nat) {xs aq:List Value},bN ι xs aq->bN ι (xs.drop n) (aq.drop n)
 |0,_,_,h=>by simpa using h
 |n+1,[],aq,h=>by rw[h.vj];simpa using bN.nil ι
 |n+1,x::xs,aq,h=>by
  obtain⟨y,iW,rfl,_,h2⟩:=h.cons_inv;simpa using h2.drop n
theorem bN.take{ι:bA}:∀(n:Nat) {xs aq:List Value},bN ι xs aq->bN ι (xs.take n) (aq.take n)
 |0,_,_,_=>by simpa using bN.nil ι
 |n+1,[],aq,h=>by rw[h.vj];simpa using bN.nil ι
 |n+1,x::xs,aq,h=>by
  obtain⟨y,iW,rfl,h1,h2⟩:=h.cons_inv;simpa using bN.cons h1 (h2.take n)
theorem bq.Ag{ι:bA}{xs aq:Array Value}(h:bN ι xs.toList aq.toList):bq ι (.agg xs) (.agg aq):=
 .agg xs aq (by simpa using h.1) fun i a b=>by have:=h.2 i (by simpa using a) (by simpa using b);rwa [Array.getElem_toList,Array.getElem_toList]at this
theorem bq.qO{ι:bA}{xs aq:Array Value}(h:bN ι xs.toList aq.toList):bq ι (.tuple xs) (.tuple aq):=
 .tuple xs aq (by simpa using h.1) fun i a b=>by have:=h.2 i (by simpa using a) (by simpa using b);rwa [Array.getElem_toList,Array.getElem_toList]at this
theorem bN.vm{ι:bA}{xs aq:Array Value}(h1:xs.size=aq.size)(h2:∀i (h:i<xs.size) (aB:i<aq.size),bq ι xs[i] aq[i]):bN ι xs.toList aq.toList:=
 ⟨by simpa using h1,fun i a b=>by have:=h2 i (by simpa using a) (by simpa using b);rwa [<-Array.getElem_toList,<-Array.getElem_toList]at this⟩
theorem bq.Hs{ι:bA}{f g:Fn}{xs aq us vs:Array Value}(ab:yB ι f g)(h:bN ι xs.toList aq.toList)(aB:bN ι us.toList vs.toList):bq ι (.func f xs us) (.func g aq vs):=
 .func f g xs aq us vs ab (by simpa using h.1) (fun i a b=>by have:=h.2 i (by simpa using a) (by simpa using b);rwa [Array.getElem_toList,Array.getElem_toList]at this) (by simpa using aB.1) (fun i a b=>by have:=aB.2 i (by simpa using a) (by simpa using b);rwa [Array.getElem_toList,Array.getElem_toList]at this)
theorem bN.cells{ι:bA}{v w:Value}(h:bq ι v w)(hp:v≠ib):bN ι v.cells.toList w.cells.toList:=by
 cases h<;>first
  |exact absurd rfl hp
  |(rename_i xs aq h1 h2;exact bN.vm h1 h2)
  |(simp only[Value.cells];refine bN.cons ?_ (bN.nil ι);constructor<;>assumption)
end Go.an
namespace Go.an
section
variable{α β:Type}{r z:β}
theorem qa{v:Value}{k:Option Addr->β}(h:iD v k z=r)(ax:z≠r):∃p,v= .pointer p∧k p=r:=by
 cases v<;>first|exact absurd h ax|exact⟨_,rfl,h⟩
theorem jl{v:Value}{k:IntKind->Int->β}(h:gB v k z=r)(ax:z≠r):∃a n,v= .int a n∧k a n=r:=by
 cases v<;>first|exact absurd h ax|exact⟨_,_,rfl,h⟩
theorem Ok{v:Value}{k:Bool->β}(h:mT v k z=r)(ax:z≠r):∃b,v= .bool b∧k b=r:=by
 cases v<;>first|exact absurd h ax|exact⟨_,rfl,h⟩
theorem oZ{v:Value}{k:ByteArray->β}(h:jB v k z=r)(ax:z≠r):∃s,v= .string s∧k s=r:=by
 cases v<;>first|exact absurd h ax|exact⟨_,rfl,h⟩
theorem tO{v:Value}{k:Option Addr->Nat->Nat->β}(h:ku v k z=r)(ax:z≠r):∃a n c,v= .slice a n c∧k a n c=r:=by
 cases v<;>first|exact absurd h ax|exact⟨_,_,_,rfl,h⟩
theorem AY{v:Value}{k:Array Value->β}(h:q2 v k z=r)(ax:z≠r):∃a,v= .agg a∧k a=r:=by
 cases v<;>first|exact absurd h ax|exact⟨_,rfl,h⟩
theorem abb{v:Value}{k:Array Value->β}(h:qb v k z=r)(ax:z≠r):∃a,v= .tuple a∧k a=r:=by
 cases v<;>first|exact absurd h ax|exact⟨_,rfl,h⟩
theorem Ol{v:Value}{k:Fn->Array Value->Array Value->β}(h:yn v k z=r)(ax:z≠r):∃f a b,v= .func f a b∧k f a b=r:=by
 cases v<;>first|exact absurd h ax|exact⟨_,_,_,rfl,h⟩
theorem Er{v:Value}{k:TypeId->Value->β}(h:si v k z=r)(ax:z≠r):∃t x,v= .iface t x∧k t x=r:=by
 cases v<;>first|exact absurd h ax|exact⟨_,_,rfl,h⟩
theorem fy{o:Option α}{k:α->β}(h:bl o k z=r)(ax:z≠r):∃a,o=some a∧k a=r:=by
 cases o<;>first|exact absurd h ax|exact⟨_,rfl,h⟩
theorem Du{o:Option α}{k:α->β}(h:bl o k z=r)(U:∀a,k a≠r):o=none∧z=r:=by
 cases o<;>first|exact⟨rfl,h⟩|exact absurd h (U _)
theorem l5{n:Int}{k:Nat->β}(h:hA n k z=r)(ax:z≠r):∃m:Nat,n=(m:Int)∧k m=r:=by
 cases n with
 |ofNat m=>exact⟨m,rfl,h⟩
 |negSucc m=>exact absurd h ax
theorem pa{a b:Nat}:Nat.ble a b=true↔a<=b:=by simp
theorem pR(a b:Nat)(x y:β):eo a b x y=if a<=b then x else y:=by
 unfold eo;by_cases h:a<=b
 ·rw[if_pos h,pa.2 h];rfl
 ·rw[if_neg h];have:Nat.ble a b=false:=by rw[Bool.eq_false_iff];intro hh;exact h (pa.1 hh)
  rw[this];rfl
theorem oA(a b:Nat)(x y:β):et a b x y=if a=b then x else y:=by
 unfold et;by_cases h:a=b
 ·rw[if_pos h,h,Nat.beq_refl];rfl
 ·rw[if_neg h];have:Nat.beq a b=false:=by rw[Bool.eq_false_iff];intro hh;exact h (ep hh)
  rw[this];rfl
theorem jf{a b:Nat}{x:β}(h:eo a b x z=r)(ax:z≠r):a<=b∧x=r:=by
 rw[pR]at h;split at h
 ·exact⟨by assumption,h⟩
 ·exact absurd h ax
theorem lu{a b:Nat}{x:β}(h:et a b x z=r)(ax:z≠r):a=b∧x=r:=by
 rw[oA]at h;split at h
 ·exact⟨by assumption,h⟩
 ·exact absurd h ax
theorem ja{b:Bool}{x:β}(h:cond b x z=r)(ax:z≠r):b=true∧x=r:=by
 cases b
 ·exact absurd h ax
 ·exact⟨rfl,h⟩
theorem z7{b:Bool}{x:β}(h:cond b z x=r)(ax:z≠r):b=false∧x=r:=by
 cases b
 ·exact⟨rfl,h⟩
 ·exact absurd h ax
@[simp] theorem fU:∀l:List α,ec l=l.length
 |[]=>rfl
 |x::xs=>by show Nat.succ (ec xs)=_;rw[fU xs];rfl
@[simp] theorem og (m:List α):∀l:List α,fZ l m=l++m
 |[]=>rfl
 |x::xs=>by show x::fZ xs m=_;rw[og m xs];rfl
@[simp] theorem BX:∀(n:Nat) (l:List α),Kx n l=l.drop n
 |0,l=>rfl
 |n+1,[]=>rfl
 |n+1,x::xs=>by show Kx n xs=_;rw[BX n xs];rfl
theorem Ek:∀(n:Nat) (l:List α),N6 n l=if n<=l.length then some (l.take n)else none
 |0,l=>by rw[if_pos (Nat.zero_le _)];rfl
 |n+1,[]=>rfl
 |n+1,x::xs=>by
  show Option.rec (motive:=fun _=>Option (List α)) none (fun r=>some (x::r)) (N6 n xs)=_;rw[Ek n xs];by_cases h:n<=xs.length
  ·rw[if_pos h,if_pos (by simpa using h)];rfl
  ·rw[if_neg h,if_neg (by simpa using h)]
theorem Ah{l:List α}{k:α->β}(h:one l k z=r)(ax:z≠r):∃x,l=[x]∧k x=r:=by
 cases l with
 |nil=>exact absurd h ax
 |cons x xs=>
  cases xs with
  |nil=>exact⟨x,rfl,h⟩
  |cons y aq=>exact absurd h ax
theorem ux{l:List α}{off n:Nat}{k:List α->β}(h:il l off n k z=r)(ax:z≠r):n<=(l.drop off).length∧k ((l.drop off).take n)=r:=by
 unfold il at h;rw[BX,Ek]at h;split at h
 ·exact⟨by assumption,h⟩
 ·exact absurd h ax
theorem qR:∀(l:List α) (n:Nat) (vs:List α) (k:List α->β) (z:β),
 p0 l n vs k z=if n+vs.length<=l.length then k (l.take n++(vs++l.drop (n+vs.length)))else if vs=[]then k l else z
 |[],n,[],k,z=>by
  by_cases h:n=0
  ·subst h;rfl
  ·rw[if_neg (by simpa using h),if_pos rfl];rfl
 |[],n,v::vs,k,z=>by rw[if_neg (by simp),if_neg (by simp)];rfl
 |y::aq,0,[],k,z=>by rw[if_pos (by simp)];rfl
 |y::aq,0,v::vs,k,z=>by
  show p0 aq 0 vs (fun l'=>k (v::l')) z=_;rw[qR aq 0 vs];by_cases h:vs.length<=aq.length
  ·have h1:0+vs.length<=aq.length:=by omega
   have h2:0+(v::vs).length<=(y::aq).length:=by simp only[List.length_cons];omega
   rw[if_pos h1,if_pos h2];simp
  ·have h1:¬0+vs.length<=aq.length:=by omega
   have h2:¬0+(v::vs).length<=(y::aq).length:=by simp only[List.length_cons];omega
   have h3:vs≠[]:=by intro e;subst e;simp at h
   rw[if_neg h1,if_neg h2,if_neg h3,if_neg (by simp)]
 |y::aq,n+1,vs,k,z=>by
  show p0 aq n vs (fun l'=>k (y::l')) z=_;rw[qR aq n vs];by_cases h:n+vs.length<=aq.length
  ·have h2:n+1+vs.length<=(y::aq).length:=by simp only[List.length_cons];omega
   rw[if_pos h,if_pos h2];rw[show n+1+vs.length=(n+vs.length)+1 by omega];simp
  ·have h2:¬n+1+vs.length<=(y::aq).length:=by simp only[List.length_cons];omega
   rw[if_neg h,if_neg h2]
theorem Nc{l:List α}{n:Nat}{vs:List α}{k:List α->β}(h:p0 l n vs k z=r)(ax:z≠r):
 (n+vs.length<=l.length∧k (l.take n++(vs++l.drop (n+vs.length)))=r)∨(vs=[]∧k l=r):=by
 rw[qR]at h;split at h
 ·exact .inl ⟨by assumption,h⟩
 ·split at h
  ·exact .inr ⟨by assumption,h⟩
  ·exact absurd h ax
theorem uo{st:au}{a:Addr}{k:List Value->TypeId->Nat×Nat->Bool->β}(h:st.gL a k z=r)(ax:z≠r):
 a.spot=none∧∃cs elem bn a8,st.h.get a.block=some (.cells cs elem bn a8)∧k cs elem bn a8=r:=by
 unfold au.gL at h;obtain⟨h1,h2⟩:=Du h (fun _=>ax);refine⟨h1,?_⟩;unfold BD at h2;obtain⟨o,ak,h3⟩:=fy h2 ax;cases o<;>first|exact absurd h3 ax|exact⟨_,_,_,_,ak,h3⟩
theorem zV{st:au}{a:Addr}{n:Nat}{k:List Value->β}(h:st.load a n k z=r)(ax:z≠r):
 a.spot=none∧∃cs elem bn a8,st.h.get a.block=some (.cells cs elem bn a8)∧n<=(cs.drop a.off).length∧k ((cs.drop a.off).take n)=r:=by
 obtain⟨h1,cs,e,bn,a8,h2,h3⟩:=uo h ax;obtain⟨ay,aY⟩:=ux h3 ax;exact⟨h1,cs,e,bn,a8,h2,ay,aY⟩
theorem kt(st:au)(id:Nat)(o:bw)(k:au->β):st.g9 id o k=k ⟨st.h.set id o,st.ai⟩:=by
 unfold au.g9;rw[ao.vu,ao.qs]
theorem zh(n:Nat)(k:Nat->β):ga n k=k n:=by unfold ga;rw[Nat.beq_refl];rfl
theorem gv(st:au)(o:bw)(k:Nat->au->β):st.jv o k=k st.ai ⟨st.h.set st.ai o,st.ai+1⟩:=by
 unfold au.jv;rw[zh,ao.vu,ao.qs]
theorem agz(n:Int)(k:Int->β):Rj n k=k n:=by
 cases n with
 |ofNat m=>exact zh m (fun m=>k (.ofNat m))
 |negSucc m=>exact zh m (fun m=>k (.negSucc m))
theorem hV(a:IntKind)(n:Int)(c:Value->β):hM a n c=c (.int a n):=agz _ _
theorem ZO{st:au}{a:Addr}{vs:List Value}{k:au->β}(h:st.store a vs k z=r)(ax:z≠r):
 a.spot=none∧∃cs elem bn a8,st.h.get a.block=some (.cells cs elem bn a8)∧bn.2<=bn.1∧
  ((a.off+vs.length<=cs.length∧k ⟨st.h.set a.block (.cells (cs.take a.off++(vs++cs.drop (a.off+vs.length))) elem bn a8),st.ai⟩=r)∨
   (vs=[]∧k ⟨st.h.set a.block (.cells cs elem bn a8),st.ai⟩=r)):=by
 obtain⟨h1,cs,e,bn,a8,h2,h3⟩:=uo h ax;obtain⟨ay,aY⟩:=jf h3 ax;refine⟨h1,cs,e,bn,a8,h2,ay,?_⟩;rcases Nc aY ax with⟨ha,aa⟩|⟨ha,aa⟩
 ·left;refine⟨ha,?_⟩;rw[kt]at aa;exact aa
 ·right;refine⟨ha,?_⟩;rw[kt]at aa;exact aa
end
structure sq(P:Program)(ι:bA)(w:World)(cs:List Value)(elem:TypeId)(bn:Nat×Nat)(a8:Bool)(l:Loc)(C:Array Value)(eT:Nat×Nat):Prop where
 there:w.heap[l.cJ]? =some (.cells C elem eT)
 room:l.cR+cs.length+l.ex*P.cellsOf elem<=C.size
 cell:∀(i:Nat) (h:i<cs.length),∃c,C[l.cR+i]? =some c∧bq ι cs[i] c
 yu:bn.2<=bn.1->∀i,l.cR<=i->i<l.cR+cs.length+l.ex*P.cellsOf elem->¬(eT.1<=i∧i<eT.2)
 plain:a8=false->l.ex=0∧l.cR=0∧C.size=cs.length
def AU(t:ao Value)(n:Nat):Value:=Option.rec (motive:=fun _=>Value) (.chan (some 0)) (fun v=>v) (t.get n)
def EC:Option dF->Option Code->Prop
 |none,none=>True
 |some (.exit i),some (.exit j)=>i=j
 |some .ret,some .ret=>True
 |_,_=>False
structure abC(cj:Nat->Nat)(clock:Nat):Prop where
 inj:∀s t,s<clock->t<clock->cj s=cj t->s=t
 lt:∀s,s<clock->cj s<cj clock
 up:∀j,cj (clock+j)=cj clock+j
structure ki(ι:bA)(cj:Nat->Nat)(es:List MapEntry)(clock:Nat)(C:List MapEntry)(kl:Nat):Prop where
 sC:kl=cj clock
 AO:abC cj clock
 born:∀e∈es,e.born<clock
 keys:es.Pairwise (fun a b=>a.key≠b.key)
 yP:es.Pairwise (fun a b=>a.born≠b.born)
 same:∃l:List MapEntry,l.Perm es∧l.length=C.length∧∀(i:Nat) (h:i<l.length) (aB:i<C.length),bq ι l[i].key C[i].key∧bq ι l[i].val C[i].val∧C[i].born=cj l[i].born
theorem ki.mono{ι aV:bA}{cj:Nat->Nat}{es:List MapEntry}{clock:Nat}{C:List MapEntry}{kl:Nat}(hle:ι.le aV)(h:ki ι cj es clock C kl):ki aV cj es clock C kl:=
 ⟨h.sC,h.AO,h.born,h.keys,h.yP,let⟨l,h1,h2,h3⟩:=h.same;⟨l,h1,h2,fun i a b=>⟨(h3 i a b).1.mono hle,(h3 i a b).2.1.mono hle,(h3 i a b).2.2⟩⟩⟩
structure Ctx where
 P:Program
 ok:FuncId->Code->dy->Prop
 aE:Nat
 jP:FuncId->Bool
 kb:FuncId->Bool
 Dq:∀f,jP f=true->∀x w,(callFunc f #[x]).run P w= .ok (.value x) w
 C4:∀f,kb f=true->∀s c w,(callFunc f #[.string s,.int .u8 c]).run P w= .ok (.value (goInt (match(List.range s.size).find? (fun i=>s[i]! ==c.toNat.toUInt8)with|some i=>(i:Int)|none=> -1))) w
 keys:TypeId->Option fN
 rQ:∀k c9,keys k=some c9->Maps.Keyed P k∧∀v,c9.ok v=true->∃l,keyOf P k v=some l
 pe:FuncId->Bool
 BL:∀f,pe f=true->∀s c w,(callFunc f #[.string s,.int .u8 c]).run P w= .ok (.value (goInt (s.data.toList.countP (fun b=>b==c.toNat.toUInt8):Nat))) w
 pP:FuncId->Bool
 lG:Nat
 Dl:lG<aE
 C6:∀f,pP f=true->∀(s b:ByteArray) (m:Int) w,(load ⟨lG,0,none⟩).run P w= .ok (.int .i64 m) w->2<=b.size->(b.size:Int)<=m->s.size<=1000000->
  (callFunc f #[.string s,.string b]).run P w= .ok (.value (goInt (match n8 b.data.toList s.data.toList with|some i=>(i:Int)|none=> -1))) w
 eqs:TypeId->Option Nat
 wB:∀t n,eqs t=some n->P.eqGuardType P.depth t=false∧∀xs aq b w,xs.size=n%100+n/100->aq.size=n%100+n/100->kB (n%100) xs.toList aq.toList=some b->(Op.equalIn 10000 t (.agg xs) (.agg aq)).run P w= .ok b w
variable(X:Ctx)
def jm(ι:bA)(w:World)(o:bw)(l:Loc):Prop:=
 match o with
 |.cells cs elem bn a8=>∃C eT,sq X.P ι w cs elem bn a8 l C eT
 |.map es clock=>l.cR=0∧l.ex=0∧∃C kl,w.heap[l.cJ]? =some (.map C kl)∧ki ι l.cj es clock C.toList kl
 |.Zz s pos=>l.cR=0∧l.ex=0∧w.heap[l.cJ]? =some (.stringIter s pos)
 |.th m since seen AR=>l.cR=0∧l.ex=0∧∃fq NW AL GR,w.heap[l.cJ]? =some (.mapIter fq NW AL GR)∧
  (m=none∧fq=none∨∃r b cj,m=some r∧fq=some b∧ι r=some ⟨b,0,0,cj⟩∧NW=cj since∧AL.toList=seen.map cj∧GR=cj AR)
 |.loop s fW fn t ps du body d=>l.cR=0∧l.ex=0∧∃L:Loop,w.heap[l.cJ]? =some (.loop L)∧L.state=s∧EC fW L.pending∧L.fn=fn∧
  (∀n,bq ι (AU t n) (L.tmps.getD n undef))∧L.params.toList=ps∧X.ok fn L.assign du∧X.ok fn L.body body∧ι d=some ⟨L.defers,0,0,id⟩∧
  (∃F,X.P.funcs[fn]? =some F∧L.tmps.size=F.ntmps)∧∀t∈ps,t<L.tmps.size
 |.iI calls=>l.cR=0∧l.ex=0∧((calls=some []∧w.heap[l.cJ]? =some (.deferred (some [])))∨(calls=none∧w.heap[l.cJ]? =some (.deferred none)))
 |.dead=>True
def bw.uJ:bw->Prop
 |.cells _ _ bn a8=>a8=false∧bn.1<bn.2
 |_=>False
structure bt(ι:bA)(st:au)(w:World):Prop where
 eK:∀id o,st.h.get id=some o->o≠.dead->∃l,ι id=some l∧jm X ι w o l
 inj:∀i j o p l m,st.h.get i=some o->o≠.dead->st.h.get j=some p->p≠.dead->ι i=some l->ι j=some m->(l.cj≠im∨m.cj≠im)->l.cJ=m.cJ->i=j
 fresh:∀id,st.ai<=id->ι id=none∧st.h.get id=none
 gK:∀id l,ι id=some l->l.cJ<w.heap.size
 lT:∀g,g<X.aE->ι g=some ⟨g,0,0,im⟩
 px:X.aE<=st.ai
 ma:∀i l o,ι i=some l->l.cj=im->st.h.get i=some o->o≠.dead->o.uJ
def ra(w w':World):Prop:=w'.os=w.os∧w'.output=w.output
structure fF(ι aV:bA)(w w':World):Prop where
 le:ι.le aV
 size:w.heap.size<=w'.heap.size
 kept:∀b,b<w.heap.size->(∀id l,ι id=some l->l.cj≠im->l.cJ≠b)->w'.heap[b]? =w.heap[b]?
 new:∀id l,aV id=some l->ι id=some l∨w.heap.size<=l.cJ∨∃j m,ι j=some m∧m.cj≠im∧m.cJ=l.cJ
 gU:ra w w'
theorem fF.refl(ι:bA)(w:World):fF ι ι w w:=⟨.refl ι,b5 _,fun _ _ _=>rfl,fun _ _ h=>.inl h,⟨rfl,rfl⟩⟩
theorem fF.trans{ι aV fc:bA}{w w' jC:World}(h:fF ι aV w w')(aB:fF aV fc w' jC):fF ι fc w jC:=by
 refine⟨h.le.trans aB.le,Nat.le_trans h.size aB.size,fun b aa ae=> ?_,fun id l hl=> ?_,⟨aB.gU.1.trans h.gU.1,aB.gU.2.trans h.gU.2⟩⟩
 ·rw[aB.kept b (e4 aa h.size) ?_,h.kept b aa ae];intro id l hl ah e;rcases h.new id l hl with hn|hn|⟨j,m,hj,e1,hm⟩
  ·exact ae id l hn ah e
  ·omega
  ·exact ae j m hj e1 (by omega)
 ·rcases aB.new id l hl with hn|hn|⟨j,m,hj,ah,hm⟩
  ·exact h.new id l hn
  ·exact .inr (.inl (Nat.le_trans h.size hn))
  ·rcases h.new j m hj with h1|h1|⟨L0,fq,h1,h2,h3⟩
   ·exact .inr (.inr ⟨j,m,h1,ah,hm⟩)
   ·exact .inr (.inl (by omega))
   ·exact .inr (.inr ⟨L0,fq,h1,h2,by omega⟩)
theorem sq.mono{P:Program}{ι aV:bA}{w w':World}{cs:List Value}{elem:TypeId}{bn:Nat×Nat}{a8:Bool}{l:Loc}{C:Array Value}{eT:Nat×Nat}
 (h:sq P ι w cs elem bn a8 l C eT) (hle:ι.le aV) (e:w'.heap[l.cJ]? =w.heap[l.cJ]?):sq P aV w' cs elem bn a8 l C eT:=
 ⟨by rw[e];exact h.there,h.room,fun i ae=>let⟨c,h1,h2⟩:=h.cell i ae;⟨c,h1,h2.mono hle⟩,h.yu,h.plain⟩
theorem jm.mono{ι aV:bA}{w w':World}{o:bw}{l:Loc}(h:jm X ι w o l)(hle:ι.le aV)(e:w'.heap[l.cJ]? =w.heap[l.cJ]?):jm X aV w' o l:=by
 cases o with
 |cells cs elem bn a8=>obtain⟨C,eT,hc⟩:=h;exact⟨C,eT,hc.mono hle e⟩
 |map es clock=>
  obtain⟨h0,kC,C,bJ,h1,h2⟩:=h;exact⟨h0,kC,C,bJ,by rw[e];exact h1,h2.mono hle⟩
 |Zz s pos=>obtain⟨h0,kC,h1⟩:=h;exact⟨h0,kC,by rw[e];exact h1⟩
 |th m since seen AR=>
  obtain⟨h0,kC,fq,br,b8,gV,h1,h2⟩:=h;refine⟨h0,kC,fq,br,b8,gV,by rw[e];exact h1,?_⟩;rcases h2 with h2|⟨r,b,cj,h3,ay,aY,b7⟩
  ·exact .inl h2
  ·exact .inr ⟨r,b,cj,h3,ay,hle _ _ aY,b7⟩
 |loop s fW fn t ps du body d=>
  obtain⟨h0,kC,L,h1,h2,h3,ay,aY,b7,dn,hr,gD,sN⟩:=h;exact⟨h0,kC,L,by rw[e];exact h1,h2,h3,ay,fun n=>(aY n).mono hle,b7,dn,hr,hle _ _ gD,sN⟩
 |iI calls=>
  obtain⟨h0,kC,h1⟩:=h;refine⟨h0,kC,?_⟩;rw[e];exact h1
 |dead=>trivial
theorem bt.IM{ι:bA}{st:au}{w w':World}(h:bt X ι st w)(e:w'.heap=w.heap):bt X ι st w':=by
 refine⟨fun id o ak av=> ?_,h.inj,h.fresh,fun id l hl=>by rw[e];exact h.gK id l hl,h.lT,h.px,h.ma⟩;obtain⟨l,hl,hm⟩:=h.eK id o ak av;exact⟨l,hl,jm.mono X hm (.refl ι) (by rw[e])⟩
theorem fF.IM(ι:bA){w w':World}(e:w'.heap=w.heap)(gU:ra w w':=by exact⟨rfl,rfl⟩):fF ι ι w w':=
 ⟨.refl ι,by rw[e];exact b5 _,fun _ _ _=>by rw[e],fun _ _ h=>.inl h,gU⟩
def hJ(ι:bA)(id:Nat)(l:Loc):bA:=fun i=>if i=id then some l else ι i
theorem bt.alloc{ι:bA}{st:au}{w:World}(h:bt X ι st w)(o:bw)(O:Obj)(ex:Nat)
 (hm:∀aV w',ι.le aV->aV st.ai=some ⟨w.heap.size,0,ex,id⟩->w'.heap[w.heap.size]? =some O->jm X aV w' o ⟨w.heap.size,0,ex,id⟩) (w':World) (hw:w'.heap=w.heap.push O) (gU:ra w w':=by exact⟨rfl,rfl⟩):
 ∃aV,bt X aV ⟨st.h.set st.ai o,st.ai+1⟩ w'∧fF ι aV w w'∧aV st.ai=some ⟨w.heap.size,0,ex,id⟩∧aV=hJ ι st.ai ⟨w.heap.size,0,ex,id⟩:=by
 refine⟨fun i=>if i=st.ai then some ⟨w.heap.size,0,ex,id⟩else ι i,?_,?_,if_pos rfl,rfl⟩
 ·have hle:ι.le (fun i=>if i=st.ai then some ⟨w.heap.size,0,ex,id⟩else ι i):=by
   intro i l hl;show(if i=st.ai then _ else ι i)=_;rw[if_neg];exact hl;intro e;subst e;rw[(h.fresh _ (b5 _)).1]at hl;cases hl
  refine⟨fun id p hp av=> ?_,fun i j p q l m ae hz hj hK gQ hU aO e=> ?_,fun id nc=> ?_,fun id l hl=> ?_,fun g aO=> ?_,Nat.le_succ_of_le h.px,fun i l p hl ah hp av=> ?_⟩
  ·rw[ao.ey]at hp;by_cases e:id=st.ai
   ·rw[if_pos e]at hp;cases hp;subst e;exact⟨_,if_pos rfl,hm _ _ hle (if_pos rfl) (by rw[hw];simp)⟩
   ·rw[if_neg e]at hp;obtain⟨l,hl,ak⟩:=h.eK id p hp av;refine⟨l,hle _ _ hl,jm.mono X ak hle ?_⟩;have:=h.gK id l hl;rw[hw,Array.getElem?_push,if_neg (by omega)]
  ·rw[ao.ey]at ae hj;by_cases oz:i=st.ai<;>by_cases jq:j=st.ai
   ·rw[oz,jq]
   ·exfalso;simp only[if_neg jq]at hU;simp only[if_pos oz]at gQ;have:=h.gK j m hU;cases gQ;simp only at e;omega
   ·exfalso;simp only[if_neg oz]at gQ;simp only[if_pos jq]at hU;have:=h.gK i l gQ;cases hU;simp only at e;omega
   ·simp only[if_neg oz]at gQ ae;simp only[if_neg jq]at hU hj;exact h.inj i j p q l m ae hz hj hK gQ hU aO e
  ·have akZ:st.ai+1<=id:=nc;have:=h.fresh id (by omega);refine⟨?_,?_⟩
   ·show(if id=st.ai then _ else ι id)=_;rw[if_neg (by omega)];exact this.1
   ·rw[ao.ey,if_neg (by omega)];exact this.2
  ·rw[hw,Array.size_push];by_cases e:id=st.ai
   ·simp only[if_pos e]at hl;cases hl;simp
   ·simp only[if_neg e]at hl;have:=h.gK id l hl;omega
  ·exact hle _ _ (h.lT g aO)
  ·rw[ao.ey]at hp;by_cases e:i=st.ai
   ·simp only[if_pos e]at hl;cases hl;exact absurd ah LQ
   ·simp only[if_neg e]at hl hp;exact h.ma i l p hl ah hp av
 ·refine⟨?_,by rw[hw];simp,fun b aa _=>by rw[hw,Array.getElem?_push,if_neg (by omega)],fun id l hl=> ?_,gU⟩
  ·intro i l hl;show(if i=st.ai then _ else ι i)=_;rw[if_neg];exact hl;intro e;subst e;rw[(h.fresh _ (b5 _)).1]at hl;cases hl
  ·by_cases e:id=st.ai
   ·simp only[if_pos e]at hl;cases hl;exact .inr (.inl (b5 _))
   ·simp only[if_neg e]at hl;exact .inl hl
theorem bt.vL{ι:bA}{st:au}{w:World}(h:bt X ι st w){id:Nat}{l:Loc}{l8:bw}(h₀:st.h.get id=some l8)(sR:l8≠.dead)(Lu:¬l8.uJ)(hl:ι id=some l)(o:bw)(O:Obj)
 (w':World) (hw:w'.heap=w.heap.setIfInBounds l.cJ O) (hm:o≠.dead->w'.heap[l.cJ]? =some O->jm X ι w' o l) (gU:ra w w':=by exact⟨rfl,rfl⟩):
 bt X ι ⟨st.h.set id o,st.ai⟩ w'∧fF ι ι w w':=by
 have aa:=h.gK id l hl;have ni:l.cj≠im:=fun e=>Lu (h.ma id l l8 hl e h₀ sR);refine⟨⟨fun j p hp av=> ?_,fun i j p q a b ae hz hj hK gQ hU aO e=> ?_,fun j hj=> ?_,fun j a ha=> ?_,h.lT,h.px,fun j a p ha ah hp av=> ?_⟩,?_⟩
 ·rw[ao.ey]at hp;by_cases e:j=id
  ·rw[if_pos e]at hp;cases hp;subst e;exact⟨l,hl,hm av (by rw[hw];simp[aa])⟩
  ·rw[if_neg e]at hp;obtain⟨m,kI,ak⟩:=h.eK j p hp av;refine⟨m,kI,jm.mono X ak (.refl ι) ?_⟩;have hne:m.cJ≠l.cJ:=fun oy=>e (h.inj j id p l8 m l hp av h₀ sR kI hl (.inr ni) oy);rw[hw,Array.getElem?_setIfInBounds_ne (Ne.symm hne)]
 ·rw[ao.ey]at ae hj;have ajs:∃gh,st.h.get i=some gh∧gh≠.dead:=by
   by_cases e:i=id
   ·subst e;exact⟨l8,h₀,sR⟩
   ·rw[if_neg e]at ae;exact⟨p,ae,hz⟩
  have aju:∃gh,st.h.get j=some gh∧gh≠.dead:=by
   by_cases e:j=id
   ·subst e;exact⟨l8,h₀,sR⟩
   ·rw[if_neg e]at hj;exact⟨q,hj,hK⟩
  obtain⟨gh,u0,alp⟩:=ajs;obtain⟨fg,zF,Gt⟩:=aju;exact h.inj i j gh fg a b u0 alp zF Gt gQ hU aO e
 ·have:=h.fresh j hj;refine⟨this.1,?_⟩;rw[ao.ey,if_neg];exact this.2;intro e;subst e;rw[this.2]at h₀;cases h₀
 ·rw[hw];simpa using h.gK j a ha
 ·rw[ao.ey]at hp;by_cases e:j=id
  ·subst e;rw[hl]at ha;cases ha;exact absurd ah ni
  ·rw[if_neg e]at hp;exact h.ma j a p ha ah hp av
 ·refine⟨.refl ι,by rw[hw];simp,fun b _ ae=> ?_,fun _ _ hh=>.inl hh,gU⟩;rw[hw,Array.getElem?_setIfInBounds_ne (ae id l hl ni)]
end Go.an
namespace Go.an
mutual
def jX:Value->Bool
 |.bool _|.int _ _|.float _ _|.string _|.pointer none|.slice none _ _|.map none|.nilFunc|.nilIface=>true
 |.func (.func _) x y=>Eu x&&Eu y
 |.iface _ v=>jX v
 |.agg a|.tuple a=>Eu a
 |_=>false
def Eu:Array Value->Bool
 |⟨a⟩=>mq a
def mq:List Value->Bool
 |[]=>true
 |a::as=>jX a&&mq as
end
mutual
theorem bq.pure(ι:bA):∀v:Value,jX v=true->bq ι v v
 |.bool b,_=>.bool b
 |.int k n,_=>.int k n
 |.float k n,_=>.float k n
 |.complex _ _ _,h=>by simp[jX]at h
 |.string s,_=>.string s
 |.pointer none,_=>.ns
 |.pointer (some _),h=>by simp[jX]at h
 |.slice none n c,_=>.nD n c
 |.slice (some _) _ _,h=>by simp[jX]at h
 |.map none,_=>.pV
 |.map (some _),h=>by simp[jX]at h
 |.chan _,h=>by simp[jX]at h
 |.func (.func f) x y,h=>by
  simp only[jX,bZ]at h;exact bq.Hs (.inl ⟨rfl,by simp⟩) (bN.pZ ι x h.1) (bN.pZ ι y h.2)
 |.func (.method _) _ _,h=>by simp[jX]at h
 |.func (.methodOf _ _) _ _,h=>by simp[jX]at h
 |.func (.via _ _ _ _) _ _,h=>by simp[jX]at h
 |.func (.yield _) _ _,h=>by simp[jX]at h
 |.nilFunc,_=>.nilFunc
 |.iface t v,h=>.iface t v v (bq.pure ι v (by simpa[jX]using h))
 |.nilIface,_=>.nilIface
 |.agg a,h=>bq.Ag (bN.pZ ι a (by simpa[jX]using h))
 |.tuple a,h=>bq.qO (bN.pZ ι a (by simpa[jX]using h))
theorem bN.pZ(ι:bA):∀v:Array Value,Eu v=true->bN ι v.toList v.toList
 |⟨a⟩,h=>bN.xR ι a (by simpa[Eu]using h)
theorem bN.xR(ι:bA):∀v:List Value,mq v=true->bN ι v v
 |[],_=>bN.nil ι
 |a::as,h=>by
  simp only[mq,bZ]at h;exact bN.cons (bq.pure ι a h.1) (bN.xR ι as h.2)
end
theorem bq.undef(ι:bA):bq ι undef undef:=bq.pure ι _ rfl
def cE(aE:Nat):Operand->Bool
 |.tmp _=>true
 |.const v=>jX v
 |.global g=>Nat.ble (Nat.succ g) aE
 |.func _=>true
def Ey(ι:bA)(d e:Deferred):Prop:=
 bN ι d.args.toList e.args.toList∧
 match d.target,e.target with
 |.fn f c,.fn g bJ=>yB ι f g∧bN ι c.toList bJ.toList
 |.collected r,.collected b=>ι r=some ⟨b,0,0,id⟩
 |_,_=>False
def sr(ι:bA):List Deferred->List Deferred->Prop
 |[],[]=>True
 |d::ds,e::es=>Ey ι d e∧sr ι ds es
 |_,_=>False
theorem Ey.mono{ι aV:bA}(hle:ι.le aV){d e:Deferred}(h:Ey ι d e):Ey aV d e:=by
 obtain⟨h1,h2⟩:=h;refine⟨h1.mono hle,?_⟩;cases av:d.target<;>cases he:e.target<;>simp only[av,he]at h2⊢
 ·exact⟨h2.1.mono hle,h2.2.mono hle⟩
 ·exact hle _ _ h2
theorem sr.mono{ι aV:bA}(hle:ι.le aV):∀{ds es:List Deferred},sr ι ds es->sr aV ds es
 |[],[],_=>trivial
 |_::_,_::_,h=>⟨h.1.mono hle,sr.mono hle h.2⟩
 |[],_::_,h=>h.elim
 |_::_,[],h=>h.elim
structure cB(ι:bA)(fr:aT)(a:Act)(aS:Nat):Prop where
 tmp:∀t,bq ι (fr.tmp t) (a.tmps.getD t undef)
 size:a.tmps.size=aS
 c4:sr ι fr.c4 a.defers
theorem cB.mono{ι aV:bA}(hle:ι.le aV){fr:aT}{a:Act}{aS:Nat}(h:cB ι fr a aS):cB aV fr a aS:=
 ⟨fun t=>(h.tmp t).mono hle,h.size,h.c4.mono hle⟩
variable{X:Ctx}
theorem cB.aj{ι:bA}{fr:aT}{a:Act}{aS:Nat}{st:au}{w:World}(h:cB ι fr a aS)(hw:bt X ι st w){x:Operand}(J:cE X.aE x=true):bq ι (fr.aj x) (a.eval x):=by
 cases x with
 |tmp t=>exact h.tmp t
 |const v=>exact bq.pure ι v J
 |global g=>
  have aO:g<X.aE:=pa.1 J;have:=bq.ptr (ι:=ι) ⟨g,0,none⟩ ⟨g,0,0,im⟩ (hw.lT g aO) rfl;show bq ι (.pointer (some ⟨g,0,none⟩)) (.pointer (some ⟨g,0,none⟩));simpa using this
 |func f=>exact bq.Hs (.inl ⟨rfl,by simp⟩) (bN.nil ι) (bN.nil ι)
theorem cB.put{ι:bA}{fr:aT}{a:Act}{aS:Nat}(h:cB ι fr a aS){d:Option Tmp}(av:∀t,d=some t->t<aS){v v':Value}(aH:bq ι v v'):cB ι (fr.put d v) (a.put d v') aS:=by
 cases d with
 |none=>exact h
 |some d=>
  refine⟨fun t=> ?_,by simp[Act.put,h.size],by rw[(vv fr (some d) v).1];exact h.c4⟩;rw[sd];have aP:d<a.tmps.size:=by rw[h.size];exact av d rfl
  simp only[Act.put,Option.some.injEq];by_cases e:d=t
  ·subst e;rw[if_pos rfl];simp[Array.getD,aP];exact aH
  ·rw[if_neg e];have:=h.tmp t;simp only[Array.getD_eq_getD_getElem?]at this⊢;rw[Array.getElem?_setIfInBounds_ne e];exact this
def abx(aV:bA)(v:Value)(n:Next):Prop:=(∃v',n= .value v'∧bq aV v v')∨(n= .skip∧v=undef)
def ky(X:Ctx)(ι:bA)(w:World)(v:Value)(st':au)(s:Sem Next):Prop:=
 ∃aV n w',s.run X.P w= .ok n w'∧abx aV v n∧bt X aV st' w'∧fF ι aV w w'
def cg(X:Ctx)(ι:bA)(w:World)(v:Value)(st st':au)(s:Sem Next):Prop:=
 st'=st∧bt X ι st w∧∃v',s.run X.P w= .ok (.value v') w∧bq ι v v'
theorem cg.same{ι:bA}{w:World}{v v':Value}{st:au}{s:Sem Next}(hw:bt X ι st w)(aQ:s.run X.P w= .ok (.value v') w)(aH:bq ι v v'):cg X ι w v st st s:=
 ⟨rfl,hw,v',aQ,aH⟩
theorem cg.NU{ι:bA}{w:World}{v:Value}{st st':au}{s:Sem Next}(h:cg X ι w v st st' s):ky X ι w v st' s:=by
 obtain⟨rfl,hw,v',aQ,aH⟩:=h;exact⟨ι,_,w,aQ,.inl ⟨v',rfl,aH⟩,hw,.refl ι w⟩
def su(X:Ctx)(ι:bA)(w:World)(v:Value)(st st':au)(s:Sem Next):Prop:=
 ∃o O ex v' w',st'=⟨st.h.set st.ai o,st.ai+1⟩∧o≠.dead∧s.run X.P w= .ok (.value v') w'∧w'.heap=w.heap.push O∧
  bq (hJ ι st.ai ⟨w.heap.size,0,ex,id⟩) v v'∧bt X (hJ ι st.ai ⟨w.heap.size,0,ex,id⟩) st' w'∧fF ι (hJ ι st.ai ⟨w.heap.size,0,ex,id⟩) w w'
theorem su.NU{ι:bA}{w:World}{v:Value}{st st':au}{s:Sem Next}(h:su X ι w v st st' s):ky X ι w v st' s:=by
 obtain⟨o,O,ex,v',w',_,_,aQ,_,aH,hw,U⟩:=h;exact⟨_,_,w',aQ,.inl ⟨v',rfl,aH⟩,hw,U⟩
theorem ky.same{ι:bA}{w:World}{v v':Value}{st:au}{s:Sem Next}(hw:bt X ι st w)(aQ:s.run X.P w= .ok (.value v') w)(aH:bq ι v v'):ky X ι w v st s:=
 ⟨ι,_,w,aQ,.inl ⟨v',rfl,aH⟩,hw,.refl ι w⟩
section
variable{ι:bA}{fr aI:aT}{a:Act}{aS:Nat}{st st':au}{w:World}{o:Oper}{v:Value}{call:bQ}
theorem Zx{x:Operand}(J:cE X.aE x=true)(ak:o.op= .move x∨o.op= .assign x)(ab:cB ι fr a aS)(hw:bt X ι st w)(h:Xe x call fr st= .ok v aI st'):
 aI=fr∧cg X ι w v st st' (execOp a.eval o):=by
 cases h;refine⟨rfl,cg.same (v':=a.eval x) hw ?_ (ab.aj hw J)⟩;unfold execOp;rcases ak with ak|ak<;>rw[ak]<;>rfl
theorem arD{c x y:Operand}(hc:cE X.aE c=true)(J:cE X.aE x=true)(aG:cE X.aE y=true)(ak:o.op= .pick c x y)(ab:cB ι fr a aS)(hw:bt X ι st w)(h:Xh c x y call fr st= .ok v aI st'):
 aI=fr∧cg X ι w v st st' (execOp a.eval o):=by
 obtain⟨t,aN,h⟩:=Ok h (by simp);cases h;have mF:=ab.aj hw hc;rw[aN]at mF;generalize La:a.eval c=Fi at mF;cases mF;refine⟨rfl,cg.same (v':=if t then a.eval x else a.eval y) hw ?_ ?_⟩
 ·unfold execOp;rw[ak];simp[La,asBool]
 ·cases t
  ·exact ab.aj hw aG
  ·exact ab.aj hw J
end
end Go.an
namespace Go.an
variable{X:Ctx}
theorem cell_of{w:World}{b o:Nat}{C:Array Value}{e:TypeId}{bn:Nat×Nat}(h:w.heap[b]? =some (.cells C e bn)):w.cell? ⟨b,o,none⟩=C[o]? :=by
 simp[World.cell?,h]
theorem agF{w:World}{b o:Nat}{C:Array Value}{e:TypeId}{bn:Nat×Nat}(h:w.heap[b]? =some (.cells C e bn)):w.frozen? ⟨b,o,none⟩=(decide (bn.1<=o)&&decide (o<bn.2)):=by
 obtain⟨bb,ae⟩:=bn;simp[World.frozen?,h]
theorem sq.row{P:Program}{ι:bA}{w:World}{cs:List Value}{elem:TypeId}{bn:Nat×Nat}{a8:Bool}{l:Loc}{C:Array Value}{eT:Nat×Nat}
 (h:sq P ι w cs elem bn a8 l C eT) (off n:Nat) (hn:n<=(cs.drop off).length):bN ι ((cs.drop off).take n) ((C.toList.drop (l.cR+off)).take n):=by
 have hlen:(cs.drop off).length=cs.length-off:=by simp
 have pL:=h.room;refine⟨by simp;omega,fun i a b=> ?_⟩;simp only[List.length_take,List.length_drop]at a b;obtain⟨c,h1,h2⟩:=h.cell (off+i) (by omega);have ae:l.cR+(off+i)<C.size:=(Array.getElem?_eq_some_iff.1 h1).1;rw[Array.getElem?_eq_getElem ae]at h1;cases h1;simp only[List.getElem_take,List.getElem_drop,Array.getElem_toList];have e:l.cR+off+i=l.cR+(off+i):=by omega
 simp only[e];exact h2
theorem D8{P:Program}{w:World}{b o n:Nat}{C:Array Value}{e:TypeId}{bn:Nat×Nat}(h:w.heap[b]? =some (.cells C e bn))(hn:o+n<=C.size):
 (loadCells ⟨b,o,none⟩ n).run P w= .ok ((C.toList.drop o).take n).toArray w:=by
 have hl:((C.toList.drop o).take n).length=n:=by simp;omega
 have:=run_loadCells_list (P:=P) w ⟨b,o,none⟩ ((C.toList.drop o).take n) (fun j v hj=>by
  have Lh:j<n:=by
   have:=(List.getElem?_eq_some_iff.1 hj).1;omega
  have aA:(Addr.add ⟨b,o,none⟩ j)=⟨b,o+j,none⟩:=by unfold Addr.add;split<;>simp_all
  rw[aA,cell_of h];rw[List.getElem?_take,if_pos Lh,List.getElem?_drop]at hj;simpa using hj)
 rwa [hl]at this
theorem NN{P:Program}{b o:Nat}{e:TypeId}{bn:Nat×Nat}:∀(vs:List Value) (i:Nat) (C:Array Value) (w:World),w.heap[b]? =some (.cells C e bn)->o+i+vs.length<=C.size->
 (∀v∈vs,v.oneCell'=true)->(∀j,o+i<=j->j<o+i+vs.length->¬(bn.1<=j∧j<bn.2))->
 ∃w',(storeCells ⟨b,o,none⟩ vs i).run P w= .ok () w'∧
  w'.heap=w.heap.setIfInBounds b (.cells (C.toList.take (o+i)++(vs++C.toList.drop (o+i+vs.length))).toArray e bn)∧ra w w'
 |[],i,C,w,h,hn,_,_=>by
  refine⟨w,rfl,?_,⟨rfl,rfl⟩⟩;have:(C.toList.take (o+i)++([]++C.toList.drop (o+i+([]:List Value).length))).toArray=C:=by simp
  rw[this];apply Array.ext_getElem?;intro j;by_cases jq:b=j
  ·subst jq;have:=(Array.getElem?_eq_some_iff.1 h).1;rw[Array.getElem?_setIfInBounds];simp[this];exact(Array.getElem?_eq_some_iff.1 h).2
  ·rw[Array.getElem?_setIfInBounds_ne jq]
 |v::vs,i,C,w,h,hn,h1,ab=>by
  simp only[List.length_cons]at hn ab;have aA:(Addr.add ⟨b,o,none⟩ i)=⟨b,o+i,none⟩:=by unfold Addr.add;split<;>simp_all
  have aP:o+i<C.size:=by omega
  have hc:w.cell? ⟨b,o+i,none⟩=some C[o+i]:=by rw[cell_of h,Array.getElem?_eq_getElem aP]
  have pC:w.frozen? ⟨b,o+i,none⟩=false:=by
   rw[agF h];have:=ab (o+i) (by omega) (by omega);simp only[Bool.and_eq_false_iff,decide_eq_false_iff_not];omega
  have ah:(store ⟨b,o+i,none⟩ v).run P w= .ok () (w.setCell ⟨b,o+i,none⟩ v):=by
   rw[run_store P w _ v _ (h1 v (by simp)),hc];simp[pC]
  have aa:=(Array.getElem?_eq_some_iff.1 h).1;have hh:(w.setCell ⟨b,o+i,none⟩ v).heap=w.heap.setIfInBounds b (.cells (C.setIfInBounds (o+i) v) e bn):=by
   simp only[World.setCell];apply Array.ext_getElem?;intro j;rw[Array.getElem?_modify];by_cases jq:b=j
   ·subst jq;rw[if_pos rfl,h,Array.getElem?_setIfInBounds];simp[aa]
   ·rw[if_neg jq,Array.getElem?_setIfInBounds_ne jq]
  have aB:(w.setCell ⟨b,o+i,none⟩ v).heap[b]? =some (.cells (C.setIfInBounds (o+i) v) e bn):=by rw[hh];simp[aa]
  obtain⟨w',aQ,ev,gU⟩:=NN (P:=P) (o:=o) vs (i+1) (C.setIfInBounds (o+i) v) (w.setCell ⟨b,o+i,none⟩ v) aB (by simp;omega) (fun x J=>h1 x (by simp[J])) (fun j a c=>ab j (by omega) (by omega));refine⟨w',?_,?_,gU⟩
  ·unfold storeCells;rw[aA,Sem.run_bind,ah];exact aQ
  ·rw[ev,hh];rw[Array.setIfInBounds_setIfInBounds];congr 3;have lX:(C.setIfInBounds (o+i) v).toList=C.toList.set (o+i) v:=by simp
   rw[lX];have hl:o+i<C.toList.length:=by simpa using aP
   have t1:(C.toList.set (o+i) v).take (o+(i+1))=C.toList.take (o+i)++[v]:=by
    rw[show o+(i+1)=(o+i)+1 by omega,List.take_succ_eq_append_getElem (by simpa using aP),List.take_set_of_le (b5 _)];simp
   have t2:(C.toList.set (o+i) v).drop (o+(i+1)+vs.length)=C.toList.drop (o+i+(v::vs).length):=by
    rw[List.drop_set_of_lt (by omega)];congr 1;simp only[List.length_cons];omega
   rw[t1,t2];simp
section
variable{ι:bA}{fr aI:aT}{a:Act}{aS:Nat}{st st':au}{w:World}{o:Oper}{v:Value}{call:bQ}
def qj:TypeDesc->Bool
 |.struct _|.array _ _=>true
 |_=>false
theorem Da{P:Program}{t:TypeId}{d:TypeDesc}(h:P.underlying t=some d)(w:World):(isAgg t).run P w= .ok (qj d) w:=by
 unfold isAgg;rw[Sem.run_bind,run_underlying h];cases d<;>rfl
theorem jy{P:Program}{t:TypeId}{i:TypeInfo}(h:P.info? t=some i)(w:World):(sizeOf t).run P w= .ok i.size w:=by
 simp[sizeOf,typeInfo,h]
theorem Zu{x:Operand}{t:TypeId}{d:TypeDesc}(J:cE X.aE x=true)(ak:o.op= .load t x)(av:X.P.underlying t=some d)(oF:qj d=false)
 (ab:cB ι fr a aS) (hw:bt X ι st w) (h:Hw x call fr st= .ok v aI st'):
 aI=fr∧cg X ι w v st st' (execOp a.eval o):=by
 obtain⟨p,hp,h⟩:=qa h (by simp);obtain⟨ad,rfl,h⟩:=fy h (by simp);obtain⟨ah,cs,elem,bn,a8,aO,hn,h⟩:=zV h (by simp);obtain⟨v1,kp,h⟩:=Ah h (by simp);cases h;obtain⟨l,hl,C,eT,hc⟩:=hw.eK _ _ aO (by simp);have bV:=ab.aj hw J;rw[hp]at bV;generalize cy:a.eval x=fh at bV;cases bV with
 |ptr _ l' cu e1=>
  rw[hl]at cu;cases cu;have hlen:ad.off<cs.length:=by simp at hn;omega
  have jL:=hc.row ad.off 1 hn;rw[kp]at jL;obtain⟨y,aq,aG,al0,_⟩:=jL.cons_inv;have pL:=hc.room;have u6:C[l.cR+ad.off]? =some y:=by
   have:=congrArg (fun z=>z[0]?) aG;simpa using this
  refine⟨rfl,cg.same (v':=y) hw ?_ al0⟩;unfold execOp;rw[ak];simp only[cy,Instr.loadAt,Instr.sureAddr,loadVar,Sem.run_bind,Sem.run_pure,Result.andThen,Da av,oF,Bool.false_eq_true,if_false,run_load];rw[cell_of hc.there,u6]
theorem Zv{x:Operand}{t:TypeId}{d:TypeDesc}{i:TypeInfo}(J:cE X.aE x=true)(ak:o.op= .load t x)(av:X.P.underlying t=some d)(oF:qj d=true)
 (ae:X.P.info? t=some i) (ab:cB ι fr a aS) (hw:bt X ι st w) (h:Hx i.size x call fr st= .ok v aI st'):
 aI=fr∧cg X ι w v st st' (execOp a.eval o):=by
 obtain⟨p,hp,h⟩:=qa h (by simp);obtain⟨ad,rfl,h⟩:=fy h (by simp);obtain⟨ah,cs,elem,bn,a8,aO,hn,h⟩:=zV h (by simp);cases h;obtain⟨l,hl,C,eT,hc⟩:=hw.eK _ _ aO (by simp);have bV:=ab.aj hw J;rw[hp]at bV;generalize cy:a.eval x=fh at bV;cases bV with
 |ptr _ l' cu e1=>
  rw[hl]at cu;cases cu;have jL:=hc.row ad.off i.size hn;have pL:=hc.room;simp only[List.length_drop]at hn;by_cases ax:i.size=0
  ·refine⟨rfl,cg.same (v':=.agg #[]) hw ?_ ?_⟩
   ·unfold execOp;rw[ak];simp only[cy,Instr.loadAt,Instr.sureAddr,loadVar,Sem.run_bind,Sem.run_pure,Result.andThen,Da av,oF,if_true,jy ae,ax];rfl
   ·rw[ax];exact bq.Ag (by simpa using bN.nil ι)
  refine⟨rfl,cg.same (v':=.agg ((C.toList.drop (l.cR+ad.off)).take i.size).toArray) hw ?_ (bq.Ag (by simpa using jL))⟩;unfold execOp;rw[ak];simp only[cy,Instr.loadAt,Instr.sureAddr,loadVar,Sem.run_bind,Sem.run_pure,Result.andThen,Da av,oF,if_true,jy ae];rw[D8 hc.there (by omega)]
end
theorem NX{α:Type}(l vs:List α)(n i:Nat)(h:n+vs.length<=l.length):
 (l.take n++(vs++l.drop (n+vs.length)))[i]? =if i<n then l[i]? else if i<n+vs.length then vs[i-n]? else l[i]? :=by
 by_cases h1:i<n
 ·rw[if_pos h1,List.getElem?_append_left (by simp;omega),List.getElem?_take,if_pos h1]
 ·rw[if_neg h1,List.getElem?_append_right (by simp;omega)];have e:i-(l.take n).length=i-n:=by simp;omega
  rw[e];by_cases h2:i<n+vs.length
  ·rw[if_pos h2,List.getElem?_append_left (by omega)]
  ·rw[if_neg h2,List.getElem?_append_right (by omega),List.getElem?_drop];congr 1;omega
theorem sq.store{P:Program}{ι:bA}{w w':World}{cs:List Value}{elem:TypeId}{bn:Nat×Nat}{a8:Bool}{l:Loc}{C:Array Value}{eT:Nat×Nat}
 (h:sq P ι w cs elem bn a8 l C eT) {off:Nat} {vs fX:List Value} (hle:off+vs.length<=cs.length) (aH:bN ι vs fX)
 (hw:w'.heap[l.cJ]? =some (.cells (C.toList.take (l.cR+off)++(fX++C.toList.drop (l.cR+off+fX.length))).toArray elem eT)):
 sq P ι w' (cs.take off++(vs++cs.drop (off+vs.length))) elem bn a8 l (C.toList.take (l.cR+off)++(fX++C.toList.drop (l.cR+off+fX.length))).toArray eT:=by
 have hlen:=aH.1;have pL:=h.room;have CP:l.cR+cs.length<=C.size:=by
  have:=Nat.le_add_right (l.cR+cs.length) (l.ex*P.cellsOf elem);omega
 have CC:(cs.take off++(vs++cs.drop (off+vs.length))).length=cs.length:=by simp;omega
 have eJ:((C.toList.take (l.cR+off)++(fX++C.toList.drop (l.cR+off+fX.length))).toArray).size=C.size:=by simp;omega
 refine⟨hw,by rw[CC,eJ];exact pL,fun i ae=> ?_,fun ab j=>by rw[CC];exact h.yu ab j,fun aO=>by rw[CC,eJ];exact h.plain aO⟩;have ea:i<cs.length:=by omega
 have aA:=NX cs vs off i hle;have e2:=NX C.toList fX (l.cR+off) (l.cR+i) (by simp;omega);rw[a9 ae]at aA;simp only[List.getElem?_toArray];rw[e2];obtain⟨c,h1,h2⟩:=h.cell i ea;by_cases dh:i<off
 ·rw[if_pos dh,a9 ea]at aA;rw[if_pos (by omega)];refine⟨c,by simpa using h1,?_⟩;rw[Option.some.inj aA];exact h2
 ·by_cases dC:i<off+vs.length
  ·rw[if_neg dh,if_pos dC,a9 (by omega)]at aA;rw[if_neg (by omega),if_pos (by omega)];have b0:l.cR+i-(l.cR+off)=i-off:=by omega
   rw[b0,a9 (by omega)];refine⟨_,rfl,?_⟩;rw[Option.some.inj aA];exact aH.2 (i-off) (by omega) (by omega)
  ·rw[if_neg dh,if_neg dC,a9 ea]at aA;rw[if_neg (by omega),if_neg (by omega)];refine⟨c,by simpa using h1,?_⟩;rw[Option.some.inj aA];exact h2
theorem aop{ι:bA}{v c:Value}(h:bq ι v c)(aH:mx v=true):c.oneCell'=true:=by
 cases h<;>first|rfl|(simp[mx,ib]at aH)
theorem ML{ι:bA}:∀{vs cs:List Value},bN ι vs cs->hH vs=true->∀c∈cs,c.oneCell'=true
 |[],cs,h,_,c,hc=>by rw[h.vj]at hc;simp at hc
 |v::vs,cs,h,ha,c,hc=>by
  obtain⟨y,aq,rfl,h1,h2⟩:=h.cons_inv;have sP:cond (mx v) (hH vs) false=true:=ha;obtain⟨fY,hi⟩:=ja sP (by simp);rcases List.mem_cons.1 hc with rfl|hc
  ·exact aop h1 fY
  ·exact ML h2 hi c hc
theorem bt.store{ι:bA}{st:au}{w:World}(hw:bt X ι st w){id off:Nat}{cs:List Value}{elem:TypeId}{bn:Nat×Nat}{a8:Bool}{l:Loc}
 (aO:st.h.get id=some (.cells cs elem bn a8)) (hl:ι id=some l) (pC:bn.2<=bn.1) {vs fX:List Value} (hle:off+vs.length<=cs.length) (aH:bN ι vs fX) (bP:hH vs=true):
 ∃w',(storeCells ⟨l.cJ,l.cR+off,none⟩ fX).run X.P w= .ok () w'∧bt X ι ⟨st.h.set id (.cells (cs.take off++(vs++cs.drop (off+vs.length))) elem bn a8),st.ai⟩ w'∧fF ι ι w w':=by
 obtain⟨l',cu,C,eT,hc⟩:=hw.eK _ _ aO (by simp);rw[hl]at cu;cases cu;have pL:=hc.room;have hlen:=aH.1;have CP:l.cR+cs.length<=C.size:=by
  have:=Nat.le_add_right (l.cR+cs.length) (l.ex*X.P.cellsOf elem);omega
 obtain⟨w',aQ,hh,gU⟩:=NN (P:=X.P) (o:=l.cR+off) fX 0 C w hc.there (by omega) (ML aH bP) (fun j h1 h2=>hc.yu pC j (by omega) (by
  have:=Nat.le_add_right (l.cR+cs.length) (l.ex*X.P.cellsOf elem);omega))
 simp only[Nat.add_zero]at hh;obtain⟨t1,t2⟩:=bt.vL X hw aO (by simp) (fun ab=>by have:=ab.2;omega) hl (.cells (cs.take off++(vs++cs.drop (off+vs.length))) elem bn a8) _ w' hh (fun _ aN=>⟨_,eT,hc.store hle aH aN⟩) gU;exact⟨w',aQ,t1,t2⟩
theorem bt.NR{ι:bA}{st:au}{w:World}(hw:bt X ι st w){id:Nat}{o:bw}(aO:st.h.get id=some o):bt X ι ⟨st.h.set id o,st.ai⟩ w:=by
 have e:∀j,(st.h.set id o).get j=st.h.get j:=by
  intro j;rw[ao.ey];split
  ·subst_vars;exact aO.symm
  ·rfl
 exact⟨fun j p hp av=>hw.eK j p (by rw[<-e];exact hp) av,fun i j p q l m ae h1 hj h2=>hw.inj i j p q l m (by rw[<-e];exact ae) h1 (by rw[<-e];exact hj) h2,
  fun j hj=>⟨(hw.fresh j hj).1,by rw[e];exact(hw.fresh j hj).2⟩,hw.gK,hw.lT,hw.px,fun j l p hl ah hp av=>hw.ma j l p hl ah (by rw[<-e];exact hp) av⟩
theorem acQ{v:Value}(h:hH v.cells.toList=true):v≠ib:=by
 intro e;subst e;simp[ib,Value.cells]at h;have aB:cond (mx (.chan (some 0))) true false=true:=h;simp[mx]at aB
section
variable{ι:bA}{fr aI:aT}{a:Act}{aS:Nat}{st st':au}{w:World}{o:Oper}{v:Value}{call:bQ}
theorem arI{x y:Operand}{t:TypeId}{i:TypeInfo}(J:cE X.aE x=true)(aG:cE X.aE y=true)(ak:o.op= .store t x y)(ae:X.P.info? t=some i)
 (ab:cB ι fr a aS) (hw:bt X ι st w) (h:Xm i.size x y call fr st= .ok v aI st'):
 aI=fr∧ky X ι w v st' (execOp a.eval o):=by
 obtain⟨p,hp,h⟩:=qa h (by simp);obtain⟨ad,rfl,h⟩:=fy h (by simp);obtain⟨hn,h⟩:=lu h (by simp);obtain⟨bP,h⟩:=ja h (by simp);obtain⟨ah,cs,elem,bn,a8,aO,pC,h⟩:=ZO h (by simp);rw[fU]at hn;obtain⟨l,hl,hm⟩:=hw.eK _ _ aO (by simp);have bV:=ab.aj hw J;rw[hp]at bV;generalize cy:a.eval x=fh at bV;cases bV with
 |ptr _ l' cu e1=>
  rw[hl]at cu;cases cu;have fT:=ab.aj hw aG;have LM:=bN.cells fT (acQ bP);have eJ:(a.eval y).cells.size=i.size:=by have:=LM.1;simp[ik]at this hn;omega
  have fS:∀w',(storeCells ⟨l.cJ,l.cR+ad.off,none⟩ (a.eval y).cells.toList).run X.P w= .ok () w'->(execOp a.eval o).run X.P w= .ok .skip w':=by
   intro w' aQ;unfold execOp;rw[ak];simp only[cy,Instr.storeAt,Instr.sureAddr,storeVar,Sem.run_bind,Sem.run_pure,Result.andThen,jy ae];rw[if_neg (by simp[eJ])];simp[aQ]
  rcases h with⟨hle,h⟩|⟨he,h⟩
  ·cases h;obtain⟨w',aQ,h1,h2⟩:=hw.store aO hl pC hle LM bP;exact⟨rfl,ι,.skip,w',fS w' aQ,.inr ⟨rfl,rfl⟩,h1,h2⟩
  ·cases h;have:(a.eval y).cells.toList=[]:=by
    have:=LM.1;rw[show(fr.aj y).cells.toList=[]from he]at this;exact List.eq_nil_of_length_eq_zero this.symm
   refine⟨rfl,ι,.skip,w,fS w ?_,.inr ⟨rfl,rfl⟩,hw.NR aO,.refl ι w⟩;rw[this];rfl
theorem bt.Hl{cs cs':List Value}(hw:bt X ι st w)(elem:TypeId)(aH:bN ι cs cs')(w':World)(hh:w'.heap=w.heap.push (.cells cs'.toArray elem))(gU:ra w w':=by exact⟨rfl,rfl⟩):
 ∃aV,bt X aV ⟨st.h.set st.ai (.cells cs elem (0,0) false),st.ai+1⟩ w'∧fF ι aV w w'∧aV st.ai=some ⟨w.heap.size,0,0,id⟩∧aV=hJ ι st.ai ⟨w.heap.size,0,0,id⟩:=by
 refine bt.alloc X hw _ _ 0 (fun aV jC hle _ aN=> ?_) w' hh gU;refine⟨cs'.toArray,(0,0),⟨aN,by simp[aH.1],fun i ae=> ?_,fun _ j _ _=>by simp,fun _=>⟨rfl,rfl,by simp[aH.1]⟩⟩⟩;have ea:i<cs'.length:=by rw[<-aH.1];exact ae
 exact⟨cs'[i],by simp[ea],(aH.2 i ae ea).mono hle⟩
theorem tR{P:Program}{t:TypeId}{i:TypeInfo}{z:Value}(h:P.info? t=some i)(ax:i.zero=some z)(w:World):(zeroValue t).run P w= .ok z w:=by
 simp[zeroValue,typeInfo,h,ax]
theorem aqS{t:TypeId}{i:TypeInfo}{z:Value}(ak:o.op= .alloc t)(ae:X.P.info? t=some i)(ax:i.zero=some z)(hp:mq z.cells.toList=true)
 (hw:bt X ι st w) (h:xN z.cells.toList t call fr st= .ok v aI st'):
 aI=fr∧su X ι w v st st' (execOp a.eval o):=by
 unfold xN at h;rw[gv]at h;cases h;obtain⟨aV,h1,h2,h3,oL⟩:=hw.Hl t (bN.xR ι _ hp) {w with heap:=w.heap.push (.cells z.cells t)} (by simp);rw[oL]at h1 h2 h3;refine⟨rfl,_,_,_,.pointer (some ⟨w.heap.size,0,none⟩),_,rfl,by simp,?_,rfl,?_,h1,h2⟩
 ·unfold execOp;rw[ak];simp[Instr.alloc,tR ae ax,newVar,newRow,Result.andThen]
 ·have:=bq.ptr (ι:=hJ ι st.ai ⟨w.heap.size,0,0,id⟩) ⟨st.ai,0,none⟩ ⟨w.heap.size,0,0,id⟩ h3 rfl;simpa using this
theorem aqV{t:TypeId}{x:Operand}(J:cE X.aE x=true)(ak:o.op= .box t x)(ab:cB ι fr a aS)(hw:bt X ι st w)(h:Aj t x call fr st= .ok v aI st'):
 aI=fr∧su X ι w v st st' (execOp a.eval o):=by
 obtain⟨hp,h⟩:=z7 h (by simp);rw[gv]at h;cases h;have hne:fr.aj x≠ib:=by intro e;rw[e]at hp;simp[s9,ib]at hp
 obtain⟨aV,h1,h2,h3,oL⟩:=hw.Hl t (bN.cells (ab.aj hw J) hne) {w with heap:=w.heap.push (.cells (a.eval x).cells t)} (by simp);rw[oL]at h1 h2 h3;refine⟨rfl,_,_,_,.pointer (some ⟨w.heap.size,0,none⟩),_,rfl,by simp,?_,rfl,?_,h1,h2⟩
 ·unfold execOp;rw[ak];simp[Instr.box,newVar,newRow,Result.andThen]
 ·have:=bq.ptr (ι:=hJ ι st.ai ⟨w.heap.size,0,0,id⟩) ⟨st.ai,0,none⟩ ⟨w.heap.size,0,0,id⟩ h3 rfl;simpa using this
end
theorem af8{op:BinOp}{x y:Value}{c:Value->aZ}{r:aZ}(h:B5 op x y c=r)(aQ:aZ.no≠r):
 (∃k a k' b,x= .int k a∧y= .int k' b∧zb op k a k' b c=r)∨(∃s t,x= .string s∧y= .string t∧By op s t c=r):=by
 cases x with
 |int k a=>
  cases y with
  |int k' b=>exact .inl ⟨k,a,k',b,rfl,rfl,h⟩
  |_=>exact absurd h aQ
 |string s=>
  cases y with
  |string t=>exact .inr ⟨s,t,rfl,rfl,h⟩
  |_=>exact absurd h aQ
 |_=>exact absurd h aQ
theorem tc{a b:IntKind}(h:jM a b=true):a=b:=by
 cases a<;>cases b<;>first|rfl|(exact absurd h (by decide))
theorem acw(k:IntKind)(m n:Nat):(BitVec.ofInt k.bits (m:Int)&&&BitVec.ofInt k.bits (n:Int)).toNat=Nat.land (m%2^k.bits) (n%2^k.bits):=by
 rw[BitVec.ofInt_natCast,BitVec.ofInt_natCast,BitVec.toNat_and];simp
theorem acx(k:IntKind)(m n:Nat):(BitVec.ofInt k.bits (m:Int)|||BitVec.ofInt k.bits (n:Int)).toNat=Nat.lor (m%2^k.bits) (n%2^k.bits):=by
 rw[BitVec.ofInt_natCast,BitVec.ofInt_natCast,BitVec.toNat_or];simp
theorem acy(k:IntKind)(m n:Nat):(BitVec.ofInt k.bits (m:Int)^^^BitVec.ofInt k.bits (n:Int)).toNat=Nat.xor (m%2^k.bits) (n%2^k.bits):=by
 rw[BitVec.ofInt_natCast,BitVec.ofInt_natCast,BitVec.toNat_xor];simp
theorem J1(f:Nat->Nat->Nat)(g:Int)(k:IntKind)(a b:Int)(c:Value->aZ)(aO:∀m n:Nat,a=m->b=n->g=k.wrap (f (m%2^k.bits) (n%2^k.bits):Nat)):
 Bz f g k a b c=c (.int k g):=by
 unfold Bz;cases a with
 |ofNat m=>
  cases b with
  |ofNat n=>
   show hM k (nJ k (.ofNat (f (Nat.mod m (2^k.bits)) (Nat.mod n (2^k.bits))))) c=_;rw[hV,kO,aO m n rfl rfl];rfl
  |negSucc n=>exact hV _ _ _
 |negSucc m=>exact hV _ _ _
def qJ(op:BinOp)(k:IntKind)(a b:Int):Option Value:=
 match op with
 |.add=>some (.int k (k.wrap (a+b)))
 |.sub=>some (.int k (k.wrap (a-b)))
 |.mul=>some (.int k (k.wrap (a*b)))
 |.quo=>if b=0 then none else some (.int k (k.wrap (a.tdiv b)))
 |.rem=>if b=0 then none else some (.int k (a.tmod b))
 |.and=>some (.int k (k.wrap (BitVec.ofInt k.bits a&&&BitVec.ofInt k.bits b).toNat))
 |.or=>some (.int k (k.wrap (BitVec.ofInt k.bits a|||BitVec.ofInt k.bits b).toNat))
 |.xor=>some (.int k (k.wrap (BitVec.ofInt k.bits a^^^BitVec.ofInt k.bits b).toNat))
 |.andNot=>some (.int k (k.wrap (BitVec.ofInt k.bits a&&& ~~~(BitVec.ofInt k.bits b)).toNat))
 |.eql=>some (.bool (a==b))
 |.neq=>some (.bool (a != b))
 |.lss=>some (.bool (decide (a<b)))
 |.leq=>some (.bool (decide (a<=b)))
 |.gtr=>some (.bool (decide (b<a)))
 |.geq=>some (.bool (decide (b<=a)))
 |_=>none
theorem J0(op:BinOp)(k:IntKind)(a b:Int)(c:Value->aZ):yO op k a b c=match qJ op k a b with|some v=>c v|none=>.no:=by
 cases op<;>simp only[yO,PN,P1,PW,PZ,P0,PO,PY,P2,PQ,PR,PX,PV,PU,PT,PS,JZ,qJ]
 ·rw[hV,kO,OS]
 ·rw[hV,kO,OS,Mr];rfl
 ·rw[hV,kO,Mo]
 ·rw[B4];by_cases h:b=0
  ·subst h;rfl
  ·rw[if_neg h,show(b==0)=false by simpa using h];cases a with
   |ofNat m=>
    cases b with
    |ofNat n=>
     show hM k (nJ k (.ofNat (m/n))) c=c (.int k (k.wrap ((m:Int).tdiv (n:Int))));rw[hV,kO];rfl
    |negSucc n=>exact hV _ _ _
   |negSucc m=>exact hV _ _ _
 ·rw[B4];by_cases h:b=0
  ·subst h;rfl
  ·rw[if_neg h,show(b==0)=false by simpa using h];cases a with
   |ofNat m=>
    cases b with
    |ofNat n=>exact hV k (Int.ofNat (m%n)) c
    |negSucc n=>exact hV k ((Int.ofNat m).tmod (Int.negSucc n)) c
   |negSucc m=>exact hV k ((Int.negSucc m).tmod b) c
 ·exact J1 _ _ _ _ _ _ (fun m n ha aa=>by subst ha aa;rw[acw])
 ·exact J1 _ _ _ _ _ _ (fun m n ha aa=>by subst ha aa;rw[acx])
 ·exact J1 _ _ _ _ _ _ (fun m n ha aa=>by subst ha aa;rw[acy])
 ·exact hV _ _ _
 ·rw[B4]
 ·rw[B4];rfl
 ·rw[rS];congr 2;rw[Bool.eq_iff_iff];simp
 ·rw[rS]
 ·rw[rS];congr 2;rw[Bool.eq_iff_iff];simp
 ·rw[rS]
theorem aqI(k:IntKind)(a:Int)(n:Nat):yh k a n=k.wrap (a*2^(min n k.bits)):=by
 unfold yh;rw[kO,Mo];congr 2
theorem aqO(k:IntKind)(a:Int)(n:Nat):tJ k a n=a.fdiv (2^(min n k.bits)):=by
 unfold tJ;cases a with
 |ofNat m=>
  show((m/2^(min n k.bits):Nat):Int)=Int.fdiv (m:Int) _;rw[Int.fdiv_eq_ediv_of_nonneg _ (Int.pow_nonneg (by decide))]
  push_cast;rfl
 |negSucc m=>rfl
section
variable{ι:bA}{fr aI:aT}{a:Act}{aS:Nat}{st st':au}{w:World}{o:Oper}{v:Value}{call:bQ}
theorem tq{v v':Value}{fr aI:aT}{st st':au}(h:aZ.ok v fr st=aZ.ok v' aI st'):v=v'∧fr=aI∧st=st':=by cases h;exact⟨rfl,rfl,rfl⟩
theorem afR(P:Program)(w:World)(op:BinOp)(t:TypeId)(x y:Operand)(k k':IntKind)(m n:Int):(eqGuard op t x y (.int k m) (.int k' n)).run P w= .ok () w:=by
 cases op<;>simp[eqGuard]
theorem Fy(P:Program)(w:World)(op:BinOp)(t:TypeId)(x y:Operand)(s u:ByteArray):(eqGuard op t x y (.string s) (.string u)).run P w= .ok () w:=by
 cases op<;>simp[eqGuard]
theorem aqn(P:Program)(w:World)(op:BinOp)(t:TypeId)(k:IntKind)(m n:Int){v:Value}(ah:op≠.shl)(e1:op≠.shr)(h:qJ op k m n=some v):(binOp op t (.int k m) (.int k n)).run P w= .ok v w:=by
 cases op<;>simp only[qJ]at h<;>first
  |(exact absurd rfl ah)|(exact absurd rfl e1)
  |(cases h;simp[binOp,Op.intArith,Op.intBits,Op.intCmp];done)
  |(split at h
    ·cases h
    ·cases h;rename_i aa;simp[binOp,Op.intDiv,aa])
  |(simp at h)
theorem toList_eq(x y:ByteArray):(x.toList==y.toList)=(x.data.toList==y.data.toList):=by
 rw[Lib.toList_data,Lib.toList_data]
theorem aga{op:BinOp}{k k':IntKind}{m n:Int}{c:Value->aZ}{r:aZ}(h:zb op k m k' n c=r)(aQ:aZ.no≠r):
 ∃v,c v=r∧∀(P:Program) (w:World) (t:TypeId),(binOp op t (.int k m) (.int k' n)).run P w= .ok v w:=by
 by_cases h1:op= .shl
 ·subst h1;obtain⟨b,aa,h⟩:=l5 h aQ;rw[hV,aqI]at h;exact⟨_,h,fun P w t=>by subst aa;simp[binOp,Op.shift,show¬((b:Int)<0) by omega]⟩
 ·by_cases h2:op= .shr
  ·subst h2;obtain⟨b,aa,h⟩:=l5 h aQ;rw[hV,aqO]at h;exact⟨_,h,fun P w t=>by subst aa;simp[binOp,Op.shift,show¬((b:Int)<0) by omega]⟩
  ·have aB:cond (jM k k') (yO op k m n c) .no=r:=by
    rw[<-h];cases op<;>first|rfl|(exact absurd rfl h1)|(exact absurd rfl h2)
   obtain⟨U,h3⟩:=ja aB aQ;have:=tc U;subst this;rw[J0]at h3;cases ae:qJ op k m n with
   |none=>rw[ae]at h3;exact absurd h3 aQ
   |some v=>rw[ae]at h3;exact⟨v,h3,fun P w t=>aqn P w op t k m n h1 h2 ae⟩
theorem aqU{op:BinOp}{t yx:TypeId}{x y:Operand}(J:cE X.aE x=true)(aG:cE X.aE y=true)(ak:o.op= .binOp op t x y yx)(ab:cB ι fr a aS)(hw:bt X ι st w)
 (h:MQ op x y call fr st= .ok v aI st'):aI=fr∧cg X ι w v st st' (execOp a.eval o):=by
 have bV:=ab.aj hw J;have u5:=ab.aj hw aG;unfold MQ at h;rcases af8 h (by simp)with⟨k,m,k',n,ex,sL,h⟩|⟨s,u,ex,sL,h⟩
 ·rw[ex]at bV;rw[sL]at u5;generalize cy:a.eval x=fh at bV;generalize fT:a.eval y=qe at u5;cases bV;cases u5;obtain⟨v1,kp,fS⟩:=aga h (by simp);obtain⟨aA,e2,b0⟩:=tq kp;subst aA e2 b0;refine⟨rfl,cg.same (v':=v1) hw ?_ ?_⟩
  ·unfold execOp;rw[ak];simp[cy,fT,afR,fS,Result.andThen]
  ·have:jX v1=true:=by
    clear fS kp ab hw J aG ex sL cy fT ak;rw[show zb op k m k' n (fun v=>aZ.ok v fr st)=(match op with
     |.shl=>hA n (fun b=>hM k (yh k m b) (fun v=>aZ.ok v fr st)) .no
     |.shr=>hA n (fun b=>hM k (tJ k m b) (fun v=>aZ.ok v fr st)) .no
     |op=>cond (jM k k') (yO op k m n (fun v=>aZ.ok v fr st)) .no) by cases op<;>rfl]at h
    split at h
    ·obtain⟨b,_,h⟩:=l5 h (by simp);rw[hV]at h;cases h;rfl
    ·obtain⟨b,_,h⟩:=l5 h (by simp);rw[hV]at h;cases h;rfl
    ·obtain⟨_,h⟩:=ja h (by simp);rw[J0]at h;split at h
     ·rename_i v2 iN;cases h;unfold qJ at iN;split at iN<;>first|(cases iN;rfl)|(split at iN<;>first|(cases iN;done)|(cases iN;rfl))|(cases iN)
     ·cases h
   exact bq.pure ι v1 this
 ·rw[ex]at bV;rw[sL]at u5;generalize cy:a.eval x=fh at bV;generalize fT:a.eval y=qe at u5;cases bV;cases u5;unfold By at h;split at h
  ·obtain⟨hle,h⟩:=jf h (by simp);cases h;simp only[fU]at hle;refine⟨rfl,cg.same (v':=.string (s++u)) hw ?_ ?_⟩
   ·unfold execOp;rw[ak];have eJ:¬(((s.size+u.size:Nat):Int)>IntKind.i64.max):=by
     have h1:s.size=s.data.toList.length:=(Array.length_toList (xs:=s.data)).symm;have h2:u.size=u.data.toList.length:=(Array.length_toList (xs:=u.data)).symm;have h3:IntKind.i64.max=9223372036854775807:=by decide
     have ay:s.data.toList.length+u.data.toList.length<=1099511627776:=hle;rw[h3,h1,h2];omega
    simp only[cy,fT,Sem.run_bind,Fy,Result.andThen,binOp,Op.stringOp];rw[if_neg eJ];rfl
   ·have:(⟨⟨fZ s.data.toList u.data.toList⟩⟩:ByteArray)=s++u:=by
     rw[og];apply ByteArray.ext;simp[ByteArray.data_append]
    rw[this];exact .string _
  ·cases h;refine⟨rfl,cg.same (v':=.bool (s.data.toList==u.data.toList)) hw ?_ (.bool _)⟩;unfold execOp;rw[ak];simp only[cy,fT,Sem.run_bind,Fy,Result.andThen,binOp,Op.stringOp,toList_eq];rfl
  ·cases h;refine⟨rfl,cg.same (v':=.bool (!(s.data.toList==u.data.toList))) hw ?_ (.bool _)⟩;unfold execOp;rw[ak];simp only[cy,fT,Sem.run_bind,Fy,Result.andThen,binOp,Op.stringOp,toList_eq];rfl
  ·cases h
end
theorem add_eq(b o n:Nat):Addr.add ⟨b,o,none⟩ n=⟨b,o+n,none⟩:=by unfold Addr.add;split<;>simp_all
theorem Bg(a:Addr)(n:Nat):(a.add n).block=a.block:=by unfold Addr.add;split<;>rfl
theorem Bh(a:Addr)(n:Nat)(h:a.spot=none):(a.add n).spot=none:=by unfold Addr.add;split<;>simp_all
theorem EH(a:Addr)(n:Nat):(a.add n).off=a.off+n:=by unfold Addr.add;split<;>simp_all
theorem bq.Na{ι:bA}{a:Addr}{l:Loc}(h:ι a.block=some l)(ah:a.spot=none)(n:Nat):bq ι (.pointer (some (a.add n))) (.pointer (some (Addr.add ⟨l.cJ,l.cR+a.off,none⟩ n))):=by
 have:=bq.ptr (ι:=ι) (a.add n) l (by rw[Bg];exact h) (Bh a n ah);rw[EH]at this;rw[add_eq,show l.cR+a.off+n=l.cR+(a.off+n) by omega];exact this
section
variable{ι:bA}{fr aI:aT}{a:Act}{aS:Nat}{st st':au}{w:World}{o:Oper}{v:Value}{call:bQ}
theorem ard{s:TypeId}{x:Operand}{f:Nat}{fields:Array Field}{fd:Field}{i:TypeInfo}(J:cE X.aE x=true)(ak:o.op= .fieldAddr s x f)(hu:X.P.underlying s=some (.struct fields))(sU:fields[f]? =some fd)
 (ae:X.P.info? fd.type=some i) (ax:i.size≠0) (ab:cB ι fr a aS) (hw:bt X ι st w) (h:W4 fd.offset x call fr st= .ok v aI st'):
 aI=fr∧cg X ι w v st st' (execOp a.eval o):=by
 obtain⟨p,hp,h⟩:=qa h (by simp);obtain⟨ad,rfl,h⟩:=fy h (by simp);cases h;have bV:=ab.aj hw J;rw[hp]at bV;generalize cy:a.eval x=fh at bV;cases bV with
 |ptr _ l hl ah=>
  refine⟨rfl,cg.same (v':=.pointer (some (Addr.add ⟨l.cJ,l.cR+ad.off,none⟩ fd.offset))) hw ?_ (bq.Na hl ah _)⟩;unfold execOp;rw[ak];simp[cy,Instr.fieldAt,run_underlying hu,sU,Instr.sureAddr,fieldPlace,jy ae,ax,Result.andThen]
theorem arf{t e:TypeId}{x i:Operand}{n:Nat}{dk:TypeInfo}(J:cE X.aE x=true)(ea:cE X.aE i=true)(ak:o.op= .indexAddr t x i)(hu:X.P.underlying t=some (.array n e))(ae:X.P.info? e=some dk)
 (ab:cB ι fr a aS) (hw:bt X ι st w) (h:vq n dk.size x i call fr st= .ok v aI st'):
 aI=fr∧cg X ι w v st st' (execOp a.eval o):=by
 obtain⟨p,hp,h⟩:=qa h (by simp);obtain⟨ad,rfl,h⟩:=fy h (by simp);obtain⟨k,m,hm,h⟩:=jl h (by simp);obtain⟨j,rfl,h⟩:=l5 h (by simp);obtain⟨hj,h⟩:=jf h (by simp);cases h;have bV:=ab.aj hw J;rw[hp]at bV;generalize cy:a.eval x=fh at bV;have k3:=ab.aj hw ea;rw[hm]at k3;generalize wU:a.eval i=l0 at k3;cases k3;cases bV with
 |ptr _ l hl ah=>
  refine⟨rfl,cg.same (v':=.pointer (some (Addr.add ⟨l.cJ,l.cR+ad.off,none⟩ (j*dk.size)))) hw ?_ (bq.Na hl ah _)⟩;unfold execOp;rw[ak];have lB:j<n:=by omega
  simp[cy,wU,Instr.indexAt,asIntOf,run_underlying hu,Instr.sureAddr,jy ae,Result.andThen,lB]
theorem arh{t e:TypeId}{x i:Operand}{dk:TypeInfo}(J:cE X.aE x=true)(ea:cE X.aE i=true)(ak:o.op= .indexAddr t x i)(hu:X.P.underlying t=some (.slice e))(ae:X.P.info? e=some dk)
 (ab:cB ι fr a aS) (hw:bt X ι st w) (h:W6 dk.size x i call fr st= .ok v aI st'):
 aI=fr∧cg X ι w v st st' (execOp a.eval o):=by
 obtain⟨b,len,cap,hp,h⟩:=tO h (by simp);obtain⟨ad,rfl,h⟩:=fy h (by simp);obtain⟨k,m,hm,h⟩:=jl h (by simp);obtain⟨j,rfl,h⟩:=l5 h (by simp);obtain⟨hj,h⟩:=jf h (by simp);cases h;have bV:=ab.aj hw J;rw[hp]at bV;generalize cy:a.eval x=fh at bV;have k3:=ab.aj hw ea;rw[hm]at k3;generalize wU:a.eval i=l0 at k3;cases k3;cases bV with
 |gH _ l off _ _ hl ah iM=>
  have sZ:off=l.cR+ad.off:=by rcases iM with h|⟨h,_⟩<;>omega
  subst sZ;refine⟨rfl,cg.same (v':=.pointer (some (Addr.add ⟨l.cJ,l.cR+ad.off,none⟩ (j*dk.size)))) hw ?_ (bq.Na hl ah _)⟩;unfold execOp;rw[ak];have lB:j<len:=by omega
  simp[cy,wU,Instr.indexAt,asIntOf,run_underlying hu,jy ae,Result.andThen,lB]
theorem aq1{s t:TypeId}{k:IntKind}{Ea:TypeDesc}{x:Operand}(J:cE X.aE x=true)(ak:o.op= .convert s t x)(ah:X.P.underlying s=some Ea)(aN:X.P.underlying t=some (.int k))
 (ab:cB ι fr a aS) (hw:bt X ι st w) (h:WY k x call fr st= .ok v aI st'):
 aI=fr∧cg X ι w v st st' (execOp a.eval o):=by
 obtain⟨k',n,hp,h⟩:=jl h (by simp);rw[hV,kO]at h;cases h;have bV:=ab.aj hw J;rw[hp]at bV;generalize cy:a.eval x=fh at bV;cases bV;refine⟨rfl,cg.same (v':=.int k (k.wrap n)) hw ?_ (.int _ _)⟩;unfold execOp;rw[ak];simp[cy,convert,run_underlying ah,run_underlying aN,Result.andThen,Conv.intToInt]
theorem aq0{s t:TypeId}{Ea:TypeDesc}{x:Operand}(J:cE X.aE x=true)(ak:o.op= .convert s t x)(ah:X.P.underlying s=some Ea)(aN:X.P.underlying t=some .string)
 (ab:cB ι fr a aS) (hw:bt X ι st w) (h:WX x call fr st= .ok v aI st'):
 aI=fr∧cg X ι w v st st' (execOp a.eval o):=by
 obtain⟨br,hp,h⟩:=oZ h (by simp);cases h;have bV:=ab.aj hw J;rw[hp]at bV;generalize cy:a.eval x=fh at bV;cases bV;refine⟨rfl,cg.same (v':=.string br) hw ?_ (.string _)⟩;unfold execOp;rw[ak];simp[cy,convert,run_underlying ah,run_underlying aN,Result.andThen]
theorem aru{t:TypeId}{d:TypeDesc}{x:Operand}(J:cE X.aE x=true)(ak:o.op= .makeInterface t x)(aN:X.P.underlying t=some d)(av:∀ms,d≠.interface ms)
 (ab:cB ι fr a aS) (hw:bt X ι st w) (h:Xc t x call fr st= .ok v aI st'):
 aI=fr∧cg X ι w v st st' (execOp a.eval o):=by
 cases h;refine⟨rfl,cg.same (v':=.iface t (a.eval x)) hw ?_ (.iface _ _ _ (ab.aj hw J))⟩;unfold execOp;rw[ak];simp only[Instr.makeInterface,Sem.run_bind,run_underlying aN,Result.andThen];cases d<;>first|rfl|(exact absurd rfl (av _))
theorem uF(ab:cB ι fr a aS)(hw:bt X ι st w):∀xs:List Operand,(∀x∈xs,cE X.aE x=true)->bN ι (dT fr xs) (xs.map a.eval)
 |[],_=>bN.nil ι
 |x::xs,h=>bN.cons (ab.aj hw (h x (by simp))) (uF ab hw xs (fun y aG=>h y (by simp[aG])))
theorem Zw{f:Fn}(pB:∀l,f≠.yield l){first fl:Array Operand}(h1:∀x∈first.toList,cE X.aE x=true)(h2:∀x∈fl.toList,cE X.aE x=true)(ak:o.op= .makeFunc f first fl)
 (ab:cB ι fr a aS) (hw:bt X ι st w) (h:Xb f first.toList fl.toList call fr st= .ok v aI st'):
 aI=fr∧cg X ι w v st st' (execOp a.eval o):=by
 cases h;refine⟨rfl,cg.same (v':=.func f (first.map a.eval) (fl.map a.eval)) hw ?_ (bq.Hs (.inl ⟨rfl,pB⟩) ?_ ?_)⟩
 ·unfold execOp;rw[ak];simp[Instr.makeFunc]
 ·simpa using uF ab hw first.toList h1
 ·simpa using uF ab hw fl.toList h2
theorem arc{x:Operand}{i:Nat}(J:cE X.aE x=true)(ak:o.op= .extract x i)(ab:cB ι fr a aS)(hw:bt X ι st w)(h:W3 x i call fr st= .ok v aI st'):
 aI=fr∧cg X ι w v st st' (execOp a.eval o):=by
 obtain⟨vs,hp,h⟩:=abb h (by simp);obtain⟨hn,h⟩:=ux h (by simp);obtain⟨y,aG,h⟩:=Ah h (by simp);cases h;have bV:=ab.aj hw J;rw[hp]at bV;generalize cy:a.eval x=fh at bV;cases bV with
 |tuple _ aq h1 h2=>
  have hlen:i<vs.size:=by simp at hn;omega
  have ae:vs[i]=v:=by
   have:=congrArg (fun l=>l[0]?) aG;simpa[hlen]using this
  refine⟨rfl,cg.same (v':=aq[i]'(by omega)) hw ?_ ?_⟩
  ·unfold execOp;rw[ak];simp[cy,Instr.extract,show i<aq.size by omega]
  ·rw[<-ae];exact h2 i hlen (by omega)
theorem arn{t d:TypeId}{x:Operand}{n:Nat}(ak:o.op= .call {callee:=.builtin .len,args:= #[x],argTypes:= #[t]})(hu:X.P.underlying t=some (.array n d))(hw:bt X ι st w)
 (h:MS n call fr st= .ok v aI st'):aI=fr∧cg X ι w v st st' (execOp a.eval o):=by
 cases h;refine⟨rfl,cg.same (v':=.int .i64 (.ofNat n)) hw ?_ (.int _ _)⟩;unfold execOp;rw[ak];simp[resolve,invoke,builtin,Builtin.len_,run_underlying hu,Result.andThen,goInt]
theorem aro{t u d:TypeId}{x:Operand}{n:Nat}(ak:o.op= .call {callee:=.builtin .len,args:= #[x],argTypes:= #[t]})(hu:X.P.underlying t=some (.pointer u))(CU:X.P.underlying u=some (.array n d))(hw:bt X ι st w)
 (h:MS n call fr st= .ok v aI st'):aI=fr∧cg X ι w v st st' (execOp a.eval o):=by
 cases h;refine⟨rfl,cg.same (v':=.int .i64 (.ofNat n)) hw ?_ (.int _ _)⟩;unfold execOp;rw[ak];simp[resolve,invoke,builtin,Builtin.len_,run_underlying hu,run_underlying CU,Result.andThen,goInt]
theorem arp{t e:TypeId}{x:Operand}(J:cE X.aE x=true)(ak:o.op= .call {callee:=.builtin .len,args:= #[x],argTypes:= #[t]})(hu:X.P.underlying t=some (.slice e))
 (ab:cB ι fr a aS) (hw:bt X ι st w) (h:W9 x call fr st= .ok v aI st'):aI=fr∧cg X ι w v st st' (execOp a.eval o):=by
 obtain⟨b,n,c,hp,h⟩:=tO h (by simp);cases h;have bV:=ab.aj hw J;rw[hp]at bV;generalize cy:a.eval x=fh at bV;refine⟨rfl,cg.same (v':=.int .i64 (.ofNat n)) hw ?_ (.int _ _)⟩;unfold execOp;rw[ak];cases bV<;>simp[cy,resolve,invoke,builtin,Builtin.len_,run_underlying hu,Result.andThen,goInt]
theorem arq{t:TypeId}{x:Operand}(J:cE X.aE x=true)(ak:o.op= .call {callee:=.builtin .len,args:= #[x],argTypes:= #[t]})(hu:X.P.underlying t=some .string)
 (ab:cB ι fr a aS) (hw:bt X ι st w) (h:Xa x call fr st= .ok v aI st'):aI=fr∧cg X ι w v st st' (execOp a.eval o):=by
 obtain⟨s,hp,h⟩:=oZ h (by simp);rw[zh,fU]at h;cases h;have bV:=ab.aj hw J;rw[hp]at bV;generalize cy:a.eval x=fh at bV;cases bV;have e:Int.ofNat s.data.toList.length=(s.size:Int):=by rw[Array.length_toList];rfl
 rw[e];refine⟨rfl,cg.same (v':=.int .i64 s.size) hw ?_ (.int _ _)⟩;unfold execOp;rw[ak];simp[cy,resolve,invoke,builtin,Builtin.len_,run_underlying hu,Result.andThen,goInt]
end
theorem XA{P:Program}{ι:bA}{t:TypeId}{d:TypeDesc}{i:TypeInfo}{off:Nat}{cs cs':Array Value}{v:Value}(av:P.underlying t=some d)(ae:P.info? t=some i)
 (aQ:bN ι cs.toList cs'.toList) (h:tr off i.size (qj d) cs.toList=some v) (w:World):∃v',(part t cs' off).run P w= .ok v' w∧bq ι v v':=by
 unfold tr at h;obtain⟨hn,h⟩:=ux h (by simp);have mJ:=(aQ.drop off).take i.size;cases aO:qj d with
 |true=>
  rw[aO]at h;cases h;refine⟨.agg (cs'.extract off (off+i.size)),?_,bq.Ag ?_⟩
  ·simp only[part,Sem.run_bind,Da av,aO,Result.andThen,if_true,jy ae,Sem.run_pure]
  ·have e:(cs'.extract off (off+i.size)).toList=(cs'.toList.drop off).take i.size:=by
    rw[Array.toList_extract,List.extract_eq_take_drop];congr 1;omega
   rw[e];simpa using mJ
 |false=>
  rw[aO]at h;obtain⟨y,aG,h⟩:=Ah h (by simp);cases h;rw[aG]at mJ;obtain⟨z,gi,ax,aH,rM⟩:=mJ.cons_inv;have e:cs'[off]? =some z:=by
   have:=congrArg (fun l=>l[0]?) ax;simp only[List.getElem?_take,List.getElem?_drop,List.getElem?_cons_zero,Nat.add_zero]at this;split at this
   ·simpa using this
   ·cases this
  refine⟨z,?_,aH⟩;simp only[part,Sem.run_bind,Da av,aO,Result.andThen,Bool.false_eq_true,if_false,e,Sem.run_pure]
theorem ZI(off:Nat):∀(vs:List Value) (k:Nat) (C:Array Value),off+k+vs.length<=C.size->
 (vs.zipIdx k).foldl (fun cs (p:Value×Nat)=>cs.setIfInBounds (off+p.2) p.1) C=(C.toList.take (off+k)++(vs++C.toList.drop (off+k+vs.length))).toArray
 |[],k,C,_=>by simp
 |v::vs,k,C,h=>by
  simp only[List.length_cons]at h;have hl:off+k<C.toList.length:=by simp;omega
  rw[List.zipIdx_cons,List.foldl_cons,ZI off vs (k+1) _ (by simp;omega)];have lX:(C.setIfInBounds (off+k) v).toList=C.toList.set (off+k) v:=by simp
  rw[lX];have t1:(C.toList.set (off+k) v).take (off+(k+1))=C.toList.take (off+k)++[v]:=by
   rw[show off+(k+1)=(off+k)+1 by omega,List.take_succ_eq_append_getElem (by simpa using hl),List.take_set_of_le (b5 _)];simp
  have t2:(C.toList.set (off+k) v).drop (off+(k+1)+vs.length)=C.toList.drop (off+k+(v::vs).length):=by
   rw[List.drop_set_of_lt (by omega)];congr 1;simp only[List.length_cons];omega
  rw[t1,t2];simp
theorem bN.arS{ι:bA}{cs cs' vs fX:List Value}(h:bN ι cs cs')(aH:bN ι vs fX)(n:Nat):
 bN ι (cs.take n++(vs++cs.drop (n+vs.length))) (cs'.take n++(fX++cs'.drop (n+fX.length))):=by
 rw[aH.1];exact(h.take n).append (aH.append (h.drop _))
section
variable{ι:bA}{fr aI:aT}{a:Act}{aS:Nat}{st st':au}{w:World}{o:Oper}{v:Value}{call:bQ}
theorem FI(place:Nat->Option (Nat×Nat))(ab:cB ι fr a aS)(hw:bt X ι st w){c:List Value->aZ}{r:aZ}(aQ:aZ.no≠r):
 ∀(parts:List (Nat×Operand)) (ps:List (Nat×Nat×Operand)),ps=parts.map (fun p=>(((place p.1).getD (0,0)).1,((place p.1).getD (0,0)).2,p.2))->(∀p∈parts,(place p.1).isSome∧cE X.aE p.2=true)->
 ∀(cs:List Value) (cs':Array Value),bN ι cs cs'.toList->nP fr ps cs c=r->
  ∃out nr,Instr.fill place cs' (parts.map fun p=>(p.1,a.eval p.2))=some nr∧bN ι out nr.toList∧c out=r
 |[],_,rfl,_,cs,cs',eu,h=>⟨cs,cs',rfl,eu,h⟩
 |(i,x)::parts,_,rfl,bP,cs,cs',eu,h=>by
  obtain⟨alM,J⟩:=bP (i,x) (by simp);obtain⟨⟨off,a4⟩,h7⟩:=Option.isSome_iff_exists.1 alM;simp only[List.map_cons,h7,Option.getD_some]at h;obtain⟨mI,h⟩:=z7 h aQ;obtain⟨eJ,h⟩:=lu h aQ;obtain⟨hle,h⟩:=jf h aQ;simp only[fU]at eJ hle;have aus:off+a4<=cs.length:=hle;have hne:fr.aj x≠ib:=by intro e;rw[e]at mI;simp[s9,ib]at mI
  have UC:=bN.cells (ab.aj hw J) hne;have e1:(ik (fr.aj x)).length=a4:=eJ;have hlen:(a.eval x).cells.size=a4:=by have:=UC.1;simp at this;rw[<-this];simpa[ik]using e1
  have qz:cs'.size=cs.length:=by have:=eu.1;simp at this;omega
  have h2:nP fr (parts.map (fun p=>(((place p.1).getD (0,0)).1,((place p.1).getD (0,0)).2,p.2))) (cs.take off++(ik (fr.aj x)++cs.drop (off+(ik (fr.aj x)).length))) c=r:=by
   rcases Nc h aQ with⟨_,h⟩|⟨he,h⟩
   ·exact h
   ·rw[he];simp;exact h
  obtain⟨out,nr,h3,ay,aY⟩:=FI place ab hw aQ parts _ rfl (fun p hp=>bP p (by simp[hp])) _ ((a.eval x).cells.zipIdx.foldl (fun cs (p:Value×Nat)=>cs.setIfInBounds (off+p.2) p.1) cs') (by
   rw[<-Array.foldl_toList,Array.toList_zipIdx,ZI off _ 0 cs' (by simp;omega)];have:=eu.arS UC off;simpa[ik]using this) h2
  refine⟨out,nr,?_,ay,aY⟩;simp only[List.map_cons,Instr.fill,h7];rw[if_neg (by simp;omega)];exact h3
theorem are{t:TypeId}{x:Operand}{f:Nat}{fields:Array Field}{fd:Field}{d:TypeDesc}{i:TypeInfo}(J:cE X.aE x=true)(ak:o.op= .field t x f)(hu:X.P.underlying t=some (.struct fields))(sU:fields[f]? =some fd)
 (av:X.P.underlying fd.type=some d) (ae:X.P.info? fd.type=some i) (ab:cB ι fr a aS) (hw:bt X ι st w) (h:W5 fd.offset i.size (qj d) x call fr st= .ok v aI st'):
 aI=fr∧cg X ι w v st st' (execOp a.eval o):=by
 obtain⟨cs,hp,h⟩:=AY h (by simp);obtain⟨v1,kp,h⟩:=fy h (by simp);cases h;have bV:=ab.aj hw J;rw[hp]at bV;generalize cy:a.eval x=fh at bV;cases bV with
 |agg _ aq h1 h2=>
  obtain⟨v',aQ,aH⟩:=XA av ae (bN.vm h1 h2) kp w;refine⟨rfl,cg.same (v':=v') hw ?_ aH⟩;unfold execOp;rw[ak];simp[cy,Instr.field,run_underlying hu,sU,asAgg,aQ,Result.andThen]
theorem ark{t e:TypeId}{x i:Operand}{n:Nat}{d:TypeDesc}{dk:TypeInfo}(J:cE X.aE x=true)(ea:cE X.aE i=true)(ak:o.op= .index t x i)(hu:X.P.underlying t=some (.array n e))
 (av:X.P.underlying e=some d) (ae:X.P.info? e=some dk) (ab:cB ι fr a aS) (hw:bt X ι st w) (h:W7 n dk.size (qj d) x i call fr st= .ok v aI st'):
 aI=fr∧cg X ι w v st st' (execOp a.eval o):=by
 obtain⟨cs,hp,h⟩:=AY h (by simp);obtain⟨k,m,hm,h⟩:=jl h (by simp);obtain⟨j,rfl,h⟩:=l5 h (by simp);obtain⟨hj,h⟩:=jf h (by simp);obtain⟨v1,kp,h⟩:=fy h (by simp);cases h;have bV:=ab.aj hw J;rw[hp]at bV;generalize cy:a.eval x=fh at bV;have k3:=ab.aj hw ea;rw[hm]at k3;generalize wU:a.eval i=l0 at k3;cases k3;cases bV with
 |agg _ aq h1 h2=>
  obtain⟨v',aQ,aH⟩:=XA av ae (bN.vm h1 h2) kp w;refine⟨rfl,cg.same (v':=v') hw ?_ aH⟩;unfold execOp;rw[ak];have lB:j<n:=by omega
  have mJ:(part e aq (j*dk.size)).run X.P w= .ok v' w:=aQ;simp[cy,wU,Instr.index,asIntOf,run_underlying hu,jy ae,mJ,lB,Result.andThen]
theorem arl{t:TypeId}{x i:Operand}(J:cE X.aE x=true)(ea:cE X.aE i=true)(ak:o.op= .index t x i)(hu:X.P.underlying t=some .string)
 (ab:cB ι fr a aS) (hw:bt X ι st w) (h:W8 x i call fr st= .ok v aI st'):
 aI=fr∧cg X ι w v st st' (execOp a.eval o):=by
 obtain⟨s,hp,h⟩:=oZ h (by simp);obtain⟨k,m,hm,h⟩:=jl h (by simp);obtain⟨j,rfl,h⟩:=l5 h (by simp);obtain⟨hn,h⟩:=ux h (by simp);obtain⟨b,aa,h⟩:=Ah h (by simp);cases h;have bV:=ab.aj hw J;rw[hp]at bV;generalize cy:a.eval x=fh at bV;have k3:=ab.aj hw ea;rw[hm]at k3;generalize wU:a.eval i=l0 at k3;cases k3;cases bV;have aP:j<s.data.size:=by rw[List.length_drop,Array.length_toList]at hn;omega
 have cT:s[j]? =some b:=by
  have:=congrArg (fun l=>l[0]?) aa;simp only[List.getElem?_take,List.getElem?_drop,List.getElem?_cons_zero,Nat.add_zero]at this;rw[if_pos (by omega)]at this;have h1:s.data[j]? =some b:=by simpa using this
  rw[Array.getElem?_eq_getElem aP]at h1;have zz:j<s.size:=aP;rw[getElem?_pos s j zz];exact h1
 refine⟨rfl,cg.same (v':=.int .u8 b.toNat) hw ?_ (.int _ _)⟩;unfold execOp;rw[ak];simp[cy,wU,Instr.index,asIntOf,run_underlying hu,cT,Result.andThen]
theorem arJ{x:Operand}{kv t:TypeId}{d:TypeDesc}{i:TypeInfo}{z:Value}{ok:Bool}(J:cE X.aE x=true)(ak:o.op= .typeAssert x kv t ok)(av:X.P.underlying t=some d)(hz:∀ms,d≠.interface ms)
 (ae:X.P.info? t=some i) (ax:i.zero=some z) (hp:jX z=true) (ab:cB ι fr a aS) (hw:bt X ι st w) (h:MV t z ok x call fr st= .ok v aI st'):
 aI=fr∧cg X ι w v st st' (execOp a.eval o):=by
 have bV:=ab.aj hw J;generalize cy:a.eval x=fh at bV;unfold MV at h;generalize aH:fr.aj x=j6 at h bV;have Vh:bq ι (.tuple #[z,.bool false]) (.tuple #[z,.bool false]):=bq.qO (bN.cons (bq.pure ι z hp) (bN.cons (.bool _) (bN.nil ι)));cases j6 with
 |iface u y=>
  have gD:et u t (aZ.ok (cond ok (.tuple #[y,.bool true]) y) fr st) (cond ok (aZ.ok (.tuple #[z,.bool false]) fr st) aZ.no)=aZ.ok v aI st':=h;cases bV with
  |iface _ _ kP aG=>
   rw[oA]at gD;clear h;split at gD
   ·rename_i e;subst e;cases gD;refine⟨rfl,cg.same (v':=if ok then .tuple #[kP,.bool true]else kP) hw ?_ ?_⟩
    ·unfold execOp;rw[ak];simp only[cy,Instr.typeAssert,Sem.run_bind,run_underlying av,Result.andThen];cases d<;>first|(exact absurd rfl (hz _))|(simp)
    ·cases ok
     ·exact aG
     ·exact bq.qO (bN.cons aG (bN.cons (.bool _) (bN.nil ι)))
   ·rename_i e;obtain⟨bP,gD⟩:=ja gD (by simp);cases gD;refine⟨rfl,cg.same (v':=.tuple #[z,.bool false]) hw ?_ Vh⟩;unfold execOp;rw[ak];simp only[cy,Instr.typeAssert,Sem.run_bind,run_underlying av,Result.andThen];cases d<;>first|(exact absurd rfl (hz _))|(simp[e,bP,tR ae ax,Result.andThen])
 |nilIface=>
  have h:cond ok (aZ.ok (.tuple #[z,.bool false]) fr st) aZ.no=aZ.ok v aI st':=h;obtain⟨bP,h⟩:=ja h (by simp);cases h;cases bV;refine⟨rfl,cg.same (v':=.tuple #[z,.bool false]) hw ?_ Vh⟩;unfold execOp;rw[ak];simp only[cy,Instr.typeAssert,Sem.run_bind,run_underlying av,Result.andThen];cases d<;>first|(exact absurd rfl (hz _))|(simp[bP,tR ae ax,Result.andThen])
 |_=>exact absurd h (by simp[si])
end
theorem Wc{α β:Type}(P:Program)(w:World)(f:α->Sem β)(g:α->β):∀(l:List α),(∀x∈l,(f x).run P w= .ok (g x) w)->(l.mapM f).run P w= .ok (l.map g) w
 |[],_=>by simp
 |x::xs,h=>by
  rw[List.mapM_cons];simp[h x (by simp),Wc P w f g xs (fun y aG=>h y (by simp[aG])),Result.andThen]
section
variable{ι:bA}{fr aI:aT}{a:Act}{aS:Nat}{st st':au}{w:World}{o:Oper}{v:Value}{call:bQ}
theorem aqY{t:TypeId}{parts:Array (Nat×Operand)}{fields:Array Field}{i:TypeInfo}{z:Value}{ps:List (Nat×Nat×Operand)}(ak:o.op= .build t parts)(hu:X.P.underlying t=some (.struct fields))
 (ae:X.P.info? t=some i) (ax:i.zero=some z) (hp:mq z.cells.toList=true) (akO:∀f∈fields.toList,(X.P.info? f.type).isSome)
 (ju:ps=parts.toList.map (fun p=>((((fields.map fun f=>(f.offset,X.P.cellsOf f.type))[p.1]?).getD (0,0)).1,(((fields.map fun f=>(f.offset,X.P.cellsOf f.type))[p.1]?).getD (0,0)).2,p.2)))
 (bP:∀p∈parts.toList,((fields.map fun f=>(f.offset,X.P.cellsOf f.type))[p.1]?).isSome∧cE X.aE p.2=true) (ab:cB ι fr a aS) (hw:bt X ι st w)
 (h:MR z.cells.toList ps call fr st= .ok v aI st'):aI=fr∧cg X ι w v st st' (execOp a.eval o):=by
 obtain⟨out,nr,h1,h2,h3⟩:=FI (fun j=>(fields.map fun f=>(f.offset,X.P.cellsOf f.type))[j]?) ab hw (by simp) parts.toList ps ju bP z.cells.toList z.cells (bN.xR ι _ hp) h;cases h3;refine⟨rfl,cg.same (v':=.agg nr) hw ?_ (bq.Ag h2)⟩;unfold execOp;rw[ak];have hm:(fields.mapM fun f=>do pure (f.offset,<-sizeOf f.type):Sem (Array (Nat×Nat))).run X.P w= .ok (fields.map fun f=>(f.offset,X.P.cellsOf f.type)) w:=by
  rw[Array.mapM_eq_mapM_toList];rw[Sem.run_map,Wc X.P w _ (fun f:Field=>(f.offset,X.P.cellsOf f.type)) fields.toList (fun f akL=>by
   obtain⟨at1,UH⟩:=Option.isSome_iff_exists.1 (akO f akL);simp[jy UH,Result.andThen,Program.cellsOf,UH])]
  simp only[Result.andThen];congr 1;apply Array.ext';simp
 simp only[Instr.build,Sem.run_bind,tR ae ax,Result.andThen,run_underlying hu,hm];have kD:Instr.fill (fun x=>(Array.map (fun f:Field=>(f.offset,X.P.cellsOf f.type)) fields)[x]?) z.cells (parts.map fun x=>(x.1,a.eval x.2)).toList=some nr:=by
  rw[<-h1];simp
 rw[kD];rfl
theorem aqX{t e:TypeId}{n:Nat}{parts:Array (Nat×Operand)}{i dk:TypeInfo}{z:Value}{ps:List (Nat×Nat×Operand)}(ak:o.op= .build t parts)(hu:X.P.underlying t=some (.array n e))
 (ae:X.P.info? t=some i) (ax:i.zero=some z) (hp:mq z.cells.toList=true) (gF:X.P.info? e=some dk)
 (ju:ps=parts.toList.map (fun p=>(p.1*dk.size,dk.size,p.2))) (bP:∀p∈parts.toList,cE X.aE p.2=true) (ab:cB ι fr a aS) (hw:bt X ι st w)
 (h:MR z.cells.toList ps call fr st= .ok v aI st'):aI=fr∧cg X ι w v st st' (execOp a.eval o):=by
 obtain⟨out,nr,h1,h2,h3⟩:=FI (fun j=>some (j*dk.size,dk.size)) ab hw (by simp) parts.toList ps (by rw[ju];simp) (fun p hp=>⟨by simp,bP p hp⟩) z.cells.toList z.cells (bN.xR ι _ hp) h;cases h3;refine⟨rfl,cg.same (v':=.agg nr) hw ?_ (bq.Ag h2)⟩;unfold execOp;rw[ak];simp only[Instr.build,Sem.run_bind,tR ae ax,Result.andThen,run_underlying hu,jy gF];have kD:Instr.fill (fun i=>some (i*dk.size,dk.size)) z.cells (parts.map fun x=>(x.1,a.eval x.2)).toList=some nr:=by
  rw[<-h1];simp
 rw[kD];rfl
theorem aqW{t e:TypeId}{len:Nat}{parts:Array (Nat×Operand)}{dk:TypeInfo}{z:Value}{gi:List Value}{ps:List (Nat×Nat×Operand)}(ak:o.op= .buildSlice t len parts)(hu:X.P.underlying t=some (.slice e))
 (gF:X.P.info? e=some dk) (ax:dk.zero=some z) (UU:len*dk.size<=2^24) (rM:gi=(List.range (len*dk.size)).map (fun j=>(if len*dk.size=0 then(#[]:Array Value)else z.cells)[j%(if len*dk.size=0 then(#[]:Array Value)else z.cells).size]!))
 (hp:mq gi=true) (ju:ps=parts.toList.map (fun p=>(p.1*dk.size,dk.size,p.2))) (bP:∀p∈parts.toList,cE X.aE p.2=true) (ab:cB ι fr a aS) (hw:bt X ι st w)
 (h:Ak e len gi ps call fr st= .ok v aI st'):aI=fr∧su X ι w v st st' (execOp a.eval o):=by
 obtain⟨out,nr,h1,h2,h3⟩:=FI (fun j=>some (j*dk.size,dk.size)) ab hw (by simp) parts.toList ps (by rw[ju];simp) (fun p hp=>⟨by simp,bP p hp⟩) gi gi.toArray (by simpa using bN.xR ι _ hp) h;rw[gv]at h3;cases h3;obtain⟨aV,bj,bM,dK,oL⟩:=hw.Hl e h2 {w with heap:=w.heap.push (.cells nr e)} (by simp);rw[oL]at bj bM dK;refine⟨rfl,_,_,_,.slice (some ⟨w.heap.size,0,none⟩) len len,_,rfl,by simp,?_,rfl,?_,bj,bM⟩
 ·unfold execOp;rw[ak];simp only[Instr.buildSlice,Sem.run_bind,Result.andThen,run_underlying hu,jy gF];rw[if_neg (by omega)];have kD:Instr.fill (fun i=>some (i*dk.size,dk.size)) ((Array.range (len*dk.size)).map ((if len*dk.size=0 then(#[]:Array Value)else z.cells)[· %(if len*dk.size=0 then(#[]:Array Value)else z.cells).size]!)) (parts.map fun x=>(x.1,a.eval x.2)).toList=some nr:=by
   rw[<-h1];congr 1
   ·rw[rM];apply Array.ext';simp
   ·simp
  by_cases h0:len*dk.size=0
  ·simp only[h0,if_true]at kD⊢;simp only[Sem.run_pure,Result.andThen,Sem.run_bind,kD,newRow,run_newObj]
  ·simp only[h0,if_false]at kD⊢;simp only[Sem.run_pure,Sem.run_bind,tR gF ax,Result.andThen,kD,newRow,run_newObj]
 ·have:=bq.gH (ι:=hJ ι st.ai ⟨w.heap.size,0,0,id⟩) ⟨st.ai,0,none⟩ ⟨w.heap.size,0,0,id⟩ 0 len len dK rfl (.inl rfl);simpa using this
theorem Qy(z:List Value):∀(n:Nat),z≠[]->my z n=(List.range (n*z.length)).map (fun j=>z.toArray[j%z.toArray.size]!)
 |0,_=>by simp only[Nat.zero_mul,List.range_zero,List.map_nil];rfl
 |n+1,ax=>by
  show fZ z (my z n)=_;rw[og,Qy z n ax];have auE:0<z.length:=List.length_pos_iff.2 ax;rw[Nat.succ_mul,Nat.add_comm,List.range_add,List.map_append,List.map_map];congr 1
  ·apply List.ext_getElem?;intro j;by_cases hj:j<z.length
   ·simp[hj,gW hj]
   ·simp[hj]
  ·apply List.map_congr_left;intro j _;simp
theorem arv{t e:TypeId}{l c:Operand}{dk:TypeInfo}{z:Value}(hl:cE X.aE l=true)(hc:cE X.aE c=true)(ak:o.op= .makeSlice t l c)(hu:X.P.underlying t=some (.slice e))(gF:X.P.info? e=some dk)
 (ax:dk.zero=some z) (eJ:z.cells.toList.length=dk.size) (hne:dk.size≠0) (hp:mq z.cells.toList=true) (ab:cB ι fr a aS) (hw:bt X ι st w)
 (h:r3 e dk.bytes z.cells.toList l c call fr st= .ok v aI st'):aI=fr∧su X ι w v st st' (execOp a.eval o):=by
 obtain⟨k,auU,uY,aL⟩:=jl h (by simp);obtain⟨k',atW,La,aR⟩:=jl aL (by simp);obtain⟨cq,aA,a7⟩:=l5 aR (by simp);obtain⟨ho,e2,cl⟩:=l5 a7 (by simp);clear h aL aR a7;subst aA e2;obtain⟨hle,dc⟩:=jf cl (by simp);obtain⟨aa,eI⟩:=jf dc (by simp);rw[gv]at eI;cases eI;have cu:=ab.aj hw hl;rw[uY]at cu;generalize ak2:a.eval l=Me at cu;have mF:=ab.aj hw hc;rw[La]at mF;generalize akr:a.eval c=Fi at mF;cases cu;cases mF;have al8:z.cells.toList≠[]:=by intro e;rw[e]at eJ;simp at eJ;omega
 have fR:=Qy z.cells.toList ho al8;have alw:bN ι (my z.cells.toList ho) (my z.cells.toList ho):=by
  have:∀n,bN ι (my z.cells.toList n) (my z.cells.toList n):=by
   intro n
   induction n with
   |zero=>exact bN.nil ι
   |succ n a0=>show bN ι (fZ _ _) (fZ _ _);rw[og];exact(bN.xR ι _ hp).append a0
  exact this ho
 obtain⟨aV,bj,bM,dK,oL⟩:=hw.Hl e alw {w with heap:=w.heap.push (.cells (my z.cells.toList ho).toArray e)} (by simp);rw[oL]at bj bM dK;refine⟨rfl,_,_,_,.slice (some ⟨w.heap.size,0,none⟩) cq ho,_,rfl,by simp,?_,rfl,?_,bj,bM⟩
 ·have cT:ho*(dk.bytes+1)<=1099511627776:=aa;have zt:ho<=1099511627776:=Nat.le_trans (Nat.le_mul_of_pos_right ho (by omega)) cT;have Uz:dk.bytes*ho<=1099511627776:=by
   have:dk.bytes*ho<=ho*(dk.bytes+1):=by rw[Nat.mul_comm];exact mu _ (by omega)
   omega
  have wl:IntKind.i64.wrap (cq:Int)=cq:=by rw[<-kO];simp only[nJ];rw[ys _ _ _ (by decide)];rw[if_neg]<;>omega
  have aty:IntKind.i64.wrap (ho:Int)=ho:=by rw[<-kO];simp only[nJ];rw[ys _ _ _ (by decide)];rw[if_neg]<;>omega
  unfold execOp;rw[ak];have zp:¬((dk.bytes:Int)*(ho:Int)>2^48):=by
   have:((dk.bytes*ho:Nat):Int)<=1099511627776:=by omega
   rw[Int.natCast_mul]at this;omega
  have aO:(decide ((ho:Int)<0)||decide ((dk.bytes:Int)*(ho:Int)>2^48)||decide ((cq:Int)<0)||decide ((cq:Int)>(ho:Int)))=false:=by
   simp only[Bool.or_eq_false_iff,decide_eq_false_iff_not];omega
  have lx:(Array.range (ho*dk.size)).map (z.cells[· %z.cells.size]!)=(my z.cells.toList ho).toArray:=by
   rw[fR];apply Array.ext';simp[eJ]
  have pH:¬(ho*dk.size=0)∨ho*dk.size=0:=by omega
  simp only[Instr.makeSlice,Sem.run_bind,Result.andThen,run_underlying hu,ak2,akr,asInt,asIntOf,Sem.run_pure,typeInfo,run_program,gF,wl,aty,aO,Bool.false_eq_true,if_false,run_askRoom,jy gF,Int.toNat_natCast];by_cases h0:ho*dk.size=0
  ·have nX:ho=0:=by rcases Nat.mul_eq_zero.1 h0 with h|h;exact h;exact absurd h hne
   subst nX;have aU:my z.cells.toList 0=[]:=rfl;simp[Result.andThen,newRow,aU];congr 2;apply Array.ext';simp
  ·rw[if_neg h0];simp only[Sem.run_bind,tR gF ax,Result.andThen,Sem.run_pure,lx,newRow,run_newObj]
 ·have:=bq.gH (ι:=hJ ι st.ai ⟨w.heap.size,0,0,id⟩) ⟨st.ai,0,none⟩ ⟨w.heap.size,0,0,id⟩ 0 cq ho dK rfl (.inl rfl);simpa using this
end
section
variable{ι:bA}{fr aI:aT}{a:Act}{aS:Nat}{st st':au}{w:World}{o:Oper}{v:Value}{call:bQ}
theorem arK{op:UnOp}{t:TypeId}{x:Operand}(J:cE X.aE x=true)(ak:o.op= .unOp op t x)(ab:cB ι fr a aS)(hw:bt X ι st w)(h:MW op x call fr st= .ok v aI st'):
 aI=fr∧cg X ι w v st st' (execOp a.eval o):=by
 have bV:=ab.aj hw J;generalize cy:a.eval x=fh at bV;unfold MW at h;cases op with
 |neg=>
  obtain⟨k,n,hp,g⟩:=jl h (by simp);rw[hV,kO,Mr]at g;rw[hp]at bV;cases bV;cases g;refine⟨rfl,cg.same (v':=.int k (k.wrap (-n))) hw ?_ (.int _ _)⟩;unfold execOp;rw[ak];simp[cy,Op.unary,Op.intArith]
 |xor=>
  obtain⟨k,n,hp,g⟩:=jl h (by simp);rw[hV]at g;rw[hp]at bV;cases bV;cases g;refine⟨rfl,cg.same (v':=.int k _) hw ?_ (.int _ _)⟩;unfold execOp;rw[ak];simp[cy,Op.unary,Op.intBits]
 |not=>
  obtain⟨b,hp,g⟩:=Ok h (by simp);rw[hp]at bV;cases bV;cases g;refine⟨rfl,cg.same (v':=.bool (!b)) hw ?_ (.bool _)⟩;unfold execOp;rw[ak];simp[cy,Op.unary]
 |_=>cases h
theorem arA{x:Operand}(J:cE X.aE x=true)(ak:o.op= .nilCheck x)(ab:cB ι fr a aS)(hw:bt X ι st w)(h:MT x call fr st= .ok v aI st'):
 aI=fr∧cg X ι w v st st' (execOp a.eval o):=by
 have bV:=ab.aj hw J;generalize cy:a.eval x=fh at bV;unfold MT at h;generalize qw:fr.aj x=j6 at h bV;cases j6 with
 |pointer p=>
  cases p with
  |none=>cases h
  |some ad=>
   have h:aZ.ok (.pointer (some ad)) fr st= .ok v aI st':=h;cases h;cases bV with
   |ptr _ l hl ah=>
    refine⟨rfl,cg.same (v':=.pointer (some ⟨l.cJ,l.cR+ad.off,none⟩)) hw ?_ (.ptr _ _ hl ah)⟩;unfold execOp;rw[ak];simp[cy]
 |func f dR vT=>
  cases f with
  |func g=>
   have h:aZ.ok (.func (.func g) dR vT) fr st= .ok v aI st':=h;cases h;cases bV with
   |func _ jb _ aq _ vs gE h1 h2 h3 ay=>
    rcases gE with⟨rfl,_⟩|⟨l,b,e,_⟩
    ·refine⟨rfl,cg.same (v':=.func (.func g) aq vs) hw ?_ (.func _ _ _ _ _ _ (.inl ⟨rfl,by simp⟩) h1 h2 h3 ay)⟩;unfold execOp;rw[ak];simp[cy]
    ·cases e
  |_=>cases h
 |_=>cases h
theorem We(k:IntKind)(ab:cB ι fr a aS)(hw:bt X ι st w):∀(xs:List Operand) (m r:Int),(∀x∈xs,cE X.aE x=true)->Dj k fr xs m=some r->
 ((xs.map a.eval).foldlM Builtin.max2 (.int k m)).run X.P w= .ok (.int k r) w
 |[],m,r,_,h=>by cases h;simp
 |x::xs,m,r,bP,h=>by
  obtain⟨k',y,aG,h1⟩:=jl h (by simp);obtain⟨U,h2⟩:=ja h1 (by simp);have fu:=tc U;have bV:=ab.aj hw (bP x (by simp));rw[aG]at bV;generalize cy:a.eval x=fh at bV;cases bV;have a0:=We k ab hw xs _ r (fun z ax=>bP z (by simp[ax])) h2;simp only[List.map_cons,List.foldlM_cons,Sem.run_bind,cy,Builtin.max2,Sem.run_pure,Result.andThen];have e:(if y>m then y else m)=cond (l2 y m) m y:=by
   rw[rS];by_cases c:y<=m
   ·rw[if_neg (by omega)];simp[c]
   ·rw[if_pos (by omega)];simp[c]
  rw[e];exact a0
theorem Wh(k:IntKind)(ab:cB ι fr a aS)(hw:bt X ι st w):∀(xs:List Operand) (m r:Int),(∀x∈xs,cE X.aE x=true)->Dk k fr xs m=some r->
 ((xs.map a.eval).foldlM Builtin.min2 (.int k m)).run X.P w= .ok (.int k r) w
 |[],m,r,_,h=>by cases h;simp
 |x::xs,m,r,bP,h=>by
  obtain⟨k',y,aG,h1⟩:=jl h (by simp);obtain⟨U,h2⟩:=ja h1 (by simp);have fu:=tc U;have bV:=ab.aj hw (bP x (by simp));rw[aG]at bV;generalize cy:a.eval x=fh at bV;cases bV;have a0:=Wh k ab hw xs _ r (fun z ax=>bP z (by simp[ax])) h2;simp only[List.map_cons,List.foldlM_cons,Sem.run_bind,cy,Builtin.min2,Sem.run_pure,Result.andThen];have e:(if y<m then y else m)=cond (l2 m y) m y:=by
   rw[rS];by_cases c:m<=y
   ·rw[if_neg (by omega)];simp[c]
   ·rw[if_pos (by omega)];simp[c]
  rw[e];exact a0
theorem arz{x:Operand}{xs:List Operand}{ts:Array TypeId}(bP:∀y∈x::xs,cE X.aE y=true)(ak:o.op= .call {callee:=.builtin .max,args:=(x::xs).toArray,argTypes:=ts})(ab:cB ι fr a aS)(hw:bt X ι st w)
 (h:Xf x xs call fr st= .ok v aI st'):aI=fr∧cg X ι w v st st' (execOp a.eval o):=by
 obtain⟨k,n,hp,h1⟩:=jl h (by simp);obtain⟨m,hm,h2⟩:=fy h1 (by simp);rw[hV]at h2;have bV:=ab.aj hw (bP x (by simp));rw[hp]at bV;generalize cy:a.eval x=fh at bV;cases bV;cases h2;have aQ:=We k ab hw xs n m (fun y aG=>bP y (by simp[aG])) hm;refine⟨rfl,cg.same (v':=.int k m) hw ?_ (.int _ _)⟩;unfold execOp;rw[ak];simp[cy,resolve,invoke,builtin,Builtin.max_,aQ,Result.andThen]
theorem arx{x:Operand}{xs:List Operand}{ts:Array TypeId}(bP:∀y∈x::xs,cE X.aE y=true)(ak:o.op= .call {callee:=.builtin .min,args:=(x::xs).toArray,argTypes:=ts})(ab:cB ι fr a aS)(hw:bt X ι st w)
 (h:Xd x xs call fr st= .ok v aI st'):aI=fr∧cg X ι w v st st' (execOp a.eval o):=by
 obtain⟨k,n,hp,h1⟩:=jl h (by simp);obtain⟨m,hm,h2⟩:=fy h1 (by simp);rw[hV]at h2;have bV:=ab.aj hw (bP x (by simp));rw[hp]at bV;generalize cy:a.eval x=fh at bV;cases bV;cases h2;have aQ:=Wh k ab hw xs n m (fun y aG=>bP y (by simp[aG])) hm;refine⟨rfl,cg.same (v':=.int k m) hw ?_ (.int _ _)⟩;unfold execOp;rw[ak];simp[cy,resolve,invoke,builtin,Builtin.min_,aQ,Result.andThen]
theorem oq(ab:cB ι fr a aS)(hw:bt X ι st w){x:Option Operand}(J:∀y,x=some y->cE X.aE y=true){d y:Nat}{k:Nat->aZ}{r:aZ}(h:e5 fr x d y k=r)(aQ:aZ.no≠r):
 ∃n,k n=r∧((x=none∧n=d)∨(∃z cc,x=some z∧a.eval z= .int cc (n:Int)∧n<=y)):=by
 cases x with
 |none=>exact⟨d,h,.inl ⟨rfl,rfl⟩⟩
 |some z=>
  obtain⟨cc,m,hp,h1⟩:=jl (h:gB (fr.aj z) _ _=r) aQ;obtain⟨n,e,h2⟩:=l5 h1 aQ;obtain⟨hle,h3⟩:=jf h2 aQ;have ax:=ab.aj hw (J z rfl);rw[hp]at ax;generalize qF:a.eval z=so at ax;cases ax;exact⟨n,h3,.inr ⟨z,cc,rfl,by rw[qF,e],hle⟩⟩
end
theorem ZC(P:Program)(w:World)(cc:IntKind)(n y:Nat)(c:BoundsCode)(h:n<=y):(Instr.sliceBound (.int cc (n:Int)) y c).run P w= .ok n w:=by
 have:(n:Int)<=(y:Int):=by omega
 simp[Instr.sliceBound,asIntOf,h]
def Ex(v:Option Value)(d y n:Nat):Prop:=(v=none∧n=d)∨∃cc,v=some (.int cc (n:Int))∧n<=y
theorem Eg(P:Program)(w:World)(is:Bool)(len cap l h m:Nat)(bb ae eU:Option Value)(hm:Ex eU cap cap m)(hh:Ex ae len m h)(hl:Ex bb 0 h l)(J:eU≠none->ae≠none):
 (Instr.sliceBounds is len cap bb ae eU).run P w= .ok (l,h,m) w:=by
 unfold Instr.sliceBounds;rcases hm with⟨rfl,rfl⟩|⟨auQ,rfl,hm⟩
 ·clear J;rcases hh with⟨rfl,rfl⟩|⟨amS,rfl,hh⟩<;>rcases hl with⟨rfl,rfl⟩|⟨amV,rfl,hl⟩<;>simp[ZC,Result.andThen, *]
 ·rcases hh with⟨rfl,rfl⟩|⟨amS,rfl,hh⟩
  ·exact absurd rfl (J (by simp))
  ·clear J;rcases hl with⟨rfl,rfl⟩|⟨amV,rfl,hl⟩<;>simp[ZC,Result.andThen, *]
section
variable{ι:bA}{fr aI:aT}{a:Act}{aS:Nat}{st st':au}{w:World}{o:Oper}{v:Value}{call:bQ}
theorem oo{x:Option Operand}{d y n:Nat}(h:(x=none∧n=d)∨(∃z cc,x=some z∧a.eval z= .int cc (n:Int)∧n<=y)):Ex (x.map a.eval) d y n:=by
 rcases h with⟨rfl,rfl⟩|⟨z,cc,rfl,h1,h2⟩
 ·exact .inl ⟨rfl,rfl⟩
 ·exact .inr ⟨cc,by simp[h1],h2⟩
theorem agh(s:ByteArray)(l h:Nat)(_hl:l<=h)(_hh:h<=s.data.toList.length):(⟨⟨(s.data.toList.drop l).take (h-l)⟩⟩:ByteArray)=s.extract l h:=by
 apply ByteArray.ext;rw[ByteArray.data_extract];apply Array.ext';rw[Array.toList_extract,List.extract_eq_take_drop]
theorem yQ{x:Option Operand}{d y n:Nat}(h:(x=none∧n=d)∨(∃z cc,x=some z∧a.eval z= .int cc (n:Int)∧n<=y))(av:d<=y):n<=y:=by
 rcases h with⟨_,rfl⟩|⟨_,_,_,_,h⟩<;>omega
theorem arH{t:TypeId}{x:Operand}{bb ae:Option Operand}(J:cE X.aE x=true)(h1:∀y,bb=some y->cE X.aE y=true)(h2:∀y,ae=some y->cE X.aE y=true)(ak:o.op= .slice t x bb ae none)
 (hu:X.P.underlying t=some .string) (ab:cB ι fr a aS) (hw:bt X ι st w) (h:Xl x bb ae call fr st= .ok v aI st'):aI=fr∧cg X ι w v st st' (execOp a.eval o):=by
 obtain⟨s,hp,aL⟩:=oZ h (by simp);obtain⟨hn,aR,cZ⟩:=oq ab hw h2 aL (by simp);obtain⟨cq,a7,dz⟩:=oq ab hw h1 aR (by simp);obtain⟨hc,cl⟩:=ux a7 (by simp);cases cl;rw[fU]at cZ;have UL:hn<=s.data.toList.length:=yQ cZ (b5 _);have pG:cq<=hn:=yQ dz (Nat.zero_le _);have bV:=ab.aj hw J;rw[hp]at bV;generalize cy:a.eval x=fh at bV;cases bV;refine⟨rfl,cg.same (v':=.string (s.extract cq hn)) hw ?_ ?_⟩
 ·unfold execOp;rw[ak];have eJ:s.data.toList.length=s.size:=by rw[Array.length_toList];rfl
  rw[eJ]at cZ;have aa:=Eg X.P w false s.size s.size cq hn s.size (bb.map a.eval) (ae.map a.eval) none (.inl ⟨rfl,rfl⟩) (oo cZ) (oo dz) (by simp);simp[cy,Instr.sliceAt,Instr.slice,run_underlying hu,Result.andThen,aa]
 ·have e:=agh s cq hn pG UL;have:(Nat.sub hn cq)=hn-cq:=rfl;rw[this,e];exact .string _
theorem arF{t e:TypeId}{n:Nat}{x:Operand}{bb ae eU:Option Operand}{dk:TypeInfo}(J:cE X.aE x=true)(h1:∀y,bb=some y->cE X.aE y=true)(h2:∀y,ae=some y->cE X.aE y=true)(h3:∀y,eU=some y->cE X.aE y=true)
 (CH:eU≠none->ae≠none) (ak:o.op= .slice t x bb ae eU) (hu:X.P.underlying t=some (.array n e)) (gF:X.P.info? e=some dk) (ab:cB ι fr a aS) (hw:bt X ι st w)
 (h:Am n dk.size x bb ae eU call fr st= .ok v aI st'):aI=fr∧cg X ι w v st st' (execOp a.eval o):=by
 obtain⟨p,hp,aL⟩:=qa h (by simp);obtain⟨ad,aA,aR⟩:=fy aL (by simp);subst aA;obtain⟨ah,cs,elem,bn,a8,aO,a7⟩:=uo aR (by simp);obtain⟨zu,cl⟩:=z7 a7 (by simp);obtain⟨m,dc,iZ⟩:=oq ab hw h3 cl (by simp);obtain⟨hn,eI,cZ⟩:=oq ab hw h2 dc (by simp);obtain⟨cq,g8,dz⟩:=oq ab hw h1 eI (by simp);cases g8;subst zu;obtain⟨l,hl,C,eT,hc⟩:=hw.eK _ _ aO (by simp);have bV:=ab.aj hw J;rw[hp]at bV;generalize cy:a.eval x=fh at bV;cases bV with
 |ptr _ l' cu e1=>
  rw[hl]at cu;cases cu;have h7:=hc.plain rfl;refine⟨rfl,cg.same (v':=.slice (some (if m=cq then⟨l.cJ,l.cR+ad.off,none⟩else Addr.add ⟨l.cJ,l.cR+ad.off,none⟩ (cq*dk.size))) (hn-cq) (m-cq)) hw ?_ ?_⟩
  ·unfold execOp;rw[ak];have aa:=Eg X.P w false n n cq hn m (bb.map a.eval) (ae.map a.eval) (eU.map a.eval) (oo iZ) (oo cZ) (oo dz) (by simpa using CH);simp[cy,Instr.sliceAt,Instr.sureAddr,run_underlying hu,Result.andThen,aa,jy gF]
  ·rw[oA];by_cases c:m=cq
   ·rw[if_pos c,if_pos c];have:=bq.gH (ι:=ι) ad l (l.cR+ad.off) (Nat.sub hn cq) (Nat.sub m cq) hl ah (.inl rfl);rw[h7.1]at this;exact this
   ·rw[if_neg c,if_neg c,add_eq];have:=bq.gH (ι:=ι) (ad.add (Nat.mul cq dk.size)) l (l.cR+(ad.add (Nat.mul cq dk.size)).off) (Nat.sub hn cq) (Nat.sub m cq) (by rw[Bg];exact hl) (Bh _ _ ah) (.inl rfl);rw[h7.1,EH,<-Nat.add_assoc]at this;exact this
theorem arG{t e:TypeId}{x:Operand}{bb ae eU:Option Operand}{dk:TypeInfo}(J:cE X.aE x=true)(h1:∀y,bb=some y->cE X.aE y=true)(h2:∀y,ae=some y->cE X.aE y=true)(h3:∀y,eU=some y->cE X.aE y=true)
 (CH:eU≠none->ae≠none) (ak:o.op= .slice t x bb ae eU) (hu:X.P.underlying t=some (.slice e)) (gF:X.P.info? e=some dk) (ab:cB ι fr a aS) (hw:bt X ι st w)
 (h:Xk dk.size x bb ae eU call fr st= .ok v aI st'):aI=fr∧cg X ι w v st st' (execOp a.eval o):=by
 obtain⟨b,len,cap,hp,aL⟩:=tO h (by simp);have bV:=ab.aj hw J;rw[hp]at bV;generalize cy:a.eval x=fh at bV;cases b with
 |none=>
  have aL:e5 fr eU cap cap (fun m=>e5 fr ae len m fun h=>e5 fr bb 0 h fun l=>.ok (.slice none (Nat.sub h l) (Nat.sub m l)) fr st)=aZ.ok v aI st':=aL;obtain⟨m,dc,iZ⟩:=oq ab hw h3 aL (by simp);obtain⟨hn,eI,cZ⟩:=oq ab hw h2 dc (by simp);obtain⟨cq,g8,dz⟩:=oq ab hw h1 eI (by simp);cases g8;cases bV;refine⟨rfl,cg.same (v':=.slice none (hn-cq) (m-cq)) hw ?_ (.nD _ _)⟩;unfold execOp;rw[ak];have aa:=Eg X.P w true len cap cq hn m (bb.map a.eval) (ae.map a.eval) (eU.map a.eval) (oo iZ) (oo cZ) (oo dz) (by simpa using CH);simp[cy,Instr.sliceAt,Instr.slice,run_underlying hu,Result.andThen,aa,jy gF]
 |some ad=>
  obtain⟨ah,cs,elem,bn,a8,aO,a7⟩:=uo (aL:au.gL st ad _ _=_) (by simp);obtain⟨l,hl,C,eT,hc⟩:=hw.eK _ _ aO (by simp);cases bV with
  |gH _ l' off _ _ cu e1 iM=>
   rw[hl]at cu;cases cu;cases a8 with
   |false=>
    have h7:=hc.plain rfl;obtain⟨m,dc,iZ⟩:=oq ab hw h3 (a7:e5 fr eU cap cap _=_) (by simp);obtain⟨hn,eI,cZ⟩:=oq ab hw h2 dc (by simp);obtain⟨cq,g8,dz⟩:=oq ab hw h1 eI (by simp);cases g8;have auw:m<=cap:=yQ iZ (b5 _);refine⟨rfl,cg.same (v':=.slice (some (if m=cq then⟨l.cJ,off,none⟩else Addr.add ⟨l.cJ,off,none⟩ (cq*dk.size))) (hn-cq) (m-cq)) hw ?_ ?_⟩
    ·unfold execOp;rw[ak];have aa:=Eg X.P w true len cap cq hn m (bb.map a.eval) (ae.map a.eval) (eU.map a.eval) (oo iZ) (oo cZ) (oo dz) (by simpa using CH);have hex:cap+l.ex=cap:=by rw[h7.1];rfl
     rw[hex]at cy;simp only[cy,Instr.sliceAt,Instr.slice,Sem.run_bind,run_underlying hu,Result.andThen,aa,jy gF,Sem.run_pure];by_cases c:m=cq<;>simp[c]
    ·rw[oA];by_cases c:m=cq
     ·rw[if_pos c,if_pos c];have:=bq.gH (ι:=ι) ad l off (Nat.sub hn cq) (Nat.sub m cq) hl ah (by
       rcases iM with h|⟨h1,h2,h3⟩
       ·exact .inl h
       ·right;subst h1 h2;have aA:Nat.sub m cq=m-cq:=rfl;have e2:Nat.sub hn cq=hn-cq:=rfl;have hh:hn<=m:=by
         rcases cZ with⟨_,e⟩|⟨_,_,_,_,e⟩<;>omega
        refine⟨by omega,by omega,h3⟩)
      rw[h7.1]at this;exact this
     ·rw[if_neg c,if_neg c,add_eq];have sZ:off=l.cR+ad.off:=by
       rcases iM with h|⟨h1,h2,h3⟩
       ·exact h
       ·exfalso;subst h1 h2;have hh:hn<=m:=by
         rcases cZ with⟨_,e⟩|⟨_,_,_,_,e⟩<;>omega
        have pG:cq<=hn:=yQ dz (Nat.zero_le _);omega
      subst sZ;have:=bq.gH (ι:=ι) (ad.add (Nat.mul cq dk.size)) l (l.cR+(ad.add (Nat.mul cq dk.size)).off) (Nat.sub hn cq) (Nat.sub m cq) (by rw[Bg];exact hl) (Bh _ _ ah) (.inl rfl);rw[h7.1,EH,<-Nat.add_assoc]at this;exact this
   |true=>
    obtain⟨ala,cl⟩:=Du (a7:bl eU (fun _=>aZ.no) _=aZ.ok v aI st') (fun _=>by simp);obtain⟨qz,dc⟩:=jf cl (by simp);obtain⟨hn,eI,cZ⟩:=oq ab hw h2 dc (by simp);obtain⟨cq,g8,dz⟩:=oq ab hw h1 eI (by simp);cases g8;subst ala;have UL:hn<=len:=yQ cZ (b5 _);have pG:cq<=hn:=yQ dz (Nat.zero_le _);have ack:(ae=none∧hn=len)∨(∃z cc,ae=some z∧a.eval z= .int cc (hn:Int)∧hn<=cap+l.ex):=by
     rcases cZ with h|⟨z,cc,h1,h2,h3⟩
     ·exact .inl h
     ·exact .inr ⟨z,cc,h1,h2,by omega⟩
    refine⟨rfl,cg.same (v':=.slice (some (if cap+l.ex=cq then⟨l.cJ,off,none⟩else Addr.add ⟨l.cJ,off,none⟩ (cq*dk.size))) (hn-cq) (cap+l.ex-cq)) hw ?_ ?_⟩
    ·unfold execOp;rw[ak];have aa:=Eg X.P w true len (cap+l.ex) cq hn (cap+l.ex) (bb.map a.eval) (ae.map a.eval) none (.inl ⟨rfl,rfl⟩) (oo ack) (oo dz) (by simp);simp only[cy,Instr.sliceAt,Instr.slice,Sem.run_bind,run_underlying hu,Result.andThen,Option.map_none,aa,jy gF,Sem.run_pure];by_cases c:cap+l.ex=cq<;>simp[c]
    ·have aA:Nat.sub cap cq=cap-cq:=rfl;have e2:cap+l.ex-cq=(cap-cq)+l.ex:=by omega
     rw[e2];by_cases c:cap+l.ex=cq
     ·rw[if_pos c];exact bq.gH (ι:=ι) (ad.add (Nat.mul cq dk.size)) l off (Nat.sub hn cq) (Nat.sub cap cq) (by rw[Bg];exact hl) (Bh _ _ ah) (.inr ⟨by show hn-cq=0;omega,by show cap-cq=0;omega,by omega⟩)
     ·rw[if_neg c,add_eq];refine bq.gH (ι:=ι) (ad.add (Nat.mul cq dk.size)) l (off+cq*dk.size) (Nat.sub hn cq) (Nat.sub cap cq) (by rw[Bg];exact hl) (Bh _ _ ah) ?_;rcases iM with h|⟨h1,h2,h3⟩
      ·left;rw[EH,h,Nat.add_assoc];rfl
      ·exfalso;omega
end
theorem bt.kill{ι:bA}{st:au}{w:World}(h:bt X ι st w){id:Nat}{l8:bw}(h₀:st.h.get id=some l8):bt X ι ⟨st.h.set id .dead,st.ai⟩ w:=by
 have nc:id<st.ai:=by
  rcases Nat.lt_or_ge id st.ai with c|c
  ·exact c
  ·rw[(h.fresh id c).2]at h₀;cases h₀
 refine⟨fun j p hp av=> ?_,fun i j p q l m ae hz hj hK=> ?_,fun j hj=> ?_,h.gK,h.lT,h.px,fun j l p hl ah hp av=> ?_⟩
 ·rw[ao.ey]at hp;split at hp
  ·cases hp;exact absurd rfl av
  ·exact h.eK j p hp av
 ·rw[ao.ey]at ae hj;split at ae
  ·cases ae;exact absurd rfl hz
  ·split at hj
   ·cases hj;exact absurd rfl hK
   ·exact h.inj i j p q l m ae hz hj hK
 ·have lB:st.ai<=j:=hj;refine⟨(h.fresh j lB).1,?_⟩;rw[ao.ey,if_neg (by omega)];exact(h.fresh j lB).2
 ·rw[ao.ey]at hp;split at hp
  ·cases hp;exact absurd rfl av
  ·exact h.ma j l p hl ah hp av
theorem bt.ap7{ι:bA}{st:au}{w:World}(h:bt X ι st w){id:Nat}{l l':Loc}{l8:bw}(h₀:st.h.get id=some l8)(sR:l8≠.dead)(Lu:¬l8.uJ)(e1:l'.cj≠im)(hl:ι id=some l)(o:bw)(cT:l'.cJ=l.cJ)(O:Obj)
 (w':World) (hw:w'.heap=w.heap.setIfInBounds l.cJ O) (hm:∀aV:bA,ι.le aV->w'.heap[l'.cJ]? =some O->jm X aV w' o l') (gU:ra w w':=by exact⟨rfl,rfl⟩):
 ∃aV,bt X aV ⟨(st.h.set id .dead).set st.ai o,st.ai+1⟩ w'∧fF ι aV w w'∧aV st.ai=some l':=by
 have aa:=h.gK id l hl;have ni:l.cj≠im:=fun e=>Lu (h.ma id l l8 hl e h₀ sR);have nc:id<st.ai:=by
  rcases Nat.lt_or_ge id st.ai with c|c
  ·exact c
  ·rw[(h.fresh id c).2]at h₀;cases h₀
 have hle:ι.le (fun i=>if i=st.ai then some l' else ι i):=by
  intro i m kI;show(if i=st.ai then _ else ι i)=_;rw[if_neg];exact kI;intro e;subst e;rw[(h.fresh _ (b5 _)).1]at kI;cases kI
 refine⟨fun i=>if i=st.ai then some l' else ι i,⟨fun j p hp av=> ?_,fun i j p q td GV ae hz hj hK gQ hU aO e=> ?_,fun j hj=> ?_,fun j td nY=> ?_,fun g aO=>hle _ _ (h.lT g aO),Nat.le_succ_of_le h.px,fun j td p nY ah hp av=> ?_⟩,⟨hle,by rw[hw];simp,fun b _ ae=> ?_,fun j td nY=> ?_,gU⟩,if_pos rfl⟩
 ·rw[ao.ey]at hp;by_cases e:j=st.ai
  ·rw[if_pos e]at hp;cases hp;exact⟨l',by simp[e],hm _ hle (by rw[hw,cT];simp[aa])⟩
  ·rw[if_neg e,ao.ey]at hp;split at hp
   ·cases hp;exact absurd rfl av
   ·rename_i ne;obtain⟨m,kI,ak⟩:=h.eK j p hp av;refine⟨m,hle _ _ kI,jm.mono X ak hle ?_⟩;have hne:m.cJ≠l.cJ:=fun oy=>ne (h.inj j id p l8 m l hp av h₀ sR kI hl (.inr ni) oy);rw[hw,Array.getElem?_setIfInBounds_ne (Ne.symm hne)]
 ·have key:∀j p m,((st.h.set id .dead).set st.ai o).get j=some p->p≠.dead->(if j=st.ai then some l' else ι j)=some m->
   (j=st.ai∧m=l')∨(j≠st.ai∧j≠id∧st.h.get j=some p∧ι j=some m):=by
   intro j p m hj av kI;rw[ao.ey]at hj;by_cases c:j=st.ai
   ·rw[if_pos c]at kI;cases kI;exact .inl ⟨c,rfl⟩
   ·rw[if_neg c,ao.ey]at hj;rw[if_neg c]at kI;split at hj
    ·cases hj;exact absurd rfl av
    ·rename_i ne;exact .inr ⟨c,ne,hj,kI⟩
  rcases key i p td ae hz gQ with⟨aA,rfl⟩|⟨nq,fb,aL,aR⟩<;>rcases key j q GV hj hK hU with⟨e2,rfl⟩|⟨fK,iQ,f1,f2⟩
  ·rw[aA,e2]
  ·exact absurd (h.inj j id q l8 GV l f1 hK h₀ sR f2 hl (.inr ni) (by omega)) iQ
  ·exact absurd (h.inj i id p l8 td l aL hz h₀ sR aR hl (.inr ni) (by omega)) fb
  ·exact h.inj i j p q td GV aL hz f1 hK aR f2 aO e
 ·have lB:st.ai+1<=j:=hj;have:=h.fresh j (by omega);refine⟨?_,?_⟩
  ·show(if j=st.ai then _ else ι j)=_;rw[if_neg (by omega)];exact this.1
  ·rw[ao.ey,if_neg (by omega),ao.ey,if_neg (by omega)];exact this.2
 ·rw[hw];simp only[Array.size_setIfInBounds];by_cases e:j=st.ai
  ·simp only[if_pos e]at nY;cases nY;omega
  ·simp only[if_neg e]at nY;exact h.gK j td nY
 ·rw[ao.ey]at hp;by_cases e:j=st.ai
  ·simp only[if_pos e]at nY;cases nY;exact absurd ah e1
  ·rw[if_neg e,ao.ey]at hp;simp only[if_neg e]at nY;split at hp
   ·cases hp;exact absurd rfl av
   ·exact h.ma j td p nY ah hp av
 ·rw[hw,Array.getElem?_setIfInBounds_ne (ae id l hl ni)]
 ·by_cases e:j=st.ai
  ·simp only[if_pos e]at nY;cases nY;exact .inr (.inr ⟨id,l,hl,ni,cT.symm⟩)
  ·simp only[if_neg e]at nY;exact .inl nY
theorem Ui(n B:Nat)(a5:n+(n+768)/4<=B):∀r c,c<=B->Builtin.growBy n r c<=B
 |0,c,h=>h
 |r+1,c,h=>by
  unfold Builtin.growBy;split
  ·exact h
  ·rename_i hc;exact Ui n B a5 r _ (by omega)
theorem anY(n c:Nat)(h:c<n):Builtin.nextslicecap n c<=2*n+768:=by
 unfold Builtin.nextslicecap;split
 ·omega
 ·split
  ·omega
  ·exact Ui n _ (by omega) 4 c (by omega)
theorem OB(z:Array Value)(n:Nat):(Builtin.zeroCells z n).size=n*z.size:=by simp[Builtin.zeroCells]
theorem bt.Hm{ι:bA}{st:au}{w:World}{cs cs':List Value}(hw:bt X ι st w)(elem:TypeId)(aH:bN ι cs cs')(rest:List Value)(ex:Nat)(aQ:ex*X.P.cellsOf elem<=rest.length)(bn:Nat×Nat)
 (pC:∀i,i<cs.length+rest.length->¬(bn.1<=i∧i<bn.2)) (w':World) (hh:w'.heap=w.heap.push (.cells (cs'++rest).toArray elem bn)) (gU:ra w w':=by exact⟨rfl,rfl⟩):
 ∃aV,bt X aV ⟨st.h.set st.ai (.cells cs elem (0,0) true),st.ai+1⟩ w'∧fF ι aV w w'∧aV st.ai=some ⟨w.heap.size,0,ex,id⟩∧aV=hJ ι st.ai ⟨w.heap.size,0,ex,id⟩:=by
 refine bt.alloc X hw _ _ ex (fun aV jC hle _ aN=> ?_) w' hh gU;refine⟨(cs'++rest).toArray,bn,⟨aN,by simp[aH.1];omega,fun i ae=> ?_,fun _ j _ hj=> ?_,fun h=>by cases h⟩⟩
 ·have ea:i<cs'.length:=by rw[<-aH.1];exact ae
  refine⟨cs'[i],?_,(aH.2 i ae ea).mono hle⟩;simp[List.getElem?_append_left ea,ea]
 ·refine pC j ?_;have:0+cs.length+ex*X.P.cellsOf elem<=cs.length+rest.length:=by omega
  exact e4 hj this
structure Src(P:Program)(w:World)(x:Value)(n size:Nat)(new:List Value):Prop where
 len:(Builtin.lenOf x).run P w= .ok n w
 cells:∀tape drawn,(Builtin.firstCells size n x).run P {w with tape:=tape,drawn:=drawn}= .ok new.toArray {w with tape:=tape,drawn:=drawn}
section
variable{P:Program}{w:World}{lg kv elem:TypeId}{d:TypeDesc}{i:TypeInfo}{x:Value}{n len cap:Nat}{new:List Value}
theorem IL{base:Option Addr}(hu:P.underlying lg=some (.slice elem))(J:P.underlying kv=some d)(av:∀k,d≠.int k)(ae:P.info? elem=some i)(ah:Src P w x n i.size new)(hn:len+n<=cap)(ty:TypeId)(w':World)
 (dN:∀a,base=some a->(storeCells (a.add (len*i.size)) new).run P w= .ok () w') (gd:base=none->w'=w):
 (Builtin.append_ #[lg,kv] ty #[.slice base len cap,x]).run P w= .ok (.slice base (len+n) cap) w':=by
 have zN:(d matches .int _)=false:=by cases d<;>first|rfl|(exact absurd rfl (av _))
 have hc:=ah.cells w.tape w.drawn;simp only[Builtin.append_,List.getElem?_toArray,List.getElem?_cons_zero,List.getElem?_cons_succ,Sem.run_bind,run_underlying hu,Result.andThen,jy ae,run_underlying J,Sem.run_pure,Bool.false_eq_true,if_false,ah.len,hn,if_true,Bool.not_false];rw[hc];cases base with
 |none=>simp only[Sem.run_pure];rw[gd rfl]
 |some a=>
  simp only[Result.andThen,Sem.run_bind,Sem.run_pure];rw[dN a rfl]
theorem NM{base:Option Addr}{z:Value}{old:List Value}(hu:P.underlying lg=some (.slice elem))(J:P.underlying kv=some d)(av:∀k,d≠.int k)(ae:P.info? elem=some i)(ax:i.zero=some z)(ah:Src P w x n i.size new)
 (hn:cap<len+n) (aa:(2*(len+n)+768)*(i.bytes+1)<=1099511627776) (ty:TypeId)
 (hold:∀tape drawn,(Builtin.firstCells i.size len (.slice base len cap)).run P {w with tape:=tape,drawn:=drawn}= .ok old.toArray {w with tape:=tape,drawn:=drawn}):
 ∃dE w',len+n<=dE∧(Builtin.append_ #[lg,kv] ty #[.slice base len cap,x]).run P w= .ok (.slice (some ⟨w.heap.size,0,none⟩) (len+n) dE) w'∧
  w'.heap=w.heap.push (.cells (old++new++(Builtin.zeroCells z.cells (dE-(len+n))).toList).toArray elem)∧ra w w':=by
 have zN:(d matches .int _)=false:=by cases d<;>first|rfl|(exact absurd rfl (av _))
 have F6:=anY (len+n) cap hn;have hmul:Builtin.nextslicecap (len+n) cap*i.bytes<=1099511627776:=by
  have h1:Builtin.nextslicecap (len+n) cap*i.bytes<=(2*(len+n)+768)*i.bytes:=hF _ F6;have h2:(2*(len+n)+768)*i.bytes<=(2*(len+n)+768)*(i.bytes+1):=mu _ (by omega);omega
 have auB:len+n<=1099511627776:=by
  have:2*(len+n)+768<=(2*(len+n)+768)*(i.bytes+1):=Nat.le_mul_of_pos_right _ (by omega);omega
 have ak6:¬(((len+n:Nat):Int)>IntKind.i64.max∧((false=true)∨i.bytes=0)):=by
  have:IntKind.i64.max=9223372036854775807:=by decide
  rw[this];omega
 have akn:¬(Builtin.nextslicecap (len+n) cap*i.bytes>2^48):=by omega
 let q:Question:=.appendCap (len+n) cap elem
 refine⟨q.cut (w.tape w.drawn q),{w with drawn:=w.drawn+1,heap:=w.heap.push (.cells (old++new++(Builtin.zeroCells z.cells (q.cut (w.tape w.drawn q)-(len+n))).toList).toArray elem)},?_,?_,rfl,⟨rfl,rfl⟩⟩
 ·show len+n<=(len+n)+_;omega
 ·have hc:=ah.cells w.tape (w.drawn+1);have ak:=hold w.tape (w.drawn+1);have GF:=tR (P:=P) ae ax {w with drawn:=w.drawn+1};simp only[Builtin.append_,List.getElem?_toArray,List.getElem?_cons_zero,List.getElem?_cons_succ,Sem.run_bind,run_underlying hu,Result.andThen,jy ae,run_underlying J,Sem.run_pure,Bool.false_eq_true,if_false,ah.len,typeInfo,Bool.not_false];rw[if_neg (by omega)];simp only[Sem.run_bind,Sem.run_pure,run_program,Result.andThen,ae];rw[if_neg (by simpa using ak6)];simp only[Sem.run_bind,Sem.run_pure,run_program,Result.andThen,ae];rw[if_neg akn];simp only[Sem.run_bind,Sem.run_pure,run_program,Result.andThen,ae,run_choose,Question.forced,Bool.false_eq_true,if_false,run_askRoom,if_true];rw[ak];simp only[];rw[hc];simp only[Result.andThen,Sem.run_bind,GF,Sem.run_pure,newRow,run_newObj];simp[q];congr 2;apply Array.ext';simp
end
section
variable{ι:bA}{fr aI:aT}{a:Act}{aS:Nat}{st st':au}{w:World}{o:Oper}{v:Value}{call:bQ}
theorem agd{lg kv:TypeId}{s x:Operand}{v':Value}{w':World}(ak:o.op= .call {callee:=.builtin .append,args:= #[s,x],argTypes:= #[lg,kv]})
 (aQ:(Builtin.append_ #[lg,kv] o.type #[a.eval s,a.eval x]).run X.P w= .ok v' w'):(execOp a.eval o).run X.P w= .ok (.value v') w':=by
 unfold execOp;rw[ak];simp only[resolve,List.map_toArray,List.map_cons,List.map_nil,Sem.run_bind,Sem.run_pure,Result.andThen,invoke,builtin,aQ]
theorem NV{lg kv elem:TypeId}{d:TypeDesc}{i:TypeInfo}{z:Value}{s x:Operand}{base:Option Addr}{len cap n:Nat}{new new':List Value}
 (ak:o.op= .call {callee:=.builtin .append,args:= #[s,x],argTypes:= #[lg,kv]}) (hu:X.P.underlying lg=some (.slice elem)) (J:X.P.underlying kv=some d) (av:∀k,d≠.int k) (ae:X.P.info? elem=some i) (ax:i.zero=some z)
 (rM:z.cells.size=i.size) (hw:bt X ι st w) (s4:bq ι (.slice base len cap) (a.eval s)) (xb:Src X.P w (a.eval x) n i.size new') (mG:bN ι new new') (mH:new.length=n*i.size) (bP:hH new=true)
 (h:kZ fr st elem i.size i.bytes base len cap n new= .ok v aI st'):aI=fr∧ky X ι w v st' (execOp a.eval o):=by
 obtain⟨aa,g⟩:=jf h (by simp);have cT:(2*(len+n)+768)*(i.bytes+1)<=1099511627776:=aa;have lx:X.P.cellsOf elem=i.size:=by simp[Program.cellsOf,ae]
 have CC:new'.length=n*i.size:=by rw[<-mG.1];exact mH
 generalize alO:a.eval s=asC at s4;have pJ:= @agd X a w o lg kv s x;rw[alO]at pJ;cases base with
 |none=>
  obtain⟨zw,aL⟩:=lu (g:et len 0 _ _=_) (by simp);obtain⟨nX,aR⟩:=lu aL (by simp);subst zw nX;cases s4;rw[oA]at aR;split at aR
  ·rename_i pH;subst pH;cases aR;refine⟨rfl,ky.same (v':=.slice none 0 0) hw ?_ (.nD _ _)⟩;exact pJ ak (IL hu J av ae xb (by omega) o.type w (fun a h=>by cases h) (fun _=>rfl))
  ·rename_i pH;rw[gv]at aR;cases aR;obtain⟨dE,w',lC,aQ,hh,gU⟩:=NM (base:=none) (len:=0) (cap:=0) (old:=[]) hu J av ae ax xb (by omega) cT o.type (fun _ _=>rfl);obtain⟨aV,bj,bM,dK,_⟩:=hw.Hm elem mG (Builtin.zeroCells z.cells (dE-(0+n))).toList (dE-(0+n)) (by
    rw[Array.length_toList,OB,rM,lx];exact b5 _) (0,0) (fun i _=>by simp) w' (by rw[hh];simp) gU
   refine⟨rfl,aV,.value _,w',pJ ak aQ,.inl ⟨_,rfl,?_⟩,bj,bM⟩;have:=bq.gH (ι:=aV) ⟨st.ai,0,none⟩ ⟨w.heap.size,0,dE-(0+n),id⟩ 0 (0+n) (0+n) dK rfl (.inl rfl);rw[show 0+n+(dE-(0+n))=dE by omega]at this;exact this
 |some ad=>
  obtain⟨ah,cs,el,bn,a8,aO,aL⟩:=uo (g:au.gL st ad _ _=_) (by simp);obtain⟨pC,aR⟩:=jf aL (by simp);obtain⟨qz,a7⟩:=jf aR (by simp);obtain⟨CQ,cl⟩:=jf a7 (by simp);obtain⟨wR,dc⟩:=lu cl (by simp);rw[fU]at CQ;have auF:ad.off+cap*i.size<=cs.length:=CQ;subst wR;obtain⟨l,hl,C,eT,hc⟩:=hw.eK _ _ aO (by simp);have pL:=hc.room;rw[lx]at pL;cases s4 with
  |gH _ l' off _ _ cu e1 iM=>
   rw[hl]at cu;cases cu;have hmul:len*i.size<=cap*i.size:=hF _ qz;rw[oA]at dc;split at dc
   ·rename_i pH;subst pH;cases dc;have CI:new'=[]:=by
     have:new'.length=0:=by rw[CC];simp
     exact List.eq_nil_of_length_eq_zero this
    refine⟨rfl,ky.same (v':=.slice (some ⟨l.cJ,off,none⟩) (len+0) (cap+l.ex)) hw ?_ (.gH _ _ _ _ _ hl ah iM)⟩;refine pJ ak (IL hu J av ae xb (by omega) o.type w (fun a h=> ?_) (fun h=>by cases h));rw[CI];rfl
   ·rename_i pH;have hold:∀tape drawn,(Builtin.firstCells i.size len (.slice (some ⟨l.cJ,off,none⟩) len (cap+l.ex))).run X.P {w with tape:=tape,drawn:=drawn}= .ok ((C.toList.drop off).take (len*i.size)).toArray {w with tape:=tape,drawn:=drawn}:=by
     intro tape drawn;simp only[Builtin.firstCells];rcases iM with h|⟨h1,_,_⟩
     ·exact D8 (by exact hc.there) (by rw[h];omega)
     ·subst h1;simp[loadCells,loadCellsFrom]
    have rG:∀(bj:len+n<=cap+l.ex),off=l.cR+ad.off:=by
     intro bj;rcases iM with h|⟨h1,h2,h3⟩
     ·exact h
     ·omega
    have jL:bN ι ((cs.drop ad.off).take (len*i.size)) ((C.toList.drop off).take (len*i.size)):=by
     rcases iM with h|⟨h1,_,_⟩
     ·rw[h];exact hc.row ad.off (len*i.size) (by simp;omega)
     ·subst h1;simpa using bN.nil ι
    cases a8 with
    |true=>
     obtain⟨pA,eI⟩:=ux (dc:il cs ad.off _ _ _=_) (by simp);rw[kt,gv,og]at eI;cases eI;by_cases kn:len+n<=cap+l.ex
     ·have sZ:=rG kn;subst sZ;have Gq:n*i.size+len*i.size<=(cap+l.ex)*i.size:=by rw[<-Nat.add_mul];exact hF _ (by omega)
      rw[Nat.add_mul]at Gq;obtain⟨w',aQ,hh,gU⟩:=NN (P:=X.P) (o:=l.cR+ad.off+len*i.size) new' 0 C w hc.there (by omega) (ML mG bP) (fun j h1 h2=>hc.yu pC j (by omega) (by rw[lx];omega));simp only[Nat.add_zero]at hh;have LD:=pJ ak (IL (base:=some ⟨l.cJ,l.cR+ad.off,none⟩) hu J av ae xb kn o.type w' (fun a h=>by cases h;rw[add_eq];exact aQ) (fun h=>by cases h));obtain⟨aV,bj,bM,dK⟩:=bt.ap7 (X:=X) hw aO (by simp) (fun ab=>by cases ab.1) LQ hl (.cells ((cs.drop ad.off).take (len*i.size)++new) el (0,0) true) (l':=⟨l.cJ,l.cR+ad.off,cap+l.ex-(len+n),id⟩) rfl _ w' hh (fun aV hle aN=>by
       have Ul:(C.toList.take (l.cR+ad.off+len*i.size)++(new'++C.toList.drop (l.cR+ad.off+len*i.size+new'.length))).length=C.size:=by simp;omega
       have gu:((cs.drop ad.off).take (len*i.size)).length=len*i.size:=by simp;omega
       have UF:(cap+l.ex-(len+n))*i.size=(cap*i.size+l.ex*i.size)-(len*i.size+n*i.size):=by rw[Nat.sub_mul,Nat.add_mul,Nat.add_mul]
       refine⟨_,eT,⟨aN,?_,fun j hj=> ?_,fun _ j h1 h2=> ?_,fun h=>by cases h⟩⟩
       ·rw[List.size_toArray,Ul,lx,List.length_append,gu,mH];simp only;rw[UF];omega
       ·simp only[List.getElem?_toArray];rw[List.length_append,gu,mH]at hj;rw[NX C.toList new' (l.cR+ad.off+len*i.size) (l.cR+ad.off+j) (by simp;omega)];by_cases c:j<len*i.size
        ·rw[if_pos (by omega)];obtain⟨Fi,aA,e2⟩:=hc.cell (ad.off+j) (by omega);refine⟨Fi,by rw[<-aA];simp[Nat.add_assoc],?_⟩;rw[List.getElem_append_left (by omega)];simp only[List.getElem_take,List.getElem_drop];exact e2.mono hle
        ·rw[if_neg (by omega),if_pos (by omega)];rw[show l.cR+ad.off+j-(l.cR+ad.off+len*i.size)=j-len*i.size by omega];rw[a9 (by omega)];refine⟨_,rfl,?_⟩;rw[List.getElem_append_right (by omega)];simp only[gu];exact(mG.2 _ (by omega) (by omega)).mono hle
       ·refine hc.yu pC j ?_ ?_
        ·simp only at h1;omega
        ·rw[lx]at h2⊢;rw[List.length_append,gu,mH]at h2;simp only at h2;rw[UF]at h2;omega) gU
      refine⟨rfl,aV,.value _,w',LD,.inl ⟨_,rfl,?_⟩,bj,bM⟩;have:=bq.gH (ι:=aV) ⟨st.ai,0,none⟩ ⟨l.cJ,l.cR+ad.off,cap+l.ex-(len+n),id⟩ (l.cR+ad.off) (len+n) (len+n) dK rfl (.inl rfl);rw[show len+n+(cap+l.ex-(len+n))=cap+l.ex by omega]at this;exact this
     ·obtain⟨dE,w',lC,aQ,hh,gU⟩:=NM (base:=some ⟨l.cJ,off,none⟩) (len:=len) (cap:=cap+l.ex) hu J av ae ax xb (by omega) cT o.type hold;have U:=hw.kill aO;obtain⟨aV,bj,bM,dK,_⟩:=U.Hm el (jL.append mG) (Builtin.zeroCells z.cells (dE-(len+n))).toList (dE-(len+n)) (by
       rw[Array.length_toList,OB,rM,lx];exact b5 _) (0,0) (fun i _=>by simp) w' (by rw[hh]) gU
      refine⟨rfl,aV,.value _,w',pJ ak aQ,.inl ⟨_,rfl,?_⟩,bj,bM⟩;have:=bq.gH (ι:=aV) ⟨st.ai,0,none⟩ ⟨w.heap.size,0,dE-(len+n),id⟩ 0 (len+n) (len+n) dK rfl (.inl rfl);rw[show len+n+(dE-(len+n))=dE by omega]at this;exact this
    |false=>
     have h7:=hc.plain rfl;have UG:cap+l.ex=cap:=by rw[h7.1];rfl
     rw[UG]at pJ hold rG;have dc:eo (len+n) cap (p0 cs (Nat.add ad.off (Nat.mul len i.size)) new (fun cs'=>st.g9 ad.block (.cells cs' el bn false) fun st=>aZ.ok (.slice (some ad) (len+n) cap) fr st) .no)
      (il cs ad.off (Nat.mul len i.size) (fun old=>st.jv (.cells (fZ old new) el (0,0) true) fun id st=>.ok (.slice (some ⟨id,0,none⟩) (len+n) (len+n)) fr st) .no)=aZ.ok v aI st':=dc
     rw[pR]at dc;split at dc
     ·rename_i kn;have sZ:=rG kn;subst sZ;have Gq:n*i.size+len*i.size<=cap*i.size:=by rw[<-Nat.add_mul];exact hF _ (by omega)
      have Ln:ad.off+len*i.size+new.length<=cs.length:=by rw[mH];omega
      have eI:st.g9 ad.block (.cells (cs.take (ad.off+len*i.size)++(new++cs.drop (ad.off+len*i.size+new.length))) el bn false) (fun st=>aZ.ok (.slice (some ad) (len+n) cap) fr st)=aZ.ok v aI st':=by
       rcases Nc dc (by simp)with⟨_,eI⟩|⟨he,eI⟩
       ·exact eI
       ·rw[he];simp;exact eI
      rw[kt]at eI;cases eI;obtain⟨w',aQ,bj,bM⟩:=hw.store aO hl pC Ln mG bP;have LD:=pJ ak (IL (base:=some ⟨l.cJ,l.cR+ad.off,none⟩) hu J av ae xb kn o.type w' (fun a h=>by cases h;rw[add_eq,Nat.add_assoc];exact aQ) (fun h=>by cases h));refine⟨rfl,ι,.value _,w',LD,.inl ⟨_,rfl,?_⟩,bj,bM⟩;have:=bq.gH (ι:=ι) ad l (l.cR+ad.off) (len+n) cap hl ah (.inl rfl);rw[UG]at this;exact this
     ·rename_i kn;obtain⟨pA,eI⟩:=ux dc (by simp);rw[gv,og]at eI;cases eI;obtain⟨dE,w',lC,aQ,hh,gU⟩:=NM (base:=some ⟨l.cJ,off,none⟩) (len:=len) (cap:=cap) hu J av ae ax xb (by omega) cT o.type hold;obtain⟨aV,bj,bM,dK,_⟩:=hw.Hm el (jL.append mG) (Builtin.zeroCells z.cells (dE-(len+n))).toList (dE-(len+n)) (by
       rw[Array.length_toList,OB,rM,lx];exact b5 _) (0,0) (fun i _=>by simp) w' (by rw[hh]) gU
      refine⟨rfl,aV,.value _,w',pJ ak aQ,.inl ⟨_,rfl,?_⟩,bj,bM⟩;have:=bq.gH (ι:=aV) ⟨st.ai,0,none⟩ ⟨w.heap.size,0,dE-(len+n),id⟩ 0 (len+n) (len+n) dK rfl (.inl rfl);rw[show len+n+(dE-(len+n))=dE by omega]at this;exact this
end
theorem Ep:∀bW:List UInt8,n9 bW=bW.map fun b=>Value.int .u8 (b.toNat:Int)
 |[]=>rfl
 |b::bW=>by show _::n9 bW=_;rw[Ep bW];rfl
theorem aa8:∀bW:List UInt8,hH (n9 bW)=true
 |[]=>rfl
 |_::bW=>aa8 bW
theorem Oc(ι:bA):∀bW:List UInt8,bN ι (n9 bW) (n9 bW)
 |[]=>bN.nil ι
 |_::bW=>bN.cons (.int _ _) (Oc ι bW)
theorem J9:∀{vs:List Value} {bW:List UInt8},bytesOf vs=some bW->∃aD:List Int,vs=aD.map (Value.int .u8)∧bW=aD.map (fun n=>UInt8.ofNat n.toNat)
 |[],bW,h=>by cases h;exact⟨[],rfl,rfl⟩
 |v::vs,bW,h=>by
  obtain⟨k,n,e,aL⟩:=jl (h:gB v _ _=_) (by simp);obtain⟨U,aR⟩:=ja aL (by simp);obtain⟨r,aQ,a7⟩:=fy aR (by simp);cases a7;obtain⟨aD,aA,e2⟩:=J9 (vs:=vs) aQ;have:=tc U;subst this;exact⟨n::aD,by simp[e,aA],by simp[e2]⟩
section
variable{ι:bA}{fr aI:aT}{a:Act}{aS:Nat}{st st':au}{w:World}{o:Oper}{v:Value}{call:bQ}
theorem arV(P:Program)(w:World)(s:ByteArray)(size:Nat):Src P w (.string s) s.data.toList.length size (n9 s.data.toList):=by
 have eJ:s.size=s.data.toList.length:=(Array.length_toList (xs:=s.data)).symm;refine⟨by rw[<-eJ];rfl,fun tape drawn=> ?_⟩;simp only[Builtin.firstCells,Sem.run_pure];congr 1;apply Array.ext';have:(s.extract 0 s.data.toList.length).data=s.data:=by
  rw[ByteArray.data_extract];apply Array.ext';rw[Array.toList_extract,List.extract_eq_take_drop,List.drop_zero,Nat.sub_zero,List.take_length]
 rw[this,Ep];simp
theorem aqT{lg kv elem:TypeId}{d:TypeDesc}{i:TypeInfo}{z:Value}{s x:Operand}(ah:cE X.aE s=true)(bV:cE X.aE x=true)(ak:o.op= .call {callee:=.builtin .append,args:= #[s,x],argTypes:= #[lg,kv]})
 (hu:X.P.underlying lg=some (.slice elem)) (J:X.P.underlying kv=some d) (av:∀k,d≠.int k) (ae:X.P.info? elem=some i) (ax:i.zero=some z) (rM:z.cells.size=i.size)
 (ab:cB ι fr a aS) (hw:bt X ι st w) (h:WW elem i.size i.bytes s x call fr st= .ok v aI st'):aI=fr∧ky X ι w v st' (execOp a.eval o):=by
 obtain⟨base,len,cap,s4,g⟩:=tO h (by simp);have rL:=ab.aj hw ah;rw[s4]at rL;have c7:=ab.aj hw bV;generalize cy:fr.aj x=fh at g c7;cases fh with
 |slice b n c=>
  cases b with
  |none=>
   obtain⟨pH,aR⟩:=lu (g:et n 0 (kZ fr st elem i.size i.bytes base len cap 0 []) _=aZ.ok v aI st') (by simp);subst pH;generalize k1:a.eval x=ui at c7;cases c7;refine NV (n:=0) (new:=[]) (new':=[]) ak hu J av ae ax rM hw rL ?_ (bN.nil ι) (by simp) rfl aR;rw[k1];exact⟨rfl,fun _ _=>rfl⟩
  |some b=>
   obtain⟨K6,cs,el,bn,a8,aO,hn,aR⟩:=zV (g:au.load st b _ _ _=_) (by simp);obtain⟨bP,a7⟩:=ja aR (by simp);obtain⟨l,hl,C,eT,hc⟩:=hw.eK _ _ aO (by simp);generalize k1:a.eval x=ui at c7;cases c7 with
   |gH _ l' off _ _ cu e1 iM=>
    rw[hl]at cu;cases cu;have gR:n*i.size<=(cs.drop b.off).length:=hn;have pL:=hc.room;rw[List.length_drop]at gR;refine NV (n:=n) (new:=(cs.drop b.off).take (n*i.size)) (new':=(C.toList.drop off).take (n*i.size)) ak hu J av ae ax rM hw rL ?_ ?_ ?_ bP a7
    ·rw[k1];refine⟨rfl,fun tape drawn=> ?_⟩;simp only[Builtin.firstCells];rcases iM with h|⟨h1,_,_⟩
     ·by_cases h0:n*i.size=0
      ·rw[h0];simp[loadCells,loadCellsFrom]
      ·exact D8 (by exact hc.there) (by rw[h];omega)
     ·subst h1;simp[loadCells,loadCellsFrom]
    ·rcases iM with h|⟨h1,_,_⟩
     ·rw[h];exact hc.row b.off (n*i.size) hn
     ·subst h1;simpa using bN.nil ι
    ·simp;omega
 |string hb=>
  obtain⟨lX,aR⟩:=lu (g:et i.size 1 (kZ fr st elem i.size i.bytes base len cap (ec hb.data.toList) (n9 hb.data.toList)) _=aZ.ok v aI st') (by simp);rw[fU]at aR;generalize k1:a.eval x=ui at c7;cases c7;refine NV (n:=hb.data.toList.length) (new:=n9 hb.data.toList) (new':=n9 hb.data.toList) ak hu J av ae ax rM hw rL ?_ (Oc ι _) ?_ (aa8 _) aR
  ·rw[k1];exact arV X.P w hb i.size
  ·rw[Ep,List.length_map,lX,Nat.mul_one]
 |_=>exact absurd g (by simp[ku,jB])
end
section
variable{ι:bA}{fr aI:aT}{a:Act}{aS:Nat}{st st':au}{w:World}{o:Oper}{v:Value}{call:bQ}
theorem aq5{lg kv elem:TypeId}{i:TypeInfo}{d s:Operand}(av:cE X.aE d=true)(ah:cE X.aE s=true)(ak:o.op= .call {callee:=.builtin .copy,args:= #[d,s],argTypes:= #[lg,kv]})
 (hu:X.P.underlying lg=some (.slice elem)) (ae:X.P.info? elem=some i) (ab:cB ι fr a aS) (hw:bt X ι st w) (h:W0 i.size d s call fr st= .ok v aI st'):
 aI=fr∧ky X ι w v st' (execOp a.eval o):=by
 obtain⟨pf,dl,ae8,akA,aL⟩:=tO h (by simp);obtain⟨aqr,a6,gG,s4,aR⟩:=tO aL (by simp);have Cv:=ab.aj hw av;rw[akA]at Cv;have rL:=ab.aj hw ah;rw[s4]at rL;have J:∀{v':Value} {w':World},(Builtin.copy_ #[lg,kv] o.type #[a.eval d,a.eval s]).run X.P w= .ok v' w'->(execOp a.eval o).run X.P w= .ok (.value v') w':=by
  intro v' w' aQ;unfold execOp;rw[ak];simp only[resolve,List.map_toArray,List.map_cons,List.map_nil,Sem.run_bind,Sem.run_pure,Result.andThen,invoke,builtin,aQ]
 generalize oF:a.eval d=atZ at Cv J;generalize rK:a.eval s=asC at rL J;cases pf with
 |none=>
  obtain⟨h0,a7⟩:=lu (aR:et dl 0 _ _=_) (by simp);subst h0;cases a7;cases Cv;refine⟨rfl,ky.same (v':=.int .i64 0) hw (J ?_) (.int _ _)⟩;cases rL<;>simp[Builtin.copy_,run_underlying hu,Result.andThen,Builtin.lenOf,jy ae,Builtin.firstCells,loadCells,loadCellsFrom,goInt]
 |some ad=>
  cases aqr with
  |none=>
   obtain⟨h0,a7⟩:=lu (aR:et a6 0 _ _=_) (by simp);subst h0;cases a7;cases rL;refine⟨rfl,ky.same (v':=.int .i64 0) hw (J ?_) (.int _ _)⟩;cases Cv;simp[Builtin.copy_,run_underlying hu,Result.andThen,Builtin.lenOf,jy ae,Builtin.firstCells,goInt,Nat.min_def,storeCells]
  |some D9=>
   have a7:st.load D9 (Nat.mul (eo a6 dl a6 dl) i.size) (fun vs=>cond (hH vs) (st.store ad vs (fun st=>aZ.ok (.int .i64 (.ofNat (eo a6 dl a6 dl))) fr st) .no) .no) .no=aZ.ok v aI st':=aR;rw[show eo a6 dl a6 dl=Nat.min a6 dl by rw[pR];show _=min a6 dl;rw[Nat.min_def]]at a7;rw[show Nat.mul (Nat.min a6 dl) i.size=Nat.min a6 dl*i.size from rfl]at a7;obtain⟨auI,cs,el,bn,a8,aO,hn,cl⟩:=zV a7 (by simp);obtain⟨bP,dc⟩:=ja cl (by simp);obtain⟨iu,atX,at0,FP,at3,rA,akR,eI⟩:=ZO dc (by simp);obtain⟨l,hl,C,eT,hc⟩:=hw.eK _ _ aO (by simp);obtain⟨fJ,pE,Lp⟩:=hw.eK _ _ rA (by simp);have gR:Nat.min a6 dl*i.size<=(cs.drop D9.off).length:=hn;have pL:=hc.room;rw[List.length_drop]at gR;cases rL with
   |gH _ l' off _ _ cu e1 iM=>
    rw[hl]at cu;cases cu;cases Cv with
    |gH _ auS MK _ _ US auH alj=>
     rw[pE]at US;cases US;have Ls:a6=0∨dl=0->Nat.min a6 dl=0:=by
      intro hh;show min a6 dl=0;omega
     have jL:bN ι ((cs.drop D9.off).take (Nat.min a6 dl*i.size)) ((C.toList.drop off).take (Nat.min a6 dl*i.size)):=by
      rcases iM with h|⟨h1,_,_⟩
      ·rw[h];exact hc.row D9.off _ hn
      ·rw[Ls (.inl h1)];simpa using bN.nil ι
     have akH:(Builtin.firstCells i.size (Nat.min a6 dl) (.slice (some ⟨l.cJ,off,none⟩) a6 (gG+l.ex))).run X.P w= .ok ((C.toList.drop off).take (Nat.min a6 dl*i.size)).toArray w:=by
      simp only[Builtin.firstCells];rcases iM with h|⟨h1,_,_⟩
      ·by_cases h0:Nat.min a6 dl*i.size=0
       ·rw[h0];simp[loadCells,loadCellsFrom]
       ·exact D8 hc.there (by rw[h];omega)
      ·rw[Ls (.inl h1)];simp[loadCells,loadCellsFrom]
     have fS:∀w',(storeCells ⟨fJ.cJ,MK,none⟩ ((C.toList.drop off).take (Nat.min a6 dl*i.size))).run X.P w= .ok () w'->
      (Builtin.copy_ #[lg,kv] o.type #[.slice (some ⟨fJ.cJ,MK,none⟩) dl (ae8+fJ.ex),.slice (some ⟨l.cJ,off,none⟩) a6 (gG+l.ex)]).run X.P w= .ok (.int .i64 (Nat.min a6 dl:Nat)) w':=by
      intro w' aQ;simp only[Builtin.copy_,List.getElem?_toArray,List.getElem?_cons_zero,List.getElem?_cons_succ,Sem.run_bind,run_underlying hu,Result.andThen,jy ae,Builtin.lenOf,Sem.run_pure];rw[akH];simp only[];simp only[aQ,goInt]
     rcases eI with⟨hle,g8⟩|⟨he,g8⟩
     ·cases g8;by_cases ax:(cs.drop D9.off).take (Nat.min a6 dl*i.size)=[]
      ·have oK:(C.toList.drop off).take (Nat.min a6 dl*i.size)=[]:=by
        have:=jL.1;rw[ax]at this;exact List.eq_nil_of_length_eq_zero this.symm
       refine⟨rfl,ι,.value _,w,J (fS w (by rw[oK];rfl)),.inl ⟨_,rfl,.int _ _⟩,?_,.refl ι w⟩;have:=hw.NR rA;rw[ax];simpa using this
      ·have alk:MK=fJ.cR+ad.off:=by
        rcases alj with h|⟨h1,_,_⟩
        ·exact h
        ·exfalso;apply ax;rw[Ls (.inr h1)];simp
       subst alk;obtain⟨w',aQ,bj,bM⟩:=hw.store rA pE akR hle jL bP;exact⟨rfl,ι,.value _,w',J (fS w' aQ),.inl ⟨_,rfl,.int _ _⟩,bj,bM⟩
     ·cases g8;have oK:(C.toList.drop off).take (Nat.min a6 dl*i.size)=[]:=by
       have:=jL.1;rw[he]at this;exact List.eq_nil_of_length_eq_zero this.symm
      exact⟨rfl,ι,.value _,w,J (fS w (by rw[oK];rfl)),.inl ⟨_,rfl,.int _ _⟩,hw.NR rA,.refl ι w⟩
theorem XM(P:Program)(w:World)(f:Value->ByteArray->Sem (ForInStep ByteArray))(ab:∀n s,f (.int .u8 n) s=pure (.yield (s.push (UInt8.ofNat n.toNat)))):∀(aD:List Int) (s:ByteArray),
 (forIn (aD.map (Value.int .u8)).toArray s f:Sem ByteArray).run P w= .ok ⟨⟨s.data.toList++aD.map (fun n=>UInt8.ofNat n.toNat)⟩⟩ w
 |[],s=>by simp
 |n::aD,s=>by
  simp only[List.map_cons,List.forIn_toArray,List.forIn_cons,Sem.run_bind,ab,Sem.run_pure,Result.andThen];have:=XM P w f ab aD (s.push (UInt8.ofNat n.toNat));simp only[List.forIn_toArray]at this;rw[this];congr 1;simp[ByteArray.data_push]
theorem aqZ{qY q1 e:TypeId}{x:Operand}(J:cE X.aE x=true)(ak:o.op= .convert qY q1 x)(ah:X.P.underlying qY=some (.slice e))(aN:X.P.underlying q1=some .string)(he:X.P.underlying e=some (.int .u8))
 (ab:cB ι fr a aS) (hw:bt X ι st w) (h:Hu x call fr st= .ok v aI st'):aI=fr∧cg X ι w v st st' (execOp a.eval o):=by
 obtain⟨b,n,c,hp,aL⟩:=tO h (by simp);have c7:=ab.aj hw J;rw[hp]at c7;generalize cy:a.eval x=fh at c7;cases b with
 |none=>
  cases aL;cases c7;refine⟨rfl,cg.same (v':=.string .empty) hw ?_ (.string _)⟩;unfold execOp;rw[ak];simp[cy,convert,run_underlying ah,run_underlying aN,run_underlying he,Result.andThen,Conv.bytesToString]
 |some b=>
  obtain⟨K6,cs,el,bn,a8,aO,hn,aR⟩:=zV (aL:au.load st b _ _ _=_) (by simp);obtain⟨bW,aa,a7⟩:=fy aR (by simp);cases a7;obtain⟨l,hl,C,eT,hc⟩:=hw.eK _ _ aO (by simp);have pL:=hc.room;obtain⟨aD,aA,e2⟩:=J9 aa;cases c7 with
  |gH _ l' off _ _ cu e1 iM=>
   rw[hl]at cu;cases cu;have jL:bN ι ((cs.drop b.off).take n) ((C.toList.drop off).take n):=by
    rcases iM with h|⟨h1,_,_⟩
    ·rw[h];exact hc.row b.off _ hn
    ·subst h1;simpa using bN.nil ι
   have eu:(C.toList.drop off).take n=aD.map (Value.int .u8):=by
    rw[aA]at jL;have key:∀(aD:List Int) (aq:List Value),bN ι (aD.map (Value.int .u8)) aq->aq=aD.map (Value.int .u8):=by
     intro aD
     induction aD with
     |nil=>intro aq aG;rw[aG.vj];rfl
     |cons m ms a0=>
      intro aq aG;obtain⟨y,iW,rfl,h1,h2⟩:=aG.cons_inv;cases h1;rw[a0 iW h2];rfl
    exact key aD _ jL
   have zx:(loadCells ⟨l.cJ,off,none⟩ n).run X.P w= .ok (aD.map (Value.int .u8)).toArray w:=by
    rw[<-eu];rcases iM with h|⟨h1,_,_⟩
    ·by_cases h0:n=0
     ·subst h0;simp[loadCells,loadCellsFrom]
     ·rw[List.length_drop]at hn;exact D8 hc.there (by rw[h];omega)
    ·subst h1;simp[loadCells,loadCellsFrom]
   refine⟨rfl,cg.same (v':=.string ⟨⟨bW⟩⟩) hw ?_ (.string _)⟩;unfold execOp;rw[ak];simp only[cy,convert,Sem.run_bind,run_underlying ah,run_underlying aN,run_underlying he,Result.andThen,Conv.bytesToString,zx];rw[XM X.P w _ (fun _ _=>rfl) aD ByteArray.empty];simp[e2]
end
theorem VS(P:Program)(e:TypeId)(count off n:Nat)(ah:P.cellsOf e≠0)(h0:off%P.cellsOf e=0)(hn:off/P.cellsOf e+n<=count):liesAt P P.depth e count off e n=true:=by
 have av:P.depth=(2*(P.types.size+Made.depth)+1)+1:=rfl;rw[av];have Gw:sameLayout P (2*(P.types.size+Made.depth)+1+1) e e=true:=by simp[sameLayout]
 have aQ:rowAt P (sameLayout P P.depth · e) P.depth e count off n=true:=by
  rw[av];simp only[rowAt];rw[if_neg ah];simp[h0,hn,Gw]
 simp only[liesAt];rw[aQ];rfl
theorem Vp(c:UInt8):∀(l:List UInt8),pO c l=(List.range l.length).find? (fun i=>l[i]! ==c)
 |[]=>rfl
 |b::bW=>by
  show cond (Nat.beq b.toNat c.toNat) (some 0) (bl (pO c bW) (fun i=>some (Nat.succ i)) none)=_;rw[List.length_cons,List.range_succ_eq_map,List.find?_cons];by_cases aa:b=c
  ·subst aa;simp
  ·have h1:Nat.beq b.toNat c.toNat=false:=by
    rw[Bool.eq_false_iff];intro hh;exact aa (UInt8.toNat_inj.1 (ep hh))
   have h2:((b::bW)[0]! ==c)=false:=by simpa using aa
   rw[h1,h2,List.find?_map,Vp c bW];show bl _ _ _=_;have:((fun i=>(b::bW)[i]! ==c)∘Nat.succ)=(fun i=>bW[i]! ==c):=by
    funext i;simp
   rw[this];cases(List.range bW.length).find? (fun i=>bW[i]! ==c)<;>rfl
section
variable{ι:bA}{fr aI:aT}{a:Act}{aS:Nat}{st st':au}{w:World}{o:Oper}{v:Value}{call:bQ}
theorem FD{f:FuncId}{args:Array Operand}{ts:Array TypeId}(ak:o.op= .call {callee:=.value (.func f),args:=args,argTypes:=ts}):
 (execOp a.eval o).run X.P w=(callFunc f (args.map a.eval)).run X.P w:=by
 unfold execOp;rw[ak];simp[resolve,Act.eval,Deferred.ofValue,invoke]
theorem arC{f:FuncId}{x:Operand}{ts:Array TypeId}(J:cE X.aE x=true)(eG:X.jP f=true)(ak:o.op= .call {callee:=.value (.func f),args:= #[x],argTypes:=ts})(ab:cB ι fr a aS)(hw:bt X ι st w)
 (h:Xg x call fr st= .ok v aI st'):aI=fr∧cg X ι w v st st' (execOp a.eval o):=by
 cases h;refine⟨rfl,cg.same (v':=a.eval x) hw ?_ (ab.aj hw J)⟩;rw[FD ak];simpa using X.Dq f eG (a.eval x) w
theorem ari{f:FuncId}{x y:Operand}{ts:Array TypeId}(J:cE X.aE x=true)(aG:cE X.aE y=true)(eG:X.kb f=true)(ak:o.op= .call {callee:=.value (.func f),args:= #[x,y],argTypes:=ts})(ab:cB ι fr a aS)(hw:bt X ι st w)
 (h:Hv x y call fr st= .ok v aI st'):aI=fr∧cg X ι w v st st' (execOp a.eval o):=by
 obtain⟨s,ah,aL⟩:=oZ h (by simp);obtain⟨k,kT,hc,aR⟩:=jl aL (by simp);obtain⟨U,a7⟩:=ja aR (by simp);obtain⟨c,aA,cl⟩:=l5 a7 (by simp);have fu:=tc U;clear h aL aR a7;subst aA fu;have c7:=ab.aj hw J;rw[ah]at c7;generalize cy:a.eval x=fh at c7;have fm:=ab.aj hw aG;rw[hc]at fm;generalize fT:a.eval y=qe at fm;cases c7;cases fm;obtain⟨e2,b0,eS⟩:=tq cl;subst e2 b0 eS;refine⟨rfl,cg.same (v':=.int .i64 (bl (pO (UInt8.ofNat c) s.data.toList) (fun i=>.ofNat i) (.negSucc 0))) hw ?_ (.int _ _)⟩;rw[FD ak];have:=X.C4 f eG s (c:Int) w;simp only[List.map_toArray,List.map_cons,List.map_nil,cy,fT];rw[this];congr 2;have eJ:s.size=s.data.toList.length:=(Array.length_toList (xs:=s.data)).symm;rw[Vp,eJ];have akQ:(fun i:Nat=>s[i]! ==(c:Int).toNat.toUInt8)=(fun i:Nat=>s.data.toList[i]! ==UInt8.ofNat c):=by
  funext i;have:s[i]! =s.data.toList[i]! :=by
   have aA:s[i]! =s.data[i]! :=by
    by_cases ae:i<s.size
    ·rw[getElem!_pos s i ae,getElem!_pos s.data i ae];rfl
    ·rw[getElem!_neg s i ae,getElem!_neg s.data i ae]
   rw[aA];simp[Array.getElem!_eq_getD]
  rw[this];rfl
 rw[akQ];cases(List.range s.data.toList.length).find? (fun i=>s.data.toList[i]! ==UInt8.ofNat c)<;>rfl
theorem aqu(ts:Array TypeId)(t:TypeId)(n c:Nat):Builtin.unsafeSliceData_ ts t #[.slice none n c]=pure (.pointer none):=rfl
theorem aqv(ts:Array TypeId)(t:TypeId)(b:Addr)(n c:Nat)(hc:c≠0):Builtin.unsafeSliceData_ ts t #[.slice (some b) n c]=pure (.pointer (some b)):=by
 have:Builtin.unsafeSliceData_ ts t #[.slice (some b) n c]=(if c≠0 then pure (.pointer (some b))else do
  if(<-viewAt b.block).isSome then pure (.pointer (some b))
  else pure (.pointer (some ⟨<-newObj (.view b (<-elemOf t)),0,none⟩))):=rfl
 rw[this,if_pos hc]
theorem arE{x:Operand}{t:TypeId}(J:cE X.aE x=true)(ak:o.op= .call {callee:=.builtin .unsafeSliceData,args:= #[x],argTypes:= #[t]})(ab:cB ι fr a aS)(hw:bt X ι st w)
 (h:Xj x call fr st= .ok v aI st'):aI=fr∧cg X ι w v st st' (execOp a.eval o):=by
 obtain⟨b,n,c,hp,aL⟩:=tO h (by simp);have c7:=ab.aj hw J;rw[hp]at c7;generalize cy:a.eval x=fh at c7;cases b with
 |none=>
  cases aL;cases c7;refine⟨rfl,cg.same (v':=.pointer none) hw ?_ .ns⟩;unfold execOp;rw[ak];simp[resolve,invoke,builtin,aqu,cy]
 |some b=>
  have aR:et c 0 aZ.no (aZ.ok (.pointer (some b)) fr st)=aZ.ok v aI st':=aL;rw[oA]at aR;split at aR
  ·cases aR
  ·rename_i nX;cases aR;cases c7 with
   |gH _ l off _ _ hl ah iM=>
    have sZ:off=l.cR+b.off:=by rcases iM with h|⟨_,h,_⟩;exact h;exact absurd h nX
    subst sZ;refine⟨rfl,cg.same (v':=.pointer (some ⟨l.cJ,l.cR+b.off,none⟩)) hw ?_ (.ptr _ _ hl ah)⟩;unfold execOp;rw[ak];simp[resolve,invoke,builtin,aqv _ _ _ _ (c+l.ex) (by omega),cy]
theorem IT{w:World}{b:Nat}{C:Array Value}{e:TypeId}{bn:Nat×Nat}(h:w.heap[b]? =some (.cells C e bn)):w.shape? b=some (e,C.size):=by simp[World.shape?,h]
theorem Zd(P:Program){w:World}{ad:Addr}{C:Array Value}{e:TypeId}{bn:Nat×Nat}(h:w.heap[ad.block]? =some (.cells C e bn)):(Conv.seenAt ad).run P w= .ok ad w:=by
 simp[Conv.seenAt,viewAt,IT h,Result.andThen]
theorem aq4{qY q1 t:TypeId}{x:Operand}{i:TypeInfo}(J:cE X.aE x=true)(ak:o.op= .convert qY q1 x)(ah:X.P.underlying qY=some (.pointer t))(aN:X.P.underlying q1=some .unsafePointer)(ae:X.P.info? t=some i)(ax:i.size≠0)
 (ab:cB ι fr a aS) (hw:bt X ι st w) (h:WZ x call fr st= .ok v aI st'):aI=fr∧cg X ι w v st st' (execOp a.eval o):=by
 obtain⟨p,hp,aL⟩:=qa h (by simp);obtain⟨ad,aA,aR⟩:=fy aL (by simp);subst aA;obtain⟨u2,cs,elem,bn,a8,aO,a7⟩:=uo aR (by simp);obtain⟨aP,cl⟩:=jf a7 (by simp);rw[fU]at aP;cases cl;obtain⟨l,hl,C,eT,hc⟩:=hw.eK _ _ aO (by simp);have pL:=hc.room;have c7:=ab.aj hw J;rw[hp]at c7;generalize cy:a.eval x=fh at c7;cases c7 with
 |ptr _ l' cu e1=>
  rw[hl]at cu;cases cu;refine⟨rfl,cg.same (v':=.pointer (some ⟨l.cJ,l.cR+ad.off,none⟩)) hw ?_ (.ptr _ _ hl u2)⟩;unfold execOp;rw[ak];have CJ:¬(C.size<=l.cR+ad.off):=by omega
  simp[cy,convert,run_underlying ah,run_underlying aN,Result.andThen,Conv.unsafePointer,Zd X.P (ad:=⟨l.cJ,l.cR+ad.off,none⟩) hc.there,cellsIn,IT hc.there,jy ae,ax,CJ]
theorem aq7{qY q1 t:TypeId}{x:Operand}{i:TypeInfo}(J:cE X.aE x=true)(ak:o.op= .convert qY q1 x)(ah:X.P.underlying qY=some .unsafePointer)(aN:X.P.underlying q1=some (.pointer t))(ae:X.P.info? t=some i)(ax:i.size≠0)
 (ab:cB ι fr a aS) (hw:bt X ι st w) (h:W1 t i.size x call fr st= .ok v aI st'):aI=fr∧cg X ι w v st st' (execOp a.eval o):=by
 obtain⟨p,hp,aL⟩:=qa h (by simp);obtain⟨ad,aA,aR⟩:=fy aL (by simp);subst aA;obtain⟨u2,cs,elem,bn,a8,aO,a7⟩:=uo aR (by simp);obtain⟨zu,cl⟩:=z7 a7 (by simp);obtain⟨h0,dc⟩:=lu cl (by simp);obtain⟨wR,eI⟩:=lu dc (by simp);obtain⟨qA,g8⟩:=lu eI (by simp);rw[fU]at qA;cases g8;subst zu wR;obtain⟨l,hl,C,eT,hc⟩:=hw.eK _ _ aO (by simp);have h7:=hc.plain rfl;have c7:=ab.aj hw J;rw[hp]at c7;generalize cy:a.eval x=fh at c7;cases c7 with
 |ptr _ l' cu e1=>
  rw[hl]at cu;cases cu;have lx:X.P.cellsOf elem=i.size:=by simp[Program.cellsOf,ae]
  have iM:l.cR+ad.off=0:=by omega
  have LL:(variablesAt ⟨l.cJ,l.cR+ad.off,none⟩ elem 1).run X.P w= .ok true w:=by
   simp only[variablesAt,Sem.run_bind,run_program,Result.andThen,run_shape,IT hc.there,Sem.run_pure];rw[VS X.P elem _ _ 1 (by rw[lx];exact ax) (by rw[iM];simp) (by
    rw[iM,lx,h7.2.2,qA];simp[Nat.div_self (Nat.pos_of_ne_zero ax)])]
  refine⟨rfl,cg.same (v':=.pointer (some ⟨l.cJ,l.cR+ad.off,none⟩)) hw ?_ (.ptr _ _ hl u2)⟩;unfold execOp;rw[ak];simp[cy,convert,run_underlying ah,run_underlying aN,Result.andThen,Conv.unsafePointer,Zd X.P (ad:=⟨l.cJ,l.cR+ad.off,none⟩) hc.there,jy ae,ax,LL]
end
section
variable{ι:bA}{fr aI:aT}{a:Act}{aS:Nat}{st st':au}{w:World}{o:Oper}{v:Value}{call:bQ}
theorem aq6{qY q1 e:TypeId}{x:Operand}{i:TypeInfo}(J:cE X.aE x=true)(ak:o.op= .convert qY q1 x)(ah:X.P.underlying qY=some .string)(aN:X.P.underlying q1=some (.slice e))(he:X.P.underlying e=some (.int .u8))
 (ae:X.P.info? e=some i) (ax:i.size=1) (ab:cB ι fr a aS) (hw:bt X ι st w) (h:Al e x call fr st= .ok v aI st'):aI=fr∧su X ι w v st st' (execOp a.eval o):=by
 obtain⟨s,hp,aL⟩:=oZ h (by simp);obtain⟨hle,aR⟩:=jf aL (by simp);rw[gv]at aR;simp only[fU]at hle aR;cases aR;have c7:=ab.aj hw J;rw[hp]at c7;generalize cy:a.eval x=fh at c7;cases c7;have eJ:s.size=s.data.toList.length:=(Array.length_toList (xs:=s.data)).symm
 let q:Question:=.appendCap s.size 0 e
 have F6:s.size<=q.cut (w.tape w.drawn q):=by show s.size<=s.size+_;omega
 let C:Array Value:=(s.data.map fun b=>Value.int .u8 b.toNat)++Array.replicate (q.cut (w.tape w.drawn q)-s.size) (.int .u8 0)
 have Ul:C.size=q.cut (w.tape w.drawn q):=by
  simp only[C,Array.size_append,Array.size_map,Array.size_replicate];have:s.data.size=s.size:=rfl;omega
 have lx:X.P.cellsOf e=1:=by simp[Program.cellsOf,ae,ax]
 let w':World:={w with drawn:=w.drawn+1,heap:=w.heap.push (.cells C e (C.size,C.size+1))}
 have fS:(execOp a.eval o).run X.P w= .ok (.value (.slice (some ⟨w.heap.size,0,none⟩) s.size (q.cut (w.tape w.drawn q)))) w':=by
  unfold execOp;rw[ak];have ak9:(markStringish ⟨w.heap.size,0,none⟩).run X.P {w with drawn:=w.drawn+1,heap:=w.heap.push (.cells C e)}= .ok () w':=by
   simp[markStringish,World.shape?,World.freeze,Result.andThen,w'];apply Array.ext_getElem?;intro j;rw[Array.getElem?_modify];by_cases hj:w.heap.size=j
   ·subst hj;simp
   ·rw[if_neg hj,Array.getElem?_push,Array.getElem?_push,if_neg (Ne.symm hj),if_neg (Ne.symm hj)]
  simp only[cy,convert,Sem.run_bind,run_underlying ah,run_underlying aN,Result.andThen,run_underlying he,Conv.stringToBytes,run_choose,Question.forced,Bool.false_eq_true,if_false,newRow,run_newObj,Sem.run_pure];rw[ak9]
 obtain⟨aV,bj,bM,dK,oL⟩:=hw.Hm e (cs:=n9 s.data.toList) (cs':=n9 s.data.toList) (Oc ι _) (List.replicate (q.cut (w.tape w.drawn q)-s.size) (.int .u8 0)) (q.cut (w.tape w.drawn q)-s.size) (by
  rw[lx];simp) (C.size,C.size+1) (fun j hj=>by
   rw[Ep]at hj;simp only[List.length_map,List.length_replicate]at hj;simp only;omega) w' (by
   show w.heap.push (.cells C e (C.size,C.size+1))=_;congr 2;apply Array.ext';rw[Ep];simp[C])
 rw[oL]at bj bM dK;refine⟨rfl,_,_,_,_,w',rfl,by simp,fS,rfl,?_,bj,bM⟩;have:=bq.gH (ι:=hJ ι st.ai ⟨w.heap.size,0,q.cut (w.tape w.drawn q)-s.size,id⟩) ⟨st.ai,0,none⟩ ⟨w.heap.size,0,q.cut (w.tape w.drawn q)-s.size,id⟩ 0 s.data.toList.length s.data.toList.length dK rfl (.inl rfl);rw[<-eJ]at this⊢;rw[show s.size+(q.cut (w.tape w.drawn q)-s.size)=q.cut (w.tape w.drawn q) by omega]at this;exact this
theorem VT(P:Program)(w:World)(b:Nat)(C:Array Value)(e:TypeId)(bn:Nat×Nat)(h:w.heap[b]? =some (.cells C e bn)):∀(aD:List Int) (o:Nat) (acc:ByteArray),(C.toList.drop o).take aD.length=aD.map (Value.int .u8)->
 (loadBytes ⟨b,o,none⟩ acc aD.length).run P w= .ok ⟨⟨acc.data.toList++aD.map (fun n=>UInt8.ofNat n.toNat)⟩⟩ w
 |[],o,acc,_=>by simp[loadBytes]
 |n::aD,o,acc,hc=>by
  have j9:C[o]? =some (.int .u8 n):=by
   have:=congrArg (fun l=>l[0]?) hc;simpa using this
  have aP:o<C.toList.length:=by
   have:=(Array.getElem?_eq_some_iff.1 j9).1;simpa using this
  have xe:(C.toList.drop (o+1)).take aD.length=aD.map (Value.int .u8):=by
   rw[hf aP]at hc;simp only[List.length_cons,List.take_succ_cons,List.map_cons]at hc;exact(List.cons.inj hc).2
  simp only[List.length_cons,loadBytes,Sem.run_bind,run_load,cell_of h,j9,Result.andThen,add_eq];rw[VT P w b C e bn h aD (o+1) _ xe];congr 1;simp[ByteArray.data_push,Nat.toUInt8]
theorem arL{x y:Operand}{DF t2 e:TypeId}{i:TypeInfo}(J:cE X.aE x=true)(aG:cE X.aE y=true)(ak:o.op= .call {callee:=.builtin .unsafeString,args:= #[x,y],argTypes:= #[DF,t2]})(k5:X.P.underlying DF=some (.pointer e))
 (ae:X.P.info? e=some i) (ax:i.size=1) (ab:cB ι fr a aS) (hw:bt X ι st w) (h:Xn e x y call fr st= .ok v aI st'):aI=fr∧ky X ι w v st' (execOp a.eval o):=by
 obtain⟨p,hp,aL⟩:=qa h (by simp);obtain⟨k,z5,hn,aR⟩:=jl aL (by simp);obtain⟨n,aA,a7⟩:=l5 aR (by simp);clear h aL aR;subst aA;have c7:=ab.aj hw J;rw[hp]at c7;generalize cy:a.eval x=fh at c7;have fm:=ab.aj hw aG;rw[hn]at fm;generalize fT:a.eval y=qe at fm;cases fm;have lx:X.P.cellsOf e=1:=by simp[Program.cellsOf,ae,ax]
 have s5:∀{v':Value} {w':World},(Builtin.unsafeString_ #[DF,t2] o.type #[a.eval x,a.eval y]).run X.P w= .ok v' w'->(execOp a.eval o).run X.P w= .ok (.value v') w':=by
  intro v' w' aQ;unfold execOp;rw[ak];simp only[resolve,List.map_toArray,List.map_cons,List.map_nil,Sem.run_bind,Sem.run_pure,Result.andThen,invoke,builtin,aQ]
 rw[cy,fT]at s5;have Gp:¬((n:Int)<0):=by omega
 have LK:∀p:Option Addr,∃(fK:String) (iQ:RuntimeError) (xy:Unsupported) (ve:RuntimeError) (vf:Unsupported),Builtin.unsafeString_ #[DF,t2] o.type #[.pointer p,.int k (n:Int)]=(do
  let r<-asInt (.int k (n:Int))
  let some e:=(#[DF,t2]:Array TypeId)[0]? |stuck fK
  if r<0 then runtimePanic iQ
  if r>IntKind.i64.max then unsupported xy
  match p with
  |none=>if r=0 then pure (.string .empty)else runtimePanic ve
  |some q=>if r=0 then pure (.string .empty)else if<-variablesAt q (<-elemOf e) r.toNat then do let s<-loadBytes q .empty r.toNat;freeze q r.toNat;pure (.string s)else unsupported vf):=fun p=>⟨default,_,_,_,_,rfl⟩
 rw[oA]at a7;split at a7
 ·rename_i h0;subst h0;cases a7;have CH:¬(((0:Nat):Int)>IntKind.i64.max):=by decide
  cases c7 with
  |ns=>
   refine⟨rfl,ky.same (v':=.string .empty) hw (s5 ?_) (.string _)⟩;obtain⟨fK,iQ,xy,ve,vf,hu⟩:=LK _;rw[hu];simp[asInt,asIntOf]
  |ptr ad l hl ah=>
   refine⟨rfl,ky.same (v':=.string .empty) hw (s5 ?_) (.string _)⟩;obtain⟨fK,iQ,xy,ve,vf,hu⟩:=LK _;rw[hu];simp[asInt,asIntOf]
 ·rename_i h0;obtain⟨ad,aA,cl⟩:=fy a7 (by simp);subst aA;obtain⟨UU,dc⟩:=jf cl (by simp);obtain⟨u2,cs,el,bn,a8,aO,eI⟩:=uo dc (by simp);obtain⟨pC,g8⟩:=jf eI (by simp);obtain⟨wR,nR⟩:=lu g8 (by simp);obtain⟨hlen,rv⟩:=ux nR (by simp);obtain⟨bW,aa,uL⟩:=fy rv (by simp);rw[kt]at uL;cases uL;clear a7 cl dc eI g8 nR rv;subst wR;obtain⟨l,hl,C,eT,hc⟩:=hw.eK _ _ aO (by simp);have pL:=hc.room;obtain⟨aD,aA,e2⟩:=J9 aa;have aut:n<=1099511627776:=UU;rw[List.length_drop]at hlen;cases c7 with
  |ptr _ l' cu e1=>
   rw[hl]at cu;cases cu;have jL:=hc.row ad.off n (by rw[List.length_drop];exact hlen);have eu:(C.toList.drop (l.cR+ad.off)).take n=aD.map (Value.int .u8):=by
    rw[aA]at jL;have key:∀(aD:List Int) (aq:List Value),bN ι (aD.map (Value.int .u8)) aq->aq=aD.map (Value.int .u8):=by
     intro aD
     induction aD with
     |nil=>intro aq aG;rw[aG.vj];rfl
     |cons m ms a0=>
      intro aq aG;obtain⟨y,iW,rfl,h1,h2⟩:=aG.cons_inv;cases h1;rw[a0 iW h2];rfl
    exact key aD _ jL
   have mH:aD.length=n:=by
    have:=congrArg List.length aA;simp at this;omega
   have zx:=VT X.P w l.cJ C el eT hc.there aD (l.cR+ad.off) .empty (by rw[mH];exact eu);rw[mH]at zx;have LL:(variablesAt ⟨l.cJ,l.cR+ad.off,none⟩ el n).run X.P w= .ok true w:=by
    simp only[variablesAt,Sem.run_bind,run_program,Result.andThen,run_shape,IT hc.there,Sem.run_pure];rw[VS X.P el _ _ n (by rw[lx];omega) (by rw[lx];omega) (by rw[lx];simp;omega)]
   have cT:=(Array.getElem?_eq_some_iff.1 hc.there).1
   let FP:Nat×Nat:=if eT.1==eT.2 then(l.cR+ad.off,l.cR+ad.off+n)else(min eT.1 (l.cR+ad.off),max eT.2 (l.cR+ad.off+n))
   have Gb:(w.freeze ⟨l.cJ,l.cR+ad.off,none⟩ n).heap=w.heap.setIfInBounds l.cJ (.cells C el FP):=by
    simp only[World.freeze,if_neg h0];apply Array.ext_getElem?;intro j;rw[Array.getElem?_modify];by_cases jq:l.cJ=j
    ·subst jq;rw[if_pos rfl,hc.there,Array.getElem?_setIfInBounds];simp[cT,FP]
    ·rw[if_neg jq,Array.getElem?_setIfInBounds_ne jq]
   obtain⟨t1,t2⟩:=bt.vL X hw aO (by simp) (fun ab=>by have:=ab.2;omega) hl (.cells cs el (ad.off,Nat.add ad.off n) a8) _ (w.freeze ⟨l.cJ,l.cR+ad.off,none⟩ n) Gb (fun _ aN=>⟨C,FP,⟨aN,hc.room,hc.cell,fun ev=>by
    exfalso;have:ad.off+n<=ad.off:=ev;omega,hc.plain⟩⟩) (by constructor<;>simp only[World.freeze,if_neg h0])
   refine⟨rfl,ι,.value (.string ⟨⟨bW⟩⟩),_,s5 ?_,.inl ⟨_,rfl,.string _⟩,t1,t2⟩;obtain⟨fK,iQ,xy,ve,vf,hu⟩:=LK _;rw[hu];have h3:¬((n:Int)>IntKind.i64.max):=by
    have:IntKind.i64.max=9223372036854775807:=by decide
    rw[this];omega
   have ay:¬((n:Int)=0):=by omega
   simp only[asInt,asIntOf,Sem.run_bind,Sem.run_pure,Result.andThen,List.getElem?_toArray,List.getElem?_cons_zero,if_neg Gp,if_neg h3,if_neg ay,elemOf,run_underlying k5,LL,Int.toNat_natCast,if_true,zx,run_freeze];rw[e2];simp
end
section
variable{ι:bA}{fr aI:aT}{a:Act}{aS:Nat}{st st':au}{w:World}{o:Oper}{v:Value}{call:bQ}
def u7:Operand->Bool
 |.const _=>true
 |_=>false
theorem age{neg:Bool}{t yx:TypeId}{x y:Operand}{b:Bool}(ak:o.op= .binOp (if neg then .neq else .eql) t x y yx)
 (aO:(eqGuard (if neg then .neq else .eql) t x y (a.eval x) (a.eval y)).run X.P w= .ok () w)
 (aa:∀op:BinOp,op= .eql∨op= .neq->binOp op t (a.eval x) (a.eval y)=(if op= .eql then do pure (.bool (<-Op.equal t (a.eval x) (a.eval y)))else do pure (.bool (!(<-Op.equal t (a.eval x) (a.eval y))))))
 (he:(Op.equal t (a.eval x) (a.eval y)).run X.P w= .ok b w):(execOp a.eval o).run X.P w= .ok (.value (.bool (cond neg (!b) b))) w:=by
 unfold execOp;rw[ak];simp only[Sem.run_bind,aO,Result.andThen];cases neg
 ·simp only[Bool.false_eq_true,if_false];rw[aa .eql (.inl rfl),if_pos rfl];simp[he,Result.andThen]
 ·simp only[if_true];rw[aa .neq (.inr rfl),if_neg (by simp)];simp[he,Result.andThen]
theorem afU{P:Program}{t:TypeId}(hu:P.underlying t=some .bool)(d:Nat)(x y:Bool):(Op.equalIn (d+1) t (.bool x) (.bool y)).run P w= .ok (x==y) w:=by
 simp[Op.equalIn,run_underlying hu,Result.andThen]
theorem afZ{x y eP kP:Value}{b:Bool}{t e:TypeId}(n:Nat)(J:bq ι x eP)(aG:bq ι y kP)(h:pn x y=some b)(hu:X.P.underlying t=some (.slice e)):
 (Op.equalIn (n+1) t eP kP).run X.P w= .ok b w:=by
 unfold pn at h;split at h
 ·cases h;cases J;cases aG<;>simp[Op.equalIn,run_underlying hu,Result.andThen]
 ·cases h;cases J;cases aG;simp[Op.equalIn,run_underlying hu,Result.andThen]
 ·cases h
theorem afY{x y eP kP:Value}{b:Bool}{t k e:TypeId}(n:Nat)(J:bq ι x eP)(aG:bq ι y kP)(h:B2 x y=some b)(hu:X.P.underlying t=some (.map k e)):
 (Op.equalIn (n+1) t eP kP).run X.P w= .ok b w:=by
 unfold B2 at h;split at h
 ·cases h;cases J;cases aG<;>simp[Op.equalIn,run_underlying hu,Result.andThen]
 ·cases h;cases J;cases aG;simp[Op.equalIn,run_underlying hu,Result.andThen]
 ·cases h
theorem afW{x y eP kP:Value}{b:Bool}{t:TypeId}{p q:Array TypeId}{r:Bool}(n:Nat)(J:bq ι x eP)(aG:bq ι y kP)(h:y8 x y=some b)(hu:X.P.underlying t=some (.func p q r)):
 (Op.equalIn (n+1) t eP kP).run X.P w= .ok b w:=by
 unfold y8 at h;split at h
 ·cases h;cases J;cases aG;simp[Op.equalIn,run_underlying hu,Result.andThen]
 ·cases h;cases J;cases aG;simp[Op.equalIn,run_underlying hu,Result.andThen]
 ·cases h;cases J;cases aG;simp[Op.equalIn,run_underlying hu,Result.andThen]
 ·cases h
theorem afX{x y eP kP:Value}{b:Bool}{t:TypeId}{ms:Array (String×TypeId)}(n:Nat)(J:bq ι x eP)(aG:bq ι y kP)(h:B1 x y=some b)(hu:X.P.underlying t=some (.interface ms)):
 (Op.equalIn (n+1) t eP kP).run X.P w= .ok b w:=by
 unfold B1 at h;split at h
 ·cases h;cases J;cases aG;simp[Op.equalIn,run_underlying hu,Result.andThen]
 ·cases h;cases J;cases aG;simp[Op.equalIn,run_underlying hu,Result.andThen]
 ·cases h;cases J;cases aG;simp[Op.equalIn,run_underlying hu,Result.andThen]
 ·cases h
theorem af0{x y eP kP:Value}{b:Bool}{t e:TypeId}{i:TypeInfo}(n:Nat)(J:bq ι x eP)(aG:bq ι y kP)(h:uD x y=some b)(hu:X.P.underlying t=some (.pointer e))(ae:X.P.info? e=some i)(ax:i.size≠0):
 (Op.equalIn (n+1) t eP kP).run X.P w= .ok b w:=by
 unfold uD at h;split at h
 ·cases h;cases J;cases aG<;>simp[Op.equalIn,run_underlying hu,Result.andThen]
 ·cases h;cases J;cases aG;simp[Op.equalIn,run_underlying hu,Result.andThen]
 ·split at h
  ·rename_i p q hc;cases h;cases J with
   |ptr _ l hl ah=>
    cases aG with
    |ptr _ fJ pE mK=>
     rw[hc.1,pE]at hl;cases hl;simp[Op.equalIn,run_underlying hu,jy ae,ax,sameAddr,Result.andThen];rw[Bool.eq_iff_iff];simp
  ·cases h
 ·cases h
inductive tV(P:Program)(t:TypeId)(x y:Operand):o1->Prop
 |r4 (h:P.underlying t=some .bool):tV P t x y .r4
 |mP (e:TypeId) (h:P.underlying t=some (.slice e)):tV P t x y .mP
 |xJ (k e:TypeId) (h:P.underlying t=some (.map k e)):tV P t x y .xJ
 |vi (p q:Array TypeId) (r:Bool) (h:P.underlying t=some (.func p q r)):tV P t x y .vi
 |xI (ms:Array (String×TypeId)) (h:P.underlying t=some (.interface ms)) (hc:u7 x=true∨u7 y=true):tV P t x y .xI
 |ptr (e:TypeId) (i:TypeInfo) (h:P.underlying t=some (.pointer e)) (ae:P.info? e=some i) (ax:i.size≠0):tV P t x y .ptr
theorem afS(P:Program)(op:BinOp)(t:TypeId)(x y:Operand)(hc:u7 x=true∨u7 y=true):(eqGuard op t x y .nilIface .nilIface).run P w= .ok () w:=by
 rcases hc with hc|hc
 ·cases x<;>simp[u7]at hc;cases op<;>simp[eqGuard]
 ·cases y<;>simp[u7]at hc;cases op<;>cases x<;>simp[eqGuard]
theorem ara{neg:Bool}{e:o1}{t yx:TypeId}{x y:Operand}(J:cE X.aE x=true)(aG:cE X.aE y=true)(ak:o.op= .binOp (if neg then .neq else .eql) t x y yx)(bP:tV X.P t x y e)
 (ab:cB ι fr a aS) (hw:bt X ι st w) (h:W2 neg e x y call fr st= .ok v aI st'):aI=fr∧cg X ι w v st st' (execOp a.eval o):=by
 obtain⟨b,aa,g⟩:=fy h (by simp);have c7:=ab.aj hw J;have fm:=ab.aj hw aG;obtain⟨aA,e2,b0⟩:=tq g;subst aA e2 b0;clear g h;generalize cy:a.eval x=fh at c7;generalize fT:a.eval y=qe at fm;have key:∀(_:(Op.equal t fh qe).run X.P w= .ok b w) (_:(eqGuard (if neg then .neq else .eql) t x y fh qe).run X.P w= .ok () w)
  (_:∀op:BinOp,op= .eql∨op= .neq->binOp op t fh qe=(if op= .eql then do pure (.bool (<-Op.equal t fh qe))else do pure (.bool (!(<-Op.equal t fh qe))))),
  fr=fr∧cg X ι w (.bool (cond neg (!b) b)) st st (execOp a.eval o):=by
  intro h1 h2 h3;exact⟨rfl,cg.same (v':=.bool (cond neg (!b) b)) hw (age ak (by rw[cy,fT];exact h2) (by rw[cy,fT];exact h3) (by rw[cy,fT];exact h1)) (.bool _)⟩
 cases bP with
 |r4 hu=>
  have cT:za (fr.aj x) (fr.aj y)=some b:=aa;generalize fr.aj x=Cb at cT c7;generalize fr.aj y=Cc at cT fm;unfold za at cT;split at cT
  ·cases cT;cases c7;cases fm;exact key (afU hu 9999 _ _) (by cases neg<;>simp[eqGuard]) (by intro op cN;rcases cN with rfl|rfl<;>rfl)
  ·split at cT
   ·cases cT;cases c7;cases fm;rename_i bj nq bM fb U;subst U;refine⟨rfl,cg.same (v':=.bool (cond neg (!(nq==fb)) (nq==fb))) hw ?_ (.bool _)⟩;unfold execOp;rw[ak];cases neg<;>simp[cy,fT,eqGuard,binOp,Op.intCmp]<;>rfl
   ·cases cT
  ·cases cT;cases c7;cases fm;rename_i s1 s2;refine⟨rfl,cg.same (v':=.bool (cond neg (!(s1.data.toList==s2.data.toList)) (s1.data.toList==s2.data.toList))) hw ?_ (.bool _)⟩;unfold execOp;rw[ak];cases neg<;>simp only[cy,fT,Sem.run_bind,Bool.false_eq_true,if_false,if_true,Fy,Result.andThen,binOp,Op.stringOp,toList_eq]<;>rfl
  ·cases cT
 |mP e hu=>
  have cT:pn (fr.aj x) (fr.aj y)=some b:=aa;have h1:=afZ (w:=w) 9999 c7 fm cT hu;generalize fr.aj x=Cb at cT c7;generalize fr.aj y=Cc at cT fm;unfold pn at cT;split at cT<;>first|(cases cT;done)|(cases cT;cases c7;cases fm<;>exact key h1 (by cases neg<;>simp[eqGuard]) (by intro op cN;rcases cN with rfl|rfl<;>rfl))
 |xJ k e hu=>
  have cT:B2 (fr.aj x) (fr.aj y)=some b:=aa;have h1:=afY (w:=w) 9999 c7 fm cT hu;generalize fr.aj x=Cb at cT c7;generalize fr.aj y=Cc at cT fm;unfold B2 at cT;split at cT<;>first|(cases cT;done)|(cases cT;cases c7;cases fm<;>exact key h1 (by cases neg<;>simp[eqGuard]) (by intro op cN;rcases cN with rfl|rfl<;>rfl))
 |vi p q r hu=>
  have cT:y8 (fr.aj x) (fr.aj y)=some b:=aa;have h1:=afW (w:=w) 9999 c7 fm cT hu;generalize fr.aj x=Cb at cT c7;generalize fr.aj y=Cc at cT fm;unfold y8 at cT;split at cT<;>first|(cases cT;done)|(cases cT;cases c7;cases fm;exact key h1 (by cases neg<;>simp[eqGuard]) (by intro op cN;rcases cN with rfl|rfl<;>rfl))
 |xI ms hu hc=>
  have cT:B1 (fr.aj x) (fr.aj y)=some b:=aa;have h1:=afX (w:=w) 9999 c7 fm cT hu;generalize fr.aj x=Cb at cT c7;generalize fr.aj y=Cc at cT fm;unfold B1 at cT;split at cT
  ·cases cT;cases c7;cases fm;exact key h1 (afS X.P _ t x y hc) (by intro op cN;rcases cN with rfl|rfl<;>rfl)
  ·cases cT;cases c7;cases fm;exact key h1 (by cases neg<;>simp[eqGuard]) (by intro op cN;rcases cN with rfl|rfl<;>rfl)
  ·cases cT;cases c7;cases fm;exact key h1 (by cases neg<;>simp[eqGuard]) (by intro op cN;rcases cN with rfl|rfl<;>rfl)
  ·cases cT
 |ptr e i hu ae ax=>
  have cT:uD (fr.aj x) (fr.aj y)=some b:=aa;have h1:=af0 (w:=w) 9999 c7 fm cT hu ae ax;generalize fr.aj x=Cb at cT c7;generalize fr.aj y=Cc at cT fm;unfold uD at cT;split at cT
  ·cases cT;cases c7;cases fm<;>exact key h1 (by cases neg<;>simp[eqGuard]) (by intro op cN;rcases cN with rfl|rfl<;>rfl)
  ·cases cT;cases c7;cases fm;exact key h1 (by cases neg<;>simp[eqGuard]) (by intro op cN;rcases cN with rfl|rfl<;>rfl)
  ·cases c7;cases fm;exact key h1 (by cases neg<;>simp[eqGuard]) (by intro op cN;rcases cN with rfl|rfl<;>rfl)
  ·cases cT
end
end Go.an
namespace Go.an
def MX:Operand->Operand->Bool
 |.tmp a,.tmp b=>Nat.beq a b
 |.const v,.const w=>dD v w
 |.global a,.global b=>Nat.beq a b
 |.func a,.func b=>Nat.beq a b
 |_,_=>false
theorem aoJ{a b:Operand}(h:MX a b=true):a=b:=by
 cases a<;>cases b<;>simp only[MX]at h<;>first|(cases h;done)|(rw[ep h])|(rw[mV _ _ h])
def bY(aE:Nat)(a b:Operand):Bool:=MX a b&&cE aE b
theorem cW{aE:Nat}{a b:Operand}(h:bY aE a b=true):a=b∧cE aE b=true:=by
 unfold bY at h;rw[bZ]at h;exact⟨aoJ h.1,h.2⟩
def jR(aE:Nat):List Operand->List Operand->Bool
 |[],[]=>true
 |a::as,b::bW=>bY aE a b&&jR aE as bW
 |_,_=>false
theorem pY{aE:Nat}:∀{as bW:List Operand},jR aE as bW=true->as=bW∧∀x∈bW,cE aE x=true
 |[],[],_=>⟨rfl,by simp⟩
 |a::as,b::bW,h=>by
  simp only[jR,bZ]at h;obtain⟨h1,h2⟩:=cW h.1;obtain⟨h3,ay⟩:=pY h.2;exact⟨by rw[h1,h3],fun x J=>by rcases List.mem_cons.1 J with rfl|J;exact h2;exact ay x J⟩
 |[],_::_,h=>by simp[jR]at h
 |_::_,[],h=>by simp[jR]at h
def lJ(aE:Nat):Option Operand->Option Operand->Bool
 |none,none=>true
 |some a,some b=>bY aE a b
 |_,_=>false
theorem vr{aE:Nat}{a b:Option Operand}(h:lJ aE a b=true):a=b∧∀y,b=some y->cE aE y=true:=by
 cases a<;>cases b<;>simp only[lJ]at h<;>first|(cases h;done)|skip
 ·exact⟨rfl,by simp⟩
 ·obtain⟨h1,h2⟩:=cW h;exact⟨by rw[h1],fun y aG=>by cases aG;exact h2⟩
def qP(aE:Nat)(place:Nat->Option (Nat×Nat)):List (Nat×Nat×Operand)->List (Nat×Operand)->Bool
 |[],[]=>true
 |(off,a4,x)::ps,(i,y)::dj=>
  (match place i with
   |some (o,s)=>Nat.beq off o&&Nat.beq a4 s
   |none=>false)&&bY aE x y&&qP aE place ps dj
 |_,_=>false
theorem HA{aE:Nat}{place:Nat->Option (Nat×Nat)}:∀{ps:List (Nat×Nat×Operand)} {dj:List (Nat×Operand)},qP aE place ps dj=true->
 ps=dj.map (fun p=>(((place p.1).getD (0,0)).1,((place p.1).getD (0,0)).2,p.2))∧∀p∈dj,(place p.1).isSome∧cE aE p.2=true
 |[],[],_=>⟨rfl,by simp⟩
 |(off,a4,x)::ps,(i,y)::dj,h=>by
  simp only[qP,bZ]at h;obtain⟨⟨h1,h2⟩,h3⟩:=h;obtain⟨aA,e2⟩:=cW h2;obtain⟨f1,f2⟩:=HA h3;cases hp:place i with
  |none=>rw[hp]at h1;cases h1
  |some q=>
   obtain⟨o,s⟩:=q;rw[hp]at h1;simp only[bZ]at h1;have fY:=ep h1.1;have hi:=ep h1.2;refine⟨by rw[f1,aA,fY,hi];simp[hp],fun p k5=> ?_⟩;rcases List.mem_cons.1 k5 with rfl|k5
   ·exact⟨by simp[hp],e2⟩
   ·exact f2 p k5
 |[],_::_,h=>by simp[qP]at h
 |_::_,[],h=>by simp[qP]at h
section
def rT(P:Program)(t:Nat)(name:String)(g:FuncId):Bool:=
 match P.info? t,P.underlying t,P.funcs[g]? with
 |some i,some d,some fn=>fn.body.isSome&& !(fn.name== "runtime.NumGoroutine")&&(match i.methods.find? (·.name==name)with
  |some m=>m.path.toList.isEmpty&&(match m.func with
   |some (f,ptr)=>Nat.beq f g&&(match d with|.pointer _=>ptr|_=> !ptr)
   |none=>false)
  |none=>false)
 |_,_,_=>false
variable(P:Program)(aE:Nat)(jP kb:FuncId->Bool)(keys:TypeId->Option fN)(pe:FuncId->Bool)(eqs:TypeId->Option Nat)(pP:FuncId->Bool)(lG:Nat)
def o4(t:TypeId):Option Bool:=(P.underlying t).map qj
def gw(t:TypeId):Option Nat:=(P.info? t).map (·.size)
def q4(t:TypeId):Option Value:=(P.info? t).bind (·.zero)
def FA(t:TypeId)(e:o1)(x y:Operand):Bool:=
 match e,P.underlying t with
 |.r4,some .bool=>true
 |.mP,some (.slice _)=>true
 |.xJ,some (.map _ _)=>true
 |.vi,some (.func _ _ _)=>true
 |.xI,some (.interface _)=>u7 x||u7 y
 |.ptr,some (.pointer el)=>match gw P el with
  |some n=> !Nat.beq n 0
  |none=>false
 |_,_=>false
theorem af4{t:TypeId}{e:o1}{x y:Operand}(h:FA P t e x y=true):tV P t x y e:=by
 unfold FA at h;split at h
 ·rename_i hu;exact .r4 hu
 ·rename_i hu;exact .mP _ hu
 ·rename_i hu;exact .xJ _ _ hu
 ·rename_i hu;exact .vi _ _ _ hu
 ·rename_i hu;exact .xI _ hu (by simpa using h)
 ·rename_i hu;split at h
  ·rename_i n hn;unfold gw at hn;obtain⟨i,ae,e⟩:=Option.map_eq_some_iff.1 hn;refine .ptr _ i hu ae ?_;intro ax;rw[<-e,ax]at h;simp at h
  ·cases h
 ·cases h
def L3:fN->fN->Bool
 |.int k,.int k'=>decide (k=k')
 |.str,.str=>true
 |.arr k n,.arr k' b8=>decide (k=k')&&Nat.beq n b8
 |_,_=>false
def Db(t:TypeId)(c9:fN):Bool:=
 match P.underlying t with
 |some (.map fa _)=>(match keys fa with|some VJ=>L3 c9 VJ|none=>false)
 |_=>false
def Ox(op:Op)(y:ue):Bool:=
 match y,op with
 |.look c9 z ok m k,.lookup t fq k' vn=>bY aE m fq&&bY aE k k'&&(ok==vn)&&Db P keys t c9&&
  (match P.underlying t with|some (.map _ e)=>(match q4 P e with|some v=>dD z v&&jX z|none=>false)|_=>false)
 |.g3 c9 m k v,.mapUpdate t fq k' v'|.g3 c9 m k v,.insert t fq k' v'=>bY aE m fq&&bY aE k k'&&bY aE v v'&&Db P keys t c9
 |.del c9 m k,.call {callee:=.builtin .delete,args:=⟨[fq,k']⟩,argTypes:=⟨[t,_]⟩}=>bY aE m fq&&bY aE k k'&&Db P keys t c9
 |.z1 m,.call {callee:=.builtin .len,args:=⟨[fq]⟩,argTypes:=⟨[t]⟩}=>bY aE m fq&&(match P.underlying t with|some (.map _ _)=>true|_=>false)
 |.z2 m,.range t fq=>bY aE m fq&&(match P.underlying t with|some (.map _ _)=>true|_=>false)
 |.z0 i,.entry gZ=>bY aE i gZ
 |.tn i,.next gZ false=>bY aE i gZ
 |.wm gt a b,.binOp bd t a' er _=>decide (bd=(if gt then .gtr else .leq))&&bY aE a a'&&bY aE b er&&(match P.underlying t with|some (.int .i64)=>true|_=>false)
 |.idxs g a c,.call {callee:=.value (.func f),args:=⟨[b,d]⟩,.. }=>bY aE a b&&bY aE c d&&pP f&&Nat.beq g lG
 |.bf a c,.call {callee:=.value (.func f),args:=⟨[b,d]⟩,.. }=>bY aE a b&&bY aE c d&&pe f
 |.qp neg n a b,.binOp bd t a' er _=>decide (bd=(if neg then .neq else .eql))&&bY aE a a'&&bY aE b er&&(match eqs t with|some b8=>Nat.beq n b8|none=>false)
 |_,_=>false
def atL(op:Op)(x:dd):Bool:=
 match x,op with
 |.l4 a,.move b|.l4 a,.assign b=>bY aE a b
 |.pick c a b,.pick bJ a' er=>bY aE c bJ&&bY aE a a'&&bY aE b er
 |.alloc z e,.alloc t=>Nat.beq e t&&(match q4 P t with|some v=>lh z v.cells.toList&&mq z|none=>false)
 |.box e a,.box t b=>Nat.beq e t&&bY aE a b
 |.build z ps,.build t parts=>
  (match q4 P t with|some v=>lh z v.cells.toList&&mq z|none=>false)&&
  (match P.underlying t with
   |some (.struct fields)=>fields.toList.all (fun f=>(P.info? f.type).isSome)&&qP aE (fun j=>(fields.map fun f=>(f.offset,P.cellsOf f.type))[j]?) ps parts.toList
   |some (.array _ e)=>(match gw P e with|some s=>qP aE (fun j=>some (j*s,s)) ps parts.toList|none=>false)
   |_=>false)
 |.ot e n z ps,.buildSlice t m parts=>
  Nat.beq n m&&(match P.underlying t with
   |some (.slice el)=>Nat.beq e el&&(match gw P el,q4 P el with
    |some s,some v=>Nat.ble (m*s) (2^24)&&lh z ((List.range (m*s)).map (fun j=>(if m*s=0 then(#[]:Array Value)else v.cells)[j%(if m*s=0 then(#[]:Array Value)else v.cells).size]!))&&mq z&&
     qP aE (fun j=>some (j*s,s)) ps parts.toList
    |_,_=>false)
   |_=>false)
 |.lE a,.load t b=>bY aE a b&&(match o4 P t with|some g=> !g|none=>false)
 |.pT n a,.load t b=>bY aE a b&&(match o4 P t,gw P t with|some g,some s=>g&&Nat.beq n s|_,_=>false)
 |.store n a x,.store t b y=>bY aE a b&&bY aE x y&&(match gw P t with|some s=>Nat.beq n s|none=>false)
 |.rV a,.nilCheck b=>bY aE a b
 |.Hn name hv a,.nilCheck b=>bY aE a b&&hv.all (fun p=>rT P p.1 name p.2)
 |.bin o a b,.binOp bd _ a' er _=>decide (o=bd)&&bY aE a a'&&bY aE b er
 |.eqv neg e a b,.binOp bd t a' er _=>decide (bd=(if neg then .neq else .eql))&&bY aE a a'&&bY aE b er&&FA P t e a' er
 |.un o a,.unOp bd _ b=>decide (o=bd)&&bY aE a b
 |.sB k a,.convert s t b=>bY aE a b&&(match P.underlying s,P.underlying t with|some _,some (.int k')=>decide (k=k')|_,_=>false)
 |.wj a,.convert s t b=>bY aE a b&&(match P.underlying s,P.underlying t with|some _,some .string=>true|_,_=>false)
 |.yS a,.convert s t b=>bY aE a b&&(match P.underlying s,P.underlying t with|some (.slice e),some .string=>(match P.underlying e with|some (.int .u8)=>true|_=>false)|_,_=>false)
 |.uv e a,.convert s t b=>bY aE a b&&(match P.underlying s,P.underlying t with|some .string,some (.slice cK)=>Nat.beq e cK&&(match P.underlying cK,gw P cK with|some (.int .u8),some 1=>true|_,_=>false)|_,_=>false)
 |.Hc t a,.makeInterface gV b=>Nat.beq t gV&&bY aE a b&&(match P.underlying gV with|some (.interface _)=>false|some _=>true|none=>false)
 |.ti (.func f) a c,.makeFunc (.func g) b d=>Nat.beq f g&&jR aE a b.toList&&jR aE c d.toList
 |.ti (.method f) a c,.makeFunc (.method g) b d=>f==g&&jR aE a b.toList&&jR aE c d.toList
 |.oO e bW z l c,.makeSlice t l' bJ=>bY aE l l'&&bY aE c bJ&&(match P.underlying t with
  |some (.slice el)=>Nat.beq e el&&(match P.info? el with
   |some i=>Nat.beq bW i.bytes&& !Nat.beq i.size 0&&(match i.zero with|some v=>lh z v.cells.toList&&mq z&&Nat.beq v.cells.toList.length i.size|none=>false)
   |none=>false)
  |_=>false)
 |.sa a bb ae,.slice t b qL ea none=>bY aE a b&&lJ aE bb qL&&lJ aE ae ea&&(match P.underlying t with|some .string=>true|_=>false)
 |.AQ n s a bb ae eU,.slice t b qL ea oP=>bY aE a b&&lJ aE bb qL&&lJ aE ae ea&&lJ aE eU oP&&(oP.isNone||ea.isSome)&&
  (match P.underlying t with|some (.array b8 e)=>Nat.beq n b8&&(match gw P e with|some br=>Nat.beq s br|none=>false)|_=>false)
 |.nE s a bb ae eU,.slice t b qL ea oP=>bY aE a b&&lJ aE bb qL&&lJ aE ae ea&&lJ aE eU oP&&(oP.isNone||ea.isSome)&&
  (match P.underlying t with|some (.slice e)=>(match gw P e with|some br=>Nat.beq s br|none=>false)|_=>false)
 |.wD off a,.fieldAddr t b f=>bY aE a b&&(match P.underlying t with
  |some (.struct fields)=>(match fields[f]? with|some fd=>Nat.beq off fd.offset&&(match gw P fd.type with|some s=> !Nat.beq s 0|none=>false)|none=>false)
  |_=>false)
 |.oB off a4 hx a,.field t b f=>bY aE a b&&(match P.underlying t with
  |some (.struct fields)=>(match fields[f]? with|some fd=>Nat.beq off fd.offset&&(match gw P fd.type,o4 P fd.type with|some s,some g=>Nat.beq a4 s&&(hx==g)|_,_=>false)|none=>false)
  |_=>false)
 |.s6 n a4 a i,.indexAddr t b j=>bY aE a b&&bY aE i j&&(match P.underlying t with|some (.array b8 e)=>Nat.beq n b8&&(match gw P e with|some s=>Nat.beq a4 s|none=>false)|_=>false)
 |.lD a4 a i,.indexAddr t b j=>bY aE a b&&bY aE i j&&(match P.underlying t with|some (.slice e)=>(match gw P e with|some s=>Nat.beq a4 s|none=>false)|_=>false)
 |.u9 a i,.index t b j=>bY aE a b&&bY aE i j&&(match P.underlying t with|some .string=>true|_=>false)
 |.GL n a4 hx a i,.index t b j=>bY aE a b&&bY aE i j&&(match P.underlying t with|some (.array b8 e)=>Nat.beq n b8&&(match gw P e,o4 P e with|some s,some g=>Nat.beq a4 s&&(hx==g)|_,_=>false)|_=>false)
 |.I4 t z ok a,.typeAssert b _ gV vn=>bY aE a b&&Nat.beq t gV&&(ok==vn)&&(match P.underlying gV with|some (.interface _)=>false|some _=>true|none=>false)&&(match q4 P gV with|some v=>dD z v&&jX z|none=>false)
 |.wC a i,.extract b j=>bY aE a b&&Nat.beq i j
 |.call f as,.call {callee:=.value g,args,.. }=>bY aE f g&&jR aE as args.toList&&(match g with|.func k=>((P.funcs[k]?).map (fun fn=>fn.body.isSome&& !(fn.name== "runtime.NumGoroutine"))).getD false|_=>true)
 |.inv hv f as,.call {callee:=.invoke g name,args,.. }=>bY aE f g&&jR aE as args.toList&&hv.all (fun p=>rT P p.1 name p.2)
 |.oN a,.call {callee:=.builtin .len,args:=⟨[b]⟩,argTypes:=⟨[t]⟩}=>bY aE a b&&(match P.underlying t with|some (.slice _)=>true|_=>false)
 |.te a,.call {callee:=.builtin .len,args:=⟨[b]⟩,argTypes:=⟨[t]⟩}=>bY aE a b&&(match P.underlying t with|some .string=>true|_=>false)
 |.xv n,.call {callee:=.builtin .len,args:=⟨[_]⟩,argTypes:=⟨[t]⟩}=>(match P.underlying t with|some (.array m _)=>Nat.beq n m|some (.pointer u)=>(match P.underlying u with|some (.array m _)=>Nat.beq n m|_=>false)|_=>false)
 |.app e a4 bW s a,.call {callee:=.builtin .append,args:=⟨[br,b]⟩,argTypes:=⟨[t,u]⟩}=>bY aE s br&&bY aE a b&&(match P.underlying t,P.underlying u with
  |some (.slice el),some d=>Nat.beq e el&&(match d with|.int _=>false|_=>true)&&(match P.info? el with
   |some i=>Nat.beq a4 i.size&&Nat.beq bW i.bytes&&(match i.zero with|some v=>Nat.beq v.cells.size i.size|none=>false)
   |none=>false)
  |_,_=>false)
 |.eU a as,.call {callee:=.builtin .max,args:=⟨b::bW⟩,.. }=>bY aE a b&&jR aE as bW
 |.xE a as,.call {callee:=.builtin .min,args:=⟨b::bW⟩,.. }=>bY aE a b&&jR aE as bW
 |.qm a4 d s,.call {callee:=.builtin .copy,args:=⟨[h5,br]⟩,argTypes:=⟨[t,_]⟩}=>bY aE d h5&&bY aE s br&&(match P.underlying t with|some (.slice e)=>(match gw P e with|some n=>Nat.beq a4 n|none=>false)|_=>false)
 |.vF,.call {callee:=.builtin .recover,args:=⟨[]⟩,.. }=>true
 |.qn f as,.defer {callee:=.value g,args,.. }=>bY aE f g&&jR aE as args.toList
 |.qQ a,.panic b=>bY aE a b
 |.Fe a,.convert s t b=>bY aE a b&&(match P.underlying s,P.underlying t with|some (.pointer e),some .unsafePointer=>(match gw P e with|some n=> !Nat.beq n 0|none=>false)|_,_=>false)
 |.Fg e n a,.convert s t b=>bY aE a b&&(match P.underlying s,P.underlying t with|some .unsafePointer,some (.pointer cK)=>Nat.beq e cK&&(match gw P cK with|some m=>Nat.beq n m&& !Nat.beq m 0|none=>false)|_,_=>false)
 |.Eb a,.call {callee:=.builtin .unsafeSliceData,args:=⟨[b]⟩,argTypes:=⟨[_]⟩}=>bY aE a b
 |.vO e a n,.call {callee:=.builtin .unsafeString,args:=⟨[b,m]⟩,argTypes:=⟨[t,_]⟩}=>bY aE a b&&bY aE n m&&(match P.underlying t with|some (.pointer cK)=>Nat.beq e cK&&(match gw P cK with|some 1=>true|_=>false)|_=>false)
 |.kb a c,.call {callee:=.value (.func f),args:=⟨[b,d]⟩,.. }=>bY aE a b&&bY aE c d&&kb f
 |.jP a,.call {callee:=.value (.func f),args:=⟨[b]⟩,.. }=>bY aE a b&&jP f
 |.tj,.makeMap _ none=>true
 |.vd _,_=>true
 |.ext y,op=>Ox P aE keys pe eqs pP lG op y
 |.refuse,_=>true
 |_,_=>false
end
end Go.an
namespace Go.an
variable{X:Ctx}
section
variable{α β:Type}{r z:β}
theorem Es{v:Value}{k:Option Nat->β}(h:yo v k z=r)(ax:z≠r):∃p,v= .map p∧k p=r:=by
 cases v<;>first|exact absurd h ax|exact⟨_,rfl,h⟩
theorem zY{o:Option bw}{k:List MapEntry->Nat->β}(h:qM o k z=r)(ax:z≠r):∃es c,o=some (.map es c)∧k es c=r:=by
 unfold qM at h;obtain⟨o,rfl,h⟩:=fy h ax;cases o<;>first|exact absurd h ax|exact⟨_,_,rfl,h⟩
theorem amH{o:Option bw}{k:Option Nat->Nat->List Nat->Nat->β}(h:LZ o k z=r)(ax:z≠r):∃a b c d,o=some (.th a b c d)∧k a b c d=r:=by
 unfold LZ at h;obtain⟨o,rfl,h⟩:=fy h ax;cases o<;>first|exact absurd h ax|exact⟨_,_,_,_,rfl,h⟩
end
theorem fN.same{ι:bA}{c9:fN}{v v':Value}(h:c9.ok v=true)(aQ:bq ι v v'):v'=v:=by
 cases c9 with
 |int k=>
  obtain⟨k',n,rfl,_⟩:=jl (v:=v) (z:=false) (r:=true) h (by decide);cases aQ;rfl
 |str=>
  obtain⟨s,rfl,_⟩:=oZ (v:=v) (z:=false) (r:=true) h (by decide);cases aQ;rfl
 |arr k n=>
  obtain⟨xs,rfl,h2⟩:=AY (v:=v) (z:=false) (r:=true) h (by decide);rw[bZ,List.all_eq_true]at h2;cases aQ with
  |agg _ aq h1 hh=>
   congr 1;apply Array.ext
   ·exact h1.symm
   ·intro i a b;have J:=h2.2 xs[i] (by simp);obtain⟨k',m,he,_⟩:=jl (v:=xs[i]) (z:=false) (r:=true) J (by decide);have:=hh i b a;rw[he]at this⊢;generalize aq[i]=y at this⊢;cases this;rfl
theorem uniq{es:List MapEntry}(h:es.Pairwise (fun a b=>a.key≠b.key)){a b:MapEntry}(ha:a∈es)(aa:b∈es)(e:a.key=b.key):a=b:=by
 induction es with
 |nil=>cases ha
 |cons x xs a0=>
  rw[List.pairwise_cons]at h;rcases List.mem_cons.1 ha with rfl|sP<;>rcases List.mem_cons.1 aa with rfl|cT
  ·rfl
  ·exact absurd e (h.1 b cT)
  ·exact absurd e.symm (h.1 a sP)
  ·exact a0 h.2 sP cT
theorem Wb{k:Value}{es:List MapEntry}{e:MapEntry}(h:pU k es=some e):e∈es∧e.key=k:=by
 unfold pU at h;refine⟨List.mem_of_find?_eq_some h,?_⟩;have:=List.find?_some h;exact(mV _ _ this).symm
theorem Mk{k:Value}{es:List MapEntry}(h:pU k es=none):∀e∈es,e.key≠k:=by
 intro e he afJ;unfold pU at h;have:=List.find?_eq_none.1 h e he;rw[afJ,AZ]at this;exact this rfl
theorem GN{c9:fN}{es:List MapEntry}(h:vb c9 es=true){e:MapEntry}(he:e∈es):c9.ok e.key=true:=
 List.all_eq_true.1 h e he
theorem ki.find{ι:bA}{cj:Nat->Nat}{es:List MapEntry}{clock:Nat}{C:List MapEntry}{kl:Nat}(h:ki ι cj es clock C kl){fa:TypeId}{c9:fN}(dB:X.keys fa=some c9){k:Value}(U:c9.ok k=true)(he:vb c9 es=true)(w:World):
 ((Instr.findKey fa k C).run X.P w= .ok none w∧pU k es=none∧∀c∈C,c.key≠k)∨
 ∃e j c,(Instr.findKey fa k C).run X.P w= .ok (some (j,c.val)) w∧C[j]? =some c∧c.key=k∧pU k es=some e∧e∈es∧e.key=k∧bq ι e.val c.val∧c.born=cj e.born:=by
 obtain⟨K,bP⟩:=X.rQ fa c9 dB;obtain⟨l,hp,hlen,hl⟩:=h.same;have uV:∀(i:Nat) (a:i<l.length) (b:i<C.length),C[i].key=l[i].key:=by
  intro i a b;exact fN.same (GN he (hp.mem_iff.1 (dr a))) (hl i a b).1
 have ez:∀c∈C,∃l,keyOf X.P fa c.key=some l:=by
  intro c hc;obtain⟨i,ae,rfl⟩:=List.getElem_of_mem hc;have ea:i<l.length:=by omega
  rw[uV i ea ae];exact bP _ (GN he (hp.mem_iff.1 (dr ea)))
 obtain⟨Dh,w0⟩:=bP k U;rcases K.find w w0 C ez with⟨h1,h2⟩|⟨j,c,h1,h2,h3⟩
 ·left;refine⟨h1,?_,h2⟩;cases ab:pU k es with
  |none=>rfl
  |some e=>
   exfalso;obtain⟨fK,iQ⟩:=Wb ab;obtain⟨i,ae,gF⟩:=List.getElem_of_mem (hp.mem_iff.2 fK);have ea:i<C.length:=by omega
   exact h2 C[i] (dr ea) (by rw[uV i ae ea,gF,iQ])
 ·right;obtain⟨hj,uU⟩:=List.getElem?_eq_some_iff.1 h2;have lB:j<l.length:=by omega
  have sX:l[j].key=k:=by rw[<-uV j lB hj,uU,h3]
  have zB:l[j]∈es:=hp.mem_iff.1 (dr lB);cases ab:pU k es with
  |none=>exact absurd sX (Mk ab _ zB)
  |some e=>
   obtain⟨fK,iQ⟩:=Wb ab;have:e=l[j]:=uniq h.keys fK zB (by rw[iQ,sX]);subst this;have:=hl j lB hj;rw[uU]at this;exact⟨_,j,c,h1,h2,h3,rfl,zB,sX,this.2.1,this.2.2⟩
theorem ki.put{ι:bA}{cj:Nat->Nat}{es:List MapEntry}{clock:Nat}{C:List MapEntry}{kl:Nat}(h:ki ι cj es clock C kl){c9:fN}{k v v':Value}(he:vb c9 es=true){j:Nat}{c:MapEntry}(hj:C[j]? =some c)(hc:c.key=k)(aH:bq ι v v'):
 ki ι cj (zZ k v es) clock (C.set j {c with key:=k,val:=v'}) kl:=by
 obtain⟨l,hp,hlen,hl⟩:=h.same;have ar:∀e:MapEntry,(cond (dD k e.key) (⟨e.key,v,e.born⟩:MapEntry) e).key=e.key:=by
  intro e;cases dD k e.key<;>rfl
 have a5:∀e:MapEntry,(cond (dD k e.key) (⟨e.key,v,e.born⟩:MapEntry) e).born=e.born:=by
  intro e;cases dD k e.key<;>rfl
 have uV:∀(i:Nat) (a:i<l.length) (b:i<C.length),C[i].key=l[i].key:=by
  intro i a b;exact fN.same (GN he (hp.mem_iff.1 (dr a))) (hl i a b).1
 obtain⟨e6,uU⟩:=List.getElem?_eq_some_iff.1 hj;refine⟨h.sC,h.AO,?_,?_,?_,l.map (fun e=>cond (dD k e.key) ⟨e.key,v,e.born⟩ e),hp.map _,by simp[hlen],?_⟩
 ·intro e hm;obtain⟨cK,lW,rfl⟩:=List.mem_map.1 hm;rw[a5];exact h.born cK lW
 ·unfold zZ;rw[List.pairwise_map];exact h.keys.imp (fun{a b} iK=>by rw[ar,ar];exact iK)
 ·unfold zZ;rw[List.pairwise_map];exact h.yP.imp (fun{a b} iK=>by rw[a5,a5];exact iK)
 ·intro i a b;have a':i<l.length:=by simpa using a
  have er:i<C.length:=by simpa using b
  rw[List.getElem_map,List.getElem_set];by_cases e:j=i
  ·subst e;rw[if_pos rfl];have U:l[j].key=k:=by rw[<-uV j a' er,uU,hc]
   have:dD k l[j].key=true:=by rw[U];exact AZ k
   rw[this];have hh:=hl j a' er;rw[uU]at hh;refine⟨?_,aH,hh.2.2⟩;have:=hh.1;rw[hc]at this;exact this
  ·rw[if_neg e];have hne:dD k l[i].key=false:=by
    rw[Bool.eq_false_iff];intro hq;have U:=mV _ _ hq;have wW:j<l.length:=by omega
    have h1:l[i].key=l[j].key:=by rw[<-U,<-uV j wW e6,uU,hc]
    have pI:=(hp.symm.pairwise_iff (R:=fun a b:MapEntry=>a.key≠b.key) (fun{a b} h=>h.symm)).1 h.keys;have h2:i=j:=by
     rcases Nat.lt_trichotomy i j with h|h|h
     ·exact absurd h1 (List.pairwise_iff_getElem.1 pI i j a' wW h)
     ·exact h
     ·exact absurd h1.symm (List.pairwise_iff_getElem.1 pI j i wW a' h)
    exact e h2.symm
   rw[hne];exact hl i a' er
theorem ki.push{ι:bA}{cj:Nat->Nat}{es:List MapEntry}{clock:Nat}{C:List MapEntry}{kl:Nat}(h:ki ι cj es clock C kl){k v v':Value}(U:bq ι k k)(hn:pU k es=none)(aH:bq ι v v'):
 ki ι cj (es++[⟨k,v,clock⟩]) (clock+1) (C++[⟨k,v',kl⟩]) (kl+1):=by
 obtain⟨l,hp,hlen,hl⟩:=h.same;have ah:=h.AO;refine⟨?_,⟨fun s t e1 aN e=> ?_,fun s e1=> ?_,fun j=> ?_⟩,?_,?_,?_,l++[⟨k,v,clock⟩],hp.append_right _,by simp[hlen],?_⟩
 ·rw[h.sC,ah.up 1]
 ·rcases Nat.lt_or_ge s clock with a|a<;>rcases Nat.lt_or_ge t clock with b|b
  ·exact ah.inj s t a b e
  ·have:t=clock:=by omega
   subst this;have:=ah.lt s a;omega
  ·have:s=clock:=by omega
   subst this;have:=ah.lt t b;omega
  ·omega
 ·rw[ah.up 1];rcases Nat.lt_or_ge s clock with a|a
  ·have:=ah.lt s a;omega
  ·have:s=clock:=by omega
   subst this;omega
 ·rw[show clock+1+j=clock+(1+j) by omega,ah.up,ah.up 1];omega
 ·intro e he;rcases List.mem_append.1 he with he|he
  ·have:=h.born e he;omega
  ·have:e=⟨k,v,clock⟩:=by simpa using he
   subst this;exact Nat.lt_succ_self _
 ·rw[List.pairwise_append];refine⟨h.keys,by simp,fun a ha b aa=> ?_⟩;have:b=⟨k,v,clock⟩:=by simpa using aa
  subst this;exact Mk hn a ha
 ·rw[List.pairwise_append];refine⟨h.yP,by simp,fun a ha b aa=> ?_⟩;have:b=⟨k,v,clock⟩:=by simpa using aa
  subst this;have:=h.born a ha;exact Nat.ne_of_lt this
 ·intro i a b;by_cases e:i<l.length
  ·rw[List.getElem_append_left e,List.getElem_append_left (by omega)];exact hl i e (by omega)
  ·have ae:i=l.length:=by simp at a;omega
   subst ae;rw[List.getElem_append_right (by omega),List.getElem_append_right (by omega)];simp only[hlen,Nat.sub_self,List.getElem_cons_zero];exact⟨U,aH,h.sC⟩
theorem ki.del{ι:bA}{cj:Nat->Nat}{es:List MapEntry}{clock:Nat}{C:List MapEntry}{kl:Nat}(h:ki ι cj es clock C kl){c9:fN}{k:Value}(he:vb c9 es=true){j:Nat}{c:MapEntry}(hj:C[j]? =some c)(hc:c.key=k):
 ki ι cj (zX k es) clock (C.eraseIdx j) kl:=by
 obtain⟨l,hp,hlen,hl⟩:=h.same;have uV:∀(i:Nat) (a:i<l.length) (b:i<C.length),C[i].key=l[i].key:=by
  intro i a b;exact fN.same (GN he (hp.mem_iff.1 (dr a))) (hl i a b).1
 obtain⟨e6,uU⟩:=List.getElem?_eq_some_iff.1 hj;have wW:j<l.length:=by omega
 have sX:l[j].key=k:=by rw[<-uV j wW e6,uU,hc]
 have pI:l.Pairwise (fun a b=>a.key≠b.key):=(hp.symm.pairwise_iff (R:=fun a b:MapEntry=>a.key≠b.key) (fun{a b} h=>h.symm)).1 h.keys;have akJ:∀(l:List MapEntry) (j:Nat) (hj:j<l.length),l.Pairwise (fun a b=>a.key≠b.key)->l[j].key=k->l.filter (fun e=> !dD k e.key)=l.eraseIdx j:=by
  intro l
  induction l with
  |nil=>intro j hj;simp at hj
  |cons x xs a0=>
   intro j hj pI U;rw[List.pairwise_cons]at pI;cases j with
   |zero=>
    have J:dD k x.key=true:=by rw[show x.key=k from U];exact AZ k
    rw[List.filter_cons];simp only[J,Bool.not_true,Bool.false_eq_true,if_false,List.eraseIdx_cons_zero];rw[List.filter_eq_self];intro a ha;have:=pI.1 a ha;rw[show x.key=k from U]at this;cases aH:dD k a.key
    ·rfl
    ·exact absurd (mV _ _ aH) this
   |succ j=>
    have lB:j<xs.length:=by simpa using hj
    have fu:xs[j].key=k:=by simpa using U
    have J:dD k x.key=false:=by
     rw[Bool.eq_false_iff];intro hq;exact pI.1 xs[j] (dr lB) (by rw[fu,mV _ _ hq])
    rw[List.filter_cons];simp only[J,Bool.not_false,if_true,List.eraseIdx_cons_succ];rw[a0 j lB pI.2 fu]
 refine⟨h.sC,h.AO,fun e hm=>h.born e (List.mem_filter.1 hm).1,h.keys.filter _,h.yP.filter _,l.eraseIdx j,?_,?_,?_⟩
 ·rw[<-akJ l j wW pI sX];exact hp.filter _
 ·rw[List.length_eraseIdx_of_lt wW,List.length_eraseIdx_of_lt e6,hlen]
 ·intro i a b;rw[List.getElem_eraseIdx,List.getElem_eraseIdx];split
  ·exact hl i _ _
  ·exact hl (i+1) _ _
section
variable{ι:bA}{fr aI:aT}{a:Act}{aS:Nat}{st st':au}{w:World}{o:Oper}{v:Value}{call:bQ}
open Go.MapKept
theorem agt{fa:TypeId}{c9:fN}(dB:X.keys fa=some c9){k:Value}(U:c9.ok k=true)(w:World):(Instr.findKey fa k []).run X.P w= .ok none w:=by
 obtain⟨K,bP⟩:=X.rQ fa c9 dB;obtain⟨Dh,w0⟩:=bP k U;rcases K.find w w0 [] (by simp)with⟨h1,_⟩|⟨j,c,_,h2,_⟩
 ·exact h1
 ·simp at h2
theorem wh{fa:TypeId}{c9:fN}(dB:X.keys fa=some c9){k:Value}(U:c9.ok k=true)(em:Bool)(w:World):(Instr.checkKey em 10000 fa k).run X.P w= .ok () w:=by
 obtain⟨K,bP⟩:=X.rQ fa c9 dB;obtain⟨Dh,w0⟩:=bP k U;exact K.check w em w0
theorem ars{c9:fN}{z:Value}{ok:Bool}{m k:Operand}{t fa jr:TypeId}{i:TypeInfo}(hm:cE X.aE m=true)(U:cE X.aE k=true)(ak:o.op= .lookup t m k ok)(hu:X.P.underlying t=some (.map fa jr))
 (dB:X.keys fa=some c9) (ae:X.P.info? jr=some i) (ax:i.zero=some z) (al9:jX z=true) (ab:cB ι fr a aS) (hw:bt X ι st w)
 (h:po fr st (.look c9 z ok m k)= .ok v aI st'):aI=fr∧cg X ι w v st st' (execOp a.eval o):=by
 obtain⟨hT,h⟩:=ja h (by simp);obtain⟨r,aQ,h⟩:=Es h (by simp);have uW:a.eval k=fr.aj k:=fN.same hT (ab.aj hw U);have ka:=ab.aj hw hm;rw[aQ]at ka;generalize nZ:a.eval m=l4 at ka;have GF:=tR (P:=X.P) ae ax w;have zN:bq ι z z:=bq.pure ι z al9;cases r with
 |none=>
  cases ka;have h:aZ.ok (cond ok (.tuple #[z,.bool false]) z) fr st= .ok v aI st':=h;cases h;refine⟨rfl,cg.same (v':=cond ok (.tuple #[z,.bool false]) z) hw ?_ ?_⟩
  ·unfold execOp;rw[ak];simp only[nZ,uW,Instr.lookup,Sem.run_bind,run_underlying hu,Result.andThen,Sem.run_pure,wh dB hT,agt dB hT,GF];cases ok<;>rfl
  ·cases ok
   ·exact zN
   ·exact bq.qO (bN.cons zN (bN.cons (.bool _) (bN.nil ι)))
 |some id=>
  have h:qM (st.h.get id) (fun es _=>cond (vb c9 es) (bl (pU (fr.aj k) es) (fun e=>.ok (cond ok (.tuple #[e.val,.bool true]) e.val) fr st) (.ok (cond ok (.tuple #[z,.bool false]) z) fr st)) .no) .no=aZ.ok v aI st':=h;obtain⟨es,c,aO,h⟩:=zY h (by simp);obtain⟨wX,h⟩:=ja h (by simp);obtain⟨l,hl,h0,kC,C,bJ,hC,cI⟩:=hw.eK _ _ aO (by simp);cases ka with
  |map _ b cj aa=>
   rw[hl]at aa;cases aa;have hC:w.heap[b]? =some (.map C bJ):=hC;rcases cI.find (X:=X) dB hT wX w with⟨h1,h2,_⟩|⟨e,j,kT,h1,h2,h3,ay,aY,b7,dn,hr⟩
   ·rw[h2]at h;cases h;refine⟨rfl,cg.same (v':=cond ok (.tuple #[z,.bool false]) z) hw ?_ ?_⟩
    ·unfold execOp;rw[ak];simp only[nZ,uW,Instr.lookup,Sem.run_bind,run_underlying hu,Result.andThen,Sem.run_pure,MapKept.run_getObj_map hC,wh dB hT,h1,GF];cases ok<;>rfl
    ·cases ok
     ·exact zN
     ·exact bq.qO (bN.cons zN (bN.cons (.bool _) (bN.nil ι)))
   ·rw[ay]at h;cases h;refine⟨rfl,cg.same (v':=cond ok (.tuple #[kT.val,.bool true]) kT.val) hw ?_ ?_⟩
    ·unfold execOp;rw[ak];simp only[nZ,uW,Instr.lookup,Sem.run_bind,run_underlying hu,Result.andThen,Sem.run_pure,MapKept.run_getObj_map hC,wh dB hT,h1];cases ok<;>rfl
    ·cases ok
     ·exact dn
     ·exact bq.qO (bN.cons dn (bN.cons (.bool _) (bN.nil ι)))
theorem arw{m:Operand}{t fa jr:TypeId}(hm:cE X.aE m=true)(ak:o.op= .call {callee:=.builtin .len,args:= #[m],argTypes:= #[t]})(hu:X.P.underlying t=some (.map fa jr))(ab:cB ι fr a aS)(hw:bt X ι st w)
 (h:po fr st (.z1 m)= .ok v aI st'):aI=fr∧cg X ι w v st st' (execOp a.eval o):=by
 obtain⟨r,aQ,h⟩:=Es h (by simp);have ka:=ab.aj hw hm;rw[aQ]at ka;generalize nZ:a.eval m=l4 at ka;cases r with
 |none=>
  cases ka;have h:aZ.ok (.int .i64 0) fr st= .ok v aI st':=h;cases h;refine⟨rfl,cg.same (v':=.int .i64 0) hw ?_ (.int _ _)⟩;unfold execOp;rw[ak];simp[resolve,invoke,builtin,nZ,Builtin.len_,run_underlying hu,Result.andThen,goInt]
 |some id=>
  have h:qM (st.h.get id) (fun es _=>ga (ec es) fun n=>aZ.ok (.int .i64 (.ofNat n)) fr st) .no= .ok v aI st':=h;obtain⟨es,c,aO,h⟩:=zY h (by simp);rw[zh,fU]at h;cases h;obtain⟨l,hl,h0,kC,C,bJ,hC,cI⟩:=hw.eK _ _ aO (by simp);cases ka with
  |map _ b cj aa=>
   rw[hl]at aa;cases aa;have hC:w.heap[b]? =some (.map C bJ):=hC;obtain⟨l,hp,hlen,_⟩:=cI.same;have e:es.length=C.size:=by rw[<-hp.length_eq,hlen];simp
   refine⟨rfl,cg.same (v':=.int .i64 es.length) hw ?_ (.int _ _)⟩;unfold execOp;rw[ak];simp[resolve,invoke,builtin,nZ,Builtin.len_,run_underlying hu,Result.andThen,goInt,MapKept.run_getObj_map hC,e]
end
