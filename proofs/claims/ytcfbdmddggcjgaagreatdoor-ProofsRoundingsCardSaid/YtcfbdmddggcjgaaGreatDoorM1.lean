/- An abstract machine, and that its evaluations stand for runs of the model (part 1); no condition. -/
import Derived.Calls
import Derived.Laws.Cells
import Derived.Maps.Keyed
import Derived.Lib.Strings
import Derived.KernelRfl
noncomputable section
set_option linter.all false
namespace Go.az
universe u
theorem cA{α:Type u}{l:List α}{i:Nat}(h:i<l.length):l[i]? =some l[i]:=List.getElem?_eq_getElem h
theorem b2(a b:Bool):((a&&b)=true)=(a=true∧b=true):=Bool.and_eq_true a b
theorem dY{n m:Nat}(h:Nat.beq n m=true):n=m:=Nat.eq_of_beq_eq_true h
theorem gf{n m k:Nat}(h:n<m)(g:m<=k):n<k:=Nat.lt_of_lt_of_le h g
theorem g5{m n:Nat}(k:Nat)(h:m<=n):m*k<=n*k:=Nat.mul_le_mul_right k h
theorem kA{m n:Nat}(k:Nat)(h:m<=n):k*m<=k*n:=Nat.mul_le_mul_left k h
theorem fY{a b:Nat}(h:a<b):a%b=a:=Nat.mod_eq_of_lt h
theorem cd(n:Nat):n<=n:=Nat.le_refl n
theorem iG{α:Type u}{i:Nat}{l:List α}(h:i<l.length):l.drop i=l[i]::l.drop (i+1):=List.drop_eq_getElem_cons h
theorem ew{α:Type u}{l:List α}{n:Nat}(h:n<l.length):l[n]∈l:=List.getElem_mem h
theorem jk{n m:Nat}(h:Nat.ble n m=true):n<=m:=Nat.le_of_ble_eq_true h
inductive au(α:Type)where
 |nil:au α
 |node (l:au α) (v:Option α) (r:au α):au α
namespace au
variable{α β:Type}
def get(t:au α):Nat->Option α:=
 au.rec (motive:=fun _=>Nat->Option α) (fun _=>none)
  (fun _ v _ ZG aR n=>Nat.rec (motive:=fun _=>Option α) v (fun m _=>Nat.rec (motive:=fun _=>Option α) (ZG (Nat.div m 2)) (fun _ _=>aR (Nat.div m 2)) (Nat.mod m 2)) n) t
def hM(f:Nat):au α->Nat->α->(au α->β)->β:=
 Nat.rec (motive:=fun _=>au α->Nat->α->(au α->β)->β) (fun t _ _ k=>k t)
  (fun _ bb t n x k=>
   au.rec (motive:=fun _=>β)
    (Nat.rec (motive:=fun _=>β) (k (.node .nil (some x) .nil))
     (fun m _=>Nat.rec (motive:=fun _=>β) (bb .nil (Nat.div m 2) x fun l'=>k (.node l' none .nil)) (fun _ _=>bb .nil (Nat.div m 2) x fun dt=>k (.node .nil none dt)) (Nat.mod m 2)) n)
    (fun l v r _ _=>
     Nat.rec (motive:=fun _=>β) (k (.node l (some x) r))
      (fun m _=>Nat.rec (motive:=fun _=>β) (bb l (Nat.div m 2) x fun l'=>k (.node l' v r)) (fun _ _=>bb r (Nat.div m 2) x fun dt=>k (.node l v dt)) (Nat.mod m 2)) n) t) f
def set(t:au α)(n:Nat)(x:α):au α:=hM (Nat.succ n) t n x id
def Qt(v:Option α)(r:au α)(l:au α):au α:=
 au.rec (motive:=fun _=>au α) (.node .nil v r) (fun a b c _ _=>.node (.node a b c) v r) l
def Qu(l:au α)(v:Option α)(r:au α):au α:=
 au.rec (motive:=fun _=>au α) (.node l v .nil) (fun a b c _ _=>.node l v (.node a b c)) r
def E0(bb:au α->Nat->α->au α)(l:au α)(v:Option α)(r:au α)(m:Nat)(x:α):au α:=
 Nat.rec (motive:=fun _=>au α) (Qt v r (bb l (Nat.div m 2) x)) (fun _ _=>Qu l v (bb r (Nat.div m 2) x)) (Nat.mod m 2)
def EZ(bb:au α->Nat->α->au α)(l:au α)(v:Option α)(r:au α)(n:Nat)(x:α):au α:=
 Nat.rec (motive:=fun _=>au α) (.node l (some x) r) (fun m _=>E0 bb l v r m x) n
def aja(bb:au α->Nat->α->au α)(t:au α)(n:Nat)(x:α):au α:=
 au.rec (motive:=fun _=>au α) (EZ bb .nil none .nil n x) (fun l v r _ _=>EZ bb l v r n x) t
def jw(f:Nat):au α->Nat->α->au α:=
 Nat.rec (motive:=fun _=>au α->Nat->α->au α) (fun t _ _=>t) (fun _ bb=>aja bb) f
def fin(t:au α)(k:au α->β):β:=
 au.rec (motive:=fun _=>β) (k .nil) (fun a b c _ _=>k (.node a b c)) t
end au
inductive n8 where
 |oW
 |nc
 |xZ
 |vC
 |tk
 |ptr
 |agg (ps:List (Nat×Nat×Bool×n8))
inductive fz where
 |int (k:IntKind)
 |str
 |arr (k:IntKind) (n:Nat)
inductive ue where
 |look (dq:fz) (zero:Value) (ok:Bool) (m k:Operand)
 |dQ (dq:fz) (m k v:Operand)
 |del (dq:fz) (m k:Operand)
 |xT (m:Operand)
 |rU (m:Operand)
 |qz (it:Operand)
 |bw (s c:Operand)
 |zK (neg:Bool) (n:Nat) (x y:Operand)
 |pH (it:Operand)
 |ur (gt:Bool) (x y:Operand)
 |idxs (g:Nat) (s b:Operand)
inductive dH where
 |na (x:Operand)
 |pick (c a b:Operand)
 |alloc (z:List Value) (elem:TypeId)
 |box (elem:TypeId) (x:Operand)
 |build (z:List Value) (ps:List (Nat×Nat×Operand))
 |p6 (elem:TypeId) (len:Nat) (z:List Value) (ps:List (Nat×Nat×Operand))
 |l1 (a:Operand)
 |qy (n:Nat) (a:Operand)
 |store (n:Nat) (a x:Operand)
 |tm (x:Operand)
 |bin (op:BinOp) (x y:Operand)
 |eqv (neg:Bool) (e:n8) (x y:Operand)
 |un (op:UnOp) (x:Operand)
 |uq (k:IntKind) (x:Operand)
 |zu (x:Operand)
 |zq (x:Operand)
 |wQ (elem:TypeId) (x:Operand)
 |Jm (t:TypeId) (x:Operand)
 |vz (fn:Fn) (first fk:List Operand)
 |l3
 |tj (elem:TypeId) (bytes:Nat) (z:List Value) (len cap:Operand)
 |sf (x:Operand) (bD ag:Option Operand)
 |F8 (n bj:Nat) (x:Operand) (bD ag eM:Option Operand)
 |n3 (bj:Nat) (x:Operand) (bD ag eM:Option Operand)
 |w3 (off:Nat) (x:Operand)
 |w7 (off bj:Nat) (agg:Bool) (x:Operand)
 |tc (n bj:Nat) (x i:Operand)
 |lZ (bj:Nat) (x i:Operand)
 |vl (x i:Operand)
 |AQ (n bj:Nat) (agg:Bool) (x i:Operand)
 |Gg (t:TypeId) (zero:Value) (ok:Bool) (x:Operand)
 |zN (x:Operand) (i:Nat)
 |call (f:Operand) (args:List Operand)
 |oR (x:Operand)
 |vq (x:Operand)
 |AU (n:Nat)
 |xM (x:Operand)
 |app (elem:TypeId) (bj bytes:Nat) (s x:Operand)
 |eM (x:Operand) (xs:List Operand)
 |rS (x:Operand) (xs:List Operand)
 |q7 (bj:Nat) (d s:Operand)
 |tJ
 |qb (f:Operand) (args:List Operand)
 |nX (x:Operand)
 |CL (x:Operand)
 |CM (elem n:Nat) (x:Operand)
 |BH (x:Operand)
 |tT (elem:TypeId) (x n:Operand)
 |kq (s c:Operand)
 |j5 (x:Operand)
 |ext (y:ue)
 |refuse
structure bB where
 d:Option Tmp
 o:dH
 g:Option (Tmp×Bool)
inductive c0 where
 |fe
 |ba (ts:List Tmp)
 |read (back:Nat) (ts:List Tmp)
inductive du where
 |skip
 |r9 (ops:List bB)
 |dJ (ops:List (bB×c0)) (cm:List Nat) (ec:List Tmp) (ms:List Nat)
 |seq (a b:du)
 |cond (c:Operand) (a b:du)
 |block (id:Nat) (b:du)
 |loop (b:du)
 |vY (f:Operand) (params:List Tmp) (assign body:du)
 |exit (id:Nat)
 |scope (b:du)
 |ret
 |refuse
inductive ee where
 |norm
 |exit (id:Nat)
 |ret
 |bh (v:Value)
inductive iu where
 |tmp (t:Tmp)
 |cell (a:Tmp) (agg:Bool) (n:Nat)
structure aK where
 ay:Nat
 res:List iu
 body:du
inductive bL where
 |cells (cs:List Value) (elem:TypeId) (bt:Nat×Nat) (aR:Bool)
 |map (es:List MapEntry) (clock:Nat)
 |SQ (s:ByteArray) (pos:Nat)
 |oU (m:Option Nat) (since:Nat) (seen:List Nat) (l9:Nat)
 |loop (st:LoopState) (pending:Option ee) (fn:FuncId) (tmps:au Value) (params:List Tmp) (assign body:du) (defers:Nat)
 |h9 (calls:Option (List Deferred))
 |dead
structure aw where
 h:au bL
 aj:Nat
structure aQ where
 t:au Value
 c8:List Deferred
 bh:Option Value
 cL:Bool
 b3:Option Nat
def aQ.tmp(fr:aQ)(n:Nat):Value:=
 Option.rec (motive:=fun _=>Value) (.chan (some 0)) (fun v=>v) (fr.t.get n)
def aQ.an(fr:aQ)(x:Operand):Value:=
 Operand.rec (motive:=fun _=>Value) (fun t=>fr.tmp t) (fun v=>v) (fun g=>.pointer (some ⟨g,0,none⟩)) (fun f=>.func (.func f) #[] #[]) x
def aQ.Qg(t:au Value)(c8:List Deferred)(bh:Option Value)(cL:Bool)(b3:Option Nat):aQ:=
 au.rec (motive:=fun _=>aQ) ⟨.nil,c8,bh,cL,b3⟩ (fun a b c _ _=>⟨.node a b c,c8,bh,cL,b3⟩) t
def aQ.EZ(d:Nat)(v:Value)(fr:aQ):aQ:=
 aQ.rec (motive:=fun _=>aQ) (fun t c8 bh cL b3=>aQ.Qg (au.jw (Nat.succ d) t d v) c8 bh cL b3) fr
def aQ.put(fr:aQ)(d:Option Tmp)(v:Value):aQ:=
 Option.rec (motive:=fun _=>aQ) fr (fun d=>aQ.EZ d v fr) d
inductive aY where
 |ok (v:Value) (fr:aQ) (st:aw)
 |bh (v:Value) (st:aw)
 |no
inductive dC where
 |ret (v:Value) (st:aw) (eB:Bool)
 |bh (v:Value) (st:aw) (eB:Bool)
 |no
section lists
variable{α β:Type}
def K3(n:Nat):List α->Option (List α):=
 Nat.rec (motive:=fun _=>List α->Option (List α)) (fun _=>some [])
  (fun _ bb l=>List.rec (motive:=fun _=>Option (List α)) none
   (fun x xs _=>Option.rec (motive:=fun _=>Option (List α)) none (fun r=>some (x::r)) (bb xs)) l) n
def Hr(n:Nat):List α->List α:=
 Nat.rec (motive:=fun _=>List α->List α) (fun l=>l)
  (fun _ bb l=>List.rec (motive:=fun _=>List α) [] (fun _ xs _=>bb xs) l) n
def oX(l:List α):Nat->List α->(List α->β)->β->β:=
 List.rec (motive:=fun _=>Nat->List α->(List α->β)->β->β) (fun _ vs k z=>List.rec (motive:=fun _=>β) (k []) (fun _ _ _=>z) vs)
  (fun y av bb n vs k z=>
   Nat.rec (motive:=fun _=>β)
    (List.rec (motive:=fun _=>β) (k (y::av)) (fun v vs _=>bb 0 vs (fun l'=>k (v::l')) z) vs)
    (fun m _=>bb m vs (fun l'=>k (y::l')) z) n) l
end lists
def fB{β:Type}(n:Nat)(k:Nat->β):β:=cond (Nat.beq n n) (k n) (k n)
def N2{β:Type}(n:Int)(k:Int->β):β:=
 Int.rec (motive:=fun _=>β) (fun m=>fB m fun m=>k (.ofNat m)) (fun m=>fB m fun m=>k (.negSucc m)) n
def aw.iS{β:Type}(st:aw)(o:bL)(k:Nat->aw->β):β:=
 fB st.aj fun n=>au.fin (au.jw (Nat.succ n) st.h n o) fun h=>k n ⟨h,Nat.succ n⟩
def hT(v:Value):List Value:=v.cells.toList
def rO:Value->Bool
 |.chan _=>true
 |_=>false
def lQ:Value->Bool
 |.agg _|.tuple _|.chan _=>false
 |_=>true
def gS(vs:List Value):Bool:=List.rec (motive:=fun _=>Bool) true (fun v _ r=>cond (lQ v) r false) vs
mutual
def dI:Value->Value->Bool
 |.bool a,.bool b=>a==b
 |.int k a,.int k' b=>decide (k=k')&&a==b
 |.float k a,.float k' b=>decide (k=k')&&a==b
 |.complex k a c,.complex k' b d=>decide (k=k')&&a==b&&c==d
 |.string a,.string b=>a.data.toList==b.data.toList
 |.pointer a,.pointer b=>a==b
 |.slice a l c,.slice b l' bE=>a==b&&l==l'&&c==bE
 |.map a,.map b=>a==b
 |.chan a,.chan b=>a==b
 |.func f x y,.func g u v=>decide (f=g)&&tU x u&&tU y v
 |.nilFunc,.nilFunc=>true
 |.iface t v,.iface u w=>t==u&&dI v w
 |.nilIface,.nilIface=>true
 |.agg a,.agg b=>tU a b
 |.tuple a,.tuple b=>tU a b
 |_,_=>false
def tU:Array Value->Array Value->Bool
 |⟨a⟩,⟨b⟩=>kz a b
def kz:List Value->List Value->Bool
 |[],[]=>true
 |a::as,b::bn=>dI a b&&kz as bn
 |_,_=>false
end
mutual
theorem wk:∀v:Value,dI v v=true
 |.bool a=>by simp[dI]
 |.int k a=>by simp[dI]
 |.float k a=>by simp[dI]
 |.complex k a c=>by simp[dI]
 |.string a=>by simp[dI]
 |.pointer a=>by simp[dI]
 |.slice a l c=>by simp[dI]
 |.map a=>by simp[dI]
 |.chan a=>by simp[dI]
 |.func f x y=>by simp[dI,Gn x,Gn y]
 |.nilFunc=>by simp[dI]
 |.iface t v=>by simp[dI,wk v]
 |.nilIface=>by simp[dI]
 |.agg a=>by simp[dI,Gn a]
 |.tuple a=>by simp[dI,Gn a]
theorem Gn:∀v:Array Value,tU v v=true
 |⟨a⟩=>by simp[tU,Uz a]
theorem Uz:∀v:List Value,kz v v=true
 |[]=>by simp[kz]
 |a::as=>by simp[kz,wk a,Uz as]
end
mutual
theorem lM:∀v w:Value,dI v w=true->v=w
 |.bool a,w,h=>by cases w<;>simp_all [dI]
 |.int k a,w,h=>by cases w<;>simp_all [dI]
 |.float k a,w,h=>by cases w<;>simp_all [dI]
 |.complex k a c,w,h=>by cases w<;>simp_all [dI]
 |.string a,w,h=>by
  cases w<;>simp_all [dI];rename_i b;cases a;cases b;simp_all
 |.pointer a,w,h=>by cases w<;>simp_all [dI]
 |.slice a l c,w,h=>by cases w<;>simp_all [dI]
 |.map a,w,h=>by cases w<;>simp_all [dI]
 |.chan a,w,h=>by cases w<;>simp_all [dI]
 |.func f x y,w,h=>by
  cases w<;>simp[dI]at h;rename_i g u v;simp[h.1.1,Gm x u h.1.2,Gm y v h.2]
 |.nilFunc,w,h=>by cases w<;>simp_all [dI]
 |.iface t v,w,h=>by
  cases w<;>simp[dI]at h;rename_i u x;simp[h.1,lM v x h.2]
 |.nilIface,w,h=>by cases w<;>simp_all [dI]
 |.agg a,w,h=>by
  cases w<;>simp[dI]at h;rename_i b;simp[Gm a b h]
 |.tuple a,w,h=>by
  cases w<;>simp[dI]at h;rename_i b;simp[Gm a b h]
theorem Gm:∀v w:Array Value,tU v w=true->v=w
 |⟨a⟩,⟨b⟩,h=>by simp[tU]at h;simp[wj a b h]
theorem wj:∀v w:List Value,kz v w=true->v=w
 |[],[],_=>rfl
 |a::as,b::bn,h=>by simp[kz]at h;simp[lM a b h.1,wj as bn h.2]
 |[],_::_,h=>by simp[kz]at h
 |_::_,[],h=>by simp[kz]at h
end
end Go.az
namespace Go.az
def rT(n:Int)(M:Nat):Nat:=
 Int.rec (motive:=fun _=>Nat) (fun m=>Nat.mod m M) (fun m=>Nat.sub (Nat.sub M 1) (Nat.mod m M)) n
def yS(M:Nat)(n:Int):Int:=.ofNat (rT n M)
def wm(M H:Nat)(n:Int):Int:=
 fB (rT n M) fun r=>cond (Nat.ble (Nat.succ r) H) (.ofNat r) (.negSucc (Nat.sub (Nat.sub M 1) r))
def mQ(k:IntKind)(n:Int):Int:=
 IntKind.rec (motive:=fun _=>Int->Int) (wm 256 128) (wm 65536 32768) (wm 4294967296 2147483648) (wm 18446744073709551616 9223372036854775808)
  (yS 256) (yS 65536) (yS 4294967296) (yS 18446744073709551616) k n
theorem Qi(n:Int)(M:Nat)(h:0<M):(rT n M:Int)=n%M:=by
 cases n with
 |ofNat m=>rfl
 |negSucc m=>
  show((M-1-m%M:Nat):Int)=_;rw[Int.negSucc_emod _ (by omega)];have:m%M<M:=Nat.mod_lt _ h;omega
theorem qP(M:Nat)(n:Int)(h:0<M):yS M n=n%M:=Qi n M h
theorem wo(M H:Nat)(n:Int)(h:0<M):wm M H n=if n%M>=H then n%M-M else n%M:=by
 have e:=Qi n M h;have bO:rT n M<M:=by have:=Int.emod_lt_of_pos n (show(0:Int)<M by omega);omega
 unfold wm fB;rw[Nat.beq_refl];rw[<-e];simp only[cond];by_cases c:rT n M<H
 ·rw[Nat.ble_eq_true_of_le c];rw[if_neg (by omega)];rfl
 ·have:Nat.ble (Nat.succ (rT n M)) H=false:=by
   rw[Bool.eq_false_iff];intro hh;exact c (jk hh)
  rw[this];rw[if_pos (by omega)];show Int.negSucc (M-1-rT n M)=_;omega
theorem kd(k:IntKind)(n:Int):mQ k n=k.wrap n:=by
 cases k
 all_goals simp only[mQ,IntKind.wrap,IntKind.bits,IntKind.signed]
 ·rw[wo 256 128 n (by decide)];simp
 ·rw[wo 65536 32768 n (by decide)];simp
 ·rw[wo 4294967296 2147483648 n (by decide)];simp
 ·rw[wo 18446744073709551616 9223372036854775808 n (by decide)];simp
 ·rw[qP 256 n (by decide)];rfl
 ·rw[qP 65536 n (by decide)];rfl
 ·rw[qP 4294967296 n (by decide)];rfl
 ·rw[qP 18446744073709551616 n (by decide)];rfl
def v9(m n:Nat):Int:=cond (Nat.ble n m) (.ofNat (Nat.sub m n)) (.negSucc (Nat.sub (Nat.sub n m) 1))
theorem BQ(m n:Nat):v9 m n=(m:Int)-n:=by
 unfold v9;by_cases h:n<=m
 ·rw[Nat.ble_eq_true_of_le h];show((m-n:Nat):Int)=_;omega
 ·have:Nat.ble n m=false:=by rw[Bool.eq_false_iff];intro hh;exact h (jk hh)
  rw[this];show Int.negSucc (n-m-1)=_;omega
def y5(a b:Int):Int:=
 Int.rec (motive:=fun _=>Int)
  (fun m=>Int.rec (motive:=fun _=>Int) (fun n=>.ofNat (Nat.add m n)) (fun n=>v9 m (Nat.succ n)) b)
  (fun m=>Int.rec (motive:=fun _=>Int) (fun n=>v9 n (Nat.succ m)) (fun n=>.negSucc (Nat.succ (Nat.add m n))) b) a
theorem LN(a b:Int):y5 a b=a+b:=by
 cases a with
 |ofNat m=>
  cases b with
  |ofNat n=>rfl
  |negSucc n=>simp only[y5,BQ];show(m:Int)-((n+1:Nat):Int)=(m:Int)+Int.negSucc n;omega
 |negSucc m=>
  cases b with
  |ofNat n=>simp only[y5,BQ];show(n:Int)-((m+1:Nat):Int)=Int.negSucc m+(n:Int);omega
  |negSucc n=>rfl
def Ex(a:Int):Int:=
 Int.rec (motive:=fun _=>Int) (fun m=>v9 0 m) (fun m=>.ofNat (Nat.succ m)) a
theorem Jt(a:Int):Ex a= -a:=by
 cases a with
 |ofNat m=>simp only[Ex,BQ];show((0:Nat):Int)-(m:Int)= -(m:Int);omega
 |negSucc m=>rfl
def xU(a b:Int):Int:=
 Int.rec (motive:=fun _=>Int)
  (fun m=>Int.rec (motive:=fun _=>Int) (fun n=>.ofNat (Nat.mul m n)) (fun n=>v9 0 (Nat.mul m (Nat.succ n))) b)
  (fun m=>Int.rec (motive:=fun _=>Int) (fun n=>v9 0 (Nat.mul (Nat.succ m) n)) (fun n=>.ofNat (Nat.mul (Nat.succ m) (Nat.succ n))) b) a
theorem Jo(a b:Int):xU a b=a*b:=by
 cases a with
 |ofNat m=>
  cases b with
  |ofNat n=>rfl
  |negSucc n=>
   simp only[xU,BQ];show(0:Int)-((m*(n+1):Nat):Int)=(m:Int)* -((n:Int)+1);rw[Int.mul_neg];push_cast;omega
 |negSucc m=>
  cases b with
  |ofNat n=>
   simp only[xU,BQ];show(0:Int)-(((m+1)*n:Nat):Int)= -((m:Int)+1)*n;rw[Int.neg_mul];push_cast;omega
  |negSucc n=>
   simp only[xU];show(((m+1)*(n+1):Nat):Int)= -((m:Int)+1)* -((n:Int)+1);rw[Int.neg_mul_neg];push_cast;rfl
def ly(a b:Int):Bool:=
 Int.rec (motive:=fun _=>Bool)
  (fun m=>Int.rec (motive:=fun _=>Bool) (fun n=>Nat.ble m n) (fun _=>false) b)
  (fun m=>Int.rec (motive:=fun _=>Bool) (fun _=>true) (fun n=>Nat.ble n m) b) a
theorem qu(a b:Int):ly a b=decide (a<=b):=by
 cases a with
 |ofNat m=>
  cases b with
  |ofNat n=>simp only[ly];rw[Bool.eq_iff_iff];simp
  |negSucc n=>simp only[ly];rw[Bool.eq_iff_iff];simp;omega
 |negSucc m=>
  cases b with
  |ofNat n=>simp only[ly];rw[Bool.eq_iff_iff];simp;omega
  |negSucc n=>simp only[ly];rw[Bool.eq_iff_iff];simp;omega
def qf(a b:Int):Bool:=
 Int.rec (motive:=fun _=>Bool)
  (fun m=>Int.rec (motive:=fun _=>Bool) (fun n=>Nat.beq m n) (fun _=>false) b)
  (fun m=>Int.rec (motive:=fun _=>Bool) (fun _=>false) (fun n=>Nat.beq n m) b) a
theorem zJ(a b:Int):qf a b=(a==b):=by
 cases a with
 |ofNat m=>
  cases b with
  |ofNat n=>simp only[qf];rw[Bool.eq_iff_iff];simp;omega
  |negSucc n=>simp only[qf];rw[Bool.eq_iff_iff];simp
 |negSucc m=>
  cases b with
  |ofNat n=>simp only[qf];rw[Bool.eq_iff_iff];simp
  |negSucc n=>simp only[qf];rw[Bool.eq_iff_iff];simp;omega
section
variable{β:Type}
def ky(v:Value)(k:Bool->β)(z:β):β:=
 @Value.rec (fun _=>β) (fun _=>Unit) (fun _=>Unit) (fun g4=>k g4) (fun _ _=>z) (fun _ _=>z) (fun _ _ _=>z) (fun _=>z) (fun _=>z) (fun _ _ _=>z) (fun _=>z) (fun _=>z) (fun _ _ _ _ _=>z) z (fun _ _ _=>z) z (fun _ _=>z) (fun _ _=>z) (fun _ _=>()) () (fun _ _ _ _=>()) v
def gd(v:Value)(k:IntKind->Int->β)(z:β):β:=
 @Value.rec (fun _=>β) (fun _=>Unit) (fun _=>Unit) (fun _=>z) (fun g4 ev=>k g4 ev) (fun _ _=>z) (fun _ _ _=>z) (fun _=>z) (fun _=>z) (fun _ _ _=>z) (fun _=>z) (fun _=>z) (fun _ _ _ _ _=>z) z (fun _ _ _=>z) z (fun _ _=>z) (fun _ _=>z) (fun _ _=>()) () (fun _ _ _ _=>()) v
def ik(v:Value)(k:ByteArray->β)(z:β):β:=
 @Value.rec (fun _=>β) (fun _=>Unit) (fun _=>Unit) (fun _=>z) (fun _ _=>z) (fun _ _=>z) (fun _ _ _=>z) (fun g4=>k g4) (fun _=>z) (fun _ _ _=>z) (fun _=>z) (fun _=>z) (fun _ _ _ _ _=>z) z (fun _ _ _=>z) z (fun _ _=>z) (fun _ _=>z) (fun _ _=>()) () (fun _ _ _ _=>()) v
def hP(v:Value)(k:Option Addr->β)(z:β):β:=
 @Value.rec (fun _=>β) (fun _=>Unit) (fun _=>Unit) (fun _=>z) (fun _ _=>z) (fun _ _=>z) (fun _ _ _=>z) (fun _=>z) (fun g4=>k g4) (fun _ _ _=>z) (fun _=>z) (fun _=>z) (fun _ _ _ _ _=>z) z (fun _ _ _=>z) z (fun _ _=>z) (fun _ _=>z) (fun _ _=>()) () (fun _ _ _ _=>()) v
def jh(v:Value)(k:Option Addr->Nat->Nat->β)(z:β):β:=
 @Value.rec (fun _=>β) (fun _=>Unit) (fun _=>Unit) (fun _=>z) (fun _ _=>z) (fun _ _=>z) (fun _ _ _=>z) (fun _=>z) (fun _=>z) (fun g4 ev B0=>k g4 ev B0) (fun _=>z) (fun _=>z) (fun _ _ _ _ _=>z) z (fun _ _ _=>z) z (fun _ _=>z) (fun _ _=>z) (fun _ _=>()) () (fun _ _ _ _=>()) v
def yP(v:Value)(k:Fn->Array Value->Array Value->β)(z:β):β:=
 @Value.rec (fun _=>β) (fun _=>Unit) (fun _=>Unit) (fun _=>z) (fun _ _=>z) (fun _ _=>z) (fun _ _ _=>z) (fun _=>z) (fun _=>z) (fun _ _ _=>z) (fun _=>z) (fun _=>z) (fun g4 ev B0 _ _=>k g4 ev B0) z (fun _ _ _=>z) z (fun _ _=>z) (fun _ _=>z) (fun _ _=>()) () (fun _ _ _ _=>()) v
def wh(v:Value)(k:TypeId->Value->β)(z:β):β:=
 @Value.rec (fun _=>β) (fun _=>Unit) (fun _=>Unit) (fun _=>z) (fun _ _=>z) (fun _ _=>z) (fun _ _ _=>z) (fun _=>z) (fun _=>z) (fun _ _ _=>z) (fun _=>z) (fun _=>z) (fun _ _ _ _ _=>z) z (fun g4 ev _=>k g4 ev) z (fun _ _=>z) (fun _ _=>z) (fun _ _=>()) () (fun _ _ _ _=>()) v
def si(v:Value)(k:Array Value->β)(z:β):β:=
 @Value.rec (fun _=>β) (fun _=>Unit) (fun _=>Unit) (fun _=>z) (fun _ _=>z) (fun _ _=>z) (fun _ _ _=>z) (fun _=>z) (fun _=>z) (fun _ _ _=>z) (fun _=>z) (fun _=>z) (fun _ _ _ _ _=>z) z (fun _ _ _=>z) z (fun g4 _=>k g4) (fun _ _=>z) (fun _ _=>()) () (fun _ _ _ _=>()) v
def o7(v:Value)(k:Array Value->β)(z:β):β:=
 @Value.rec (fun _=>β) (fun _=>Unit) (fun _=>Unit) (fun _=>z) (fun _ _=>z) (fun _ _=>z) (fun _ _ _=>z) (fun _=>z) (fun _=>z) (fun _ _ _=>z) (fun _=>z) (fun _=>z) (fun _ _ _ _ _=>z) z (fun _ _ _=>z) z (fun _ _=>z) (fun g4 _=>k g4) (fun _ _=>()) () (fun _ _ _ _=>()) v
def wi(v:Value)(k:Option Nat->β)(z:β):β:=
 @Value.rec (fun _=>β) (fun _=>Unit) (fun _=>Unit) (fun _=>z) (fun _ _=>z) (fun _ _=>z) (fun _ _ _=>z) (fun _=>z) (fun _=>z) (fun _ _ _=>z) (fun g4=>k g4) (fun _=>z) (fun _ _ _ _ _=>z) z (fun _ _ _=>z) z (fun _ _=>z) (fun _ _=>z) (fun _ _=>()) () (fun _ _ _ _=>()) v
end
def jf:Value:=.chan (some 0)
abbrev bP:=Value->List Value->Option Value->aw->dC
section elim
variable{α β:Type}
def bo(o:Option α)(k:α->β)(z:β):β:=Option.rec (motive:=fun _=>β) z k o
def ey(a b:Nat)(x y:β):β:=cond (Nat.ble a b) x y
def ea(a b:Nat)(x y:β):β:=cond (Nat.beq a b) x y
def gW(n:Int)(k:Nat->β)(z:β):β:=Int.rec (motive:=fun _=>β) k (fun _=>z) n
def ef(l:List α):Nat:=List.rec (motive:=fun _=>Nat) 0 (fun _ _ n=>Nat.succ n) l
def gL(l m:List α):List α:=List.rec (motive:=fun _=>List α) m (fun x _ r=>x::r) l
def hV(l:List α)(off n:Nat)(k:List α->β)(z:β):β:=bo (K3 n (Hr off l)) k z
def one(l:List α)(k:α->β)(z:β):β:=
 List.rec (motive:=fun _=>β) z (fun x xs _=>List.rec (motive:=fun _=>β) (k x) (fun _ _ _=>z) xs) l
end elim
def hi{β:Type}(k:IntKind)(n:Int)(c:Value->β):β:=N2 n fun m=>c (.int k m)
def jd(a b:IntKind):Bool:=Nat.beq a.ctorIdx b.ctorIdx
def zj(f:Nat->Nat->Nat)(g:Int)(k:IntKind)(a b:Int)(c:Value->aY):aY:=
 gW a (fun m=>gW b (fun n=>hi k (mQ k (.ofNat (f (rT (.ofNat m) (2^k.bits)) (rT (.ofNat n) (2^k.bits))))) c) (hi k g c)) (hi k g c)
def ME(k:IntKind)(a b:Int)(c:Value->aY):aY:=hi k (mQ k (y5 a b)) c
def MR(k:IntKind)(a b:Int)(c:Value->aY):aY:=hi k (mQ k (y5 a (Ex b))) c
def MM(k:IntKind)(a b:Int)(c:Value->aY):aY:=hi k (mQ k (xU a b)) c
def MP(k:IntKind)(a b:Int)(c:Value->aY):aY:=cond (qf b 0) .no (gW a (fun m=>gW b (fun n=>hi k (mQ k (.ofNat (Nat.div m n))) c) (hi k (k.wrap (a.tdiv b)) c)) (hi k (k.wrap (a.tdiv b)) c))
def MQ(k:IntKind)(a b:Int)(c:Value->aY):aY:=cond (qf b 0) .no (gW a (fun m=>gW b (fun n=>hi k (.ofNat (Nat.mod m n)) c) (hi k (a.tmod b) c)) (hi k (a.tmod b) c))
def MF(k:IntKind)(a b:Int)(c:Value->aY):aY:=zj Nat.land (k.wrap (BitVec.ofInt k.bits a&&&BitVec.ofInt k.bits b).toNat) k a b c
def MO(k:IntKind)(a b:Int)(c:Value->aY):aY:=zj Nat.lor (k.wrap (BitVec.ofInt k.bits a|||BitVec.ofInt k.bits b).toNat) k a b c
def MS(k:IntKind)(a b:Int)(c:Value->aY):aY:=zj Nat.xor (k.wrap (BitVec.ofInt k.bits a^^^BitVec.ofInt k.bits b).toNat) k a b c
def MG(k:IntKind)(a b:Int)(c:Value->aY):aY:=hi k (k.wrap (BitVec.ofInt k.bits a&&& ~~~(BitVec.ofInt k.bits b)).toNat) c
def MH(_k:IntKind)(a b:Int)(c:Value->aY):aY:=c (.bool (qf a b))
def MN(_k:IntKind)(a b:Int)(c:Value->aY):aY:=c (.bool (!qf a b))
def ML(_k:IntKind)(a b:Int)(c:Value->aY):aY:=c (.bool (!ly b a))
def MK(_k:IntKind)(a b:Int)(c:Value->aY):aY:=c (.bool (ly a b))
def MJ(_k:IntKind)(a b:Int)(c:Value->aY):aY:=c (.bool (!ly a b))
def MI(_k:IntKind)(a b:Int)(c:Value->aY):aY:=c (.bool (ly b a))
def G2(_k:IntKind)(_a _b:Int)(_c:Value->aY):aY:=.no
def wG(op:BinOp)(k:IntKind)(a b:Int)(c:Value->aY):aY:=
 BinOp.rec (motive:=fun _=>IntKind->Int->Int->(Value->aY)->aY) ME MR MM MP MQ MF MO MS G2 G2 MG MH MN ML MK MJ MI op k a b c
def zi(op:BinOp)(x y:ByteArray)(c:Value->aY):aY:=
 match op with
 |.add=>ey (Nat.add (ef x.data.toList) (ef y.data.toList)) (2^40) (c (.string ⟨⟨gL x.data.toList y.data.toList⟩⟩)) .no
 |.eql=>c (.bool (x.data.toList==y.data.toList))
 |.neq=>c (.bool (!(x.data.toList==y.data.toList)))
 |_=>.no
def v7(k:IntKind)(a:Int)(n:Nat):Int:=mQ k (xU a (.ofNat (Nat.pow 2 (min n k.bits))))
def se(k:IntKind)(a:Int)(n:Nat):Int:=
 gW a (fun m=>.ofNat (Nat.div m (Nat.pow 2 (min n k.bits)))) (a.fdiv (2^(min n k.bits)))
def YN(_op:BinOp)(k:IntKind)(a:Int)(_yk:IntKind)(b:Int)(c:Value->aY):aY:=gW b (fun n=>hi k (v7 k a n) c) .no
def YO(_op:BinOp)(k:IntKind)(a:Int)(_yk:IntKind)(b:Int)(c:Value->aY):aY:=gW b (fun n=>hi k (se k a n) c) .no
def mq(op:BinOp)(k:IntKind)(a:Int)(tX:IntKind)(b:Int)(c:Value->aY):aY:=cond (jd k tX) (wG op k a b c) .no
def w0(op:BinOp)(k:IntKind)(a:Int)(tX:IntKind)(b:Int)(c:Value->aY):aY:=
 BinOp.rec (motive:=fun _=>BinOp->IntKind->Int->IntKind->Int->(Value->aY)->aY) mq mq mq mq mq mq mq mq YN YO mq mq mq mq mq mq mq op op k a tX b c
def zL(op:BinOp)(x y:Value)(c:Value->aY):aY:=
 gd x (fun k a=>gd y (fun tX b=>w0 op k a tX b c) .no)
 (ik x (fun a=>ik y (fun b=>zi op a b c) .no) .no)
def r1(off bj:Nat)(agg:Bool)(cs:List Value):Option Value:=
 hV cs off bj (fun vs=>cond agg (some (.agg ⟨vs⟩)) (one vs (fun v=>some v) none)) none
def qd:Value->Value->Option Bool
 |.slice none _ _,.slice b _ _=>some b.isNone
 |.slice (some _) _ _,.slice none _ _=>some false
 |_,_=>none
def zI:Value->Value->Option Bool
 |.map none,.map b=>some b.isNone
 |.map (some _),.map none=>some false
 |_,_=>none
def wY:Value->Value->Option Bool
 |.nilFunc,.nilFunc=>some true
 |.nilFunc,.func _ _ _=>some false
 |.func _ _ _,.nilFunc=>some false
 |_,_=>none
def zH:Value->Value->Option Bool
 |.nilIface,.nilIface=>some true
 |.nilIface,.iface _ _=>some false
 |.iface _ _,.nilIface=>some false
 |_,_=>none
def qe:Value->Value->Option Bool
 |.pointer none,.pointer b=>some b.isNone
 |.pointer (some _),.pointer none=>some false
 |.pointer (some a),.pointer (some b)=>if a.block=b.block∧a.spot=none∧b.spot=none then some (a.off==b.off)else none
 |_,_=>none
def wZ:Value->Value->Option Bool
 |.bool a,.bool b=>some (a==b)
 |.int k a,.int k' b=>if k=k' then some (a==b)else none
 |.string a,.string b=>some (a.data.toList==b.data.toList)
 |_,_=>none
def jV:Nat->n8->Value->Value->Option Bool
 |_,.oW,x,y=>wZ x y
 |_,.nc,x,y=>qd x y
 |_,.xZ,x,y=>zI x y
 |_,.vC,x,y=>wY x y
 |_,.tk,x,y=>zH x y
 |_,.ptr,x,y=>qe x y
 |0,.agg _,_,_=>none
 |n+1,.agg ps,.agg xs,.agg av=>NO n xs.toList av.toList ps
 |_,.agg _,_,_=>none
 where
 NO (n:Nat) (xs av:List Value):List (Nat×Nat×Bool×n8)->Option Bool
  |[]=>some true
  |(off,bj,g0,e)::rest=>
   match r1 off bj g0 xs,r1 off bj g0 av with
   |some x,some y=>
    match jV n e x y with
    |some true=>NO n xs av rest
    |r=>r
   |_,_=>none
def w1(op:UnOp)(x:Value)(c:Value->aY):aY:=
 match op with
 |.neg=>gd x (fun k n=>hi k (mQ k (Ex n)) c) .no
 |.xor=>gd x (fun k n=>hi k (k.wrap (BitVec.ofInt k.bits (if k.signed then -1 else k.max)^^^BitVec.ofInt k.bits n).toNat) c) .no
 |.not=>ky x (fun b=>c (.bool (!b))) .no
 |_=>.no
def mX(fr:aQ)(ps:List (Nat×Nat×Operand)):List Value->(List Value->aY)->aY:=
 List.rec (motive:=fun _=>List Value->(List Value->aY)->aY) (fun cs c=>c cs)
  (fun p _ bb cs c=>
   (fun v=>cond (rO v) .no ((fun vs=>ea (ef vs) p.2.1 (ey (Nat.add p.1 p.2.1) (ef cs) (oX cs p.1 vs (fun cs'=>bb cs' c) .no) .no) .no) (hT v))) (fr.an p.2.2)) ps
def bytesOf(vs:List Value):Option (List UInt8):=
 List.rec (motive:=fun _=>Option (List UInt8)) (some [])
  (fun v _ r=>gd v (fun k n=>cond (jd k .u8) (bo r (fun bn=>some (UInt8.ofNat n.toNat::bn)) none) none) none) vs
def kx(bn:List UInt8):List Value:=
 List.rec (motive:=fun _=>List Value) [] (fun b _ r=>Value.int .u8 (.ofNat b.toNat)::r) bn
def e4(fr:aQ)(x:Option Operand)(dflt y:Nat)(k:Nat->aY):aY:=
 bo x (fun x=>gd (fr.an x) (fun _ n=>gW n (fun n=>ey n y (k n) .no) .no) .no) (k dflt)
def zr{β:Type}(o:Option bL)(k:List Value->TypeId->Nat×Nat->Bool->β)(z:β):β:=
 bo o (fun o=>bL.rec (motive:=fun _=>β) k (fun _ _=>z) (fun _ _=>z) (fun _ _ _ _=>z) (fun _ _ _ _ _ _ _ _=>z) (fun _=>z) z o) z
def aw.gI{β:Type}(st:aw)(a:Addr)(k:List Value->TypeId->Nat×Nat->Bool->β)(z:β):β:=
 bo a.spot (fun _=>z) (zr (st.h.get a.block) k z)
def aw.load{β:Type}(st:aw)(a:Addr)(n:Nat)(k:List Value->β)(z:β):β:=
 st.gI a (fun cs _ _ _=>hV cs a.off n k z) z
def aw.gN{β:Type}(st:aw)(id:Nat)(o:bL)(k:aw->β):β:=
 au.fin (au.jw (Nat.succ id) st.h id o) fun h=>k ⟨h,st.aj⟩
def aw.store{β:Type}(st:aw)(a:Addr)(vs:List Value)(k:aw->β)(z:β):β:=
 st.gI a (fun cs elem bt aR=>ey bt.2 bt.1 (oX cs a.off vs (fun cs'=>st.gN a.block (.cells cs' elem bt aR) k) z) z) z
def ki(fr:aQ)(st:aw)(elem:TypeId)(bj bytes:Nat)(base:Option Addr)(len cap:Nat)(n:Nat)(new:List Value):aY:=
 (fun rW=>
  ey (Nat.mul (Nat.add (Nat.mul 2 rW) 768) (Nat.succ bytes)) (2^40)
   (bo base
    (fun a=>st.gI a (fun cs el bt aR=>
     ey bt.2 bt.1 (ey len cap (ey (Nat.add a.off (Nat.mul cap bj)) (ef cs) (ea el elem
      (ea n 0 (.ok (.slice (some a) len cap) fr st)
       (cond aR
        (hV cs a.off (Nat.mul len bj) (fun old=>st.gN a.block .dead fun st=>st.iS (.cells (gL old new) elem (0,0) true) fun id st=>.ok (.slice (some ⟨id,0,none⟩) rW rW) fr st) .no)
        (ey rW cap
         (oX cs (Nat.add a.off (Nat.mul len bj)) new (fun cs'=>st.gN a.block (.cells cs' el bt false) fun st=>.ok (.slice (some a) rW cap) fr st) .no)
         (hV cs a.off (Nat.mul len bj) (fun old=>st.iS (.cells (gL old new) elem (0,0) true) fun id st=>.ok (.slice (some ⟨id,0,none⟩) rW rW) fr st) .no))))
      .no) .no) .no) .no) .no)
    (ea len 0 (ea cap 0
     (ea n 0 (.ok (.slice none 0 0) fr st)
      (st.iS (.cells new elem (0,0) true) fun id st=>.ok (.slice (some ⟨id,0,none⟩) rW rW) fr st))
     .no) .no))
   .no) (Nat.add len n)
def AY(k:IntKind)(fr:aQ)(xs:List Operand):Int->Option Int:=
 List.rec (motive:=fun _=>Int->Option Int) (fun m=>some m)
  (fun x _ bb m=>gd (fr.an x) (fun k' y=>cond (jd k k') (bb (cond (ly y m) m y)) none) none) xs
def AZ(k:IntKind)(fr:aQ)(xs:List Operand):Int->Option Int:=
 List.rec (motive:=fun _=>Int->Option Int) (fun m=>some m)
  (fun x _ bb m=>gd (fr.an x) (fun k' y=>cond (jd k k') (bb (cond (ly m y) m y)) none) none) xs
def fv(fr:aQ)(xs:List Operand):List Value:=
 List.rec (motive:=fun _=>List Value) [] (fun x _ r=>fr.an x::r) xs
def ml(z:List Value)(n:Nat):List Value:=
 Nat.rec (motive:=fun _=>List Value) [] (fun _ r=>gL z r) n
def D9(k:IntKind)(n:Int):Bool:=ly k.min n&&ly n k.max
def fz.ok(dq:fz)(v:Value):Bool:=
 match dq with
 |.int k=>gd v (fun k' n=>jd k k'&&D9 k n) false
 |.str=>ik v (fun s=>Nat.ble (ef s.data.toList) (2^40)) false
 |.arr k n=>si v (fun xs=>Nat.beq (ef xs.toList) n&&xs.toList.all (fun x=>gd x (fun k' m=>jd k k'&&D9 k m) false)) false
def nS{β:Type}(o:Option bL)(k:List MapEntry->Nat->β)(z:β):β:=
 bo o (fun o=>bL.rec (motive:=fun _=>β) (fun _ _ _ _=>z) k (fun _ _=>z) (fun _ _ _ _=>z) (fun _ _ _ _ _ _ _ _=>z) (fun _=>z) z o) z
def Eb{β:Type}(o:Option bL)(k:Option Nat->Nat->List Nat->Nat->β)(z:β):β:=
 bo o (fun o=>bL.rec (motive:=fun _=>β) (fun _ _ _ _=>z) (fun _ _=>z) (fun _ _=>z) k (fun _ _ _ _ _ _ _ _=>z) (fun _=>z) z o) z
def tf(dq:fz)(es:List MapEntry):Bool:=es.all (fun e=>dq.ok e.key)
def iR(k:Value)(es:List MapEntry):Option MapEntry:=es.find? (fun e=>dI k e.key)
def xS(k v:Value)(es:List MapEntry):List MapEntry:=es.map (fun e=>cond (dI k e.key) ⟨e.key,v,e.born⟩ e)
def xR(k:Value)(es:List MapEntry):List MapEntry:=es.filter (fun e=> !dI k e.key)
def C2:Value->Value->Option Bool
 |.int k a,.int k' b=>if k=k' then some (a==b)else none
 |_,_=>none
def ou:List Value->List Value->Option Bool
 |[],[]=>some true
 |x::xs,y::av=>bo (C2 x y) (fun b=>cond b (ou xs av) (bo (ou xs av) (fun _=>some false) none)) none
 |_,_=>none
def zv(n:Nat):Value->Option Bool
 |.chan (some c)=>if c%2=0 then(if 2<=c∧n<=(c-2)/2 then some true else none)else(if 3<=c∧(c-3)/2<=n then some false else none)
 |_=>none
def IN(n:Nat)(c:Value):Bool:=match zv n c with|some true=>true|_=>false
def tz:List UInt8->List UInt8->Bool
 |[],_=>true
 |a::as,b::bn=>a==b&&tz as bn
 |_::_,[]=>false
def nj(b:List UInt8):List UInt8->Option Nat
 |[]=>if b.isEmpty then some 0 else none
 |x::xs=>if tz b (x::xs)then some 0 else(nj b xs).map (· +1)
def ahA(l:List Nat):Option Nat:=l.getLast?
def ov(fr:aQ)(st:aw)(y:ue):aY:=
 match y with
 |.look dq z ok m k=>(fun key=>cond (dq.ok key)
  (wi (fr.an m) (fun r=>bo r (fun id=>nS (st.h.get id) (fun es _=>cond (tf dq es) (bo (iR key es) (fun e=>.ok (cond ok (.tuple #[e.val,.bool true]) e.val) fr st) (.ok (cond ok (.tuple #[z,.bool false]) z) fr st)) .no) .no)
   (.ok (cond ok (.tuple #[z,.bool false]) z) fr st)) .no) .no) (fr.an k)
 |.dQ dq m k v=>(fun key=>cond (dq.ok key)
  (wi (fr.an m) (fun r=>bo r (fun id=>nS (st.h.get id) (fun es clock=>cond (tf dq es)
   (bo (iR key es) (fun _=>st.gN id (.map (xS key (fr.an v) es) clock) fun st=>.ok undef fr st)
    (st.gN id (.map (es++[⟨key,fr.an v,clock⟩]) (Nat.succ clock)) fun st=>.ok undef fr st)) .no) .no) .no) .no) .no) (fr.an k)
 |.del dq m k=>(fun key=>cond (dq.ok key)
  (wi (fr.an m) (fun r=>bo r (fun id=>nS (st.h.get id) (fun es clock=>cond (tf dq es) (st.gN id (.map (xR key es) clock) fun st=>.ok undef fr st) .no) .no) .no) .no) .no) (fr.an k)
 |.xT m=>wi (fr.an m) (fun r=>bo r (fun id=>nS (st.h.get id) (fun es _=>fB (ef es) fun n=>.ok (.int .i64 (.ofNat n)) fr st) .no) (.ok (.int .i64 0) fr st)) .no
 |.rU m=>wi (fr.an m) (fun r=>bo r (fun id=>nS (st.h.get id) (fun _ clock=>st.iS (.oU (some id) clock [] clock) fun id st=>.ok (.pointer (some ⟨id,0,none⟩)) fr st) .no)
  (st.iS (.oU none 0 [] 0) fun id st=>.ok (.pointer (some ⟨id,0,none⟩)) fr st)) .no
 |.qz it=>hP (fr.an it) (fun p=>bo p (fun a=>bo a.spot (fun _=>.no) (ea a.off 0 (Eb (st.h.get a.block) (fun m _ seen l9=>
  bo m (fun id=>bo (ahA seen) (fun s=>nS (st.h.get id) (fun es clock=>ea clock l9 (ey (Nat.succ s) clock (bo (es.find? (fun e=>Nat.beq e.born s)) (fun e=>.ok (.tuple #[e.key,e.val]) fr st) .no) .no) .no) .no) .no) .no) .no) .no)) .no) .no
 |.bw s c=>ik (fr.an s) (fun s=>gd (fr.an c) (fun k c=>cond (jd k .u8) (gW c (fun c=>.ok (.int .i64 (.ofNat (s.data.toList.countP (fun b=>b==UInt8.ofNat c)))) fr st) .no) .no) .no) .no
 |.zK neg n x y=>si (fr.an x) (fun xs=>si (fr.an y) (fun av=>ea (ef xs.toList) n (ea (ef av.toList) n (bo (ou xs.toList av.toList) (fun b=>.ok (.bool (cond neg (!b) b)) fr st) .no) .no) .no) .no) .no
 |.pH _=>.no
 |.ur gt x y=>gd (fr.an x) (fun k n=>cond (jd k .i64) (gW n (fun n=>bo (zv n (fr.an y)) (fun b=>.ok (.bool (cond gt (!b) b)) fr st) .no) .no) .no) .no
 |.idxs g s b=>ik (fr.an s) (fun s=>ik (fr.an b) (fun b=>zr (st.h.get g) (fun cs _ _ aR=>cond aR .no (one cs (fun c=>cond (IN (ef b.data.toList) c) (ey 2 (ef b.data.toList) (ey (ef s.data.toList) 1000000
  (.ok (.int .i64 (bo (nj b.data.toList s.data.toList) (fun i=>.ofNat i) (.negSucc 0))) fr st) .no) .no) .no) .no)) .no) .no) .no
def oN(c:UInt8)(l:List UInt8):Option Nat:=
 List.rec (motive:=fun _=>Option Nat) none (fun b _ r=>cond (Nat.beq b.toNat c.toNat) (some 0) (bo r (fun i=>some (Nat.succ i)) none)) l
def Q7(x:Operand)(_call:bP)(fr:aQ)(st:aw):aY:=
 .ok (fr.an x) fr st
def Ra(c:Operand)(a:Operand)(b:Operand)(_call:bP)(fr:aQ)(st:aw):aY:=
 ky (fr.an c) (fun t=>.ok (cond t (fr.an a) (fr.an b)) fr st) .no
def vG(z:List Value)(elem:TypeId)(_call:bP)(fr:aQ)(st:aw):aY:=
 st.iS (.cells z elem (0,0) false) fun id st=>.ok (.pointer (some ⟨id,0,none⟩)) fr st
def yd(elem:TypeId)(x:Operand)(_call:bP)(fr:aQ)(st:aw):aY:=
 (fun v=>cond (rO v) .no (st.iS (.cells (hT v) elem (0,0) false) fun id st=>.ok (.pointer (some ⟨id,0,none⟩)) fr st)) (fr.an x)
def JI(z:List Value)(ps:List (Nat×Nat×Operand))(_call:bP)(fr:aQ)(st:aw):aY:=
 mX fr ps z fun cs=>.ok (.agg ⟨cs⟩) fr st
def ye(elem:TypeId)(len:Nat)(z:List Value)(ps:List (Nat×Nat×Operand))(_call:bP)(fr:aQ)(st:aw):aY:=
 mX fr ps z fun cs=>st.iS (.cells cs elem (0,0) false) fun id st=>.ok (.slice (some ⟨id,0,none⟩) len len) fr st
def EK(a:Operand)(_call:bP)(fr:aQ)(st:aw):aY:=
 hP (fr.an a) (fun p=>bo p (fun a=>st.load a 1 (fun vs=>one vs (fun v=>.ok v fr st) .no) .no) .no) .no
def EL(n:Nat)(a:Operand)(_call:bP)(fr:aQ)(st:aw):aY:=
 hP (fr.an a) (fun p=>bo p (fun a=>st.load a n (fun vs=>.ok (.agg ⟨vs⟩) fr st) .no) .no) .no
def Re(n:Nat)(a:Operand)(x:Operand)(_call:bP)(fr:aQ)(st:aw):aY:=
 hP (fr.an a) (fun p=>bo p (fun a=>(fun vs=>ea (ef vs) n (cond (gS vs) (st.store a vs (fun st=>.ok undef fr st) .no) .no) .no) (hT (fr.an x))) .no) .no
def JK(x:Operand)(_call:bP)(fr:aQ)(st:aw):aY:=
 hP (fr.an x) (fun p=>bo p (fun a=>.ok (.pointer (some a)) fr st) .no) (yP (fr.an x) (fun f a b=>match f with|.func g=>.ok (.func (.func g) a b) fr st|_=>.no) .no)
def JH(op:BinOp)(x:Operand)(y:Operand)(_call:bP)(fr:aQ)(st:aw):aY:=
 zL op (fr.an x) (fr.an y) fun v=>.ok v fr st
def QV(neg:Bool)(e:n8)(x:Operand)(y:Operand)(_call:bP)(fr:aQ)(st:aw):aY:=
 bo (jV 8 e (fr.an x) (fr.an y)) (fun b=>.ok (.bool (cond neg (!b) b)) fr st) .no
def JM(op:UnOp)(x:Operand)(_call:bP)(fr:aQ)(st:aw):aY:=
 w1 op (fr.an x) fun v=>.ok v fr st
def QT(k:IntKind)(x:Operand)(_call:bP)(fr:aQ)(st:aw):aY:=
 gd (fr.an x) (fun _ n=>hi k (mQ k n) fun v=>.ok v fr st) .no
def QS(x:Operand)(_call:bP)(fr:aQ)(st:aw):aY:=
 ik (fr.an x) (fun s=>.ok (.string s) fr st) .no
def EG(x:Operand)(_call:bP)(fr:aQ)(st:aw):aY:=
 jh (fr.an x) (fun a n _=>bo a (fun a=>st.load a n (fun vs=>bo (bytesOf vs) (fun bn=>.ok (.string ⟨⟨bn⟩⟩) fr st) .no) .no) (.ok (.string ⟨⟨[]⟩⟩) fr st)) .no
def yf(elem:TypeId)(x:Operand)(_call:bP)(fr:aQ)(st:aw):aY:=
 ik (fr.an x) (fun s=>(fun n=>ey n (2^40) (st.iS (.cells (kx s.data.toList) elem (0,0) true) fun id st=>.ok (.slice (some ⟨id,0,none⟩) n n) fr st) .no) (ef s.data.toList)) .no
def Q5(t:TypeId)(x:Operand)(_call:bP)(fr:aQ)(st:aw):aY:=
 .ok (.iface t (fr.an x)) fr st
def Q4(fn:Fn)(first:List Operand)(fk:List Operand)(_call:bP)(fr:aQ)(st:aw):aY:=
 .ok (.func fn ⟨fv fr first⟩ ⟨fv fr fk⟩) fr st
def vH(_call:bP)(fr:aQ)(st:aw):aY:=
 st.iS (.map [] 0) fun id st=>.ok (.map (some id)) fr st
def tv(elem:TypeId)(bytes:Nat)(z:List Value)(len:Operand)(cap:Operand)(_call:bP)(fr:aQ)(st:aw):aY:=
 gd (fr.an len) (fun _ l=>gd (fr.an cap) (fun _ c=>gW l (fun l=>gW c (fun c=>ey l c (ey (Nat.mul c (Nat.succ bytes)) (2^40) (st.iS (.cells (ml z c) elem (0,0) false) fun id st=>.ok (.slice (some ⟨id,0,none⟩) l c) fr st) .no) .no) .no) .no) .no) .no
def Rd(x:Operand)(bD:Option Operand)(ag:Option Operand)(_call:bP)(fr:aQ)(st:aw):aY:=
 ik (fr.an x) (fun s=>(fun n=>e4 fr ag n n fun h=>e4 fr bD 0 h fun l=>hV s.data.toList l (Nat.sub h l) (fun bn=>.ok (.string ⟨⟨bn⟩⟩) fr st) .no) (ef s.data.toList)) .no
def EN(n:Nat)(bj:Nat)(x:Operand)(bD:Option Operand)(ag:Option Operand)(eM:Option Operand)(_call:bP)(fr:aQ)(st:aw):aY:=
 hP (fr.an x) (fun p=>bo p (fun a=>st.gI a (fun _ _ _ aR=>cond aR .no (e4 fr eM n n fun m=>e4 fr ag n m fun h=>e4 fr bD 0 h fun l=>.ok (.slice (some (ea m l a (a.add (Nat.mul l bj)))) (Nat.sub h l) (Nat.sub m l)) fr st)) .no) .no) .no
def Rc(bj:Nat)(x:Operand)(bD:Option Operand)(ag:Option Operand)(eM:Option Operand)(_call:bP)(fr:aQ)(st:aw):aY:=
 jh (fr.an x) (fun b len cap=>bo b (fun a=>st.gI a (fun _ _ _ aR=>cond aR (bo eM (fun _=>.no) (ey len cap (e4 fr ag len len fun h=>e4 fr bD 0 h fun l=>.ok (.slice (some (a.add (Nat.mul l bj))) (Nat.sub h l) (Nat.sub cap l)) fr st) .no)) (e4 fr eM cap cap fun m=>e4 fr ag len m fun h=>e4 fr bD 0 h fun l=>.ok (.slice (some (ea m l a (a.add (Nat.mul l bj)))) (Nat.sub h l) (Nat.sub m l)) fr st)) .no) (e4 fr eM cap cap fun m=>e4 fr ag len m fun h=>e4 fr bD 0 h fun l=>.ok (.slice none (Nat.sub h l) (Nat.sub m l)) fr st)) .no
def QX(off:Nat)(x:Operand)(_call:bP)(fr:aQ)(st:aw):aY:=
 hP (fr.an x) (fun p=>bo p (fun a=>.ok (.pointer (some (a.add off))) fr st) .no) .no
def QY(off:Nat)(bj:Nat)(agg:Bool)(x:Operand)(_call:bP)(fr:aQ)(st:aw):aY:=
 si (fr.an x) (fun cs=>bo (r1 off bj agg cs.toList) (fun v=>.ok v fr st) .no) .no
def tu(n:Nat)(bj:Nat)(x:Operand)(i:Operand)(_call:bP)(fr:aQ)(st:aw):aY:=
 hP (fr.an x) (fun p=>bo p (fun a=>gd (fr.an i) (fun _ j=>gW j (fun j=>ey (Nat.succ j) n (.ok (.pointer (some (a.add (Nat.mul j bj)))) fr st) .no) .no) .no) .no) .no
def QZ(bj:Nat)(x:Operand)(i:Operand)(_call:bP)(fr:aQ)(st:aw):aY:=
 jh (fr.an x) (fun b len _=>bo b (fun a=>gd (fr.an i) (fun _ j=>gW j (fun j=>ey (Nat.succ j) len (.ok (.pointer (some (a.add (Nat.mul j bj)))) fr st) .no) .no) .no) .no) .no
def Q1(x:Operand)(i:Operand)(_call:bP)(fr:aQ)(st:aw):aY:=
 ik (fr.an x) (fun s=>gd (fr.an i) (fun _ j=>gW j (fun j=>hV s.data.toList j 1 (fun bn=>one bn (fun b=>.ok (.int .u8 (.ofNat b.toNat)) fr st) .no) .no) .no) .no) .no
def Q0(n:Nat)(bj:Nat)(agg:Bool)(x:Operand)(i:Operand)(_call:bP)(fr:aQ)(st:aw):aY:=
 si (fr.an x) (fun cs=>gd (fr.an i) (fun _ j=>gW j (fun j=>ey (Nat.succ j) n (bo (r1 (Nat.mul j bj) bj agg cs.toList) (fun v=>.ok v fr st) .no) .no) .no) .no) .no
def JL(t:TypeId)(zero:Value)(ok:Bool)(x:Operand)(_call:bP)(fr:aQ)(st:aw):aY:=
 wh (fr.an x) (fun u v=>ea u t (.ok (cond ok (.tuple #[v,.bool true]) v) fr st) (cond ok (.ok (.tuple #[zero,.bool false]) fr st) .no)) (match fr.an x with|.nilIface=>cond ok (.ok (.tuple #[zero,.bool false]) fr st) .no|_=>.no)
def QW(x:Operand)(i:Nat)(_call:bP)(fr:aQ)(st:aw):aY:=
 o7 (fr.an x) (fun vs=>hV vs.toList i 1 (fun l=>one l (fun v=>.ok v fr st) .no) .no) .no
def aiK(f:Operand)(args:List Operand)(call:bP)(fr:aQ)(st:aw):aY:=
 dC.rec (motive:=fun _=>aY) (fun v st _=>.ok v fr st) (fun v st _=>.bh v st) .no (call (fr.an f) (fv fr args) none st)
def Q2(x:Operand)(_call:bP)(fr:aQ)(st:aw):aY:=
 jh (fr.an x) (fun _ n _=>.ok (.int .i64 (.ofNat n)) fr st) .no
def Q3(x:Operand)(_call:bP)(fr:aQ)(st:aw):aY:=
 ik (fr.an x) (fun s=>fB (ef s.data.toList) fun n=>.ok (.int .i64 (.ofNat n)) fr st) .no
def JJ(n:Nat)(_call:bP)(fr:aQ)(st:aw):aY:=
 .ok (.int .i64 (.ofNat n)) fr st
def aiQ(_x:Operand)(_call:bP)(_fr:aQ)(_st:aw):aY:=
 .no
def QR(elem:TypeId)(bj:Nat)(bytes:Nat)(s:Operand)(x:Operand)(_call:bP)(fr:aQ)(st:aw):aY:=
 jh (fr.an s) (fun base len cap=>jh (fr.an x) (fun b n _=>bo b (fun b=>st.load b (Nat.mul n bj) (fun new=>cond (gS new) (ki fr st elem bj bytes base len cap n new) .no) .no) (ea n 0 (ki fr st elem bj bytes base len cap 0 []) .no)) (ik (fr.an x) (fun s=>ea bj 1 (ki fr st elem bj bytes base len cap (ef s.data.toList) (kx s.data.toList)) .no) .no)) .no
def Q8(x:Operand)(xs:List Operand)(_call:bP)(fr:aQ)(st:aw):aY:=
 gd (fr.an x) (fun k n=>bo (AY k fr xs n) (fun m=>hi k m fun v=>.ok v fr st) .no) .no
def Q6(x:Operand)(xs:List Operand)(_call:bP)(fr:aQ)(st:aw):aY:=
 gd (fr.an x) (fun k n=>bo (AZ k fr xs n) (fun m=>hi k m fun v=>.ok v fr st) .no) .no
def QU(bj:Nat)(d:Operand)(s:Operand)(_call:bP)(fr:aQ)(st:aw):aY:=
 jh (fr.an d) (fun a dl _=>jh (fr.an s) (fun b bH _=>bo a (fun a=>bo b (fun b=>(fun n=>st.load b (Nat.mul n bj) (fun vs=>cond (gS vs) (st.store a vs (fun st=>.ok (.int .i64 (.ofNat n)) fr st) .no) .no) .no) (ey bH dl bH dl)) (ea bH 0 (.ok (.int .i64 0) fr st) .no)) (ea dl 0 (.ok (.int .i64 0) fr st) .no)) .no) .no
def aiW(_call:bP)(fr:aQ)(st:aw):aY:=
 bo fr.b3 (fun _=>.no) (bo fr.bh (fun v=>cond fr.cL (.ok .nilIface fr st) (.ok v ⟨fr.t,fr.c8,fr.bh,true,fr.b3⟩ st)) (.ok .nilIface fr st))
def aiM(f:Operand)(args:List Operand)(_call:bP)(fr:aQ)(st:aw):aY:=
 bo fr.b3 (fun _=>.no) (yP (fr.an f) (fun fn first fk=>match fn with|.func g=>.ok undef ⟨fr.t,{target:=.fn (.func g) fk,args:=⟨gL first.toList (fv fr args)⟩}::fr.c8,fr.bh,fr.cL,fr.b3⟩ st|_=>.no) .no)
def aiV(x:Operand)(_call:bP)(fr:aQ)(st:aw):aY:=
 wh (fr.an x) (fun t v=>.bh (.iface t v) st) .no
def EH(x:Operand)(_call:bP)(fr:aQ)(st:aw):aY:=
 hP (fr.an x) (fun p=>bo p (fun a=>st.gI a (fun cs _ _ _=>ey (Nat.succ a.off) (ef cs) (.ok (.pointer (some a)) fr st) .no) .no) .no) .no
def EI(elem:Nat)(n:Nat)(x:Operand)(_call:bP)(fr:aQ)(st:aw):aY:=
 hP (fr.an x) (fun p=>bo p (fun a=>st.gI a (fun cs el _ aR=>cond aR .no (ea a.off 0 (ea el elem (ea (ef cs) n (.ok (.pointer (some a)) fr st) .no) .no) .no)) .no) .no) .no
def EM(x:Operand)(_call:bP)(fr:aQ)(st:aw):aY:=
 jh (fr.an x) (fun b _ c=>bo b (fun a=>ea c 0 .no (.ok (.pointer (some a)) fr st)) (.ok (.pointer none) fr st)) .no
def EO(elem:TypeId)(x:Operand)(n:Operand)(_call:bP)(fr:aQ)(st:aw):aY:=
 hP (fr.an x) (fun p=>gd (fr.an n) (fun _ n=>gW n (fun n=>ea n 0 (.ok (.string ⟨⟨[]⟩⟩) fr st) (bo p (fun a=>ey n (2^40) (st.gI a (fun cs el bt aR=>ey bt.2 bt.1 (ea el elem (hV cs a.off n (fun vs=>bo (bytesOf vs) (fun bn=>st.gN a.block (.cells cs el (a.off,Nat.add a.off n) aR) fun st=>.ok (.string ⟨⟨bn⟩⟩) fr st) .no) .no) .no) .no) .no) .no) .no)) .no) .no) .no
def EJ(s:Operand)(c:Operand)(_call:bP)(fr:aQ)(st:aw):aY:=
 ik (fr.an s) (fun s=>gd (fr.an c) (fun k c=>cond (jd k .u8) (gW c (fun c=>.ok (.int .i64 (bo (oN (UInt8.ofNat c) s.data.toList) (fun i=>.ofNat i) (.negSucc 0))) fr st) .no) .no) .no) .no
def Q9(x:Operand)(_call:bP)(fr:aQ)(st:aw):aY:=
 .ok (fr.an x) fr st
def aiN(y:ue)(_call:bP)(fr:aQ)(st:aw):aY:=
 ov fr st y
def aiX(_call:bP)(_fr:aQ)(_st:aw):aY:=
 .no
def cb(call:bP)(o:dH)(fr:aQ)(st:aw):aY:=
 dH.rec (motive:=fun _=>bP->aQ->aw->aY) Q7 Ra vG yd JI ye EK EL Re JK JH QV JM QT QS EG yf Q5 Q4 vH tv Rd EN Rc QX QY tu QZ Q1 Q0 JL QW aiK Q2 Q3 JJ aiQ QR Q8 Q6 QU aiW aiM aiV EH EI EM EO EJ Q9 aiN aiX o call fr st
inductive cC where
 |out (e:ee) (fr:aQ) (st:aw)
 |no
def hF{β:Type}(fr:aQ)(g:Option (Tmp×Bool))(yes gX z:β):β:=
 bo g (fun p=>ky (fr.tmp p.1) (fun b=>cond b (cond p.2 yes gX) (cond p.2 gX yes)) (o7 (fr.tmp p.1) (fun _=>gX) z)) yes
def dH.mT:dH->Bool
 |.call _ _|.nX _=>true
 |_=>false
def hJ(call:bP)(ops:List bB):aQ->aw->cC:=
 List.rec (motive:=fun _=>aQ->aw->cC) (fun fr st=>.out .norm fr st)
  (fun x _ bb fr st=>
   hF fr x.g
    (aY.rec (motive:=fun _=>cC) (fun v fr st=>bb (fr.put x.d v) st) (fun v st=>cond x.o.mT (.out (.bh v) fr st) .no) .no (cb call x.o fr st))
    (bb (fr.put x.d undef) st) .no) ops
def sameAt(call:bP)(o:dH)(fr:aQ)(v:Value)(aj:Nat)(n:Nat):List (au bL)->Bool:=
 Nat.rec (motive:=fun _=>List (au bL)->Bool) (fun _=>true)
  (fun _ bb ak=>List.rec (motive:=fun _=>Bool) false
   (fun h ak _=>aY.rec (motive:=fun _=>Bool) (fun v' _ _=>cond (dI v v') (bb ak) false) (fun _ _=>false) false (cb call o fr ⟨h,aj⟩)) ak) n
def ng{β:Type}(t:au Value)(ts:List Tmp)(k:au Value->β):β:=
 List.rec (motive:=fun _=>au Value->β) (fun m=>k m) (fun x _ bb m=>bo (t.get x) (fun v=>au.hM (Nat.succ x) m x v bb) (bb m)) ts .nil
def nY(fr:aQ)(ts:List Tmp):aQ:=
 List.rec (motive:=fun _=>aQ->aQ) (fun fr=>fr) (fun t _ bb fr=>bb (fr.put (some t) jf)) ts fr
def I3{α β:Type}(xs:List α)(a b:β):β:=List.rec (motive:=fun _=>β) a (fun _ _ _=>b) xs
def hI(call:bP)(ops:List (bB×c0)):List (au bL)->aQ->aw->cC:=
 List.rec (motive:=fun _=>List (au bL)->aQ->aw->cC) (fun _ fr st=>.out .norm fr st)
  (fun x xs bb v8 fr st=>
   c0.rec (motive:=fun _=>cC)
    (hF fr x.1.g
     (aY.rec (motive:=fun _=>cC) (fun v aE st'=>ey st.aj st'.aj (bb (st'.h::v8) (aQ.put ⟨fr.t,aE.c8,aE.bh,aE.cL,aE.b3⟩ x.1.d v) st') .no) (fun v st'=>cond x.1.o.mT (I3 xs (.out (.bh v) fr st') .no) .no) .no (cb call x.1.o fr st))
     (bb (st.h::v8) (fr.put x.1.d undef) st) .no)
    (fun ts=>ng fr.t ts fun t=>hF ⟨t,[],none,false,none⟩ x.1.g
     (aY.rec (motive:=fun _=>cC) (fun v _ st'=>bb v8 (fr.put x.1.d v) st') (fun _ _=>.no) .no (cb call x.1.o ⟨t,[],none,false,none⟩ st))
     (bb v8 (fr.put x.1.d undef) st) .no)
    (fun back ts=>ng fr.t ts fun t=>hF ⟨t,[],none,false,none⟩ x.1.g
     (aY.rec (motive:=fun _=>cC) (fun v _ _=>cond (sameAt call x.1.o ⟨t,[],none,false,none⟩ v st.aj (Nat.succ back) v8) (bb v8 (fr.put x.1.d v) st) .no) (fun _ _=>.no) .no (cb call x.1.o ⟨t,[],none,false,none⟩ st))
     (bb v8 (fr.put x.1.d undef) st) .no)
    x.2) ops
def lz{β:Type}(o:Option bL)(k:LoopState->Option ee->FuncId->au Value->List Tmp->du->du->Nat->β)(z:β):β:=
 bo o (fun o=>bL.rec (motive:=fun _=>β) (fun _ _ _ _=>z) (fun _ _=>z) (fun _ _=>z) (fun _ _ _ _=>z) k (fun _=>z) z o) z
def n5(r:cC)(k:aQ->aw->cC):cC:=
 cC.rec (motive:=fun _=>cC) (fun e fr st=>ee.rec (motive:=fun _=>cC) (k fr st) (fun i=>.out (.exit i) fr st) (.out .ret fr st) (fun v=>.out (.bh v) fr st) e) .no r
def sD(id:Nat)(r:cC):cC:=
 cC.rec (motive:=fun _=>cC) (fun e fr st=>ee.rec (motive:=fun _=>cC) (.out .norm fr st) (fun i=>ea i id (.out .norm fr st) (.out (.exit i) fr st)) (.out .ret fr st) (fun v=>.out (.bh v) fr st) e) .no r
def Ni(v:Value)(a b:cC):cC:=ky v (fun t=>cond t a b) .no
def FW(l:Nat)(aE:aQ)(r:dC):cC:=
 dC.rec (motive:=fun _=>cC)
  (fun _ st _=>lz (st.h.get l) (fun s fO rk t ps a b d=>
   LoopState.rec (motive:=fun _=>cC)
    (st.gN l (.loop .exhausted fO rk t ps a b d) fun st=>bo fO (fun e=>.out e aE st) (.out .norm aE st))
    .no
    (st.gN l (.loop .exhausted fO rk t ps a b d) fun st=>bo fO (fun e=>.out e aE st) (.out .norm aE st))
    .no s) .no)
  (fun v st _=>.out (.bh v) aE st) .no r
def zM(call:bP)(fn:FuncId)(f:Operand)(params:List Tmp)(assign body:du)(fr:aQ)(st:aw):cC:=
 bo fr.b3 (fun _=>.no)
  (st.iS (.h9 (some [])) fun r st=>
   st.iS (.loop .ready none fn fr.t params assign body r) fun l st=>
   FW l ⟨fr.t,{target:=.collected r,args:= #[]}::fr.c8,fr.bh,fr.cL,fr.b3⟩ (call (fr.an f) [.func (.yield l) #[] #[]] none st))
def dD(call:bP)(a9:Nat)(fn:FuncId)(c:du):aQ->aw->cC:=
 du.rec (motive:=fun _=>aQ->aw->cC)
  (fun fr st=>.out .norm fr st)
  (fun ops=>hJ call ops)
  (fun ops _ ec _ fr st=>hI call ops [st.h] (nY fr ec) st)
  (fun _ _ sM ny fr st=>n5 (sM fr st) ny)
  (fun c _ _ sM ny fr st=>Ni (fr.an c) (sM fr st) (ny fr st))
  (fun id _ e fr st=>sD id (e fr st))
  (fun _ e fr st=>
   Nat.rec (motive:=fun _=>aQ->aw->cC) (fun _ _=>.no)
    (fun _ bb fr st=>n5 (e fr st) bb) a9 fr st)
  (fun f params assign body _ _=>zM call fn f params assign body)
  (fun id fr st=>.out (.exit id) fr st)
  (fun _ e=>e)
  (fun fr st=>.out .ret fr st)
  (fun _ _=>.no) c
def lP(vs:List Value):Nat->au Value->au Value:=
 List.rec (motive:=fun _=>Nat->au Value->au Value) (fun _ t=>t) (fun v _ bb i t=>au.hM (Nat.succ i) t i v fun t=>bb (Nat.succ i) t) vs
def mJ(ts:List Tmp):List Value->au Value->au Value:=
 List.rec (motive:=fun _=>List Value->au Value->au Value) (fun _ m=>m)
  (fun t _ bb vs m=>List.rec (motive:=fun _=>au Value) m (fun v vs _=>au.hM (Nat.succ t) m t v fun m=>bb vs m) vs) ts
def pk(fr:aQ)(st:aw)(rs:List iu):Option (List Value):=
 List.rec (motive:=fun _=>Option (List Value)) (some [])
  (fun r _ bb=>bo bb (fun vs=>
   iu.rec (motive:=fun _=>Option (List Value)) (fun t=>some (fr.tmp t::vs))
    (fun a agg n=>hP (fr.tmp a) (fun p=>bo p (fun ad=>st.load ad n (fun cs=>cond agg (some (.agg ⟨cs⟩::vs)) (one cs (fun v=>some (v::vs)) none)) none) none) none) r) none) rs
def jg(call:bP):List Deferred->Option Value->aw->Option (Option Value×aw)
 |[],m,st=>some (m,st)
 |{target:=.collected r,.. }::ds,m,st=>
  match st.h.get r with
  |some (.h9 (some []))=>st.gN r (.h9 none) fun st=>jg call ds m st
  |_=>none
 |{target:=.fn (.func g) fk,args}::ds,m,st=>
  match call (.func (.func g) #[] fk) args.toList m st with
  |.ret _ st eB=>
   match m,eB with
   |some _,true=>jg call ds none st
   |_,_=>jg call ds m st
  |.bh v st _=>
   match m with
   |none=>jg call ds (some v) st
   |some _=>none
  |.no=>none
 |_::_,_,_=>none
abbrev la:=FuncId->List Value->aw->Option dC
def lj(call:bP)(res:List iu)(m:Option Value)(fr:aQ)(st:aw):dC:=
 bo (jg call fr.c8 m st)
  (fun p=>bo p.1 (fun v=>.bh v p.2 fr.cL)
   (bo (pk fr p.2 res) (fun vs=>one vs (fun v=>.ret v p.2 fr.cL) (.ret (.tuple ⟨vs⟩) p.2 fr.cL)) .no)) .no
def oi(call:bP)(n:Nat)(f:FuncId)(xf:aK)(as:List Value)(bh:Option Value)(st:aw):dC:=
 ey (ef as) xf.ay
  (cC.rec (motive:=fun _=>dC)
   (fun e fr st=>ee.rec (motive:=fun _=>dC) (lj call xf.res none fr st) (fun _=>.no) (lj call xf.res none fr st) (fun v=>lj call xf.res (some v) fr st) e)
   .no (dD call n f xf.body ⟨lP as 0 .nil,[],bh,false,none⟩ st)) .no
def o3(l:Nat)(r:cC):dC:=
 cC.rec (motive:=fun _=>dC)
  (fun e fr st=>
   List.rec (motive:=fun _=>dC)
    (ee.rec (motive:=fun _=>dC)
     (lz (st.h.get l) (fun _ _ fn t ps a b d=>st.gN l (.loop .ready none fn t ps a b d) fun st=>.ret (.bool true) st false) .no)
     (fun i=>lz (st.h.get l) (fun _ _ fn t ps a b d=>st.gN l (.loop .done (some (.exit i)) fn t ps a b d) fun st=>.ret (.bool false) st false) .no)
     (lz (st.h.get l) (fun _ _ fn t ps a b d=>st.gN l (.loop .done (some .ret) fn t ps a b d) fun st=>.ret (.bool false) st false) .no)
     (fun v=>.bh v st false) e)
    (fun _ _ _=>.no) fr.c8)
  .no r
def yF(call:bP)(n:Nat)(l:Nat)(f:FuncId)(body:du)(fr:aQ)(st:aw):dC:=
 lz (st.h.get l) (fun s fO fn t ps a b d=>
  LoopState.rec (motive:=fun _=>dC)
   (st.gN l (.loop .busy fO fn t ps a b d) fun st=>o3 l (dD call n f body fr st))
   .no .no .no s) .no
def wu(call:bP)(n:Nat)(l:Nat)(args:List Value)(st:aw):dC:=
 lz (st.h.get l) (fun _ _ fn t ps dy body _=>
  ea (ef args) (ef ps)
   (cC.rec (motive:=fun _=>dC)
    (fun e fr st=>ee.rec (motive:=fun _=>dC) (yF call n l fn body fr st) (fun _=>.no) .no (fun _=>.no) e) .no
    (dD call n fn dy ⟨mJ ps args t,[],none,false,some l⟩ st)) .no) .no
def dx(a7:au aK)(e5:la)(fuel:Nat):bP:=
 Nat.rec (motive:=fun _=>bP) (fun _ _ _ _=>.no)
  (fun n bb jW args bh st=>
   yP jW (fun fn first fk=>
    Fn.rec (motive:=fun _=>dC)
     (fun f=>(fun as=>bo bh (fun _=>bo (a7.get f) (fun xf=>oi bb n f xf as bh st) .no) (bo (e5 f as st) (fun r=>r) (bo (a7.get f) (fun xf=>oi bb n f xf as bh st) .no))) (gL first.toList (gL args fk.toList)))
     (fun _=>.no) (fun _ _=>.no) (fun _ _ _ _=>.no)
     (fun l=>List.rec (motive:=fun _=>dC) (List.rec (motive:=fun _=>dC) (bo bh (fun _=>.no) (wu bb n l args st)) (fun _ _ _=>.no) fk.toList) (fun _ _ _=>.no) first.toList)
     fn) .no) fuel
end Go.az
namespace Go.az
namespace au
variable{α β:Type}
@[simp] theorem get_nil (n:Nat):(au.nil:au α).get n=none:=rfl
theorem sQ(l r:au α)(v:Option α):(au.node l v r).get 0=v:=rfl
theorem Es{β:Sort _}(m:Nat)(a b:β):Nat.rec (motive:=fun _=>β) a (fun _ _=>b) (Nat.mod m 2)=if m%2=0 then a else b:=by
 show Nat.rec (motive:=fun _=>β) a (fun _ _=>b) (m%2)=_;rcases Nat.mod_two_eq_zero_or_one m with h|h
 ·rw[h];rfl
 ·rw[h];rfl
theorem nF(l r:au α)(v:Option α)(m:Nat):(au.node l v r).get (m+1)=if m%2=0 then l.get (m/2)else r.get (m/2):=
 Es m (l.get (m/2)) (r.get (m/2))
theorem aky(f:Nat)(x:α)(k:au α->β):hM (f+1) .nil 0 x k=k (.node .nil (some x) .nil):=rfl
theorem F3(f m:Nat)(x:α)(k:au α->β):hM (f+1) .nil (m+1) x k=if m%2=0 then hM f .nil (m/2) x (fun l'=>k (.node l' none .nil))else hM f .nil (m/2) x (fun dt=>k (.node .nil none dt)):=Es m _ _
theorem akz(f:Nat)(l r:au α)(v:Option α)(x:α)(k:au α->β):hM (f+1) (.node l v r) 0 x k=k (.node l (some x) r):=rfl
theorem F4(f m:Nat)(l r:au α)(v:Option α)(x:α)(k:au α->β):hM (f+1) (.node l v r) (m+1) x k=if m%2=0 then hM f l (m/2) x (fun l'=>k (.node l' v r))else hM f r (m/2) x (fun dt=>k (.node l v dt)):=Es m _ _
theorem lK{α:Type}:∀(f:Nat) (β:Type) (t:au α) (n:Nat) (x:α) (k:au α->β),hM f t n x k=k (hM f t n x id)
 |0,_,_,_,_,_=>rfl
 |f+1,β,t,n,x,k=>by
  cases t with
  |nil=>
   cases n with
   |zero=>rfl
   |succ m=>
    rw[F3,F3];split
    ·rw[lK f _ .nil (m/2) x (fun l'=>k (au.node l' none au.nil)),lK f _ .nil (m/2) x (fun l'=>id (au.node l' none au.nil))];rfl
    ·rw[lK f _ .nil (m/2) x (fun dt=>k (au.node au.nil none dt)),lK f _ .nil (m/2) x (fun dt=>id (au.node au.nil none dt))];rfl
  |node l v r=>
   cases n with
   |zero=>rfl
   |succ m=>
    rw[F4,F4];split
    ·rw[lK f _ l (m/2) x (fun l'=>k (au.node l' v r)),lK f _ l (m/2) x (fun l'=>id (au.node l' v r))];rfl
    ·rw[lK f _ r (m/2) x (fun dt=>k (au.node l v dt)),lK f _ r (m/2) x (fun dt=>id (au.node l v dt))];rfl
theorem v5(t:au α)(n:Nat)(x:α)(k:au α->β):hM (Nat.succ n) t n x k=k (t.set n x):=lK _ _ t n x k
theorem aik(v:Option α)(r l:au α):Qt v r l= .node l v r:=by cases l<;>rfl
theorem ail(v:Option α)(l r:au α):Qu l v r= .node l v r:=by cases r<;>rfl
theorem nD(t:au α)(k:au α->β):fin t k=k t:=by cases t<;>rfl
theorem Ry(bb:au α->Nat->α->au α)(l r:au α)(v:Option α)(m:Nat)(x:α):
 E0 bb l v r m x=if m%2=0 then .node (bb l (m/2) x) v r else .node l v (bb r (m/2) x):=by
 rw[<-aik,<-ail];exact Es m _ _
theorem E1:∀(f:Nat) (t:au α) (n:Nat) (x:α),jw f t n x=hM f t n x id
 |0,_,_,_=>rfl
 |f+1,t,n,x=>by
  cases t with
  |nil=>
   cases n with
   |zero=>rfl
   |succ m=>
    rw[F3];show E0 (jw f) .nil none .nil m x=_;rw[Ry,E1 f];split
    ·rw[lK f _ .nil (m/2) x (fun l'=>id (au.node l' none au.nil))];rfl
    ·rw[lK f _ .nil (m/2) x (fun dt=>id (au.node au.nil none dt))];rfl
  |node l v r=>
   cases n with
   |zero=>rfl
   |succ m=>
    rw[F4];show E0 (jw f) l v r m x=_;rw[Ry,E1 f,E1 f];split
    ·rw[lK f _ l (m/2) x (fun l'=>id (au.node l' v r))];rfl
    ·rw[lK f _ r (m/2) x (fun dt=>id (au.node l v dt))];rfl
theorem tA(t:au α)(n:Nat)(x:α):jw (Nat.succ n) t n x=t.set n x:=E1 _ t n x
theorem Dh:∀(f:Nat) (t:au α) (n:Nat) (x:α) (j:Nat),n<f->(hM f t n x id).get j=if j=n then some x else t.get j
 |0,_,_,_,_,h=>by omega
 |f+1,t,n,x,j,h=>by
  cases t with
  |nil=>
   cases n with
   |zero=>
    cases j with
    |zero=>rfl
    |succ j=>rw[aky];show(au.node .nil (some x) .nil:au α).get (j+1)=_;rw[nF];simp
   |succ m=>
    have bb:=fun i=>Dh f (.nil:au α) (m/2) x i (by omega);rw[F3];split
    ·rename_i hm;rw[lK f _ .nil (m/2) x (fun l'=>id (au.node l' none au.nil))];show(au.node _ none .nil:au α).get j=_;cases j with
     |zero=>rw[sQ];simp
     |succ j=>
      rw[nF];by_cases hj:j%2=0
      ·rw[if_pos hj,bb];by_cases e:j=m
       ·subst e;simp
       ·rw[if_neg (by omega),if_neg (by omega)];simp
      ·rw[if_neg hj,if_neg (by omega)];simp
    ·rename_i hm;rw[lK f _ .nil (m/2) x (fun dt=>id (au.node au.nil none dt))];show(au.node .nil none _:au α).get j=_;cases j with
     |zero=>rw[sQ];simp
     |succ j=>
      rw[nF];by_cases hj:j%2=0
      ·rw[if_pos hj,if_neg (by omega)];simp
      ·rw[if_neg hj,bb];by_cases e:j=m
       ·subst e;simp
       ·rw[if_neg (by omega),if_neg (by omega)];simp
  |node l v r=>
   cases n with
   |zero=>
    cases j with
    |zero=>rfl
    |succ j=>rw[akz];show(au.node l (some x) r:au α).get (j+1)=_;rw[nF,nF,if_neg (by omega:¬(j+1=0))]
   |succ m=>
    rw[F4];split
    ·rename_i hm;have bb:=fun i=>Dh f l (m/2) x i (by omega);rw[lK f _ l (m/2) x (fun l'=>id (au.node l' v r))];show(au.node _ v r:au α).get j=_;cases j with
     |zero=>rw[sQ,if_neg (by omega)];rfl
     |succ j=>
      rw[nF,nF];by_cases hj:j%2=0
      ·rw[if_pos hj,if_pos hj,bb];by_cases e:j=m
       ·subst e;simp
       ·rw[if_neg (by omega),if_neg (by omega)]
      ·rw[if_neg hj,if_neg hj,if_neg (by omega)]
    ·rename_i hm;have bb:=fun i=>Dh f r (m/2) x i (by omega);rw[lK f _ r (m/2) x (fun dt=>id (au.node l v dt))];show(au.node l v _:au α).get j=_;cases j with
     |zero=>rw[sQ,if_neg (by omega)];rfl
     |succ j=>
      rw[nF,nF];by_cases hj:j%2=0
      ·rw[if_pos hj,if_pos hj,if_neg (by omega)]
      ·rw[if_neg hj,if_neg hj,bb];by_cases e:j=m
       ·subst e;simp
       ·rw[if_neg (by omega),if_neg (by omega)]
theorem eI(t:au α)(n:Nat)(x:α)(j:Nat):(t.set n x).get j=if j=n then some x else t.get j:=
 Dh (n+1) t n x j (by omega)
@[simp] theorem pn (t:au α) (n:Nat) (x:α):(t.set n x).get n=some x:=by rw[eI,if_pos rfl]
theorem ht(t:au α){n j:Nat}(x:α)(h:j≠n):(t.set n x).get j=t.get j:=by rw[eI,if_neg h]
end au
theorem JX(fr:aQ)(d:Tmp)(v:Value):fr.put (some d) v=⟨fr.t.set d v,fr.c8,fr.bh,fr.cL,fr.b3⟩:=by
 show aQ.Qg (au.jw (Nat.succ d) fr.t d v) fr.c8 fr.bh fr.cL fr.b3=_;rw[au.tA];cases fr.t.set d v<;>rfl
theorem qO(fr:aQ)(d:Option Tmp)(v:Value)(j:Nat):(fr.put d v).tmp j=if d=some j then v else fr.tmp j:=by
 cases d with
 |none=>simp[aQ.put]
 |some d=>
  rw[JX];simp only[aQ.tmp,au.eI,Option.some.injEq];by_cases h:j=d
  ·subst h;simp
  ·rw[if_neg h,if_neg (fun e=>h e.symm)]
theorem tB(fr:aQ)(d:Option Tmp)(v:Value):(fr.put d v).c8=fr.c8∧(fr.put d v).bh=fr.bh∧(fr.put d v).cL=fr.cL∧(fr.put d v).b3=fr.b3:=by
 cases d with
 |none=>simp[aQ.put]
 |some d=>rw[JX];exact⟨rfl,rfl,rfl,rfl⟩
structure Loc where
 cU:Nat
 cW:Nat
 ex:Nat
 bW:Nat->Nat
def jX:Nat->Nat:=fun _=>0
theorem IM:(id:Nat->Nat)≠jX:=fun h=>by have:=congrFun h 1;simp[jX]at this
abbrev bq:=Nat->Option Loc
def bq.le(ι aM:bq):Prop:=∀i l,ι i=some l->aM i=some l
theorem bq.le.refl(ι:bq):ι.le ι:=fun _ _ h=>h
theorem bq.le.trans{ι aM dB:bq}(h:ι.le aM)(aL:aM.le dB):ι.le dB:=fun i l ag=>aL i l (h i l ag)
def wz(ι:bq)(f g:Fn):Prop:=(f=g∧∀l,f≠.yield l)∨∃l b,f= .yield l∧g= .yield b∧ι l=some ⟨b,0,0,id⟩
def Lf(c:Nat)(m:Int):Prop:=c=1∨(∃k:Nat,c=2*k+2∧(k:Int)<=m)∨∃k:Nat,c=2*k+3∧m<k
inductive bs(ι:bq):Value->Value->Prop
 |bool (b:Bool):bs ι (.bool b) (.bool b)
 |int (k:IntKind) (n:Int):bs ι (.int k n) (.int k n)
 |float (k:FloatKind) (b:Nat):bs ι (.float k b) (.float k b)
 |string (s:ByteArray):bs ι (.string s) (.string s)
 |l6:bs ι (.pointer none) (.pointer none)
 |ptr (a:Addr) (l:Loc) (h:ι a.block=some l) (ak:a.spot=none):bs ι (.pointer (some a)) (.pointer (some ⟨l.cU,l.cW+a.off,none⟩))
 |l8 (n c:Nat):bs ι (.slice none n c) (.slice none n c)
 |gk (a:Addr) (l:Loc) (o n c:Nat) (h:ι a.block=some l) (ak:a.spot=none) (ao:o=l.cW+a.off∨(n=0∧c=0∧l.ex=0)):
  bs ι (.slice (some a) n c) (.slice (some ⟨l.cU,o,none⟩) n (c+l.ex))
 |m9:bs ι (.map none) (.map none)
 |map (r b:Nat) (bW:Nat->Nat) (h:ι r=some ⟨b,0,0,bW⟩):bs ι (.map (some r)) (.map (some b))
 |func (f g:Fn) (xs av us vs:Array Value) (af:wz ι f g) (J:xs.size=av.size) (U:∀i (h:i<xs.size) (aL:i<av.size),bs ι xs[i] av[i])
  (ah:us.size=vs.size) (aC:∀i (h:i<us.size) (aL:i<vs.size),bs ι us[i] vs[i]):bs ι (.func f xs us) (.func g av vs)
 |nilFunc:bs ι .nilFunc .nilFunc
 |iface (t:TypeId) (v w:Value) (h:bs ι v w):bs ι (.iface t v) (.iface t w)
 |nilIface:bs ι .nilIface .nilIface
 |agg (xs av:Array Value) (J:xs.size=av.size) (U:∀i (h:i<xs.size) (aL:i<av.size),bs ι xs[i] av[i]):bs ι (.agg xs) (.agg av)
 |tuple (xs av:Array Value) (J:xs.size=av.size) (U:∀i (h:i<xs.size) (aL:i<av.size),bs ι xs[i] av[i]):bs ι (.tuple xs) (.tuple av)
 |sh (c:Nat) (m:Int) (h:Lf c m):bs ι (.chan (some c)) (.int .i64 m)
 |top (c:Value):bs ι jf c
theorem wz.mono{ι aM:bq}(hle:ι.le aM){f g:Fn}(h:wz ι f g):wz aM f g:=by
 rcases h with h|⟨l,b,J,U,ah⟩
 ·exact .inl h
 ·exact .inr ⟨l,b,J,U,hle _ _ ah⟩
theorem bs.mono{ι aM:bq}(hle:ι.le aM){v w:Value}(h:bs ι v w):bs aM v w:=by
 induction h with
 |bool b=>exact .bool b
 |int k n=>exact .int k n
 |float k n=>exact .float k n
 |string s=>exact .string s
 |l6=>exact .l6
 |ptr a l h ak=>exact .ptr a l (hle _ _ h) ak
 |l8 n c=>exact .l8 n c
 |gk a l o n c h ak ao=>exact .gk a l o n c (hle _ _ h) ak ao
 |m9=>exact .m9
 |map r b bW h=>exact .map r b bW (hle _ _ h)
 |func f g xs av us vs af J _ ah _ lv rL=>exact .func f g xs av us vs (af.mono hle) J lv ah rL
 |nilFunc=>exact .nilFunc
 |iface t v w _ bb=>exact .iface t v w bb
 |nilIface=>exact .nilIface
 |agg xs av J _ bb=>exact .agg xs av J bb
 |tuple xs av J _ bb=>exact .tuple xs av J bb
 |sh c m h=>exact .sh c m h
 |top c=>exact .top c
def bF(ι:bq)(xs av:List Value):Prop:=xs.length=av.length∧∀(i:Nat) (h:i<xs.length) (aL:i<av.length),bs ι xs[i] av[i]
theorem bF.mono{ι aM:bq}(hle:ι.le aM){xs av:List Value}(h:bF ι xs av):bF aM xs av:=⟨h.1,fun i a b=>(h.2 i a b).mono hle⟩
theorem bF.nil(ι:bq):bF ι [] []:=⟨rfl,fun i h=>by simp at h⟩
theorem bF.cons{ι:bq}{x y:Value}{xs av:List Value}(h:bs ι x y)(ak:bF ι xs av):bF ι (x::xs) (y::av):=by
 refine⟨by simp[ak.1],fun i a b=> ?_⟩;cases i with
 |zero=>exact h
 |succ i=>exact ak.2 i (by simpa using a) (by simpa using b)
theorem bF.cons_inv{ι:bq}{x:Value}{xs av:List Value}(h:bF ι (x::xs) av):∃y im,av=y::im∧bs ι x y∧bF ι xs im:=by
 cases av with
 |nil=>have:=h.1;simp at this
 |cons y im=>
  refine⟨y,im,rfl,h.2 0 (by simp) (by simp),by simpa using h.1,fun i a b=> ?_⟩;exact h.2 (i+1) (by simpa using a) (by simpa using b)
theorem bF.tl{ι:bq}{av:List Value}(h:bF ι [] av):av=[]:=by
 cases av with
 |nil=>rfl
 |cons y av=>have:=h.1;simp at this
theorem bF.append{ι:bq}:∀{xs av us vs:List Value},bF ι xs av->bF ι us vs->bF ι (xs++us) (av++vs)
 |[],av,us,vs,h,aL=>by rw[h.tl];simpa using aL
 |x::xs,av,us,vs,h,aL=>by
  obtain⟨y,im,rfl,J,U⟩:=h.cons_inv;simpa using bF.cons J (U.append aL)
theorem bF.drop{ι:bq}:∀(n:Nat) {xs av:List Value},bF ι xs av->bF ι (xs.drop n) (av.drop n)
 |0,_,_,h=>by simpa using h
 |n+1,[],av,h=>by rw[h.tl];simpa using bF.nil ι
 |n+1,x::xs,av,h=>by
  obtain⟨y,im,rfl,_,U⟩:=h.cons_inv;simpa using U.drop n
theorem bF.take{ι:bq}:∀(n:Nat) {xs av:List Value},bF ι xs av->bF ι (xs.take n) (av.take n)
 |0,_,_,_=>by simpa using bF.nil ι
 |n+1,[],av,h=>by rw[h.tl];simpa using bF.nil ι
 |n+1,x::xs,av,h=>by
  obtain⟨y,im,rfl,J,U⟩:=h.cons_inv;simpa using bF.cons J (U.take n)
theorem bs.x9{ι:bq}{xs av:Array Value}(h:bF ι xs.toList av.toList):bs ι (.agg xs) (.agg av):=
 .agg xs av (by simpa using h.1) fun i a b=>by have:=h.2 i (by simpa using a) (by simpa using b);rwa [Array.getElem_toList,Array.getElem_toList]at this
theorem bs.nf{ι:bq}{xs av:Array Value}(h:bF ι xs.toList av.toList):bs ι (.tuple xs) (.tuple av):=
 .tuple xs av (by simpa using h.1) fun i a b=>by have:=h.2 i (by simpa using a) (by simpa using b);rwa [Array.getElem_toList,Array.getElem_toList]at this
theorem bF.tp{ι:bq}{xs av:Array Value}(J:xs.size=av.size)(U:∀i (h:i<xs.size) (aL:i<av.size),bs ι xs[i] av[i]):bF ι xs.toList av.toList:=
 ⟨by simpa using J,fun i a b=>by have:=U i (by simpa using a) (by simpa using b);rwa [<-Array.getElem_toList,<-Array.getElem_toList]at this⟩
theorem bs.EE{ι:bq}{f g:Fn}{xs av us vs:Array Value}(af:wz ι f g)(h:bF ι xs.toList av.toList)(aL:bF ι us.toList vs.toList):bs ι (.func f xs us) (.func g av vs):=
 .func f g xs av us vs af (by simpa using h.1) (fun i a b=>by have:=h.2 i (by simpa using a) (by simpa using b);rwa [Array.getElem_toList,Array.getElem_toList]at this) (by simpa using aL.1) (fun i a b=>by have:=aL.2 i (by simpa using a) (by simpa using b);rwa [Array.getElem_toList,Array.getElem_toList]at this)
theorem bF.cells{ι:bq}{v w:Value}(h:bs ι v w)(hp:v≠jf):bF ι v.cells.toList w.cells.toList:=by
 cases h<;>first
  |exact absurd rfl hp
  |(rename_i xs av J U;exact bF.tp J U)
  |(simp only[Value.cells];refine bF.cons ?_ (bF.nil ι);constructor<;>assumption)
end Go.az
namespace Go.az
section
variable{α β:Type}{r z:β}
theorem n6{v:Value}{k:Option Addr->β}(h:hP v k z=r)(a8:z≠r):∃p,v= .pointer p∧k p=r:=by
 cases v<;>first|exact absurd h a8|exact⟨_,rfl,h⟩
theorem iF{v:Value}{k:IntKind->Int->β}(h:gd v k z=r)(a8:z≠r):∃a n,v= .int a n∧k a n=r:=by
 cases v<;>first|exact absurd h a8|exact⟨_,_,rfl,h⟩
theorem Lg{v:Value}{k:Bool->β}(h:ky v k z=r)(a8:z≠r):∃b,v= .bool b∧k b=r:=by
 cases v<;>first|exact absurd h a8|exact⟨_,rfl,h⟩
theorem n7{v:Value}{k:ByteArray->β}(h:ik v k z=r)(a8:z≠r):∃s,v= .string s∧k s=r:=by
 cases v<;>first|exact absurd h a8|exact⟨_,rfl,h⟩
theorem sj{v:Value}{k:Option Addr->Nat->Nat->β}(h:jh v k z=r)(a8:z≠r):∃a n c,v= .slice a n c∧k a n c=r:=by
 cases v<;>first|exact absurd h a8|exact⟨_,_,_,rfl,h⟩
theorem wg{v:Value}{k:Array Value->β}(h:si v k z=r)(a8:z≠r):∃a,v= .agg a∧k a=r:=by
 cases v<;>first|exact absurd h a8|exact⟨_,rfl,h⟩
theorem Ux{v:Value}{k:Array Value->β}(h:o7 v k z=r)(a8:z≠r):∃a,v= .tuple a∧k a=r:=by
 cases v<;>first|exact absurd h a8|exact⟨_,rfl,h⟩
theorem Lh{v:Value}{k:Fn->Array Value->Array Value->β}(h:yP v k z=r)(a8:z≠r):∃f a b,v= .func f a b∧k f a b=r:=by
 cases v<;>first|exact absurd h a8|exact⟨_,_,_,rfl,h⟩
theorem Li{v:Value}{k:TypeId->Value->β}(h:wh v k z=r)(a8:z≠r):∃t x,v= .iface t x∧k t x=r:=by
 cases v<;>first|exact absurd h a8|exact⟨_,_,rfl,h⟩
theorem fC{o:Option α}{k:α->β}(h:bo o k z=r)(a8:z≠r):∃a,o=some a∧k a=r:=by
 cases o<;>first|exact absurd h a8|exact⟨_,rfl,h⟩
theorem x2{o:Option α}{k:α->β}(h:bo o k z=r)(ae:∀a,k a≠r):o=none∧z=r:=by
 cases o<;>first|exact⟨rfl,h⟩|exact absurd h (ae _)
theorem lB{n:Int}{k:Nat->β}(h:gW n k z=r)(a8:z≠r):∃m:Nat,n=(m:Int)∧k m=r:=by
 cases n with
 |ofNat m=>exact⟨m,rfl,h⟩
 |negSucc m=>exact absurd h a8
theorem kF{a b:Nat}:Nat.ble a b=true↔a<=b:=by simp
theorem nQ(a b:Nat)(x y:β):ey a b x y=if a<=b then x else y:=by
 unfold ey;by_cases h:a<=b
 ·rw[if_pos h,kF.2 h];rfl
 ·rw[if_neg h];have:Nat.ble a b=false:=by rw[Bool.eq_false_iff];intro hh;exact h (kF.1 hh)
  rw[this];rfl
theorem mW(a b:Nat)(x y:β):ea a b x y=if a=b then x else y:=by
 unfold ea;by_cases h:a=b
 ·rw[if_pos h,h,Nat.beq_refl];rfl
 ·rw[if_neg h];have:Nat.beq a b=false:=by rw[Bool.eq_false_iff];intro hh;exact h (dY hh)
  rw[this];rfl
theorem iC{a b:Nat}{x:β}(h:ey a b x z=r)(a8:z≠r):a<=b∧x=r:=by
 rw[nQ]at h;split at h
 ·exact⟨by assumption,h⟩
 ·exact absurd h a8
theorem jD{a b:Nat}{x:β}(h:ea a b x z=r)(a8:z≠r):a=b∧x=r:=by
 rw[mW]at h;split at h
 ·exact⟨by assumption,h⟩
 ·exact absurd h a8
theorem hU{b:Bool}{x:β}(h:cond b x z=r)(a8:z≠r):b=true∧x=r:=by
 cases b
 ·exact absurd h a8
 ·exact⟨rfl,h⟩
theorem xX{b:Bool}{x:β}(h:cond b z x=r)(a8:z≠r):b=false∧x=r:=by
 cases b
 ·exact⟨rfl,h⟩
 ·exact absurd h a8
@[simp] theorem fx:∀l:List α,ef l=l.length
 |[]=>rfl
 |x::xs=>by show Nat.succ (ef xs)=_;rw[fx xs];rfl
@[simp] theorem pf (m:List α):∀l:List α,gL l m=l++m
 |[]=>rfl
 |x::xs=>by show x::gL xs m=_;rw[pf m xs];rfl
@[simp] theorem zF:∀(n:Nat) (l:List α),Hr n l=l.drop n
 |0,l=>rfl
 |n+1,[]=>rfl
 |n+1,x::xs=>by show Hr n xs=_;rw[zF n xs];rfl
theorem BS:∀(n:Nat) (l:List α),K3 n l=if n<=l.length then some (l.take n)else none
 |0,l=>by rw[if_pos (Nat.zero_le _)];rfl
 |n+1,[]=>rfl
 |n+1,x::xs=>by
  show Option.rec (motive:=fun _=>Option (List α)) none (fun r=>some (x::r)) (K3 n xs)=_;rw[BS n xs];by_cases h:n<=xs.length
  ·rw[if_pos h,if_pos (by simpa using h)];rfl
  ·rw[if_neg h,if_neg (by simpa using h)]
theorem yb{l:List α}{k:α->β}(h:one l k z=r)(a8:z≠r):∃x,l=[x]∧k x=r:=by
 cases l with
 |nil=>exact absurd h a8
 |cons x xs=>
  cases xs with
  |nil=>exact⟨x,rfl,h⟩
  |cons y av=>exact absurd h a8
theorem sH{l:List α}{off n:Nat}{k:List α->β}(h:hV l off n k z=r)(a8:z≠r):n<=(l.drop off).length∧k ((l.drop off).take n)=r:=by
 unfold hV at h;rw[zF,BS]at h;split at h
 ·exact⟨by assumption,h⟩
 ·exact absurd h a8
theorem pM:∀(l:List α) (n:Nat) (vs:List α) (k:List α->β) (z:β),
 oX l n vs k z=if n+vs.length<=l.length then k (l.take n++(vs++l.drop (n+vs.length)))else if vs=[]then k l else z
 |[],n,[],k,z=>by
  by_cases h:n=0
  ·subst h;rfl
  ·rw[if_neg (by simpa using h),if_pos rfl];rfl
 |[],n,v::vs,k,z=>by rw[if_neg (by simp),if_neg (by simp)];rfl
 |y::av,0,[],k,z=>by rw[if_pos (by simp)];rfl
 |y::av,0,v::vs,k,z=>by
  show oX av 0 vs (fun l'=>k (v::l')) z=_;rw[pM av 0 vs];by_cases h:vs.length<=av.length
  ·have J:0+vs.length<=av.length:=by omega
   have U:0+(v::vs).length<=(y::av).length:=by simp only[List.length_cons];omega
   rw[if_pos J,if_pos U];simp
  ·have J:¬0+vs.length<=av.length:=by omega
   have U:¬0+(v::vs).length<=(y::av).length:=by simp only[List.length_cons];omega
   have ah:vs≠[]:=by intro e;subst e;simp at h
   rw[if_neg J,if_neg U,if_neg ah,if_neg (by simp)]
 |y::av,n+1,vs,k,z=>by
  show oX av n vs (fun l'=>k (y::l')) z=_;rw[pM av n vs];by_cases h:n+vs.length<=av.length
  ·have U:n+1+vs.length<=(y::av).length:=by simp only[List.length_cons];omega
   rw[if_pos h,if_pos U];rw[show n+1+vs.length=(n+vs.length)+1 by omega];simp
  ·have U:¬n+1+vs.length<=(y::av).length:=by simp only[List.length_cons];omega
   rw[if_neg h,if_neg U]
theorem JY{l:List α}{n:Nat}{vs:List α}{k:List α->β}(h:oX l n vs k z=r)(a8:z≠r):
 (n+vs.length<=l.length∧k (l.take n++(vs++l.drop (n+vs.length)))=r)∨(vs=[]∧k l=r):=by
 rw[pM]at h;split at h
 ·exact .inl ⟨by assumption,h⟩
 ·split at h
  ·exact .inr ⟨by assumption,h⟩
  ·exact absurd h a8
theorem sG{st:aw}{a:Addr}{k:List Value->TypeId->Nat×Nat->Bool->β}(h:st.gI a k z=r)(a8:z≠r):
 a.spot=none∧∃cs elem bt aR,st.h.get a.block=some (.cells cs elem bt aR)∧k cs elem bt aR=r:=by
 unfold aw.gI at h;obtain⟨J,U⟩:=x2 h (fun _=>a8);refine⟨J,?_⟩;unfold zr at U;obtain⟨o,ao,ah⟩:=fC U a8;cases o<;>first|exact absurd ah a8|exact⟨_,_,_,_,ao,ah⟩
theorem xN{st:aw}{a:Addr}{n:Nat}{k:List Value->β}(h:st.load a n k z=r)(a8:z≠r):
 a.spot=none∧∃cs elem bt aR,st.h.get a.block=some (.cells cs elem bt aR)∧n<=(cs.drop a.off).length∧k ((cs.drop a.off).take n)=r:=by
 obtain⟨J,cs,e,bt,aR,U,ah⟩:=sG h a8;obtain⟨aC,a5⟩:=sH ah a8;exact⟨J,cs,e,bt,aR,U,aC,a5⟩
theorem jy(st:aw)(id:Nat)(o:bL)(k:aw->β):st.gN id o k=k ⟨st.h.set id o,st.aj⟩:=by
 unfold aw.gN;rw[au.tA,au.nD]
theorem w9(n:Nat)(k:Nat->β):fB n k=k n:=by unfold fB;rw[Nat.beq_refl];rfl
theorem gF(st:aw)(o:bL)(k:Nat->aw->β):st.iS o k=k st.aj ⟨st.h.set st.aj o,st.aj+1⟩:=by
 unfold aw.iS;rw[w9,au.tA,au.nD]
theorem Zr(n:Int)(k:Int->β):N2 n k=k n:=by
 cases n with
 |ofNat m=>exact w9 m (fun m=>k (.ofNat m))
 |negSucc m=>exact w9 m (fun m=>k (.negSucc m))
theorem hB(a:IntKind)(n:Int)(c:Value->β):hi a n c=c (.int a n):=Zr _ _
theorem Ti{st:aw}{a:Addr}{vs:List Value}{k:aw->β}(h:st.store a vs k z=r)(a8:z≠r):
 a.spot=none∧∃cs elem bt aR,st.h.get a.block=some (.cells cs elem bt aR)∧bt.2<=bt.1∧
  ((a.off+vs.length<=cs.length∧k ⟨st.h.set a.block (.cells (cs.take a.off++(vs++cs.drop (a.off+vs.length))) elem bt aR),st.aj⟩=r)∨
   (vs=[]∧k ⟨st.h.set a.block (.cells cs elem bt aR),st.aj⟩=r)):=by
 obtain⟨J,cs,e,bt,aR,U,ah⟩:=sG h a8;obtain⟨aC,a5⟩:=iC ah a8;refine⟨J,cs,e,bt,aR,U,aC,?_⟩;rcases JY a5 a8 with⟨a2,hb⟩|⟨a2,hb⟩
 ·left;refine⟨a2,?_⟩;rw[jy]at hb;exact hb
 ·right;refine⟨a2,?_⟩;rw[jy]at hb;exact hb
end
structure qQ(P:Program)(ι:bq)(w:World)(cs:List Value)(elem:TypeId)(bt:Nat×Nat)(aR:Bool)(l:Loc)(C:Array Value)(er:Nat×Nat):Prop where
 there:w.heap[l.cU]? =some (.cells C elem er)
 room:l.cW+cs.length+l.ex*P.cellsOf elem<=C.size
 cell:∀(i:Nat) (h:i<cs.length),∃c,C[l.cW+i]? =some c∧bs ι cs[i] c
 tV:bt.2<=bt.1->∀i,l.cW<=i->i<l.cW+cs.length+l.ex*P.cellsOf elem->¬(er.1<=i∧i<er.2)
 plain:aR=false->l.ex=0∧l.cW=0∧C.size=cs.length
def yM(t:au Value)(n:Nat):Value:=Option.rec (motive:=fun _=>Value) (.chan (some 0)) (fun v=>v) (t.get n)
def B8:Option ee->Option Code->Prop
 |none,none=>True
 |some (.exit i),some (.exit j)=>i=j
 |some .ret,some .ret=>True
 |_,_=>False
structure LK(bW:Nat->Nat)(clock:Nat):Prop where
 inj:∀s t,s<clock->t<clock->bW s=bW t->s=t
 lt:∀s,s<clock->bW s<bW clock
 up:∀j,bW (clock+j)=bW clock+j
structure h7(ι:bq)(bW:Nat->Nat)(es:List MapEntry)(clock:Nat)(C:List MapEntry)(jC:Nat):Prop where
 iL:jC=bW clock
 n2:LK bW clock
 born:∀e∈es,e.born<clock
 keys:es.Pairwise (fun a b=>a.key≠b.key)
 sE:es.Pairwise (fun a b=>a.born≠b.born)
 same:∃l:List MapEntry,l.Perm es∧l.length=C.length∧∀(i:Nat) (h:i<l.length) (aL:i<C.length),bs ι l[i].key C[i].key∧bs ι l[i].val C[i].val∧C[i].born=bW l[i].born
theorem h7.mono{ι aM:bq}{bW:Nat->Nat}{es:List MapEntry}{clock:Nat}{C:List MapEntry}{jC:Nat}(hle:ι.le aM)(h:h7 ι bW es clock C jC):h7 aM bW es clock C jC:=
 ⟨h.iL,h.n2,h.born,h.keys,h.sE,let⟨l,J,U,ah⟩:=h.same;⟨l,J,U,fun i a b=>⟨(ah i a b).1.mono hle,(ah i a b).2.1.mono hle,(ah i a b).2.2⟩⟩⟩
structure Ctx where
 P:Program
 ok:FuncId->Code->du->Prop
 aB:Nat
 j5:FuncId->Bool
 kq:FuncId->Bool
 A4:∀f,j5 f=true->∀x w,(callFunc f #[x]).run P w= .ok (.value x) w
 AL:∀f,kq f=true->∀s c w,(callFunc f #[.string s,.int .u8 c]).run P w= .ok (.value (goInt (match(List.range s.size).find? (fun i=>s[i]! ==c.toNat.toUInt8)with|some i=>(i:Int)|none=> -1))) w
 keys:TypeId->Option fz
 qt:∀k dq,keys k=some dq->Maps.Keyed P k∧∀v,dq.ok v=true->∃l,keyOf P k v=some l
 nv:FuncId->Bool
 zw:∀f,nv f=true->∀s c w,(callFunc f #[.string s,.int .u8 c]).run P w= .ok (.value (goInt (s.data.toList.countP (fun b=>b==c.toNat.toUInt8):Nat))) w
 nO:FuncId->Bool
 l4:Nat
 A1:l4<aB
 AN:∀f,nO f=true->∀(s b:ByteArray) (m:Int) w,(load ⟨l4,0,none⟩).run P w= .ok (.int .i64 m) w->2<=b.size->(b.size:Int)<=m->s.size<=1000000->
  (callFunc f #[.string s,.string b]).run P w= .ok (.value (goInt (match nj b.data.toList s.data.toList with|some i=>(i:Int)|none=> -1))) w
 eqs:TypeId->Option Nat
 uF:∀t n,eqs t=some n->P.eqGuardType P.depth t=false∧∀xs av b w,xs.size=n->av.size=n->ou xs.toList av.toList=some b->(Op.equalIn 10000 t (.agg xs) (.agg av)).run P w= .ok b w
variable(X:Ctx)
def iI(ι:bq)(w:World)(o:bL)(l:Loc):Prop:=
 match o with
 |.cells cs elem bt aR=>∃C er,qQ X.P ι w cs elem bt aR l C er
 |.map es clock=>l.cW=0∧l.ex=0∧∃C jC,w.heap[l.cU]? =some (.map C jC)∧h7 ι l.bW es clock C.toList jC
 |.SQ s pos=>l.cW=0∧l.ex=0∧w.heap[l.cU]? =some (.stringIter s pos)
 |.oU m since seen l9=>l.cW=0∧l.ex=0∧∃fL BL k6 xK,w.heap[l.cU]? =some (.mapIter fL BL k6 xK)∧
  (m=none∧fL=none∨∃r b bW,m=some r∧fL=some b∧ι r=some ⟨b,0,0,bW⟩∧BL=bW since∧k6.toList=seen.map bW∧xK=bW l9)
 |.loop s fO fn t ps dy body d=>l.cW=0∧l.ex=0∧∃L:Loop,w.heap[l.cU]? =some (.loop L)∧L.state=s∧B8 fO L.pending∧L.fn=fn∧
  (∀n,bs ι (yM t n) (L.tmps.getD n undef))∧L.params.toList=ps∧X.ok fn L.assign dy∧X.ok fn L.body body∧ι d=some ⟨L.defers,0,0,id⟩∧
  (∃F,X.P.funcs[fn]? =some F∧L.tmps.size=F.ntmps)∧∀t∈ps,t<L.tmps.size
 |.h9 calls=>l.cW=0∧l.ex=0∧((calls=some []∧w.heap[l.cU]? =some (.deferred (some [])))∨(calls=none∧w.heap[l.cU]? =some (.deferred none)))
 |.dead=>True
def bL.sP:bL->Prop
 |.cells _ _ bt aR=>aR=false∧bt.1<bt.2
 |_=>False
structure bp(ι:bq)(st:aw)(w:World):Prop where
 eu:∀id o,st.h.get id=some o->o≠.dead->∃l,ι id=some l∧iI X ι w o l
 inj:∀i j o p l m,st.h.get i=some o->o≠.dead->st.h.get j=some p->p≠.dead->ι i=some l->ι j=some m->l.cU=m.cU->i=j
 fresh:∀id,st.aj<=id->ι id=none∧st.h.get id=none
 gh:∀id l,ι id=some l->l.cU<w.heap.size
 kL:∀g,g<X.aB->ι g=some ⟨g,0,0,jX⟩
 nG:X.aB<=st.aj
 k3:∀i l o,ι i=some l->l.bW=jX->st.h.get i=some o->o≠.dead->o.sP
def o9(w w':World):Prop:=w'.os=w.os∧w'.output=w.output
structure eV(ι aM:bq)(w w':World):Prop where
 le:ι.le aM
 size:w.heap.size<=w'.heap.size
 kept:∀b,b<w.heap.size->(∀id l,ι id=some l->l.bW≠jX->l.cU≠b)->w'.heap[b]? =w.heap[b]?
 new:∀id l,aM id=some l->ι id=some l∨w.heap.size<=l.cU∨∃j m,ι j=some m∧m.bW≠jX∧m.cU=l.cU
 gw:o9 w w'
theorem eV.refl(ι:bq)(w:World):eV ι ι w w:=⟨.refl ι,cd _,fun _ _ _=>rfl,fun _ _ h=>.inl h,⟨rfl,rfl⟩⟩
theorem eV.trans{ι aM dB:bq}{w w' iW:World}(h:eV ι aM w w')(aL:eV aM dB w' iW):eV ι dB w iW:=by
 refine⟨h.le.trans aL.le,Nat.le_trans h.size aL.size,fun b hb ag=> ?_,fun id l hl=> ?_,⟨aL.gw.1.trans h.gw.1,aL.gw.2.trans h.gw.2⟩⟩
 ·rw[aL.kept b (gf hb h.size) ?_,h.kept b hb ag];intro id l hl ak e;rcases h.new id l hl with hn|hn|⟨j,m,hj,e9,hm⟩
  ·exact ag id l hn ak e
  ·omega
  ·exact ag j m hj e9 (by omega)
 ·rcases aL.new id l hl with hn|hn|⟨j,m,hj,ak,hm⟩
  ·exact h.new id l hn
  ·exact .inr (.inl (Nat.le_trans h.size hn))
  ·rcases h.new j m hj with J|J|⟨IX,fL,J,U,ah⟩
   ·exact .inr (.inr ⟨j,m,J,ak,hm⟩)
   ·exact .inr (.inl (by omega))
   ·exact .inr (.inr ⟨IX,fL,J,U,by omega⟩)
theorem qQ.mono{P:Program}{ι aM:bq}{w w':World}{cs:List Value}{elem:TypeId}{bt:Nat×Nat}{aR:Bool}{l:Loc}{C:Array Value}{er:Nat×Nat}
 (h:qQ P ι w cs elem bt aR l C er) (hle:ι.le aM) (e:w'.heap[l.cU]? =w.heap[l.cU]?):qQ P aM w' cs elem bt aR l C er:=
 ⟨by rw[e];exact h.there,h.room,fun i ag=>let⟨c,J,U⟩:=h.cell i ag;⟨c,J,U.mono hle⟩,h.tV,h.plain⟩
theorem iI.mono{ι aM:bq}{w w':World}{o:bL}{l:Loc}(h:iI X ι w o l)(hle:ι.le aM)(e:w'.heap[l.cU]? =w.heap[l.cU]?):iI X aM w' o l:=by
 cases o with
 |cells cs elem bt aR=>obtain⟨C,er,hc⟩:=h;exact⟨C,er,hc.mono hle e⟩
 |map es clock=>
  obtain⟨h0,jo,C,bE,J,U⟩:=h;exact⟨h0,jo,C,bE,by rw[e];exact J,U.mono hle⟩
 |SQ s pos=>obtain⟨h0,jo,J⟩:=h;exact⟨h0,jo,by rw[e];exact J⟩
 |oU m since seen l9=>
  obtain⟨h0,jo,fL,br,cI,gO,J,U⟩:=h;refine⟨h0,jo,fL,br,cI,gO,by rw[e];exact J,?_⟩;rcases U with U|⟨r,b,bW,ah,aC,a5,ch⟩
  ·exact .inl U
  ·exact .inr ⟨r,b,bW,ah,aC,hle _ _ a5,ch⟩
 |loop s fO fn t ps dy body d=>
  obtain⟨h0,jo,L,J,U,ah,aC,a5,ch,cV,fG,g1,po⟩:=h;exact⟨h0,jo,L,by rw[e];exact J,U,ah,aC,fun n=>(a5 n).mono hle,ch,cV,fG,hle _ _ g1,po⟩
 |h9 calls=>
  obtain⟨h0,jo,J⟩:=h;refine⟨h0,jo,?_⟩;rw[e];exact J
 |dead=>trivial
theorem bp.tL{ι:bq}{st:aw}{w w':World}(h:bp X ι st w)(e:w'.heap=w.heap):bp X ι st w':=by
 refine⟨fun id o ao ax=> ?_,h.inj,h.fresh,fun id l hl=>by rw[e];exact h.gh id l hl,h.kL,h.nG,h.k3⟩;obtain⟨l,hl,hm⟩:=h.eu id o ao ax;exact⟨l,hl,iI.mono X hm (.refl ι) (by rw[e])⟩
theorem eV.tL(ι:bq){w w':World}(e:w'.heap=w.heap)(gw:o9 w w':=by exact⟨rfl,rfl⟩):eV ι ι w w':=
 ⟨.refl ι,by rw[e];exact cd _,fun _ _ _=>by rw[e],fun _ _ h=>.inl h,gw⟩
def g8(ι:bq)(id:Nat)(l:Loc):bq:=fun i=>if i=id then some l else ι i
theorem bp.alloc{ι:bq}{st:aw}{w:World}(h:bp X ι st w)(o:bL)(O:Obj)(ex:Nat)
 (hm:∀aM w',ι.le aM->aM st.aj=some ⟨w.heap.size,0,ex,id⟩->w'.heap[w.heap.size]? =some O->iI X aM w' o ⟨w.heap.size,0,ex,id⟩) (w':World) (hw:w'.heap=w.heap.push O) (gw:o9 w w':=by exact⟨rfl,rfl⟩):
 ∃aM,bp X aM ⟨st.h.set st.aj o,st.aj+1⟩ w'∧eV ι aM w w'∧aM st.aj=some ⟨w.heap.size,0,ex,id⟩∧aM=g8 ι st.aj ⟨w.heap.size,0,ex,id⟩:=by
 refine⟨fun i=>if i=st.aj then some ⟨w.heap.size,0,ex,id⟩else ι i,?_,?_,if_pos rfl,rfl⟩
 ·have hle:ι.le (fun i=>if i=st.aj then some ⟨w.heap.size,0,ex,id⟩else ι i):=by
   intro i l hl;show(if i=st.aj then _ else ι i)=_;rw[if_neg];exact hl;intro e;subst e;rw[(h.fresh _ (cd _)).1]at hl;cases hl
  refine⟨fun id p hp ax=> ?_,fun i j p q l m ag gU hj hf gA hy e=> ?_,fun id mx=> ?_,fun id l hl=> ?_,fun g aZ=> ?_,Nat.le_succ_of_le h.nG,fun i l p hl ak hp ax=> ?_⟩
  ·rw[au.eI]at hp;by_cases e:id=st.aj
   ·rw[if_pos e]at hp;cases hp;subst e;exact⟨_,if_pos rfl,hm _ _ hle (if_pos rfl) (by rw[hw];simp)⟩
   ·rw[if_neg e]at hp;obtain⟨l,hl,ao⟩:=h.eu id p hp ax;refine⟨l,hle _ _ hl,iI.mono X ao hle ?_⟩;have:=h.gh id l hl;rw[hw,Array.getElem?_push,if_neg (by omega)]
  ·rw[au.eI]at ag hj;by_cases nz:i=st.aj<;>by_cases iN:j=st.aj
   ·rw[nz,iN]
   ·exfalso;simp only[if_neg iN]at hy;simp only[if_pos nz]at gA;have:=h.gh j m hy;cases gA;simp only at e;omega
   ·exfalso;simp only[if_neg nz]at gA;simp only[if_pos iN]at hy;have:=h.gh i l gA;cases hy;simp only at e;omega
   ·simp only[if_neg nz]at gA ag;simp only[if_neg iN]at hy hj;exact h.inj i j p q l m ag gU hj hf gA hy e
  ·have aa1:st.aj+1<=id:=mx;have:=h.fresh id (by omega);refine⟨?_,?_⟩
   ·show(if id=st.aj then _ else ι id)=_;rw[if_neg (by omega)];exact this.1
   ·rw[au.eI,if_neg (by omega)];exact this.2
  ·rw[hw,Array.size_push];by_cases e:id=st.aj
   ·simp only[if_pos e]at hl;cases hl;simp
   ·simp only[if_neg e]at hl;have:=h.gh id l hl;omega
  ·exact hle _ _ (h.kL g aZ)
  ·rw[au.eI]at hp;by_cases e:i=st.aj
   ·simp only[if_pos e]at hl;cases hl;exact absurd ak IM
   ·simp only[if_neg e]at hl hp;exact h.k3 i l p hl ak hp ax
 ·refine⟨?_,by rw[hw];simp,fun b hb _=>by rw[hw,Array.getElem?_push,if_neg (by omega)],fun id l hl=> ?_,gw⟩
  ·intro i l hl;show(if i=st.aj then _ else ι i)=_;rw[if_neg];exact hl;intro e;subst e;rw[(h.fresh _ (cd _)).1]at hl;cases hl
  ·by_cases e:id=st.aj
   ·simp only[if_pos e]at hl;cases hl;exact .inr (.inl (cd _))
   ·simp only[if_neg e]at hl;exact .inl hl
theorem bp.sg{ι:bq}{st:aw}{w:World}(h:bp X ι st w){id:Nat}{l:Loc}{lE:bL}(h₀:st.h.get id=some lE)(rv:lE≠.dead)(Io:¬lE.sP)(hl:ι id=some l)(o:bL)(O:Obj)
 (w':World) (hw:w'.heap=w.heap.setIfInBounds l.cU O) (hm:o≠.dead->w'.heap[l.cU]? =some O->iI X ι w' o l) (gw:o9 w w':=by exact⟨rfl,rfl⟩):
 bp X ι ⟨st.h.set id o,st.aj⟩ w'∧eV ι ι w w':=by
 have hb:=h.gh id l hl;have pB:l.bW≠jX:=fun e=>Io (h.k3 id l lE hl e h₀ rv);refine⟨⟨fun j p hp ax=> ?_,fun i j p q a b ag gU hj hf gA hy e=> ?_,fun j hj=> ?_,fun j a a2=> ?_,h.kL,h.nG,fun j a p a2 ak hp ax=> ?_⟩,?_⟩
 ·rw[au.eI]at hp;by_cases e:j=id
  ·rw[if_pos e]at hp;cases hp;subst e;exact⟨l,hl,hm ax (by rw[hw];simp[hb])⟩
  ·rw[if_neg e]at hp;obtain⟨m,kU,ao⟩:=h.eu j p hp ax;refine⟨m,kU,iI.mono X ao (.refl ι) ?_⟩;have cx:m.cU≠l.cU:=fun ny=>e (h.inj j id p lE m l hp ax h₀ rv kU hl ny);rw[hw,Array.getElem?_setIfInBounds_ne (Ne.symm cx)]
 ·rw[au.eI]at ag hj;have ZD:∃dL,st.h.get i=some dL∧dL≠.dead:=by
   by_cases e:i=id
   ·subst e;exact⟨lE,h₀,rv⟩
   ·rw[if_neg e]at ag;exact⟨p,ag,gU⟩
  have ZF:∃dL,st.h.get j=some dL∧dL≠.dead:=by
   by_cases e:j=id
   ·subst e;exact⟨lE,h₀,rv⟩
   ·rw[if_neg e]at hj;exact⟨q,hj,hf⟩
  obtain⟨dL,s5,xz⟩:=ZD;obtain⟨fq,py,s6⟩:=ZF;exact h.inj i j dL fq a b s5 xz py s6 gA hy e
 ·have:=h.fresh j hj;refine⟨this.1,?_⟩;rw[au.eI,if_neg];exact this.2;intro e;subst e;rw[this.2]at h₀;cases h₀
 ·rw[hw];simpa using h.gh j a a2
 ·rw[au.eI]at hp;by_cases e:j=id
  ·subst e;rw[hl]at a2;cases a2;exact absurd ak pB
  ·rw[if_neg e]at hp;exact h.k3 j a p a2 ak hp ax
 ·refine⟨.refl ι,by rw[hw];simp,fun b _ ag=> ?_,fun _ _ hh=>.inl hh,gw⟩;rw[hw,Array.getElem?_setIfInBounds_ne (ag id l hl pB)]
end Go.az
namespace Go.az
mutual
def jj:Value->Bool
 |.bool _|.int _ _|.float _ _|.string _|.pointer none|.slice none _ _|.map none|.nilFunc|.nilIface=>true
 |.func (.func _) x y=>BX x&&BX y
 |.iface _ v=>jj v
 |.agg a|.tuple a=>BX a
 |_=>false
def BX:Array Value->Bool
 |⟨a⟩=>lN a
def lN:List Value->Bool
 |[]=>true
 |a::as=>jj a&&lN as
end
mutual
theorem bs.pure(ι:bq):∀v:Value,jj v=true->bs ι v v
 |.bool b,_=>.bool b
 |.int k n,_=>.int k n
 |.float k n,_=>.float k n
 |.complex _ _ _,h=>by simp[jj]at h
 |.string s,_=>.string s
 |.pointer none,_=>.l6
 |.pointer (some _),h=>by simp[jj]at h
 |.slice none n c,_=>.l8 n c
 |.slice (some _) _ _,h=>by simp[jj]at h
 |.map none,_=>.m9
 |.map (some _),h=>by simp[jj]at h
 |.chan _,h=>by simp[jj]at h
 |.func (.func f) x y,h=>by
  simp only[jj,b2]at h;exact bs.EE (.inl ⟨rfl,by simp⟩) (bF.pL ι x h.1) (bF.pL ι y h.2)
 |.func (.method _) _ _,h=>by simp[jj]at h
 |.func (.methodOf _ _) _ _,h=>by simp[jj]at h
 |.func (.via _ _ _ _) _ _,h=>by simp[jj]at h
 |.func (.yield _) _ _,h=>by simp[jj]at h
 |.nilFunc,_=>.nilFunc
 |.iface t v,h=>.iface t v v (bs.pure ι v (by simpa[jj]using h))
 |.nilIface,_=>.nilIface
 |.agg a,h=>bs.x9 (bF.pL ι a (by simpa[jj]using h))
 |.tuple a,h=>bs.nf (bF.pL ι a (by simpa[jj]using h))
theorem bF.pL(ι:bq):∀v:Array Value,BX v=true->bF ι v.toList v.toList
 |⟨a⟩,h=>bF.vL ι a (by simpa[BX]using h)
theorem bF.vL(ι:bq):∀v:List Value,lN v=true->bF ι v v
 |[],_=>bF.nil ι
 |a::as,h=>by
  simp only[lN,b2]at h;exact bF.cons (bs.pure ι a h.1) (bF.vL ι as h.2)
end
theorem bs.undef(ι:bq):bs ι undef undef:=bs.pure ι _ rfl
def cO(aB:Nat):Operand->Bool
 |.tmp _=>true
 |.const v=>jj v
 |.global g=>Nat.ble (Nat.succ g) aB
 |.func _=>true
def B6(ι:bq)(d e:Deferred):Prop:=
 bF ι d.args.toList e.args.toList∧
 match d.target,e.target with
 |.fn f c,.fn g bE=>wz ι f g∧bF ι c.toList bE.toList
 |.collected r,.collected b=>ι r=some ⟨b,0,0,id⟩
 |_,_=>False
def qR(ι:bq):List Deferred->List Deferred->Prop
 |[],[]=>True
 |d::ds,e::es=>B6 ι d e∧qR ι ds es
 |_,_=>False
theorem B6.mono{ι aM:bq}(hle:ι.le aM){d e:Deferred}(h:B6 ι d e):B6 aM d e:=by
 obtain⟨J,U⟩:=h;refine⟨J.mono hle,?_⟩;cases ax:d.target<;>cases he:e.target<;>simp only[ax,he]at U⊢
 ·exact⟨U.1.mono hle,U.2.mono hle⟩
 ·exact hle _ _ U
theorem qR.mono{ι aM:bq}(hle:ι.le aM):∀{ds es:List Deferred},qR ι ds es->qR aM ds es
 |[],[],_=>trivial
 |_::_,_::_,h=>⟨h.1.mono hle,qR.mono hle h.2⟩
 |[],_::_,h=>h.elim
 |_::_,[],h=>h.elim
structure cE(ι:bq)(fr:aQ)(a:Act)(ay:Nat):Prop where
 tmp:∀t,bs ι (fr.tmp t) (a.tmps.getD t undef)
 size:a.tmps.size=ay
 c8:qR ι fr.c8 a.defers
theorem cE.mono{ι aM:bq}(hle:ι.le aM){fr:aQ}{a:Act}{ay:Nat}(h:cE ι fr a ay):cE aM fr a ay:=
 ⟨fun t=>(h.tmp t).mono hle,h.size,h.c8.mono hle⟩
variable{X:Ctx}
theorem cE.an{ι:bq}{fr:aQ}{a:Act}{ay:Nat}{st:aw}{w:World}(h:cE ι fr a ay)(hw:bp X ι st w){x:Operand}(aa:cO X.aB x=true):bs ι (fr.an x) (a.eval x):=by
 cases x with
 |tmp t=>exact h.tmp t
 |const v=>exact bs.pure ι v aa
 |global g=>
  have aZ:g<X.aB:=kF.1 aa;have:=bs.ptr (ι:=ι) ⟨g,0,none⟩ ⟨g,0,0,jX⟩ (hw.kL g aZ) rfl;show bs ι (.pointer (some ⟨g,0,none⟩)) (.pointer (some ⟨g,0,none⟩));simpa using this
 |func f=>exact bs.EE (.inl ⟨rfl,by simp⟩) (bF.nil ι) (bF.nil ι)
theorem cE.put{ι:bq}{fr:aQ}{a:Act}{ay:Nat}(h:cE ι fr a ay){d:Option Tmp}(ax:∀t,d=some t->t<ay){v v':Value}(aD:bs ι v v'):cE ι (fr.put d v) (a.put d v') ay:=by
 cases d with
 |none=>exact h
 |some d=>
  refine⟨fun t=> ?_,by simp[Act.put,h.size],by rw[(tB fr (some d) v).1];exact h.c8⟩;rw[qO];have bO:d<a.tmps.size:=by rw[h.size];exact ax d rfl
  simp only[Act.put,Option.some.injEq];by_cases e:d=t
  ·subst e;rw[if_pos rfl];simp[Array.getD,bO];exact aD
  ·rw[if_neg e];have:=h.tmp t;simp only[Array.getD_eq_getD_getElem?]at this⊢;rw[Array.getElem?_setIfInBounds_ne e];exact this
def UP(aM:bq)(v:Value)(n:Next):Prop:=(∃v',n= .value v'∧bs aM v v')∨(n= .skip∧v=undef)
def jQ(X:Ctx)(ι:bq)(w:World)(v:Value)(st':aw)(s:Sem Next):Prop:=
 ∃aM n w',s.run X.P w= .ok n w'∧UP aM v n∧bp X aM st' w'∧eV ι aM w w'
def cv(X:Ctx)(ι:bq)(w:World)(v:Value)(st st':aw)(s:Sem Next):Prop:=
 st'=st∧bp X ι st w∧∃v',s.run X.P w= .ok (.value v') w∧bs ι v v'
theorem cv.same{ι:bq}{w:World}{v v':Value}{st:aw}{s:Sem Next}(hw:bp X ι st w)(aF:s.run X.P w= .ok (.value v') w)(aD:bs ι v v'):cv X ι w v st st s:=
 ⟨rfl,hw,v',aF,aD⟩
theorem cv.KU{ι:bq}{w:World}{v:Value}{st st':aw}{s:Sem Next}(h:cv X ι w v st st' s):jQ X ι w v st' s:=by
 obtain⟨rfl,hw,v',aF,aD⟩:=h;exact⟨ι,_,w,aF,.inl ⟨v',rfl,aD⟩,hw,.refl ι w⟩
def qU(X:Ctx)(ι:bq)(w:World)(v:Value)(st st':aw)(s:Sem Next):Prop:=
 ∃o O ex v' w',st'=⟨st.h.set st.aj o,st.aj+1⟩∧o≠.dead∧s.run X.P w= .ok (.value v') w'∧w'.heap=w.heap.push O∧
  bs (g8 ι st.aj ⟨w.heap.size,0,ex,id⟩) v v'∧bp X (g8 ι st.aj ⟨w.heap.size,0,ex,id⟩) st' w'∧eV ι (g8 ι st.aj ⟨w.heap.size,0,ex,id⟩) w w'
theorem qU.KU{ι:bq}{w:World}{v:Value}{st st':aw}{s:Sem Next}(h:qU X ι w v st st' s):jQ X ι w v st' s:=by
 obtain⟨o,O,ex,v',w',_,_,aF,_,aD,hw,ae⟩:=h;exact⟨_,_,w',aF,.inl ⟨v',rfl,aD⟩,hw,ae⟩
theorem jQ.same{ι:bq}{w:World}{v v':Value}{st:aw}{s:Sem Next}(hw:bp X ι st w)(aF:s.run X.P w= .ok (.value v') w)(aD:bs ι v v'):jQ X ι w v st s:=
 ⟨ι,_,w,aF,.inl ⟨v',rfl,aD⟩,hw,.refl ι w⟩
section
variable{ι:bq}{fr aE:aQ}{a:Act}{ay:Nat}{st st':aw}{w:World}{o:Oper}{v:Value}{call:bP}
theorem SO{x:Operand}(aa:cO X.aB x=true)(ao:o.op= .move x∨o.op= .assign x)(af:cE ι fr a ay)(hw:bp X ι st w)(h:Q7 x call fr st= .ok v aE st'):
 aE=fr∧cv X ι w v st st' (execOp a.eval o):=by
 cases h;refine⟨rfl,cv.same (v':=a.eval x) hw ?_ (af.an hw aa)⟩;unfold execOp;rcases ao with ao|ao<;>rw[ao]<;>rfl
theorem alA{c x y:Operand}(hc:cO X.aB c=true)(aa:cO X.aB x=true)(aJ:cO X.aB y=true)(ao:o.op= .pick c x y)(af:cE ι fr a ay)(hw:bp X ι st w)(h:Ra c x y call fr st= .ok v aE st'):
 aE=fr∧cv X ι w v st st' (execOp a.eval o):=by
 obtain⟨t,aX,h⟩:=Lg h (by simp);cases h;have lV:=af.an hw hc;rw[aX]at lV;generalize HY:a.eval c=CO at lV;cases lV;refine⟨rfl,cv.same (v':=if t then a.eval x else a.eval y) hw ?_ ?_⟩
 ·unfold execOp;rw[ao];simp[HY,asBool]
 ·cases t
  ·exact af.an hw aJ
  ·exact af.an hw aa
end
end Go.az
namespace Go.az
variable{X:Ctx}
theorem cell_of{w:World}{b o:Nat}{C:Array Value}{e:TypeId}{bt:Nat×Nat}(h:w.heap[b]? =some (.cells C e bt)):w.cell? ⟨b,o,none⟩=C[o]? :=by
 simp[World.cell?,h]
theorem Zu{w:World}{b o:Nat}{C:Array Value}{e:TypeId}{bt:Nat×Nat}(h:w.heap[b]? =some (.cells C e bt)):w.frozen? ⟨b,o,none⟩=(decide (bt.1<=o)&&decide (o<bt.2)):=by
 obtain⟨bD,ag⟩:=bt;simp[World.frozen?,h]
theorem qQ.row{P:Program}{ι:bq}{w:World}{cs:List Value}{elem:TypeId}{bt:Nat×Nat}{aR:Bool}{l:Loc}{C:Array Value}{er:Nat×Nat}
 (h:qQ P ι w cs elem bt aR l C er) (off n:Nat) (hn:n<=(cs.drop off).length):bF ι ((cs.drop off).take n) ((C.toList.drop (l.cW+off)).take n):=by
 have hlen:(cs.drop off).length=cs.length-off:=by simp
 have oL:=h.room;refine⟨by simp;omega,fun i a b=> ?_⟩;simp only[List.length_take,List.length_drop]at a b;obtain⟨c,J,U⟩:=h.cell (off+i) (by omega);have ag:l.cW+(off+i)<C.size:=(Array.getElem?_eq_some_iff.1 J).1;rw[Array.getElem?_eq_getElem ag]at J;cases J;simp only[List.getElem_take,List.getElem_drop,Array.getElem_toList];have e:l.cW+off+i=l.cW+(off+i):=by omega
 simp only[e];exact U
theorem BE{P:Program}{w:World}{b o n:Nat}{C:Array Value}{e:TypeId}{bt:Nat×Nat}(h:w.heap[b]? =some (.cells C e bt))(hn:o+n<=C.size):
 (loadCells ⟨b,o,none⟩ n).run P w= .ok ((C.toList.drop o).take n).toArray w:=by
 have hl:((C.toList.drop o).take n).length=n:=by simp;omega
 have:=run_loadCells_list (P:=P) w ⟨b,o,none⟩ ((C.toList.drop o).take n) (fun j v hj=>by
  have aa3:j<n:=by
   have:=(List.getElem?_eq_some_iff.1 hj).1;omega
  have aG:(Addr.add ⟨b,o,none⟩ j)=⟨b,o+j,none⟩:=by unfold Addr.add;split<;>simp_all
  rw[aG,cell_of h];rw[List.getElem?_take,if_pos aa3,List.getElem?_drop]at hj;simpa using hj)
 rwa [hl]at this
theorem KP{P:Program}{b o:Nat}{e:TypeId}{bt:Nat×Nat}:∀(vs:List Value) (i:Nat) (C:Array Value) (w:World),w.heap[b]? =some (.cells C e bt)->o+i+vs.length<=C.size->
 (∀v∈vs,v.oneCell'=true)->(∀j,o+i<=j->j<o+i+vs.length->¬(bt.1<=j∧j<bt.2))->
 ∃w',(storeCells ⟨b,o,none⟩ vs i).run P w= .ok () w'∧
  w'.heap=w.heap.setIfInBounds b (.cells (C.toList.take (o+i)++(vs++C.toList.drop (o+i+vs.length))).toArray e bt)∧o9 w w'
 |[],i,C,w,h,hn,_,_=>by
  refine⟨w,rfl,?_,⟨rfl,rfl⟩⟩;have:(C.toList.take (o+i)++([]++C.toList.drop (o+i+([]:List Value).length))).toArray=C:=by simp
  rw[this];apply Array.ext_getElem?;intro j;by_cases iN:b=j
  ·subst iN;have:=(Array.getElem?_eq_some_iff.1 h).1;rw[Array.getElem?_setIfInBounds];simp[this];exact(Array.getElem?_eq_some_iff.1 h).2
  ·rw[Array.getElem?_setIfInBounds_ne iN]
 |v::vs,i,C,w,h,hn,J,af=>by
  simp only[List.length_cons]at hn af;have aG:(Addr.add ⟨b,o,none⟩ i)=⟨b,o+i,none⟩:=by unfold Addr.add;split<;>simp_all
  have bO:o+i<C.size:=by omega
  have hc:w.cell? ⟨b,o+i,none⟩=some C[o+i]:=by rw[cell_of h,Array.getElem?_eq_getElem bO]
  have mw:w.frozen? ⟨b,o+i,none⟩=false:=by
   rw[Zu h];have:=af (o+i) (by omega) (by omega);simp only[Bool.and_eq_false_iff,decide_eq_false_iff_not];omega
  have ak:(store ⟨b,o+i,none⟩ v).run P w= .ok () (w.setCell ⟨b,o+i,none⟩ v):=by
   rw[run_store P w _ v _ (J v (by simp)),hc];simp[mw]
  have hb:=(Array.getElem?_eq_some_iff.1 h).1;have hh:(w.setCell ⟨b,o+i,none⟩ v).heap=w.heap.setIfInBounds b (.cells (C.setIfInBounds (o+i) v) e bt):=by
   simp only[World.setCell];apply Array.ext_getElem?;intro j;rw[Array.getElem?_modify];by_cases iN:b=j
   ·subst iN;rw[if_pos rfl,h,Array.getElem?_setIfInBounds];simp[hb]
   ·rw[if_neg iN,Array.getElem?_setIfInBounds_ne iN]
  have aL:(w.setCell ⟨b,o+i,none⟩ v).heap[b]? =some (.cells (C.setIfInBounds (o+i) v) e bt):=by rw[hh];simp[hb]
  obtain⟨w',aF,ek,gw⟩:=KP (P:=P) (o:=o) vs (i+1) (C.setIfInBounds (o+i) v) (w.setCell ⟨b,o+i,none⟩ v) aL (by simp;omega) (fun x aa=>J x (by simp[aa])) (fun j a c=>af j (by omega) (by omega));refine⟨w',?_,?_,gw⟩
  ·unfold storeCells;rw[aG,Sem.run_bind,ak];exact aF
  ·rw[ek,hh];rw[Array.setIfInBounds_setIfInBounds];congr 3;have mD:(C.setIfInBounds (o+i) v).toList=C.toList.set (o+i) v:=by simp
   rw[mD];have hl:o+i<C.toList.length:=by simpa using bO
   have t1:(C.toList.set (o+i) v).take (o+(i+1))=C.toList.take (o+i)++[v]:=by
    rw[show o+(i+1)=(o+i)+1 by omega,List.take_succ_eq_append_getElem (by simpa using bO),List.take_set_of_le (cd _)];simp
   have t2:(C.toList.set (o+i) v).drop (o+(i+1)+vs.length)=C.toList.drop (o+i+(v::vs).length):=by
    rw[List.drop_set_of_lt (by omega)];congr 1;simp only[List.length_cons];omega
   rw[t1,t2];simp
section
variable{ι:bq}{fr aE:aQ}{a:Act}{ay:Nat}{st st':aw}{w:World}{o:Oper}{v:Value}{call:bP}
def pe:TypeDesc->Bool
 |.struct _|.array _ _=>true
 |_=>false
theorem AP{P:Program}{t:TypeId}{d:TypeDesc}(h:P.underlying t=some d)(w:World):(isAgg t).run P w= .ok (pe d) w:=by
 unfold isAgg;rw[Sem.run_bind,run_underlying h];cases d<;>rfl
theorem iU{P:Program}{t:TypeId}{i:TypeInfo}(h:P.info? t=some i)(w:World):(sizeOf t).run P w= .ok i.size w:=by
 simp[sizeOf,typeInfo,h]
theorem SM{x:Operand}{t:TypeId}{d:TypeDesc}(aa:cO X.aB x=true)(ao:o.op= .load t x)(ax:X.P.underlying t=some d)(nL:pe d=false)
 (af:cE ι fr a ay) (hw:bp X ι st w) (h:EK x call fr st= .ok v aE st'):
 aE=fr∧cv X ι w v st st' (execOp a.eval o):=by
 obtain⟨p,hp,h⟩:=n6 h (by simp);obtain⟨ad,rfl,h⟩:=fC h (by simp);obtain⟨ak,cs,elem,bt,aR,aZ,hn,h⟩:=xN h (by simp);obtain⟨v1,nN,h⟩:=yb h (by simp);cases h;obtain⟨l,hl,C,er,hc⟩:=hw.eu _ _ aZ (by simp);have b4:=af.an hw aa;rw[hp]at b4;generalize cM:a.eval x=fo at b4;cases b4 with
 |ptr _ l' cy e9=>
  rw[hl]at cy;cases cy;have hlen:ad.off<cs.length:=by simp at hn;omega
  have jc:=hc.row ad.off 1 hn;rw[nN]at jc;obtain⟨y,av,aJ,ab6,_⟩:=jc.cons_inv;have oL:=hc.room;have tb:C[l.cW+ad.off]? =some y:=by
   have:=congrArg (fun z=>z[0]?) aJ;simpa using this
  refine⟨rfl,cv.same (v':=y) hw ?_ ab6⟩;unfold execOp;rw[ao];simp only[cM,Instr.loadAt,Instr.sureAddr,loadVar,Sem.run_bind,Sem.run_pure,Result.andThen,AP ax,nL,Bool.false_eq_true,if_false,run_load];rw[cell_of hc.there,tb]
theorem SN{x:Operand}{t:TypeId}{d:TypeDesc}{i:TypeInfo}(aa:cO X.aB x=true)(ao:o.op= .load t x)(ax:X.P.underlying t=some d)(nL:pe d=true)
 (ag:X.P.info? t=some i) (af:cE ι fr a ay) (hw:bp X ι st w) (h:EL i.size x call fr st= .ok v aE st'):
 aE=fr∧cv X ι w v st st' (execOp a.eval o):=by
 obtain⟨p,hp,h⟩:=n6 h (by simp);obtain⟨ad,rfl,h⟩:=fC h (by simp);obtain⟨ak,cs,elem,bt,aR,aZ,hn,h⟩:=xN h (by simp);cases h;obtain⟨l,hl,C,er,hc⟩:=hw.eu _ _ aZ (by simp);have b4:=af.an hw aa;rw[hp]at b4;generalize cM:a.eval x=fo at b4;cases b4 with
 |ptr _ l' cy e9=>
  rw[hl]at cy;cases cy;have jc:=hc.row ad.off i.size hn;have oL:=hc.room;simp only[List.length_drop]at hn;by_cases a8:i.size=0
  ·refine⟨rfl,cv.same (v':=.agg #[]) hw ?_ ?_⟩
   ·unfold execOp;rw[ao];simp only[cM,Instr.loadAt,Instr.sureAddr,loadVar,Sem.run_bind,Sem.run_pure,Result.andThen,AP ax,nL,if_true,iU ag,a8];rfl
   ·rw[a8];exact bs.x9 (by simpa using bF.nil ι)
  refine⟨rfl,cv.same (v':=.agg ((C.toList.drop (l.cW+ad.off)).take i.size).toArray) hw ?_ (bs.x9 (by simpa using jc))⟩;unfold execOp;rw[ao];simp only[cM,Instr.loadAt,Instr.sureAddr,loadVar,Sem.run_bind,Sem.run_pure,Result.andThen,AP ax,nL,if_true,iU ag];rw[BE hc.there (by omega)]
end
theorem KZ{α:Type}(l vs:List α)(n i:Nat)(h:n+vs.length<=l.length):
 (l.take n++(vs++l.drop (n+vs.length)))[i]? =if i<n then l[i]? else if i<n+vs.length then vs[i-n]? else l[i]? :=by
 by_cases J:i<n
 ·rw[if_pos J,List.getElem?_append_left (by simp;omega),List.getElem?_take,if_pos J]
 ·rw[if_neg J,List.getElem?_append_right (by simp;omega)];have e:i-(l.take n).length=i-n:=by simp;omega
  rw[e];by_cases U:i<n+vs.length
  ·rw[if_pos U,List.getElem?_append_left (by omega)]
  ·rw[if_neg U,List.getElem?_append_right (by omega),List.getElem?_drop];congr 1;omega
theorem qQ.store{P:Program}{ι:bq}{w w':World}{cs:List Value}{elem:TypeId}{bt:Nat×Nat}{aR:Bool}{l:Loc}{C:Array Value}{er:Nat×Nat}
 (h:qQ P ι w cs elem bt aR l C er) {off:Nat} {vs fQ:List Value} (hle:off+vs.length<=cs.length) (aD:bF ι vs fQ)
 (hw:w'.heap[l.cU]? =some (.cells (C.toList.take (l.cW+off)++(fQ++C.toList.drop (l.cW+off+fQ.length))).toArray elem er)):
 qQ P ι w' (cs.take off++(vs++cs.drop (off+vs.length))) elem bt aR l (C.toList.take (l.cW+off)++(fQ++C.toList.drop (l.cW+off+fQ.length))).toArray er:=by
 have hlen:=aD.1;have oL:=h.room;have ia:l.cW+cs.length<=C.size:=by
  have:=Nat.le_add_right (l.cW+cs.length) (l.ex*P.cellsOf elem);omega
 have Aj:(cs.take off++(vs++cs.drop (off+vs.length))).length=cs.length:=by simp;omega
 have fa:((C.toList.take (l.cW+off)++(fQ++C.toList.drop (l.cW+off+fQ.length))).toArray).size=C.size:=by simp;omega
 refine⟨hw,by rw[Aj,fa];exact oL,fun i ag=> ?_,fun af j=>by rw[Aj];exact h.tV af j,fun aZ=>by rw[Aj,fa];exact h.plain aZ⟩;have dS:i<cs.length:=by omega
 have aG:=KZ cs vs off i hle;have e2:=KZ C.toList fQ (l.cW+off) (l.cW+i) (by simp;omega);rw[cA ag]at aG;simp only[List.getElem?_toArray];rw[e2];obtain⟨c,J,U⟩:=h.cell i dS;by_cases fj:i<off
 ·rw[if_pos fj,cA dS]at aG;rw[if_pos (by omega)];refine⟨c,by simpa using J,?_⟩;rw[Option.some.inj aG];exact U
 ·by_cases gm:i<off+vs.length
  ·rw[if_neg fj,if_pos gm,cA (by omega)]at aG;rw[if_neg (by omega),if_pos (by omega)];have cw:l.cW+i-(l.cW+off)=i-off:=by omega
   rw[cw,cA (by omega)];refine⟨_,rfl,?_⟩;rw[Option.some.inj aG];exact aD.2 (i-off) (by omega) (by omega)
  ·rw[if_neg fj,if_neg gm,cA dS]at aG;rw[if_neg (by omega),if_neg (by omega)];refine⟨c,by simpa using J,?_⟩;rw[Option.some.inj aG];exact U
theorem aiF{ι:bq}{v c:Value}(h:bs ι v c)(aD:lQ v=true):c.oneCell'=true:=by
 cases h<;>first|rfl|(simp[lQ,jf]at aD)
theorem JC{ι:bq}:∀{vs cs:List Value},bF ι vs cs->gS vs=true->∀c∈cs,c.oneCell'=true
 |[],cs,h,_,c,hc=>by rw[h.tl]at hc;simp at hc
 |v::vs,cs,h,a2,c,hc=>by
  obtain⟨y,av,rfl,J,U⟩:=h.cons_inv;have oy:cond (lQ v) (gS vs) false=true:=a2;obtain⟨gZ,hG⟩:=hU oy (by simp);rcases List.mem_cons.1 hc with rfl|hc
  ·exact aiF J gZ
  ·exact JC U hG c hc
theorem bp.store{ι:bq}{st:aw}{w:World}(hw:bp X ι st w){id off:Nat}{cs:List Value}{elem:TypeId}{bt:Nat×Nat}{aR:Bool}{l:Loc}
 (aZ:st.h.get id=some (.cells cs elem bt aR)) (hl:ι id=some l) (mw:bt.2<=bt.1) {vs fQ:List Value} (hle:off+vs.length<=cs.length) (aD:bF ι vs fQ) (bM:gS vs=true):
 ∃w',(storeCells ⟨l.cU,l.cW+off,none⟩ fQ).run X.P w= .ok () w'∧bp X ι ⟨st.h.set id (.cells (cs.take off++(vs++cs.drop (off+vs.length))) elem bt aR),st.aj⟩ w'∧eV ι ι w w':=by
 obtain⟨l',cy,C,er,hc⟩:=hw.eu _ _ aZ (by simp);rw[hl]at cy;cases cy;have oL:=hc.room;have hlen:=aD.1;have ia:l.cW+cs.length<=C.size:=by
  have:=Nat.le_add_right (l.cW+cs.length) (l.ex*X.P.cellsOf elem);omega
 obtain⟨w',aF,hh,gw⟩:=KP (P:=X.P) (o:=l.cW+off) fQ 0 C w hc.there (by omega) (JC aD bM) (fun j J U=>hc.tV mw j (by omega) (by
  have:=Nat.le_add_right (l.cW+cs.length) (l.ex*X.P.cellsOf elem);omega))
 simp only[Nat.add_zero]at hh;obtain⟨t1,t2⟩:=bp.sg X hw aZ (by simp) (fun af=>by have:=af.2;omega) hl (.cells (cs.take off++(vs++cs.drop (off+vs.length))) elem bt aR) _ w' hh (fun _ aX=>⟨_,er,hc.store hle aD aX⟩) gw;exact⟨w',aF,t1,t2⟩
theorem bp.KQ{ι:bq}{st:aw}{w:World}(hw:bp X ι st w){id:Nat}{o:bL}(aZ:st.h.get id=some o):bp X ι ⟨st.h.set id o,st.aj⟩ w:=by
 have e:∀j,(st.h.set id o).get j=st.h.get j:=by
  intro j;rw[au.eI];split
  ·subst_vars;exact aZ.symm
  ·rfl
 exact⟨fun j p hp ax=>hw.eu j p (by rw[<-e];exact hp) ax,fun i j p q l m ag J hj U=>hw.inj i j p q l m (by rw[<-e];exact ag) J (by rw[<-e];exact hj) U,
  fun j hj=>⟨(hw.fresh j hj).1,by rw[e];exact(hw.fresh j hj).2⟩,hw.gh,hw.kL,hw.nG,fun j l p hl ak hp ax=>hw.k3 j l p hl ak (by rw[<-e];exact hp) ax⟩
theorem V6{v:Value}(h:gS v.cells.toList=true):v≠jf:=by
 intro e;subst e;simp[jf,Value.cells]at h;have aL:cond (lQ (.chan (some 0))) true false=true:=h;simp[lQ]at aL
section
variable{ι:bq}{fr aE:aQ}{a:Act}{ay:Nat}{st st':aw}{w:World}{o:Oper}{v:Value}{call:bP}
theorem alF{x y:Operand}{t:TypeId}{i:TypeInfo}(aa:cO X.aB x=true)(aJ:cO X.aB y=true)(ao:o.op= .store t x y)(ag:X.P.info? t=some i)
 (af:cE ι fr a ay) (hw:bp X ι st w) (h:Re i.size x y call fr st= .ok v aE st'):
 aE=fr∧jQ X ι w v st' (execOp a.eval o):=by
 obtain⟨p,hp,h⟩:=n6 h (by simp);obtain⟨ad,rfl,h⟩:=fC h (by simp);obtain⟨hn,h⟩:=jD h (by simp);obtain⟨bM,h⟩:=hU h (by simp);obtain⟨ak,cs,elem,bt,aR,aZ,mw,h⟩:=Ti h (by simp);rw[fx]at hn;obtain⟨l,hl,hm⟩:=hw.eu _ _ aZ (by simp);have b4:=af.an hw aa;rw[hp]at b4;generalize cM:a.eval x=fo at b4;cases b4 with
 |ptr _ l' cy e9=>
  rw[hl]at cy;cases cy;have fK:=af.an hw aJ;have IK:=bF.cells fK (V6 bM);have fa:(a.eval y).cells.size=i.size:=by have:=IK.1;simp[hT]at this hn;omega
  have fw:∀w',(storeCells ⟨l.cU,l.cW+ad.off,none⟩ (a.eval y).cells.toList).run X.P w= .ok () w'->(execOp a.eval o).run X.P w= .ok .skip w':=by
   intro w' aF;unfold execOp;rw[ao];simp only[cM,Instr.storeAt,Instr.sureAddr,storeVar,Sem.run_bind,Sem.run_pure,Result.andThen,iU ag];rw[if_neg (by simp[fa])];simp[aF]
  rcases h with⟨hle,h⟩|⟨he,h⟩
  ·cases h;obtain⟨w',aF,J,U⟩:=hw.store aZ hl mw hle IK bM;exact⟨rfl,ι,.skip,w',fw w' aF,.inr ⟨rfl,rfl⟩,J,U⟩
  ·cases h;have:(a.eval y).cells.toList=[]:=by
    have:=IK.1;rw[show(fr.an y).cells.toList=[]from he]at this;exact List.eq_nil_of_length_eq_zero this.symm
   refine⟨rfl,ι,.skip,w,fw w ?_,.inr ⟨rfl,rfl⟩,hw.KQ aZ,.refl ι w⟩;rw[this];rfl
theorem bp.Ey{cs cs':List Value}(hw:bp X ι st w)(elem:TypeId)(aD:bF ι cs cs')(w':World)(hh:w'.heap=w.heap.push (.cells cs'.toArray elem))(gw:o9 w w':=by exact⟨rfl,rfl⟩):
 ∃aM,bp X aM ⟨st.h.set st.aj (.cells cs elem (0,0) false),st.aj+1⟩ w'∧eV ι aM w w'∧aM st.aj=some ⟨w.heap.size,0,0,id⟩∧aM=g8 ι st.aj ⟨w.heap.size,0,0,id⟩:=by
 refine bp.alloc X hw _ _ 0 (fun aM iW hle _ aX=> ?_) w' hh gw;refine⟨cs'.toArray,(0,0),⟨aX,by simp[aD.1],fun i ag=> ?_,fun _ j _ _=>by simp,fun _=>⟨rfl,rfl,by simp[aD.1]⟩⟩⟩;have dS:i<cs'.length:=by rw[<-aD.1];exact ag
 exact⟨cs'[i],by simp[dS],(aD.2 i ag dS).mono hle⟩
theorem sm{P:Program}{t:TypeId}{i:TypeInfo}{z:Value}(h:P.info? t=some i)(a8:i.zero=some z)(w:World):(zeroValue t).run P w= .ok z w:=by
 simp[zeroValue,typeInfo,h,a8]
theorem akP{t:TypeId}{i:TypeInfo}{z:Value}(ao:o.op= .alloc t)(ag:X.P.info? t=some i)(a8:i.zero=some z)(hp:lN z.cells.toList=true)
 (hw:bp X ι st w) (h:vG z.cells.toList t call fr st= .ok v aE st'):
 aE=fr∧qU X ι w v st st' (execOp a.eval o):=by
 unfold vG at h;rw[gF]at h;cases h;obtain⟨aM,J,U,ah,kY⟩:=hw.Ey t (bF.vL ι _ hp) {w with heap:=w.heap.push (.cells z.cells t)} (by simp);rw[kY]at J U ah;refine⟨rfl,_,_,_,.pointer (some ⟨w.heap.size,0,none⟩),_,rfl,by simp,?_,rfl,?_,J,U⟩
 ·unfold execOp;rw[ao];simp[Instr.alloc,sm ag a8,newVar,newRow,Result.andThen]
 ·have:=bs.ptr (ι:=g8 ι st.aj ⟨w.heap.size,0,0,id⟩) ⟨st.aj,0,none⟩ ⟨w.heap.size,0,0,id⟩ ah rfl;simpa using this
theorem akS{t:TypeId}{x:Operand}(aa:cO X.aB x=true)(ao:o.op= .box t x)(af:cE ι fr a ay)(hw:bp X ι st w)(h:yd t x call fr st= .ok v aE st'):
 aE=fr∧qU X ι w v st st' (execOp a.eval o):=by
 obtain⟨hp,h⟩:=xX h (by simp);rw[gF]at h;cases h;have cx:fr.an x≠jf:=by intro e;rw[e]at hp;simp[rO,jf]at hp
 obtain⟨aM,J,U,ah,kY⟩:=hw.Ey t (bF.cells (af.an hw aa) cx) {w with heap:=w.heap.push (.cells (a.eval x).cells t)} (by simp);rw[kY]at J U ah;refine⟨rfl,_,_,_,.pointer (some ⟨w.heap.size,0,none⟩),_,rfl,by simp,?_,rfl,?_,J,U⟩
 ·unfold execOp;rw[ao];simp[Instr.box,newVar,newRow,Result.andThen]
 ·have:=bs.ptr (ι:=g8 ι st.aj ⟨w.heap.size,0,0,id⟩) ⟨st.aj,0,none⟩ ⟨w.heap.size,0,0,id⟩ ah rfl;simpa using this
end
theorem Y3{op:BinOp}{x y:Value}{c:Value->aY}{r:aY}(h:zL op x y c=r)(aF:aY.no≠r):
 (∃k a k' b,x= .int k a∧y= .int k' b∧w0 op k a k' b c=r)∨(∃s t,x= .string s∧y= .string t∧zi op s t c=r):=by
 cases x with
 |int k a=>
  cases y with
  |int k' b=>exact .inl ⟨k,a,k',b,rfl,rfl,h⟩
  |_=>exact absurd h aF
 |string s=>
  cases y with
  |string t=>exact .inr ⟨s,t,rfl,rfl,h⟩
  |_=>exact absurd h aF
 |_=>exact absurd h aF
theorem rP{a b:IntKind}(h:jd a b=true):a=b:=by
 cases a<;>cases b<;>first|rfl|(exact absurd h (by decide))
theorem VK(k:IntKind)(m n:Nat):(BitVec.ofInt k.bits (m:Int)&&&BitVec.ofInt k.bits (n:Int)).toNat=Nat.land (m%2^k.bits) (n%2^k.bits):=by
 rw[BitVec.ofInt_natCast,BitVec.ofInt_natCast,BitVec.toNat_and];simp
theorem VL(k:IntKind)(m n:Nat):(BitVec.ofInt k.bits (m:Int)|||BitVec.ofInt k.bits (n:Int)).toNat=Nat.lor (m%2^k.bits) (n%2^k.bits):=by
 rw[BitVec.ofInt_natCast,BitVec.ofInt_natCast,BitVec.toNat_or];simp
theorem VM(k:IntKind)(m n:Nat):(BitVec.ofInt k.bits (m:Int)^^^BitVec.ofInt k.bits (n:Int)).toNat=Nat.xor (m%2^k.bits) (n%2^k.bits):=by
 rw[BitVec.ofInt_natCast,BitVec.ofInt_natCast,BitVec.toNat_xor];simp
theorem G4(f:Nat->Nat->Nat)(g:Int)(k:IntKind)(a b:Int)(c:Value->aY)(aZ:∀m n:Nat,a=m->b=n->g=k.wrap (f (m%2^k.bits) (n%2^k.bits):Nat)):
 zj f g k a b c=c (.int k g):=by
 unfold zj;cases a with
 |ofNat m=>
  cases b with
  |ofNat n=>
   show hi k (mQ k (.ofNat (f (Nat.mod m (2^k.bits)) (Nat.mod n (2^k.bits))))) c=_;rw[hB,kd,aZ m n rfl rfl];rfl
  |negSucc n=>exact hB _ _ _
 |negSucc m=>exact hB _ _ _
def pE(op:BinOp)(k:IntKind)(a b:Int):Option Value:=
 match op with
 |.add=>some (.int k (k.wrap (a+b)))
 |.sub=>some (.int k (k.wrap (a-b)))
 |.mul=>some (.int k (k.wrap (a*b)))
 |.quo=>if b=0 then none else some (.int k (k.wrap (a.tdiv b)))
 |.rem=>if b=0 then none else some (.int k (a.tmod b))
 |.and=>some (.int k (k.wrap (BitVec.ofInt k.bits a&&&BitVec.ofInt k.bits b).toNat))
 |.or=>some (.int k (k.wrap (BitVec.ofInt k.bits a|||BitVec.ofInt k.bits b).toNat))
 |.xor=>some (.int k (k.wrap (BitVec.ofInt k.bits a^^^BitVec.ofInt k.bits b).toNat))
 |.andNot=>some (.int k (k.wrap (BitVec.ofInt k.bits a&&& ~~~(BitVec.ofInt k.bits b)).toNat))
 |.eql=>some (.bool (a==b))
 |.neq=>some (.bool (a != b))
 |.lss=>some (.bool (decide (a<b)))
 |.leq=>some (.bool (decide (a<=b)))
 |.gtr=>some (.bool (decide (b<a)))
 |.geq=>some (.bool (decide (b<=a)))
 |_=>none
theorem G3(op:BinOp)(k:IntKind)(a b:Int)(c:Value->aY):wG op k a b c=match pE op k a b with|some v=>c v|none=>.no:=by
 cases op<;>simp only[wG,ME,MR,MM,MP,MQ,MF,MO,MS,MG,MH,MN,ML,MK,MJ,MI,G2,pE]
 ·rw[hB,kd,LN]
 ·rw[hB,kd,LN,Jt];rfl
 ·rw[hB,kd,Jo]
 ·rw[zJ];by_cases h:b=0
  ·subst h;rfl
  ·rw[if_neg h,show(b==0)=false by simpa using h];cases a with
   |ofNat m=>
    cases b with
    |ofNat n=>
     show hi k (mQ k (.ofNat (m/n))) c=c (.int k (k.wrap ((m:Int).tdiv (n:Int))));rw[hB,kd];rfl
    |negSucc n=>exact hB _ _ _
   |negSucc m=>exact hB _ _ _
 ·rw[zJ];by_cases h:b=0
  ·subst h;rfl
  ·rw[if_neg h,show(b==0)=false by simpa using h];cases a with
   |ofNat m=>
    cases b with
    |ofNat n=>exact hB k (Int.ofNat (m%n)) c
    |negSucc n=>exact hB k ((Int.ofNat m).tmod (Int.negSucc n)) c
   |negSucc m=>exact hB k ((Int.negSucc m).tmod b) c
 ·exact G4 _ _ _ _ _ _ (fun m n a2 hb=>by subst a2 hb;rw[VK])
 ·exact G4 _ _ _ _ _ _ (fun m n a2 hb=>by subst a2 hb;rw[VL])
 ·exact G4 _ _ _ _ _ _ (fun m n a2 hb=>by subst a2 hb;rw[VM])
 ·exact hB _ _ _
 ·rw[zJ]
 ·rw[zJ];rfl
 ·rw[qu];congr 2;rw[Bool.eq_iff_iff];simp
 ·rw[qu]
 ·rw[qu];congr 2;rw[Bool.eq_iff_iff];simp
 ·rw[qu]
theorem akF(k:IntKind)(a:Int)(n:Nat):v7 k a n=k.wrap (a*2^(min n k.bits)):=by
 unfold v7;rw[kd,Jo];congr 2
theorem akL(k:IntKind)(a:Int)(n:Nat):se k a n=a.fdiv (2^(min n k.bits)):=by
 unfold se;cases a with
 |ofNat m=>
  show((m/2^(min n k.bits):Nat):Int)=Int.fdiv (m:Int) _;rw[Int.fdiv_eq_ediv_of_nonneg _ (Int.pow_nonneg (by decide))]
  push_cast;rfl
 |negSucc m=>rfl
section
variable{ι:bq}{fr aE:aQ}{a:Act}{ay:Nat}{st st':aw}{w:World}{o:Oper}{v:Value}{call:bP}
theorem tt{v v':Value}{fr aE:aQ}{st st':aw}(h:aY.ok v fr st=aY.ok v' aE st'):v=v'∧fr=aE∧st=st':=by cases h;exact⟨rfl,rfl,rfl⟩
theorem YR(P:Program)(w:World)(op:BinOp)(t:TypeId)(x y:Operand)(k k':IntKind)(m n:Int):(eqGuard op t x y (.int k m) (.int k' n)).run P w= .ok () w:=by
 cases op<;>simp[eqGuard]
theorem C1(P:Program)(w:World)(op:BinOp)(t:TypeId)(x y:Operand)(s u:ByteArray):(eqGuard op t x y (.string s) (.string u)).run P w= .ok () w:=by
 cases op<;>simp[eqGuard]
theorem akn(P:Program)(w:World)(op:BinOp)(t:TypeId)(k:IntKind)(m n:Int){v:Value}(ak:op≠.shl)(e9:op≠.shr)(h:pE op k m n=some v):(binOp op t (.int k m) (.int k n)).run P w= .ok v w:=by
 cases op<;>simp only[pE]at h<;>first
  |(exact absurd rfl ak)|(exact absurd rfl e9)
  |(cases h;simp[binOp,Op.intArith,Op.intBits,Op.intCmp];done)
  |(split at h
    ·cases h
    ·cases h;rename_i hb;simp[binOp,Op.intDiv,hb])
  |(simp at h)
theorem toList_eq(x y:ByteArray):(x.toList==y.toList)=(x.data.toList==y.data.toList):=by
 rw[Lib.toList_data,Lib.toList_data]
theorem Y5{op:BinOp}{k k':IntKind}{m n:Int}{c:Value->aY}{r:aY}(h:w0 op k m k' n c=r)(aF:aY.no≠r):
 ∃v,c v=r∧∀(P:Program) (w:World) (t:TypeId),(binOp op t (.int k m) (.int k' n)).run P w= .ok v w:=by
 by_cases J:op= .shl
 ·subst J;obtain⟨b,hb,h⟩:=lB h aF;rw[hB,akF]at h;exact⟨_,h,fun P w t=>by subst hb;simp[binOp,Op.shift,show¬((b:Int)<0) by omega]⟩
 ·by_cases U:op= .shr
  ·subst U;obtain⟨b,hb,h⟩:=lB h aF;rw[hB,akL]at h;exact⟨_,h,fun P w t=>by subst hb;simp[binOp,Op.shift,show¬((b:Int)<0) by omega]⟩
  ·have aL:cond (jd k k') (wG op k m n c) .no=r:=by
    rw[<-h];cases op<;>first|rfl|(exact absurd rfl J)|(exact absurd rfl U)
   obtain⟨ae,ah⟩:=hU aL aF;have:=rP ae;subst this;rw[G3]at ah;cases ag:pE op k m n with
   |none=>rw[ag]at ah;exact absurd ah aF
   |some v=>rw[ag]at ah;exact⟨v,ah,fun P w t=>akn P w op t k m n J U ag⟩
theorem akR{op:BinOp}{t wv:TypeId}{x y:Operand}(aa:cO X.aB x=true)(aJ:cO X.aB y=true)(ao:o.op= .binOp op t x y wv)(af:cE ι fr a ay)(hw:bp X ι st w)
 (h:JH op x y call fr st= .ok v aE st'):aE=fr∧cv X ι w v st st' (execOp a.eval o):=by
 have b4:=af.an hw aa;have ta:=af.an hw aJ;unfold JH at h;rcases Y3 h (by simp)with⟨k,m,k',n,ex,rj,h⟩|⟨s,u,ex,rj,h⟩
 ·rw[ex]at b4;rw[rj]at ta;generalize cM:a.eval x=fo at b4;generalize fK:a.eval y=o8 at ta;cases b4;cases ta;obtain⟨v1,nN,fw⟩:=Y5 h (by simp);obtain⟨aG,e2,cw⟩:=tt nN;subst aG e2 cw;refine⟨rfl,cv.same (v':=v1) hw ?_ ?_⟩
  ·unfold execOp;rw[ao];simp[cM,fK,YR,fw,Result.andThen]
  ·have:jj v1=true:=by
    clear fw nN af hw aa aJ ex rj cM fK ao;rw[show w0 op k m k' n (fun v=>aY.ok v fr st)=(match op with
     |.shl=>gW n (fun b=>hi k (v7 k m b) (fun v=>aY.ok v fr st)) .no
     |.shr=>gW n (fun b=>hi k (se k m b) (fun v=>aY.ok v fr st)) .no
     |op=>cond (jd k k') (wG op k m n (fun v=>aY.ok v fr st)) .no) by cases op<;>rfl]at h
    split at h
    ·obtain⟨b,_,h⟩:=lB h (by simp);rw[hB]at h;cases h;rfl
    ·obtain⟨b,_,h⟩:=lB h (by simp);rw[hB]at h;cases h;rfl
    ·obtain⟨_,h⟩:=hU h (by simp);rw[G3]at h;split at h
     ·rename_i v2 kX;cases h;unfold pE at kX;split at kX<;>first|(cases kX;rfl)|(split at kX<;>first|(cases kX;done)|(cases kX;rfl))|(cases kX)
     ·cases h
   exact bs.pure ι v1 this
 ·rw[ex]at b4;rw[rj]at ta;generalize cM:a.eval x=fo at b4;generalize fK:a.eval y=o8 at ta;cases b4;cases ta;unfold zi at h;split at h
  ·obtain⟨hle,h⟩:=iC h (by simp);cases h;simp only[fx]at hle;refine⟨rfl,cv.same (v':=.string (s++u)) hw ?_ ?_⟩
   ·unfold execOp;rw[ao];have fa:¬(((s.size+u.size:Nat):Int)>IntKind.i64.max):=by
     have J:s.size=s.data.toList.length:=(Array.length_toList (xs:=s.data)).symm;have U:u.size=u.data.toList.length:=(Array.length_toList (xs:=u.data)).symm;have ah:IntKind.i64.max=9223372036854775807:=by decide
     have aC:s.data.toList.length+u.data.toList.length<=1099511627776:=hle;rw[ah,J,U];omega
    simp only[cM,fK,Sem.run_bind,C1,Result.andThen,binOp,Op.stringOp];rw[if_neg fa];rfl
   ·have:(⟨⟨gL s.data.toList u.data.toList⟩⟩:ByteArray)=s++u:=by
     rw[pf];apply ByteArray.ext;simp[ByteArray.data_append]
    rw[this];exact .string _
  ·cases h;refine⟨rfl,cv.same (v':=.bool (s.data.toList==u.data.toList)) hw ?_ (.bool _)⟩;unfold execOp;rw[ao];simp only[cM,fK,Sem.run_bind,C1,Result.andThen,binOp,Op.stringOp,toList_eq];rfl
  ·cases h;refine⟨rfl,cv.same (v':=.bool (!(s.data.toList==u.data.toList))) hw ?_ (.bool _)⟩;unfold execOp;rw[ao];simp only[cM,fK,Sem.run_bind,C1,Result.andThen,binOp,Op.stringOp,toList_eq];rfl
  ·cases h
end
theorem add_eq(b o n:Nat):Addr.add ⟨b,o,none⟩ n=⟨b,o+n,none⟩:=by unfold Addr.add;split<;>simp_all
theorem y6(a:Addr)(n:Nat):(a.add n).block=a.block:=by unfold Addr.add;split<;>rfl
theorem y7(a:Addr)(n:Nat)(h:a.spot=none):(a.add n).spot=none:=by unfold Addr.add;split<;>simp_all
theorem Cc(a:Addr)(n:Nat):(a.add n).off=a.off+n:=by unfold Addr.add;split<;>simp_all
theorem bs.JW{ι:bq}{a:Addr}{l:Loc}(h:ι a.block=some l)(ak:a.spot=none)(n:Nat):bs ι (.pointer (some (a.add n))) (.pointer (some (Addr.add ⟨l.cU,l.cW+a.off,none⟩ n))):=by
 have:=bs.ptr (ι:=ι) (a.add n) l (by rw[y6];exact h) (y7 a n ak);rw[Cc]at this;rw[add_eq,show l.cW+a.off+n=l.cW+(a.off+n) by omega];exact this
section
variable{ι:bq}{fr aE:aQ}{a:Act}{ay:Nat}{st st':aw}{w:World}{o:Oper}{v:Value}{call:bP}
theorem ala{s:TypeId}{x:Operand}{f:Nat}{fields:Array Field}{fd:Field}{i:TypeInfo}(aa:cO X.aB x=true)(ao:o.op= .fieldAddr s x f)(hu:X.P.underlying s=some (.struct fields))(ry:fields[f]? =some fd)
 (ag:X.P.info? fd.type=some i) (a8:i.size≠0) (af:cE ι fr a ay) (hw:bp X ι st w) (h:QX fd.offset x call fr st= .ok v aE st'):
 aE=fr∧cv X ι w v st st' (execOp a.eval o):=by
 obtain⟨p,hp,h⟩:=n6 h (by simp);obtain⟨ad,rfl,h⟩:=fC h (by simp);cases h;have b4:=af.an hw aa;rw[hp]at b4;generalize cM:a.eval x=fo at b4;cases b4 with
 |ptr _ l hl ak=>
  refine⟨rfl,cv.same (v':=.pointer (some (Addr.add ⟨l.cU,l.cW+ad.off,none⟩ fd.offset))) hw ?_ (bs.JW hl ak _)⟩;unfold execOp;rw[ao];simp[cM,Instr.fieldAt,run_underlying hu,ry,Instr.sureAddr,fieldPlace,iU ag,a8,Result.andThen]
theorem alc{t e:TypeId}{x i:Operand}{n:Nat}{dp:TypeInfo}(aa:cO X.aB x=true)(dS:cO X.aB i=true)(ao:o.op= .indexAddr t x i)(hu:X.P.underlying t=some (.array n e))(ag:X.P.info? e=some dp)
 (af:cE ι fr a ay) (hw:bp X ι st w) (h:tu n dp.size x i call fr st= .ok v aE st'):
 aE=fr∧cv X ι w v st st' (execOp a.eval o):=by
 obtain⟨p,hp,h⟩:=n6 h (by simp);obtain⟨ad,rfl,h⟩:=fC h (by simp);obtain⟨k,m,hm,h⟩:=iF h (by simp);obtain⟨j,rfl,h⟩:=lB h (by simp);obtain⟨hj,h⟩:=iC h (by simp);cases h;have b4:=af.an hw aa;rw[hp]at b4;generalize cM:a.eval x=fo at b4;have js:=af.an hw dS;rw[hm]at js;generalize uS:a.eval i=kZ at js;cases js;cases b4 with
 |ptr _ l hl ak=>
  refine⟨rfl,cv.same (v':=.pointer (some (Addr.add ⟨l.cU,l.cW+ad.off,none⟩ (j*dp.size)))) hw ?_ (bs.JW hl ak _)⟩;unfold execOp;rw[ao];have kT:j<n:=by omega
  simp[cM,uS,Instr.indexAt,asIntOf,run_underlying hu,Instr.sureAddr,iU ag,Result.andThen,kT]
theorem ald{t e:TypeId}{x i:Operand}{dp:TypeInfo}(aa:cO X.aB x=true)(dS:cO X.aB i=true)(ao:o.op= .indexAddr t x i)(hu:X.P.underlying t=some (.slice e))(ag:X.P.info? e=some dp)
 (af:cE ι fr a ay) (hw:bp X ι st w) (h:QZ dp.size x i call fr st= .ok v aE st'):
 aE=fr∧cv X ι w v st st' (execOp a.eval o):=by
 obtain⟨b,len,cap,hp,h⟩:=sj h (by simp);obtain⟨ad,rfl,h⟩:=fC h (by simp);obtain⟨k,m,hm,h⟩:=iF h (by simp);obtain⟨j,rfl,h⟩:=lB h (by simp);obtain⟨hj,h⟩:=iC h (by simp);cases h;have b4:=af.an hw aa;rw[hp]at b4;generalize cM:a.eval x=fo at b4;have js:=af.an hw dS;rw[hm]at js;generalize uS:a.eval i=kZ at js;cases js;cases b4 with
 |gk _ l off _ _ hl ak hz=>
  have rD:off=l.cW+ad.off:=by rcases hz with h|⟨h,_⟩<;>omega
  subst rD;refine⟨rfl,cv.same (v':=.pointer (some (Addr.add ⟨l.cU,l.cW+ad.off,none⟩ (j*dp.size)))) hw ?_ (bs.JW hl ak _)⟩;unfold execOp;rw[ao];have kT:j<len:=by omega
  simp[cM,uS,Instr.indexAt,asIntOf,run_underlying hu,iU ag,Result.andThen,kT]
theorem akY{s t:TypeId}{k:IntKind}{BG:TypeDesc}{x:Operand}(aa:cO X.aB x=true)(ao:o.op= .convert s t x)(ak:X.P.underlying s=some BG)(aX:X.P.underlying t=some (.int k))
 (af:cE ι fr a ay) (hw:bp X ι st w) (h:QT k x call fr st= .ok v aE st'):
 aE=fr∧cv X ι w v st st' (execOp a.eval o):=by
 obtain⟨k',n,hp,h⟩:=iF h (by simp);rw[hB,kd]at h;cases h;have b4:=af.an hw aa;rw[hp]at b4;generalize cM:a.eval x=fo at b4;cases b4;refine⟨rfl,cv.same (v':=.int k (k.wrap n)) hw ?_ (.int _ _)⟩;unfold execOp;rw[ao];simp[cM,convert,run_underlying ak,run_underlying aX,Result.andThen,Conv.intToInt]
theorem akX{s t:TypeId}{BG:TypeDesc}{x:Operand}(aa:cO X.aB x=true)(ao:o.op= .convert s t x)(ak:X.P.underlying s=some BG)(aX:X.P.underlying t=some .string)
 (af:cE ι fr a ay) (hw:bp X ι st w) (h:QS x call fr st= .ok v aE st'):
 aE=fr∧cv X ι w v st st' (execOp a.eval o):=by
 obtain⟨br,hp,h⟩:=n7 h (by simp);cases h;have b4:=af.an hw aa;rw[hp]at b4;generalize cM:a.eval x=fo at b4;cases b4;refine⟨rfl,cv.same (v':=.string br) hw ?_ (.string _)⟩;unfold execOp;rw[ao];simp[cM,convert,run_underlying ak,run_underlying aX,Result.andThen]
theorem alq{t:TypeId}{d:TypeDesc}{x:Operand}(aa:cO X.aB x=true)(ao:o.op= .makeInterface t x)(aX:X.P.underlying t=some d)(ax:∀ms,d≠.interface ms)
 (af:cE ι fr a ay) (hw:bp X ι st w) (h:Q5 t x call fr st= .ok v aE st'):
 aE=fr∧cv X ι w v st st' (execOp a.eval o):=by
 cases h;refine⟨rfl,cv.same (v':=.iface t (a.eval x)) hw ?_ (.iface _ _ _ (af.an hw aa))⟩;unfold execOp;rw[ao];simp only[Instr.makeInterface,Sem.run_bind,run_underlying aX,Result.andThen];cases d<;>first|rfl|(exact absurd rfl (ax _))
theorem w2(af:cE ι fr a ay)(hw:bp X ι st w):∀xs:List Operand,(∀x∈xs,cO X.aB x=true)->bF ι (fv fr xs) (xs.map a.eval)
 |[],_=>bF.nil ι
 |x::xs,h=>bF.cons (af.an hw (h x (by simp))) (w2 af hw xs (fun y aJ=>h y (by simp[aJ])))
theorem alp{f:FuncId}{first fk:Array Operand}(J:∀x∈first.toList,cO X.aB x=true)(U:∀x∈fk.toList,cO X.aB x=true)(ao:o.op= .makeFunc (.func f) first fk)
 (af:cE ι fr a ay) (hw:bp X ι st w) (h:Q4 (.func f) first.toList fk.toList call fr st= .ok v aE st'):
 aE=fr∧cv X ι w v st st' (execOp a.eval o):=by
 cases h;refine⟨rfl,cv.same (v':=.func (.func f) (first.map a.eval) (fk.map a.eval)) hw ?_ (bs.EE (.inl ⟨rfl,by simp⟩) ?_ ?_)⟩
 ·unfold execOp;rw[ao];simp[Instr.makeFunc]
 ·simpa using w2 af hw first.toList J
 ·simpa using w2 af hw fk.toList U
theorem ak9{x:Operand}{i:Nat}(aa:cO X.aB x=true)(ao:o.op= .extract x i)(af:cE ι fr a ay)(hw:bp X ι st w)(h:QW x i call fr st= .ok v aE st'):
 aE=fr∧cv X ι w v st st' (execOp a.eval o):=by
 obtain⟨vs,hp,h⟩:=Ux h (by simp);obtain⟨hn,h⟩:=sH h (by simp);obtain⟨y,aJ,h⟩:=yb h (by simp);cases h;have b4:=af.an hw aa;rw[hp]at b4;generalize cM:a.eval x=fo at b4;cases b4 with
 |tuple _ av J U=>
  have hlen:i<vs.size:=by simp at hn;omega
  have ag:vs[i]=v:=by
   have:=congrArg (fun l=>l[0]?) aJ;simpa[hlen]using this
  refine⟨rfl,cv.same (v':=av[i]'(by omega)) hw ?_ ?_⟩
  ·unfold execOp;rw[ao];simp[cM,Instr.extract,show i<av.size by omega]
  ·rw[<-ag];exact U i hlen (by omega)
theorem ali{t d:TypeId}{x:Operand}{n:Nat}(ao:o.op= .call {callee:=.builtin .len,args:= #[x],argTypes:= #[t]})(hu:X.P.underlying t=some (.array n d))(hw:bp X ι st w)
 (h:JJ n call fr st= .ok v aE st'):aE=fr∧cv X ι w v st st' (execOp a.eval o):=by
 cases h;refine⟨rfl,cv.same (v':=.int .i64 (.ofNat n)) hw ?_ (.int _ _)⟩;unfold execOp;rw[ao];simp[resolve,invoke,builtin,Builtin.len_,run_underlying hu,Result.andThen,goInt]
theorem alj{t u d:TypeId}{x:Operand}{n:Nat}(ao:o.op= .call {callee:=.builtin .len,args:= #[x],argTypes:= #[t]})(hu:X.P.underlying t=some (.pointer u))(AD:X.P.underlying u=some (.array n d))(hw:bp X ι st w)
 (h:JJ n call fr st= .ok v aE st'):aE=fr∧cv X ι w v st st' (execOp a.eval o):=by
 cases h;refine⟨rfl,cv.same (v':=.int .i64 (.ofNat n)) hw ?_ (.int _ _)⟩;unfold execOp;rw[ao];simp[resolve,invoke,builtin,Builtin.len_,run_underlying hu,run_underlying AD,Result.andThen,goInt]
theorem alk{t e:TypeId}{x:Operand}(aa:cO X.aB x=true)(ao:o.op= .call {callee:=.builtin .len,args:= #[x],argTypes:= #[t]})(hu:X.P.underlying t=some (.slice e))
 (af:cE ι fr a ay) (hw:bp X ι st w) (h:Q2 x call fr st= .ok v aE st'):aE=fr∧cv X ι w v st st' (execOp a.eval o):=by
 obtain⟨b,n,c,hp,h⟩:=sj h (by simp);cases h;have b4:=af.an hw aa;rw[hp]at b4;generalize cM:a.eval x=fo at b4;refine⟨rfl,cv.same (v':=.int .i64 (.ofNat n)) hw ?_ (.int _ _)⟩;unfold execOp;rw[ao];cases b4<;>simp[cM,resolve,invoke,builtin,Builtin.len_,run_underlying hu,Result.andThen,goInt]
theorem alm{t:TypeId}{x:Operand}(aa:cO X.aB x=true)(ao:o.op= .call {callee:=.builtin .len,args:= #[x],argTypes:= #[t]})(hu:X.P.underlying t=some .string)
 (af:cE ι fr a ay) (hw:bp X ι st w) (h:Q3 x call fr st= .ok v aE st'):aE=fr∧cv X ι w v st st' (execOp a.eval o):=by
 obtain⟨s,hp,h⟩:=n7 h (by simp);rw[w9,fx]at h;cases h;have b4:=af.an hw aa;rw[hp]at b4;generalize cM:a.eval x=fo at b4;cases b4;have e:Int.ofNat s.data.toList.length=(s.size:Int):=by rw[Array.length_toList];rfl
 rw[e];refine⟨rfl,cv.same (v':=.int .i64 s.size) hw ?_ (.int _ _)⟩;unfold execOp;rw[ao];simp[cM,resolve,invoke,builtin,Builtin.len_,run_underlying hu,Result.andThen,goInt]
end
theorem Rp{P:Program}{ι:bq}{t:TypeId}{d:TypeDesc}{i:TypeInfo}{off:Nat}{cs cs':Array Value}{v:Value}(ax:P.underlying t=some d)(ag:P.info? t=some i)
 (aF:bF ι cs.toList cs'.toList) (h:r1 off i.size (pe d) cs.toList=some v) (w:World):∃v',(part t cs' off).run P w= .ok v' w∧bs ι v v':=by
 unfold r1 at h;obtain⟨hn,h⟩:=sH h (by simp);have lX:=(aF.drop off).take i.size;cases aZ:pe d with
 |true=>
  rw[aZ]at h;cases h;refine⟨.agg (cs'.extract off (off+i.size)),?_,bs.x9 ?_⟩
  ·simp only[part,Sem.run_bind,AP ax,aZ,Result.andThen,if_true,iU ag,Sem.run_pure]
  ·have e:(cs'.extract off (off+i.size)).toList=(cs'.toList.drop off).take i.size:=by
    rw[Array.toList_extract,List.extract_eq_take_drop];congr 1;omega
   rw[e];simpa using lX
 |false=>
  rw[aZ]at h;obtain⟨y,aJ,h⟩:=yb h (by simp);cases h;rw[aJ]at lX;obtain⟨z,hQ,a8,aD,qp⟩:=lX.cons_inv;have e:cs'[off]? =some z:=by
   have:=congrArg (fun l=>l[0]?) a8;simp only[List.getElem?_take,List.getElem?_drop,List.getElem?_cons_zero,Nat.add_zero]at this;split at this
   ·simpa using this
   ·cases this
  refine⟨z,?_,aD⟩;simp only[part,Sem.run_bind,AP ax,aZ,Result.andThen,Bool.false_eq_true,if_false,e,Sem.run_pure]
theorem S0(off:Nat):∀(vs:List Value) (k:Nat) (C:Array Value),off+k+vs.length<=C.size->
 (vs.zipIdx k).foldl (fun cs (p:Value×Nat)=>cs.setIfInBounds (off+p.2) p.1) C=(C.toList.take (off+k)++(vs++C.toList.drop (off+k+vs.length))).toArray
 |[],k,C,_=>by simp
 |v::vs,k,C,h=>by
  simp only[List.length_cons]at h;have hl:off+k<C.toList.length:=by simp;omega
  rw[List.zipIdx_cons,List.foldl_cons,S0 off vs (k+1) _ (by simp;omega)];have mD:(C.setIfInBounds (off+k) v).toList=C.toList.set (off+k) v:=by simp
  rw[mD];have t1:(C.toList.set (off+k) v).take (off+(k+1))=C.toList.take (off+k)++[v]:=by
   rw[show off+(k+1)=(off+k)+1 by omega,List.take_succ_eq_append_getElem (by simpa using hl),List.take_set_of_le (cd _)];simp
  have t2:(C.toList.set (off+k) v).drop (off+(k+1)+vs.length)=C.toList.drop (off+k+(v::vs).length):=by
   rw[List.drop_set_of_lt (by omega)];congr 1;simp only[List.length_cons];omega
  rw[t1,t2];simp
theorem bF.alN{ι:bq}{cs cs' vs fQ:List Value}(h:bF ι cs cs')(aD:bF ι vs fQ)(n:Nat):
 bF ι (cs.take n++(vs++cs.drop (n+vs.length))) (cs'.take n++(fQ++cs'.drop (n+fQ.length))):=by
 rw[aD.1];exact(h.take n).append (aD.append (h.drop _))
section
variable{ι:bq}{fr aE:aQ}{a:Act}{ay:Nat}{st st':aw}{w:World}{o:Oper}{v:Value}{call:bP}
theorem Da(place:Nat->Option (Nat×Nat))(af:cE ι fr a ay)(hw:bp X ι st w){c:List Value->aY}{r:aY}(aF:aY.no≠r):
 ∀(parts:List (Nat×Operand)) (ps:List (Nat×Nat×Operand)),ps=parts.map (fun p=>(((place p.1).getD (0,0)).1,((place p.1).getD (0,0)).2,p.2))->(∀p∈parts,(place p.1).isSome∧cO X.aB p.2=true)->
 ∀(cs:List Value) (cs':Array Value),bF ι cs cs'.toList->mX fr ps cs c=r->
  ∃out mI,Instr.fill place cs' (parts.map fun p=>(p.1,a.eval p.2))=some mI∧bF ι out mI.toList∧c out=r
 |[],_,rfl,_,cs,cs',ej,h=>⟨cs,cs',rfl,ej,h⟩
 |(i,x)::parts,_,rfl,bM,cs,cs',ej,h=>by
  obtain⟨abQ,aa⟩:=bM (i,x) (by simp);obtain⟨⟨off,bj⟩,hK⟩:=Option.isSome_iff_exists.1 abQ;simp only[List.map_cons,hK,Option.getD_some]at h;obtain⟨lW,h⟩:=xX h aF;obtain⟨fa,h⟩:=jD h aF;obtain⟨hle,h⟩:=iC h aF;simp only[fx]at fa hle;have anK:off+bj<=cs.length:=hle;have cx:fr.an x≠jf:=by intro e;rw[e]at lW;simp[rO,jf]at lW
  have OC:=bF.cells (af.an hw aa) cx;have e9:(hT (fr.an x)).length=bj:=fa;have hlen:(a.eval x).cells.size=bj:=by have:=OC.1;simp at this;rw[<-this];simpa[hT]using e9
  have oD:cs'.size=cs.length:=by have:=ej.1;simp at this;omega
  have U:mX fr (parts.map (fun p=>(((place p.1).getD (0,0)).1,((place p.1).getD (0,0)).2,p.2))) (cs.take off++(hT (fr.an x)++cs.drop (off+(hT (fr.an x)).length))) c=r:=by
   rcases JY h aF with⟨_,h⟩|⟨he,h⟩
   ·exact h
   ·rw[he];simp;exact h
  obtain⟨out,mI,ah,aC,a5⟩:=Da place af hw aF parts _ rfl (fun p hp=>bM p (by simp[hp])) _ ((a.eval x).cells.zipIdx.foldl (fun cs (p:Value×Nat)=>cs.setIfInBounds (off+p.2) p.1) cs') (by
   rw[<-Array.foldl_toList,Array.toList_zipIdx,S0 off _ 0 cs' (by simp;omega)];have:=ej.alN OC off;simpa[hT]using this) U
  refine⟨out,mI,?_,aC,a5⟩;simp only[List.map_cons,Instr.fill,hK];rw[if_neg (by simp;omega)];exact ah
theorem alb{t:TypeId}{x:Operand}{f:Nat}{fields:Array Field}{fd:Field}{d:TypeDesc}{i:TypeInfo}(aa:cO X.aB x=true)(ao:o.op= .field t x f)(hu:X.P.underlying t=some (.struct fields))(ry:fields[f]? =some fd)
 (ax:X.P.underlying fd.type=some d) (ag:X.P.info? fd.type=some i) (af:cE ι fr a ay) (hw:bp X ι st w) (h:QY fd.offset i.size (pe d) x call fr st= .ok v aE st'):
 aE=fr∧cv X ι w v st st' (execOp a.eval o):=by
 obtain⟨cs,hp,h⟩:=wg h (by simp);obtain⟨v1,nN,h⟩:=fC h (by simp);cases h;have b4:=af.an hw aa;rw[hp]at b4;generalize cM:a.eval x=fo at b4;cases b4 with
 |agg _ av J U=>
  obtain⟨v',aF,aD⟩:=Rp ax ag (bF.tp J U) nN w;refine⟨rfl,cv.same (v':=v') hw ?_ aD⟩;unfold execOp;rw[ao];simp[cM,Instr.field,run_underlying hu,ry,asAgg,aF,Result.andThen]
theorem alg{t e:TypeId}{x i:Operand}{n:Nat}{d:TypeDesc}{dp:TypeInfo}(aa:cO X.aB x=true)(dS:cO X.aB i=true)(ao:o.op= .index t x i)(hu:X.P.underlying t=some (.array n e))
 (ax:X.P.underlying e=some d) (ag:X.P.info? e=some dp) (af:cE ι fr a ay) (hw:bp X ι st w) (h:Q0 n dp.size (pe d) x i call fr st= .ok v aE st'):
 aE=fr∧cv X ι w v st st' (execOp a.eval o):=by
 obtain⟨cs,hp,h⟩:=wg h (by simp);obtain⟨k,m,hm,h⟩:=iF h (by simp);obtain⟨j,rfl,h⟩:=lB h (by simp);obtain⟨hj,h⟩:=iC h (by simp);obtain⟨v1,nN,h⟩:=fC h (by simp);cases h;have b4:=af.an hw aa;rw[hp]at b4;generalize cM:a.eval x=fo at b4;have js:=af.an hw dS;rw[hm]at js;generalize uS:a.eval i=kZ at js;cases js;cases b4 with
 |agg _ av J U=>
  obtain⟨v',aF,aD⟩:=Rp ax ag (bF.tp J U) nN w;refine⟨rfl,cv.same (v':=v') hw ?_ aD⟩;unfold execOp;rw[ao];have kT:j<n:=by omega
  have lX:(part e av (j*dp.size)).run X.P w= .ok v' w:=aF;simp[cM,uS,Instr.index,asIntOf,run_underlying hu,iU ag,lX,kT,Result.andThen]
theorem alh{t:TypeId}{x i:Operand}(aa:cO X.aB x=true)(dS:cO X.aB i=true)(ao:o.op= .index t x i)(hu:X.P.underlying t=some .string)
 (af:cE ι fr a ay) (hw:bp X ι st w) (h:Q1 x i call fr st= .ok v aE st'):
 aE=fr∧cv X ι w v st st' (execOp a.eval o):=by
 obtain⟨s,hp,h⟩:=n7 h (by simp);obtain⟨k,m,hm,h⟩:=iF h (by simp);obtain⟨j,rfl,h⟩:=lB h (by simp);obtain⟨hn,h⟩:=sH h (by simp);obtain⟨b,hb,h⟩:=yb h (by simp);cases h;have b4:=af.an hw aa;rw[hp]at b4;generalize cM:a.eval x=fo at b4;have js:=af.an hw dS;rw[hm]at js;generalize uS:a.eval i=kZ at js;cases js;cases b4;have bO:j<s.data.size:=by rw[List.length_drop,Array.length_toList]at hn;omega
 have cX:s[j]? =some b:=by
  have:=congrArg (fun l=>l[0]?) hb;simp only[List.getElem?_take,List.getElem?_drop,List.getElem?_cons_zero,Nat.add_zero]at this;rw[if_pos (by omega)]at this;have J:s.data[j]? =some b:=by simpa using this
  rw[Array.getElem?_eq_getElem bO]at J;have rA:j<s.size:=bO;rw[getElem?_pos s j rA];exact J
 refine⟨rfl,cv.same (v':=.int .u8 b.toNat) hw ?_ (.int _ _)⟩;unfold execOp;rw[ao];simp[cM,uS,Instr.index,asIntOf,run_underlying hu,cX,Result.andThen]
theorem alG{x:Operand}{jN t:TypeId}{d:TypeDesc}{i:TypeInfo}{z:Value}{ok:Bool}(aa:cO X.aB x=true)(ao:o.op= .typeAssert x jN t ok)(ax:X.P.underlying t=some d)(gU:∀ms,d≠.interface ms)
 (ag:X.P.info? t=some i) (a8:i.zero=some z) (hp:jj z=true) (af:cE ι fr a ay) (hw:bp X ι st w) (h:JL t z ok x call fr st= .ok v aE st'):
 aE=fr∧cv X ι w v st st' (execOp a.eval o):=by
 have b4:=af.an hw aa;generalize cM:a.eval x=fo at b4;unfold JL at h;generalize aD:fr.an x=jW at h b4;have Pl:bs ι (.tuple #[z,.bool false]) (.tuple #[z,.bool false]):=bs.nf (bF.cons (bs.pure ι z hp) (bF.cons (.bool _) (bF.nil ι)));cases jW with
 |iface u y=>
  have g1:ea u t (aY.ok (cond ok (.tuple #[y,.bool true]) y) fr st) (cond ok (aY.ok (.tuple #[z,.bool false]) fr st) aY.no)=aY.ok v aE st':=h;cases b4 with
  |iface _ _ k9 aJ=>
   rw[mW]at g1;clear h;split at g1
   ·rename_i e;subst e;cases g1;refine⟨rfl,cv.same (v':=if ok then .tuple #[k9,.bool true]else k9) hw ?_ ?_⟩
    ·unfold execOp;rw[ao];simp only[cM,Instr.typeAssert,Sem.run_bind,run_underlying ax,Result.andThen];cases d<;>first|(exact absurd rfl (gU _))|(simp)
    ·cases ok
     ·exact aJ
     ·exact bs.nf (bF.cons aJ (bF.cons (.bool _) (bF.nil ι)))
   ·rename_i e;obtain⟨bM,g1⟩:=hU g1 (by simp);cases g1;refine⟨rfl,cv.same (v':=.tuple #[z,.bool false]) hw ?_ Pl⟩;unfold execOp;rw[ao];simp only[cM,Instr.typeAssert,Sem.run_bind,run_underlying ax,Result.andThen];cases d<;>first|(exact absurd rfl (gU _))|(simp[e,bM,sm ag a8,Result.andThen])
 |nilIface=>
  have h:cond ok (aY.ok (.tuple #[z,.bool false]) fr st) aY.no=aY.ok v aE st':=h;obtain⟨bM,h⟩:=hU h (by simp);cases h;cases b4;refine⟨rfl,cv.same (v':=.tuple #[z,.bool false]) hw ?_ Pl⟩;unfold execOp;rw[ao];simp only[cM,Instr.typeAssert,Sem.run_bind,run_underlying ax,Result.andThen];cases d<;>first|(exact absurd rfl (gU _))|(simp[bM,sm ag a8,Result.andThen])
 |_=>exact absurd h (by simp[wh])
end
theorem Qa{α β:Type}(P:Program)(w:World)(f:α->Sem β)(g:α->β):∀(l:List α),(∀x∈l,(f x).run P w= .ok (g x) w)->(l.mapM f).run P w= .ok (l.map g) w
 |[],_=>by simp
 |x::xs,h=>by
  rw[List.mapM_cons];simp[h x (by simp),Qa P w f g xs (fun y aJ=>h y (by simp[aJ])),Result.andThen]
section
variable{ι:bq}{fr aE:aQ}{a:Act}{ay:Nat}{st st':aw}{w:World}{o:Oper}{v:Value}{call:bP}
theorem akV{t:TypeId}{parts:Array (Nat×Operand)}{fields:Array Field}{i:TypeInfo}{z:Value}{ps:List (Nat×Nat×Operand)}(ao:o.op= .build t parts)(hu:X.P.underlying t=some (.struct fields))
 (ag:X.P.info? t=some i) (a8:i.zero=some z) (hp:lN z.cells.toList=true) (H5:∀f∈fields.toList,(X.P.info? f.type).isSome)
 (iA:ps=parts.toList.map (fun p=>((((fields.map fun f=>(f.offset,X.P.cellsOf f.type))[p.1]?).getD (0,0)).1,(((fields.map fun f=>(f.offset,X.P.cellsOf f.type))[p.1]?).getD (0,0)).2,p.2)))
 (bM:∀p∈parts.toList,((fields.map fun f=>(f.offset,X.P.cellsOf f.type))[p.1]?).isSome∧cO X.aB p.2=true) (af:cE ι fr a ay) (hw:bp X ι st w)
 (h:JI z.cells.toList ps call fr st= .ok v aE st'):aE=fr∧cv X ι w v st st' (execOp a.eval o):=by
 obtain⟨out,mI,J,U,ah⟩:=Da (fun j=>(fields.map fun f=>(f.offset,X.P.cellsOf f.type))[j]?) af hw (by simp) parts.toList ps iA bM z.cells.toList z.cells (bF.vL ι _ hp) h;cases ah;refine⟨rfl,cv.same (v':=.agg mI) hw ?_ (bs.x9 U)⟩;unfold execOp;rw[ao];have hm:(fields.mapM fun f=>do pure (f.offset,<-sizeOf f.type):Sem (Array (Nat×Nat))).run X.P w= .ok (fields.map fun f=>(f.offset,X.P.cellsOf f.type)) w:=by
  rw[Array.mapM_eq_mapM_toList];rw[Sem.run_map,Qa X.P w _ (fun f:Field=>(f.offset,X.P.cellsOf f.type)) fields.toList (fun f aaN=>by
   obtain⟨anp,OG⟩:=Option.isSome_iff_exists.1 (H5 f aaN);simp[iU OG,Result.andThen,Program.cellsOf,OG])]
  simp only[Result.andThen];congr 1;apply Array.ext';simp
 simp only[Instr.build,Sem.run_bind,sm ag a8,Result.andThen,run_underlying hu,hm];have jY:Instr.fill (fun x=>(Array.map (fun f:Field=>(f.offset,X.P.cellsOf f.type)) fields)[x]?) z.cells (parts.map fun x=>(x.1,a.eval x.2)).toList=some mI:=by
  rw[<-J];simp
 rw[jY];rfl
theorem akU{t e:TypeId}{n:Nat}{parts:Array (Nat×Operand)}{i dp:TypeInfo}{z:Value}{ps:List (Nat×Nat×Operand)}(ao:o.op= .build t parts)(hu:X.P.underlying t=some (.array n e))
 (ag:X.P.info? t=some i) (a8:i.zero=some z) (hp:lN z.cells.toList=true) (fI:X.P.info? e=some dp)
 (iA:ps=parts.toList.map (fun p=>(p.1*dp.size,dp.size,p.2))) (bM:∀p∈parts.toList,cO X.aB p.2=true) (af:cE ι fr a ay) (hw:bp X ι st w)
 (h:JI z.cells.toList ps call fr st= .ok v aE st'):aE=fr∧cv X ι w v st st' (execOp a.eval o):=by
 obtain⟨out,mI,J,U,ah⟩:=Da (fun j=>some (j*dp.size,dp.size)) af hw (by simp) parts.toList ps (by rw[iA];simp) (fun p hp=>⟨by simp,bM p hp⟩) z.cells.toList z.cells (bF.vL ι _ hp) h;cases ah;refine⟨rfl,cv.same (v':=.agg mI) hw ?_ (bs.x9 U)⟩;unfold execOp;rw[ao];simp only[Instr.build,Sem.run_bind,sm ag a8,Result.andThen,run_underlying hu,iU fI];have jY:Instr.fill (fun i=>some (i*dp.size,dp.size)) z.cells (parts.map fun x=>(x.1,a.eval x.2)).toList=some mI:=by
  rw[<-J];simp
 rw[jY];rfl
theorem akT{t e:TypeId}{len:Nat}{parts:Array (Nat×Operand)}{dp:TypeInfo}{z:Value}{hQ:List Value}{ps:List (Nat×Nat×Operand)}(ao:o.op= .buildSlice t len parts)(hu:X.P.underlying t=some (.slice e))
 (fI:X.P.info? e=some dp) (a8:dp.zero=some z) (OS:len*dp.size<=2^24) (qp:hQ=(List.range (len*dp.size)).map (fun j=>(if len*dp.size=0 then(#[]:Array Value)else z.cells)[j%(if len*dp.size=0 then(#[]:Array Value)else z.cells).size]!))
 (hp:lN hQ=true) (iA:ps=parts.toList.map (fun p=>(p.1*dp.size,dp.size,p.2))) (bM:∀p∈parts.toList,cO X.aB p.2=true) (af:cE ι fr a ay) (hw:bp X ι st w)
 (h:ye e len hQ ps call fr st= .ok v aE st'):aE=fr∧qU X ι w v st st' (execOp a.eval o):=by
 obtain⟨out,mI,J,U,ah⟩:=Da (fun j=>some (j*dp.size,dp.size)) af hw (by simp) parts.toList ps (by rw[iA];simp) (fun p hp=>⟨by simp,bM p hp⟩) hQ hQ.toArray (by simpa using bF.vL ι _ hp) h;rw[gF]at ah;cases ah;obtain⟨aM,bg,bK,ep,kY⟩:=hw.Ey e U {w with heap:=w.heap.push (.cells mI e)} (by simp);rw[kY]at bg bK ep;refine⟨rfl,_,_,_,.slice (some ⟨w.heap.size,0,none⟩) len len,_,rfl,by simp,?_,rfl,?_,bg,bK⟩
 ·unfold execOp;rw[ao];simp only[Instr.buildSlice,Sem.run_bind,Result.andThen,run_underlying hu,iU fI];rw[if_neg (by omega)];have jY:Instr.fill (fun i=>some (i*dp.size,dp.size)) ((Array.range (len*dp.size)).map ((if len*dp.size=0 then(#[]:Array Value)else z.cells)[· %(if len*dp.size=0 then(#[]:Array Value)else z.cells).size]!)) (parts.map fun x=>(x.1,a.eval x.2)).toList=some mI:=by
   rw[<-J];congr 1
   ·rw[qp];apply Array.ext';simp
   ·simp
  by_cases h0:len*dp.size=0
  ·simp only[h0,if_true]at jY⊢;simp only[Sem.run_pure,Result.andThen,Sem.run_bind,jY,newRow,run_newObj]
  ·simp only[h0,if_false]at jY⊢;simp only[Sem.run_pure,Sem.run_bind,sm fI a8,Result.andThen,jY,newRow,run_newObj]
 ·have:=bs.gk (ι:=g8 ι st.aj ⟨w.heap.size,0,0,id⟩) ⟨st.aj,0,none⟩ ⟨w.heap.size,0,0,id⟩ 0 len len ep rfl (.inl rfl);simpa using this
theorem Nj(z:List Value):∀(n:Nat),z≠[]->ml z n=(List.range (n*z.length)).map (fun j=>z.toArray[j%z.toArray.size]!)
 |0,_=>by simp only[Nat.zero_mul,List.range_zero,List.map_nil];rfl
 |n+1,a8=>by
  show gL z (ml z n)=_;rw[pf,Nj z n a8];have qj:0<z.length:=List.length_pos_iff.2 a8;rw[Nat.succ_mul,Nat.add_comm,List.range_add,List.map_append,List.map_map];congr 1
  ·apply List.ext_getElem?;intro j;by_cases hj:j<z.length
   ·simp[hj,fY hj]
   ·simp[hj]
  ·apply List.map_congr_left;intro j _;simp
theorem alr{t e:TypeId}{l c:Operand}{dp:TypeInfo}{z:Value}(hl:cO X.aB l=true)(hc:cO X.aB c=true)(ao:o.op= .makeSlice t l c)(hu:X.P.underlying t=some (.slice e))(fI:X.P.info? e=some dp)
 (a8:dp.zero=some z) (fa:z.cells.toList.length=dp.size) (cx:dp.size≠0) (hp:lN z.cells.toList=true) (af:cE ι fr a ay) (hw:bp X ι st w)
 (h:tv e dp.bytes z.cells.toList l c call fr st= .ok v aE st'):aE=fr∧qU X ι w v st st' (execOp a.eval o):=by
 obtain⟨k,aod,xw,aW⟩:=iF h (by simp);obtain⟨k',ank,HY,a0⟩:=iF aW (by simp);obtain⟨cQ,aG,bx⟩:=lB a0 (by simp);obtain⟨cr,e2,cK⟩:=lB bx (by simp);clear h aW a0 bx;subst aG e2;obtain⟨hle,dn⟩:=iC cK (by simp);obtain⟨hb,eR⟩:=iC dn (by simp);rw[gF]at eR;cases eR;have cy:=af.an hw hl;rw[xw]at cy;generalize aa6:a.eval l=Jd at cy;have lV:=af.an hw hc;rw[HY]at lV;generalize aay:a.eval c=CO at lV;cases cy;cases lV;have acf:z.cells.toList≠[]:=by intro e;rw[e]at fa;simp at fa;omega
 have fH:=Nj z.cells.toList cr acf;have abx:bF ι (ml z.cells.toList cr) (ml z.cells.toList cr):=by
  have:∀n,bF ι (ml z.cells.toList n) (ml z.cells.toList n):=by
   intro n
   induction n with
   |zero=>exact bF.nil ι
   |succ n bb=>show bF ι (gL _ _) (gL _ _);rw[pf];exact(bF.vL ι _ hp).append bb
  exact this cr
 obtain⟨aM,bg,bK,ep,kY⟩:=hw.Ey e abx {w with heap:=w.heap.push (.cells (ml z.cells.toList cr).toArray e)} (by simp);rw[kY]at bg bK ep;refine⟨rfl,_,_,_,.slice (some ⟨w.heap.size,0,none⟩) cQ cr,_,rfl,by simp,?_,rfl,?_,bg,bK⟩
 ·have cX:cr*(dp.bytes+1)<=1099511627776:=hb;have xl:cr<=1099511627776:=Nat.le_trans (Nat.le_mul_of_pos_right cr (by omega)) cX;have OA:dp.bytes*cr<=1099511627776:=by
   have:dp.bytes*cr<=cr*(dp.bytes+1):=by rw[Nat.mul_comm];exact kA _ (by omega)
   omega
  have wl:IntKind.i64.wrap (cQ:Int)=cQ:=by rw[<-kd];simp only[mQ];rw[wo _ _ _ (by decide)];rw[if_neg]<;>omega
  have Ln:IntKind.i64.wrap (cr:Int)=cr:=by rw[<-kd];simp only[mQ];rw[wo _ _ _ (by decide)];rw[if_neg]<;>omega
  unfold execOp;rw[ao];have xg:¬((dp.bytes:Int)*(cr:Int)>2^48):=by
   have:((dp.bytes*cr:Nat):Int)<=1099511627776:=by omega
   rw[Int.natCast_mul]at this;omega
  have aZ:(decide ((cr:Int)<0)||decide ((dp.bytes:Int)*(cr:Int)>2^48)||decide ((cQ:Int)<0)||decide ((cQ:Int)>(cr:Int)))=false:=by
   simp only[Bool.or_eq_false_iff,decide_eq_false_iff_not];omega
  have kO:(Array.range (cr*dp.size)).map (z.cells[· %z.cells.size]!)=(ml z.cells.toList cr).toArray:=by
   rw[fH];apply Array.ext';simp[fa]
  have kn:¬(cr*dp.size=0)∨cr*dp.size=0:=by omega
  simp only[Instr.makeSlice,Sem.run_bind,Result.andThen,run_underlying hu,aa6,aay,asInt,asIntOf,Sem.run_pure,typeInfo,run_program,fI,wl,Ln,aZ,Bool.false_eq_true,if_false,run_askRoom,iU fI,Int.toNat_natCast];by_cases h0:cr*dp.size=0
  ·have m3:cr=0:=by rcases Nat.mul_eq_zero.1 h0 with h|h;exact h;exact absurd h cx
   subst m3;have bR:ml z.cells.toList 0=[]:=rfl;simp[Result.andThen,newRow,bR];congr 2;apply Array.ext';simp
  ·rw[if_neg h0];simp only[Sem.run_bind,sm fI a8,Result.andThen,Sem.run_pure,kO,newRow,run_newObj]
 ·have:=bs.gk (ι:=g8 ι st.aj ⟨w.heap.size,0,0,id⟩) ⟨st.aj,0,none⟩ ⟨w.heap.size,0,0,id⟩ 0 cQ cr ep rfl (.inl rfl);simpa using this
end
section
variable{ι:bq}{fr aE:aQ}{a:Act}{ay:Nat}{st st':aw}{w:World}{o:Oper}{v:Value}{call:bP}
theorem alH{op:UnOp}{t:TypeId}{x:Operand}(aa:cO X.aB x=true)(ao:o.op= .unOp op t x)(af:cE ι fr a ay)(hw:bp X ι st w)(h:JM op x call fr st= .ok v aE st'):
 aE=fr∧cv X ι w v st st' (execOp a.eval o):=by
 have b4:=af.an hw aa;generalize cM:a.eval x=fo at b4;unfold JM at h;cases op with
 |neg=>
  obtain⟨k,n,hp,g⟩:=iF h (by simp);rw[hB,kd,Jt]at g;rw[hp]at b4;cases b4;cases g;refine⟨rfl,cv.same (v':=.int k (k.wrap (-n))) hw ?_ (.int _ _)⟩;unfold execOp;rw[ao];simp[cM,Op.unary,Op.intArith]
 |xor=>
  obtain⟨k,n,hp,g⟩:=iF h (by simp);rw[hB]at g;rw[hp]at b4;cases b4;cases g;refine⟨rfl,cv.same (v':=.int k _) hw ?_ (.int _ _)⟩;unfold execOp;rw[ao];simp[cM,Op.unary,Op.intBits]
 |not=>
  obtain⟨b,hp,g⟩:=Lg h (by simp);rw[hp]at b4;cases b4;cases g;refine⟨rfl,cv.same (v':=.bool (!b)) hw ?_ (.bool _)⟩;unfold execOp;rw[ao];simp[cM,Op.unary]
 |_=>cases h
theorem aly{x:Operand}(aa:cO X.aB x=true)(ao:o.op= .nilCheck x)(af:cE ι fr a ay)(hw:bp X ι st w)(h:JK x call fr st= .ok v aE st'):
 aE=fr∧cv X ι w v st st' (execOp a.eval o):=by
 have b4:=af.an hw aa;generalize cM:a.eval x=fo at b4;unfold JK at h;generalize xm:fr.an x=jW at h b4;cases jW with
 |pointer p=>
  cases p with
  |none=>cases h
  |some ad=>
   have h:aY.ok (.pointer (some ad)) fr st= .ok v aE st':=h;cases h;cases b4 with
   |ptr _ l hl ak=>
    refine⟨rfl,cv.same (v':=.pointer (some ⟨l.cU,l.cW+ad.off,none⟩)) hw ?_ (.ptr _ _ hl ak)⟩;unfold execOp;rw[ao];simp[cM]
 |func f ev B0=>
  cases f with
  |func g=>
   have h:aY.ok (.func (.func g) ev B0) fr st= .ok v aE st':=h;cases h;cases b4 with
   |func _ kK _ av _ vs gu J U ah aC=>
    rcases gu with⟨rfl,_⟩|⟨l,b,e,_⟩
    ·refine⟨rfl,cv.same (v':=.func (.func g) av vs) hw ?_ (.func _ _ _ _ _ _ (.inl ⟨rfl,by simp⟩) J U ah aC)⟩;unfold execOp;rw[ao];simp[cM]
    ·cases e
  |_=>cases h
 |_=>cases h
theorem Qd(k:IntKind)(af:cE ι fr a ay)(hw:bp X ι st w):∀(xs:List Operand) (m r:Int),(∀x∈xs,cO X.aB x=true)->AY k fr xs m=some r->
 ((xs.map a.eval).foldlM Builtin.max2 (.int k m)).run X.P w= .ok (.int k r) w
 |[],m,r,_,h=>by cases h;simp
 |x::xs,m,r,bM,h=>by
  obtain⟨k',y,aJ,J⟩:=iF h (by simp);obtain⟨ae,U⟩:=hU J (by simp);have fJ:=rP ae;have b4:=af.an hw (bM x (by simp));rw[aJ]at b4;generalize cM:a.eval x=fo at b4;cases b4;have bb:=Qd k af hw xs _ r (fun z a8=>bM z (by simp[a8])) U;simp only[List.map_cons,List.foldlM_cons,Sem.run_bind,cM,Builtin.max2,Sem.run_pure,Result.andThen];have e:(if y>m then y else m)=cond (ly y m) m y:=by
   rw[qu];by_cases c:y<=m
   ·rw[if_neg (by omega)];simp[c]
   ·rw[if_pos (by omega)];simp[c]
  rw[e];exact bb
theorem Qf(k:IntKind)(af:cE ι fr a ay)(hw:bp X ι st w):∀(xs:List Operand) (m r:Int),(∀x∈xs,cO X.aB x=true)->AZ k fr xs m=some r->
 ((xs.map a.eval).foldlM Builtin.min2 (.int k m)).run X.P w= .ok (.int k r) w
 |[],m,r,_,h=>by cases h;simp
 |x::xs,m,r,bM,h=>by
  obtain⟨k',y,aJ,J⟩:=iF h (by simp);obtain⟨ae,U⟩:=hU J (by simp);have fJ:=rP ae;have b4:=af.an hw (bM x (by simp));rw[aJ]at b4;generalize cM:a.eval x=fo at b4;cases b4;have bb:=Qf k af hw xs _ r (fun z a8=>bM z (by simp[a8])) U;simp only[List.map_cons,List.foldlM_cons,Sem.run_bind,cM,Builtin.min2,Sem.run_pure,Result.andThen];have e:(if y<m then y else m)=cond (ly m y) m y:=by
   rw[qu];by_cases c:m<=y
   ·rw[if_neg (by omega)];simp[c]
   ·rw[if_pos (by omega)];simp[c]
  rw[e];exact bb
theorem alw{x:Operand}{xs:List Operand}{ts:Array TypeId}(bM:∀y∈x::xs,cO X.aB y=true)(ao:o.op= .call {callee:=.builtin .max,args:=(x::xs).toArray,argTypes:=ts})(af:cE ι fr a ay)(hw:bp X ι st w)
 (h:Q8 x xs call fr st= .ok v aE st'):aE=fr∧cv X ι w v st st' (execOp a.eval o):=by
 obtain⟨k,n,hp,J⟩:=iF h (by simp);obtain⟨m,hm,U⟩:=fC J (by simp);rw[hB]at U;have b4:=af.an hw (bM x (by simp));rw[hp]at b4;generalize cM:a.eval x=fo at b4;cases b4;cases U;have aF:=Qd k af hw xs n m (fun y aJ=>bM y (by simp[aJ])) hm;refine⟨rfl,cv.same (v':=.int k m) hw ?_ (.int _ _)⟩;unfold execOp;rw[ao];simp[cM,resolve,invoke,builtin,Builtin.max_,aF,Result.andThen]
theorem alu{x:Operand}{xs:List Operand}{ts:Array TypeId}(bM:∀y∈x::xs,cO X.aB y=true)(ao:o.op= .call {callee:=.builtin .min,args:=(x::xs).toArray,argTypes:=ts})(af:cE ι fr a ay)(hw:bp X ι st w)
 (h:Q6 x xs call fr st= .ok v aE st'):aE=fr∧cv X ι w v st st' (execOp a.eval o):=by
 obtain⟨k,n,hp,J⟩:=iF h (by simp);obtain⟨m,hm,U⟩:=fC J (by simp);rw[hB]at U;have b4:=af.an hw (bM x (by simp));rw[hp]at b4;generalize cM:a.eval x=fo at b4;cases b4;cases U;have aF:=Qf k af hw xs n m (fun y aJ=>bM y (by simp[aJ])) hm;refine⟨rfl,cv.same (v':=.int k m) hw ?_ (.int _ _)⟩;unfold execOp;rw[ao];simp[cM,resolve,invoke,builtin,Builtin.min_,aF,Result.andThen]
theorem ns(af:cE ι fr a ay)(hw:bp X ι st w){x:Option Operand}(aa:∀y,x=some y->cO X.aB y=true){d y:Nat}{k:Nat->aY}{r:aY}(h:e4 fr x d y k=r)(aF:aY.no≠r):
 ∃n,k n=r∧((x=none∧n=d)∨(∃z cH,x=some z∧a.eval z= .int cH (n:Int)∧n<=y)):=by
 cases x with
 |none=>exact⟨d,h,.inl ⟨rfl,rfl⟩⟩
 |some z=>
  obtain⟨cH,m,hp,J⟩:=iF (h:gd (fr.an z) _ _=r) aF;obtain⟨n,e,U⟩:=lB J aF;obtain⟨hle,ah⟩:=iC U aF;have a8:=af.an hw (aa z rfl);rw[hp]at a8;generalize pD:a.eval z=wx at a8;cases a8;exact⟨n,ah,.inr ⟨z,cH,rfl,by rw[pD,e],hle⟩⟩
end
theorem SU(P:Program)(w:World)(cH:IntKind)(n y:Nat)(c:BoundsCode)(h:n<=y):(Instr.sliceBound (.int cH (n:Int)) y c).run P w= .ok n w:=by
 have:(n:Int)<=(y:Int):=by omega
 simp[Instr.sliceBound,asIntOf,h]
def B5(v:Option Value)(d y n:Nat):Prop:=(v=none∧n=d)∨∃cH,v=some (.int cH (n:Int))∧n<=y
theorem BM(P:Program)(w:World)(is:Bool)(len cap l h m:Nat)(bD ag eM:Option Value)(hm:B5 eM cap cap m)(hh:B5 ag len m h)(hl:B5 bD 0 h l)(aa:eM≠none->ag≠none):
 (Instr.sliceBounds is len cap bD ag eM).run P w= .ok (l,h,m) w:=by
 unfold Instr.sliceBounds;rcases hm with⟨rfl,rfl⟩|⟨an9,rfl,hm⟩
 ·clear aa;rcases hh with⟨rfl,rfl⟩|⟨ahn,rfl,hh⟩<;>rcases hl with⟨rfl,rfl⟩|⟨ahp,rfl,hl⟩<;>simp[SU,Result.andThen, *]
 ·rcases hh with⟨rfl,rfl⟩|⟨ahn,rfl,hh⟩
  ·exact absurd rfl (aa (by simp))
  ·clear aa;rcases hl with⟨rfl,rfl⟩|⟨ahp,rfl,hl⟩<;>simp[SU,Result.andThen, *]
section
variable{ι:bq}{fr aE:aQ}{a:Act}{ay:Nat}{st st':aw}{w:World}{o:Oper}{v:Value}{call:bP}
theorem nr{x:Option Operand}{d y n:Nat}(h:(x=none∧n=d)∨(∃z cH,x=some z∧a.eval z= .int cH (n:Int)∧n<=y)):B5 (x.map a.eval) d y n:=by
 rcases h with⟨rfl,rfl⟩|⟨z,cH,rfl,J,U⟩
 ·exact .inl ⟨rfl,rfl⟩
 ·exact .inr ⟨cH,by simp[J],U⟩
theorem Zb(s:ByteArray)(l h:Nat)(_hl:l<=h)(_hh:h<=s.data.toList.length):(⟨⟨(s.data.toList.drop l).take (h-l)⟩⟩:ByteArray)=s.extract l h:=by
 apply ByteArray.ext;rw[ByteArray.data_extract];apply Array.ext';rw[Array.toList_extract,List.extract_eq_take_drop]
theorem wH{x:Option Operand}{d y n:Nat}(h:(x=none∧n=d)∨(∃z cH,x=some z∧a.eval z= .int cH (n:Int)∧n<=y))(ax:d<=y):n<=y:=by
 rcases h with⟨_,rfl⟩|⟨_,_,_,_,h⟩<;>omega
theorem alE{t:TypeId}{x:Operand}{bD ag:Option Operand}(aa:cO X.aB x=true)(J:∀y,bD=some y->cO X.aB y=true)(U:∀y,ag=some y->cO X.aB y=true)(ao:o.op= .slice t x bD ag none)
 (hu:X.P.underlying t=some .string) (af:cE ι fr a ay) (hw:bp X ι st w) (h:Rd x bD ag call fr st= .ok v aE st'):aE=fr∧cv X ι w v st st' (execOp a.eval o):=by
 obtain⟨s,hp,aW⟩:=n7 h (by simp);obtain⟨hn,a0,dz⟩:=ns af hw U aW (by simp);obtain⟨cQ,bx,eH⟩:=ns af hw J a0 (by simp);obtain⟨hc,cK⟩:=sH bx (by simp);cases cK;rw[fx]at dz;have OJ:hn<=s.data.toList.length:=wH dz (cd _);have xv:cQ<=hn:=wH eH (Nat.zero_le _);have b4:=af.an hw aa;rw[hp]at b4;generalize cM:a.eval x=fo at b4;cases b4;refine⟨rfl,cv.same (v':=.string (s.extract cQ hn)) hw ?_ ?_⟩
 ·unfold execOp;rw[ao];have fa:s.data.toList.length=s.size:=by rw[Array.length_toList];rfl
  rw[fa]at dz;have hb:=BM X.P w false s.size s.size cQ hn s.size (bD.map a.eval) (ag.map a.eval) none (.inl ⟨rfl,rfl⟩) (nr dz) (nr eH) (by simp);simp[cM,Instr.sliceAt,Instr.slice,run_underlying hu,Result.andThen,hb]
 ·have e:=Zb s cQ hn xv OJ;have:(Nat.sub hn cQ)=hn-cQ:=rfl;rw[this,e];exact .string _
theorem alC{t e:TypeId}{n:Nat}{x:Operand}{bD ag eM:Option Operand}{dp:TypeInfo}(aa:cO X.aB x=true)(J:∀y,bD=some y->cO X.aB y=true)(U:∀y,ag=some y->cO X.aB y=true)(ah:∀y,eM=some y->cO X.aB y=true)
 (Ap:eM≠none->ag≠none) (ao:o.op= .slice t x bD ag eM) (hu:X.P.underlying t=some (.array n e)) (fI:X.P.info? e=some dp) (af:cE ι fr a ay) (hw:bp X ι st w)
 (h:EN n dp.size x bD ag eM call fr st= .ok v aE st'):aE=fr∧cv X ι w v st st' (execOp a.eval o):=by
 obtain⟨p,hp,aW⟩:=n6 h (by simp);obtain⟨ad,aG,a0⟩:=fC aW (by simp);subst aG;obtain⟨ak,cs,elem,bt,aR,aZ,bx⟩:=sG a0 (by simp);obtain⟨xn,cK⟩:=xX bx (by simp);obtain⟨m,dn,kE⟩:=ns af hw ah cK (by simp);obtain⟨hn,eR,dz⟩:=ns af hw U dn (by simp);obtain⟨cQ,g9,eH⟩:=ns af hw J eR (by simp);cases g9;subst xn;obtain⟨l,hl,C,er,hc⟩:=hw.eu _ _ aZ (by simp);have b4:=af.an hw aa;rw[hp]at b4;generalize cM:a.eval x=fo at b4;cases b4 with
 |ptr _ l' cy e9=>
  rw[hl]at cy;cases cy;have hK:=hc.plain rfl;refine⟨rfl,cv.same (v':=.slice (some (if m=cQ then⟨l.cU,l.cW+ad.off,none⟩else Addr.add ⟨l.cU,l.cW+ad.off,none⟩ (cQ*dp.size))) (hn-cQ) (m-cQ)) hw ?_ ?_⟩
  ·unfold execOp;rw[ao];have hb:=BM X.P w false n n cQ hn m (bD.map a.eval) (ag.map a.eval) (eM.map a.eval) (nr kE) (nr dz) (nr eH) (by simpa using Ap);simp[cM,Instr.sliceAt,Instr.sureAddr,run_underlying hu,Result.andThen,hb,iU fI]
  ·rw[mW];by_cases c:m=cQ
   ·rw[if_pos c,if_pos c];have:=bs.gk (ι:=ι) ad l (l.cW+ad.off) (Nat.sub hn cQ) (Nat.sub m cQ) hl ak (.inl rfl);rw[hK.1]at this;exact this
   ·rw[if_neg c,if_neg c,add_eq];have:=bs.gk (ι:=ι) (ad.add (Nat.mul cQ dp.size)) l (l.cW+(ad.add (Nat.mul cQ dp.size)).off) (Nat.sub hn cQ) (Nat.sub m cQ) (by rw[y6];exact hl) (y7 _ _ ak) (.inl rfl);rw[hK.1,Cc,<-Nat.add_assoc]at this;exact this
theorem alD{t e:TypeId}{x:Operand}{bD ag eM:Option Operand}{dp:TypeInfo}(aa:cO X.aB x=true)(J:∀y,bD=some y->cO X.aB y=true)(U:∀y,ag=some y->cO X.aB y=true)(ah:∀y,eM=some y->cO X.aB y=true)
 (Ap:eM≠none->ag≠none) (ao:o.op= .slice t x bD ag eM) (hu:X.P.underlying t=some (.slice e)) (fI:X.P.info? e=some dp) (af:cE ι fr a ay) (hw:bp X ι st w)
 (h:Rc dp.size x bD ag eM call fr st= .ok v aE st'):aE=fr∧cv X ι w v st st' (execOp a.eval o):=by
 obtain⟨b,len,cap,hp,aW⟩:=sj h (by simp);have b4:=af.an hw aa;rw[hp]at b4;generalize cM:a.eval x=fo at b4;cases b with
 |none=>
  have aW:e4 fr eM cap cap (fun m=>e4 fr ag len m fun h=>e4 fr bD 0 h fun l=>.ok (.slice none (Nat.sub h l) (Nat.sub m l)) fr st)=aY.ok v aE st':=aW;obtain⟨m,dn,kE⟩:=ns af hw ah aW (by simp);obtain⟨hn,eR,dz⟩:=ns af hw U dn (by simp);obtain⟨cQ,g9,eH⟩:=ns af hw J eR (by simp);cases g9;cases b4;refine⟨rfl,cv.same (v':=.slice none (hn-cQ) (m-cQ)) hw ?_ (.l8 _ _)⟩;unfold execOp;rw[ao];have hb:=BM X.P w true len cap cQ hn m (bD.map a.eval) (ag.map a.eval) (eM.map a.eval) (nr kE) (nr dz) (nr eH) (by simpa using Ap);simp[cM,Instr.sliceAt,Instr.slice,run_underlying hu,Result.andThen,hb,iU fI]
 |some ad=>
  obtain⟨ak,cs,elem,bt,aR,aZ,bx⟩:=sG (aW:aw.gI st ad _ _=_) (by simp);obtain⟨l,hl,C,er,hc⟩:=hw.eu _ _ aZ (by simp);cases b4 with
  |gk _ l' off _ _ cy e9 hz=>
   rw[hl]at cy;cases cy;cases aR with
   |false=>
    have hK:=hc.plain rfl;obtain⟨m,dn,kE⟩:=ns af hw ah (bx:e4 fr eM cap cap _=_) (by simp);obtain⟨hn,eR,dz⟩:=ns af hw U dn (by simp);obtain⟨cQ,g9,eH⟩:=ns af hw J eR (by simp);cases g9;have anN:m<=cap:=wH kE (cd _);refine⟨rfl,cv.same (v':=.slice (some (if m=cQ then⟨l.cU,off,none⟩else Addr.add ⟨l.cU,off,none⟩ (cQ*dp.size))) (hn-cQ) (m-cQ)) hw ?_ ?_⟩
    ·unfold execOp;rw[ao];have hb:=BM X.P w true len cap cQ hn m (bD.map a.eval) (ag.map a.eval) (eM.map a.eval) (nr kE) (nr dz) (nr eH) (by simpa using Ap);have hex:cap+l.ex=cap:=by rw[hK.1];rfl
     rw[hex]at cM;simp only[cM,Instr.sliceAt,Instr.slice,Sem.run_bind,run_underlying hu,Result.andThen,hb,iU fI,Sem.run_pure];by_cases c:m=cQ<;>simp[c]
    ·rw[mW];by_cases c:m=cQ
     ·rw[if_pos c,if_pos c];have:=bs.gk (ι:=ι) ad l off (Nat.sub hn cQ) (Nat.sub m cQ) hl ak (by
       rcases hz with h|⟨J,U,ah⟩
       ·exact .inl h
       ·right;subst J U;have aG:Nat.sub m cQ=m-cQ:=rfl;have e2:Nat.sub hn cQ=hn-cQ:=rfl;have hh:hn<=m:=by
         rcases dz with⟨_,e⟩|⟨_,_,_,_,e⟩<;>omega
        refine⟨by omega,by omega,ah⟩)
      rw[hK.1]at this;exact this
     ·rw[if_neg c,if_neg c,add_eq];have rD:off=l.cW+ad.off:=by
       rcases hz with h|⟨J,U,ah⟩
       ·exact h
       ·exfalso;subst J U;have hh:hn<=m:=by
         rcases dz with⟨_,e⟩|⟨_,_,_,_,e⟩<;>omega
        have xv:cQ<=hn:=wH eH (Nat.zero_le _);omega
      subst rD;have:=bs.gk (ι:=ι) (ad.add (Nat.mul cQ dp.size)) l (l.cW+(ad.add (Nat.mul cQ dp.size)).off) (Nat.sub hn cQ) (Nat.sub m cQ) (by rw[y6];exact hl) (y7 _ _ ak) (.inl rfl);rw[hK.1,Cc,<-Nat.add_assoc]at this;exact this
   |true=>
    obtain⟨abe,cK⟩:=x2 (bx:bo eM (fun _=>aY.no) _=aY.ok v aE st') (fun _=>by simp);obtain⟨oD,dn⟩:=iC cK (by simp);obtain⟨hn,eR,dz⟩:=ns af hw U dn (by simp);obtain⟨cQ,g9,eH⟩:=ns af hw J eR (by simp);cases g9;subst abe;have OJ:hn<=len:=wH dz (cd _);have xv:cQ<=hn:=wH eH (Nat.zero_le _);have VG:(ag=none∧hn=len)∨(∃z cH,ag=some z∧a.eval z= .int cH (hn:Int)∧hn<=cap+l.ex):=by
     rcases dz with h|⟨z,cH,J,U,ah⟩
     ·exact .inl h
     ·exact .inr ⟨z,cH,J,U,by omega⟩
    refine⟨rfl,cv.same (v':=.slice (some (if cap+l.ex=cQ then⟨l.cU,off,none⟩else Addr.add ⟨l.cU,off,none⟩ (cQ*dp.size))) (hn-cQ) (cap+l.ex-cQ)) hw ?_ ?_⟩
    ·unfold execOp;rw[ao];have hb:=BM X.P w true len (cap+l.ex) cQ hn (cap+l.ex) (bD.map a.eval) (ag.map a.eval) none (.inl ⟨rfl,rfl⟩) (nr VG) (nr eH) (by simp);simp only[cM,Instr.sliceAt,Instr.slice,Sem.run_bind,run_underlying hu,Result.andThen,Option.map_none,hb,iU fI,Sem.run_pure];by_cases c:cap+l.ex=cQ<;>simp[c]
    ·have aG:Nat.sub cap cQ=cap-cQ:=rfl;have e2:cap+l.ex-cQ=(cap-cQ)+l.ex:=by omega
     rw[e2];by_cases c:cap+l.ex=cQ
     ·rw[if_pos c];exact bs.gk (ι:=ι) (ad.add (Nat.mul cQ dp.size)) l off (Nat.sub hn cQ) (Nat.sub cap cQ) (by rw[y6];exact hl) (y7 _ _ ak) (.inr ⟨by show hn-cQ=0;omega,by show cap-cQ=0;omega,by omega⟩)
     ·rw[if_neg c,add_eq];refine bs.gk (ι:=ι) (ad.add (Nat.mul cQ dp.size)) l (off+cQ*dp.size) (Nat.sub hn cQ) (Nat.sub cap cQ) (by rw[y6];exact hl) (y7 _ _ ak) ?_;rcases hz with h|⟨J,U,ah⟩
      ·left;rw[Cc,h,Nat.add_assoc];rfl
      ·exfalso;omega
end
theorem bp.kill{ι:bq}{st:aw}{w:World}(h:bp X ι st w){id:Nat}{lE:bL}(h₀:st.h.get id=some lE):bp X ι ⟨st.h.set id .dead,st.aj⟩ w:=by
 have mx:id<st.aj:=by
  rcases Nat.lt_or_ge id st.aj with c|c
  ·exact c
  ·rw[(h.fresh id c).2]at h₀;cases h₀
 refine⟨fun j p hp ax=> ?_,fun i j p q l m ag gU hj hf=> ?_,fun j hj=> ?_,h.gh,h.kL,h.nG,fun j l p hl ak hp ax=> ?_⟩
 ·rw[au.eI]at hp;split at hp
  ·cases hp;exact absurd rfl ax
  ·exact h.eu j p hp ax
 ·rw[au.eI]at ag hj;split at ag
  ·cases ag;exact absurd rfl gU
  ·split at hj
   ·cases hj;exact absurd rfl hf
   ·exact h.inj i j p q l m ag gU hj hf
 ·have kT:st.aj<=j:=hj;refine⟨(h.fresh j kT).1,?_⟩;rw[au.eI,if_neg (by omega)];exact(h.fresh j kT).2
 ·rw[au.eI]at hp;split at hp
  ·cases hp;exact absurd rfl ax
  ·exact h.k3 j l p hl ak hp ax
theorem bp.aj2{ι:bq}{st:aw}{w:World}(h:bp X ι st w){id:Nat}{l l':Loc}{lE:bL}(h₀:st.h.get id=some lE)(rv:lE≠.dead)(Io:¬lE.sP)(e9:l'.bW≠jX)(hl:ι id=some l)(o:bL)(cX:l'.cU=l.cU)(O:Obj)
 (w':World) (hw:w'.heap=w.heap.setIfInBounds l.cU O) (hm:∀aM:bq,ι.le aM->w'.heap[l'.cU]? =some O->iI X aM w' o l') (gw:o9 w w':=by exact⟨rfl,rfl⟩):
 ∃aM,bp X aM ⟨(st.h.set id .dead).set st.aj o,st.aj+1⟩ w'∧eV ι aM w w'∧aM st.aj=some l':=by
 have hb:=h.gh id l hl;have pB:l.bW≠jX:=fun e=>Io (h.k3 id l lE hl e h₀ rv);have mx:id<st.aj:=by
  rcases Nat.lt_or_ge id st.aj with c|c
  ·exact c
  ·rw[(h.fresh id c).2]at h₀;cases h₀
 have hle:ι.le (fun i=>if i=st.aj then some l' else ι i):=by
  intro i m kU;show(if i=st.aj then _ else ι i)=_;rw[if_neg];exact kU;intro e;subst e;rw[(h.fresh _ (cd _)).1]at kU;cases kU
 refine⟨fun i=>if i=st.aj then some l' else ι i,⟨fun j p hp ax=> ?_,fun i j p q oO vn ag gU hj hf gA hy e=> ?_,fun j hj=> ?_,fun j oO lo=> ?_,fun g aZ=>hle _ _ (h.kL g aZ),Nat.le_succ_of_le h.nG,fun j oO p lo ak hp ax=> ?_⟩,⟨hle,by rw[hw];simp,fun b _ ag=> ?_,fun j oO lo=> ?_,gw⟩,if_pos rfl⟩
 ·rw[au.eI]at hp;by_cases e:j=st.aj
  ·rw[if_pos e]at hp;cases hp;exact⟨l',by simp[e],hm _ hle (by rw[hw,cX];simp[hb])⟩
  ·rw[if_neg e,au.eI]at hp;split at hp
   ·cases hp;exact absurd rfl ax
   ·rename_i ne;obtain⟨m,kU,ao⟩:=h.eu j p hp ax;refine⟨m,hle _ _ kU,iI.mono X ao hle ?_⟩;have cx:m.cU≠l.cU:=fun ny=>ne (h.inj j id p lE m l hp ax h₀ rv kU hl ny);rw[hw,Array.getElem?_setIfInBounds_ne (Ne.symm cx)]
 ·have key:∀j p m,((st.h.set id .dead).set st.aj o).get j=some p->p≠.dead->(if j=st.aj then some l' else ι j)=some m->
   (j=st.aj∧m=l')∨(j≠st.aj∧j≠id∧st.h.get j=some p∧ι j=some m):=by
   intro j p m hj ax kU;rw[au.eI]at hj;by_cases c:j=st.aj
   ·rw[if_pos c]at kU;cases kU;exact .inl ⟨c,rfl⟩
   ·rw[if_neg c,au.eI]at hj;rw[if_neg c]at kU;split at hj
    ·cases hj;exact absurd rfl ax
    ·rename_i ne;exact .inr ⟨c,ne,hj,kU⟩
  rcases key i p oO ag gU gA with⟨aG,rfl⟩|⟨lA,rV,aW,a0⟩<;>rcases key j q vn hj hf hy with⟨e2,rfl⟩|⟨e0,gV,f1,f2⟩
  ·rw[aG,e2]
  ·exact absurd (h.inj j id q lE vn l f1 hf h₀ rv f2 hl (by omega)) gV
  ·exact absurd (h.inj i id p lE oO l aW gU h₀ rv a0 hl (by omega)) rV
  ·exact h.inj i j p q oO vn aW gU f1 hf a0 f2 e
 ·have kT:st.aj+1<=j:=hj;have:=h.fresh j (by omega);refine⟨?_,?_⟩
  ·show(if j=st.aj then _ else ι j)=_;rw[if_neg (by omega)];exact this.1
  ·rw[au.eI,if_neg (by omega),au.eI,if_neg (by omega)];exact this.2
 ·rw[hw];simp only[Array.size_setIfInBounds];by_cases e:j=st.aj
  ·simp only[if_pos e]at lo;cases lo;omega
  ·simp only[if_neg e]at lo;exact h.gh j oO lo
 ·rw[au.eI]at hp;by_cases e:j=st.aj
  ·simp only[if_pos e]at lo;cases lo;exact absurd ak e9
  ·rw[if_neg e,au.eI]at hp;simp only[if_neg e]at lo;split at hp
   ·cases hp;exact absurd rfl ax
   ·exact h.k3 j oO p lo ak hp ax
 ·rw[hw,Array.getElem?_setIfInBounds_ne (ag id l hl pB)]
 ·by_cases e:j=st.aj
  ·simp only[if_pos e]at lo;cases lo;exact .inr (.inr ⟨id,l,hl,pB,cX.symm⟩)
  ·simp only[if_neg e]at lo;exact .inl lo
theorem Og(n B:Nat)(bC:n+(n+768)/4<=B):∀r c,c<=B->Builtin.growBy n r c<=B
 |0,c,h=>h
 |r+1,c,h=>by
  unfold Builtin.growBy;split
  ·exact h
  ·rename_i hc;exact Og n B bC r _ (by omega)
theorem aid(n c:Nat)(h:c<n):Builtin.nextslicecap n c<=2*n+768:=by
 unfold Builtin.nextslicecap;split
 ·omega
 ·split
  ·omega
  ·exact Og n _ (by omega) 4 c (by omega)
theorem Lt(z:Array Value)(n:Nat):(Builtin.zeroCells z n).size=n*z.size:=by simp[Builtin.zeroCells]
theorem bp.Ez{ι:bq}{st:aw}{w:World}{cs cs':List Value}(hw:bp X ι st w)(elem:TypeId)(aD:bF ι cs cs')(rest:List Value)(ex:Nat)(aF:ex*X.P.cellsOf elem<=rest.length)(bt:Nat×Nat)
 (mw:∀i,i<cs.length+rest.length->¬(bt.1<=i∧i<bt.2)) (w':World) (hh:w'.heap=w.heap.push (.cells (cs'++rest).toArray elem bt)) (gw:o9 w w':=by exact⟨rfl,rfl⟩):
 ∃aM,bp X aM ⟨st.h.set st.aj (.cells cs elem (0,0) true),st.aj+1⟩ w'∧eV ι aM w w'∧aM st.aj=some ⟨w.heap.size,0,ex,id⟩∧aM=g8 ι st.aj ⟨w.heap.size,0,ex,id⟩:=by
 refine bp.alloc X hw _ _ ex (fun aM iW hle _ aX=> ?_) w' hh gw;refine⟨(cs'++rest).toArray,bt,⟨aX,by simp[aD.1];omega,fun i ag=> ?_,fun _ j _ hj=> ?_,fun h=>by cases h⟩⟩
 ·have dS:i<cs'.length:=by rw[<-aD.1];exact ag
  refine⟨cs'[i],?_,(aD.2 i ag dS).mono hle⟩;simp[List.getElem?_append_left dS,dS]
 ·refine mw j ?_;have:0+cs.length+ex*X.P.cellsOf elem<=cs.length+rest.length:=by omega
  exact gf hj this
structure Src(P:Program)(w:World)(x:Value)(n size:Nat)(new:List Value):Prop where
 len:(Builtin.lenOf x).run P w= .ok n w
 cells:∀tape drawn,(Builtin.firstCells size n x).run P {w with tape:=tape,drawn:=drawn}= .ok new.toArray {w with tape:=tape,drawn:=drawn}
section
variable{P:Program}{w:World}{kv jN elem:TypeId}{d:TypeDesc}{i:TypeInfo}{x:Value}{n len cap:Nat}{new:List Value}
theorem F1{base:Option Addr}(hu:P.underlying kv=some (.slice elem))(aa:P.underlying jN=some d)(ax:∀k,d≠.int k)(ag:P.info? elem=some i)(ak:Src P w x n i.size new)(hn:len+n<=cap)(ty:TypeId)(w':World)
 (gC:∀a,base=some a->(storeCells (a.add (len*i.size)) new).run P w= .ok () w') (fW:base=none->w'=w):
 (Builtin.append_ #[kv,jN] ty #[.slice base len cap,x]).run P w= .ok (.slice base (len+n) cap) w':=by
 have xG:(d matches .int _)=false:=by cases d<;>first|rfl|(exact absurd rfl (ax _))
 have hc:=ak.cells w.tape w.drawn;simp only[Builtin.append_,List.getElem?_toArray,List.getElem?_cons_zero,List.getElem?_cons_succ,Sem.run_bind,run_underlying hu,Result.andThen,iU ag,run_underlying aa,Sem.run_pure,Bool.false_eq_true,if_false,ak.len,hn,if_true,Bool.not_false];rw[hc];cases base with
 |none=>simp only[Sem.run_pure];rw[fW rfl]
 |some a=>
  simp only[Result.andThen,Sem.run_bind,Sem.run_pure];rw[gC a rfl]
theorem KN{base:Option Addr}{z:Value}{old:List Value}(hu:P.underlying kv=some (.slice elem))(aa:P.underlying jN=some d)(ax:∀k,d≠.int k)(ag:P.info? elem=some i)(a8:i.zero=some z)(ak:Src P w x n i.size new)
 (hn:cap<len+n) (hb:(2*(len+n)+768)*(i.bytes+1)<=1099511627776) (ty:TypeId)
 (hold:∀tape drawn,(Builtin.firstCells i.size len (.slice base len cap)).run P {w with tape:=tape,drawn:=drawn}= .ok old.toArray {w with tape:=tape,drawn:=drawn}):
 ∃dR w',len+n<=dR∧(Builtin.append_ #[kv,jN] ty #[.slice base len cap,x]).run P w= .ok (.slice (some ⟨w.heap.size,0,none⟩) (len+n) dR) w'∧
  w'.heap=w.heap.push (.cells (old++new++(Builtin.zeroCells z.cells (dR-(len+n))).toList).toArray elem)∧o9 w w':=by
 have xG:(d matches .int _)=false:=by cases d<;>first|rfl|(exact absurd rfl (ax _))
 have Dt:=aid (len+n) cap hn;have hmul:Builtin.nextslicecap (len+n) cap*i.bytes<=1099511627776:=by
  have J:Builtin.nextslicecap (len+n) cap*i.bytes<=(2*(len+n)+768)*i.bytes:=g5 _ Dt;have U:(2*(len+n)+768)*i.bytes<=(2*(len+n)+768)*(i.bytes+1):=kA _ (by omega);omega
 have anT:len+n<=1099511627776:=by
  have:2*(len+n)+768<=(2*(len+n)+768)*(i.bytes+1):=Nat.le_mul_of_pos_right _ (by omega);omega
 have aba:¬(((len+n:Nat):Int)>IntKind.i64.max∧((false=true)∨i.bytes=0)):=by
  have:IntKind.i64.max=9223372036854775807:=by decide
  rw[this];omega
 have aat:¬(Builtin.nextslicecap (len+n) cap*i.bytes>2^48):=by omega
 let q:Question:=.appendCap (len+n) cap elem
 refine⟨q.cut (w.tape w.drawn q),{w with drawn:=w.drawn+1,heap:=w.heap.push (.cells (old++new++(Builtin.zeroCells z.cells (q.cut (w.tape w.drawn q)-(len+n))).toList).toArray elem)},?_,?_,rfl,⟨rfl,rfl⟩⟩
 ·show len+n<=(len+n)+_;omega
 ·have hc:=ak.cells w.tape (w.drawn+1);have ao:=hold w.tape (w.drawn+1);have D6:=sm (P:=P) ag a8 {w with drawn:=w.drawn+1};simp only[Builtin.append_,List.getElem?_toArray,List.getElem?_cons_zero,List.getElem?_cons_succ,Sem.run_bind,run_underlying hu,Result.andThen,iU ag,run_underlying aa,Sem.run_pure,Bool.false_eq_true,if_false,ak.len,typeInfo,Bool.not_false];rw[if_neg (by omega)];simp only[Sem.run_bind,Sem.run_pure,run_program,Result.andThen,ag];rw[if_neg (by simpa using aba)];simp only[Sem.run_bind,Sem.run_pure,run_program,Result.andThen,ag];rw[if_neg aat];simp only[Sem.run_bind,Sem.run_pure,run_program,Result.andThen,ag,run_choose,Question.forced,Bool.false_eq_true,if_false,run_askRoom,if_true];rw[ao];simp only[];rw[hc];simp only[Result.andThen,Sem.run_bind,D6,Sem.run_pure,newRow,run_newObj];simp[q];congr 2;apply Array.ext';simp
end
section
variable{ι:bq}{fr aE:aQ}{a:Act}{ay:Nat}{st st':aw}{w:World}{o:Oper}{v:Value}{call:bP}
theorem Y8{kv jN:TypeId}{s x:Operand}{v':Value}{w':World}(ao:o.op= .call {callee:=.builtin .append,args:= #[s,x],argTypes:= #[kv,jN]})
 (aF:(Builtin.append_ #[kv,jN] o.type #[a.eval s,a.eval x]).run X.P w= .ok v' w'):(execOp a.eval o).run X.P w= .ok (.value v') w':=by
 unfold execOp;rw[ao];simp only[resolve,List.map_toArray,List.map_cons,List.map_nil,Sem.run_bind,Sem.run_pure,Result.andThen,invoke,builtin,aF]
theorem KV{kv jN elem:TypeId}{d:TypeDesc}{i:TypeInfo}{z:Value}{s x:Operand}{base:Option Addr}{len cap n:Nat}{new new':List Value}
 (ao:o.op= .call {callee:=.builtin .append,args:= #[s,x],argTypes:= #[kv,jN]}) (hu:X.P.underlying kv=some (.slice elem)) (aa:X.P.underlying jN=some d) (ax:∀k,d≠.int k) (ag:X.P.info? elem=some i) (a8:i.zero=some z)
 (qp:z.cells.size=i.size) (hw:bp X ι st w) (rH:bs ι (.slice base len cap) (a.eval s)) (u9:Src X.P w (a.eval x) n i.size new') (oE:bF ι new new') (oF:new.length=n*i.size) (bM:gS new=true)
 (h:ki fr st elem i.size i.bytes base len cap n new= .ok v aE st'):aE=fr∧jQ X ι w v st' (execOp a.eval o):=by
 obtain⟨hb,g⟩:=iC h (by simp);have cX:(2*(len+n)+768)*(i.bytes+1)<=1099511627776:=hb;have kO:X.P.cellsOf elem=i.size:=by simp[Program.cellsOf,ag]
 have Aj:new'.length=n*i.size:=by rw[<-oE.1];exact oF
 generalize abS:a.eval s=amb at rH;have oJ:= @Y8 X a w o kv jN s x;rw[abS]at oJ;cases base with
 |none=>
  obtain⟨Ah,aW⟩:=jD (g:ea len 0 _ _=_) (by simp);obtain⟨m3,a0⟩:=jD aW (by simp);subst Ah m3;cases rH;rw[mW]at a0;split at a0
  ·rename_i kn;subst kn;cases a0;refine⟨rfl,jQ.same (v':=.slice none 0 0) hw ?_ (.l8 _ _)⟩;exact oJ ao (F1 hu aa ax ag u9 (by omega) o.type w (fun a h=>by cases h) (fun _=>rfl))
  ·rename_i kn;rw[gF]at a0;cases a0;obtain⟨dR,w',ko,aF,hh,gw⟩:=KN (base:=none) (len:=0) (cap:=0) (old:=[]) hu aa ax ag a8 u9 (by omega) cX o.type (fun _ _=>rfl);obtain⟨aM,bg,bK,ep,_⟩:=hw.Ez elem oE (Builtin.zeroCells z.cells (dR-(0+n))).toList (dR-(0+n)) (by
    rw[Array.length_toList,Lt,qp,kO];exact cd _) (0,0) (fun i _=>by simp) w' (by rw[hh];simp) gw
   refine⟨rfl,aM,.value _,w',oJ ao aF,.inl ⟨_,rfl,?_⟩,bg,bK⟩;have:=bs.gk (ι:=aM) ⟨st.aj,0,none⟩ ⟨w.heap.size,0,dR-(0+n),id⟩ 0 (0+n) (0+n) ep rfl (.inl rfl);rw[show 0+n+(dR-(0+n))=dR by omega]at this;exact this
 |some ad=>
  obtain⟨ak,cs,el,bt,aR,aZ,aW⟩:=sG (g:aw.gI st ad _ _=_) (by simp);obtain⟨mw,a0⟩:=iC aW (by simp);obtain⟨oD,bx⟩:=iC a0 (by simp);obtain⟨Ax,cK⟩:=iC bx (by simp);obtain⟨uR,dn⟩:=jD cK (by simp);rw[fx]at Ax;have anX:ad.off+cap*i.size<=cs.length:=Ax;subst uR;obtain⟨l,hl,C,er,hc⟩:=hw.eu _ _ aZ (by simp);have oL:=hc.room;rw[kO]at oL;cases rH with
  |gk _ l' off _ _ cy e9 hz=>
   rw[hl]at cy;cases cy;have hmul:len*i.size<=cap*i.size:=g5 _ oD;rw[mW]at dn;split at dn
   ·rename_i kn;subst kn;cases dn;have Aq:new'=[]:=by
     have:new'.length=0:=by rw[Aj];simp
     exact List.eq_nil_of_length_eq_zero this
    refine⟨rfl,jQ.same (v':=.slice (some ⟨l.cU,off,none⟩) (len+0) (cap+l.ex)) hw ?_ (.gk _ _ _ _ _ hl ak hz)⟩;refine oJ ao (F1 hu aa ax ag u9 (by omega) o.type w (fun a h=> ?_) (fun h=>by cases h));rw[Aq];rfl
   ·rename_i kn;have hold:∀tape drawn,(Builtin.firstCells i.size len (.slice (some ⟨l.cU,off,none⟩) len (cap+l.ex))).run X.P {w with tape:=tape,drawn:=drawn}= .ok ((C.toList.drop off).take (len*i.size)).toArray {w with tape:=tape,drawn:=drawn}:=by
     intro tape drawn;simp only[Builtin.firstCells];rcases hz with h|⟨J,_,_⟩
     ·exact BE (by exact hc.there) (by rw[h];omega)
     ·subst J;simp[loadCells,loadCellsFrom]
    have oG:∀(bg:len+n<=cap+l.ex),off=l.cW+ad.off:=by
     intro bg;rcases hz with h|⟨J,U,ah⟩
     ·exact h
     ·omega
    have jc:bF ι ((cs.drop ad.off).take (len*i.size)) ((C.toList.drop off).take (len*i.size)):=by
     rcases hz with h|⟨J,_,_⟩
     ·rw[h];exact hc.row ad.off (len*i.size) (by simp;omega)
     ·subst J;simpa using bF.nil ι
    cases aR with
    |true=>
     obtain⟨oA,eR⟩:=sH (dn:hV cs ad.off _ _ _=_) (by simp);rw[jy,gF,pf]at eR;cases eR;by_cases ll:len+n<=cap+l.ex
     ·have rD:=oG ll;subst rD;have DS:n*i.size+len*i.size<=(cap+l.ex)*i.size:=by rw[<-Nat.add_mul];exact g5 _ (by omega)
      rw[Nat.add_mul]at DS;obtain⟨w',aF,hh,gw⟩:=KP (P:=X.P) (o:=l.cW+ad.off+len*i.size) new' 0 C w hc.there (by omega) (JC oE bM) (fun j J U=>hc.tV mw j (by omega) (by rw[kO];omega));simp only[Nat.add_zero]at hh;have IA:=oJ ao (F1 (base:=some ⟨l.cU,l.cW+ad.off,none⟩) hu aa ax ag u9 ll o.type w' (fun a h=>by cases h;rw[add_eq];exact aF) (fun h=>by cases h));obtain⟨aM,bg,bK,ep⟩:=bp.aj2 (X:=X) hw aZ (by simp) (fun af=>by cases af.1) IM hl (.cells ((cs.drop ad.off).take (len*i.size)++new) el (0,0) true) (l':=⟨l.cU,l.cW+ad.off,cap+l.ex-(len+n),id⟩) rfl _ w' hh (fun aM hle aX=>by
       have Ok:(C.toList.take (l.cW+ad.off+len*i.size)++(new'++C.toList.drop (l.cW+ad.off+len*i.size+new'.length))).length=C.size:=by simp;omega
       have gB:((cs.drop ad.off).take (len*i.size)).length=len*i.size:=by simp;omega
       have OE:(cap+l.ex-(len+n))*i.size=(cap*i.size+l.ex*i.size)-(len*i.size+n*i.size):=by rw[Nat.sub_mul,Nat.add_mul,Nat.add_mul]
       refine⟨_,er,⟨aX,?_,fun j hj=> ?_,fun _ j J U=> ?_,fun h=>by cases h⟩⟩
       ·rw[List.size_toArray,Ok,kO,List.length_append,gB,oF];simp only;rw[OE];omega
       ·simp only[List.getElem?_toArray];rw[List.length_append,gB,oF]at hj;rw[KZ C.toList new' (l.cW+ad.off+len*i.size) (l.cW+ad.off+j) (by simp;omega)];by_cases c:j<len*i.size
        ·rw[if_pos (by omega)];obtain⟨CO,aG,e2⟩:=hc.cell (ad.off+j) (by omega);refine⟨CO,by rw[<-aG];simp[Nat.add_assoc],?_⟩;rw[List.getElem_append_left (by omega)];simp only[List.getElem_take,List.getElem_drop];exact e2.mono hle
        ·rw[if_neg (by omega),if_pos (by omega)];rw[show l.cW+ad.off+j-(l.cW+ad.off+len*i.size)=j-len*i.size by omega];rw[cA (by omega)];refine⟨_,rfl,?_⟩;rw[List.getElem_append_right (by omega)];simp only[gB];exact(oE.2 _ (by omega) (by omega)).mono hle
       ·refine hc.tV mw j ?_ ?_
        ·simp only at J;omega
        ·rw[kO]at U⊢;rw[List.length_append,gB,oF]at U;simp only at U;rw[OE]at U;omega) gw
      refine⟨rfl,aM,.value _,w',IA,.inl ⟨_,rfl,?_⟩,bg,bK⟩;have:=bs.gk (ι:=aM) ⟨st.aj,0,none⟩ ⟨l.cU,l.cW+ad.off,cap+l.ex-(len+n),id⟩ (l.cW+ad.off) (len+n) (len+n) ep rfl (.inl rfl);rw[show len+n+(cap+l.ex-(len+n))=cap+l.ex by omega]at this;exact this
     ·obtain⟨dR,w',ko,aF,hh,gw⟩:=KN (base:=some ⟨l.cU,off,none⟩) (len:=len) (cap:=cap+l.ex) hu aa ax ag a8 u9 (by omega) cX o.type hold;have ae:=hw.kill aZ;obtain⟨aM,bg,bK,ep,_⟩:=ae.Ez el (jc.append oE) (Builtin.zeroCells z.cells (dR-(len+n))).toList (dR-(len+n)) (by
       rw[Array.length_toList,Lt,qp,kO];exact cd _) (0,0) (fun i _=>by simp) w' (by rw[hh]) gw
      refine⟨rfl,aM,.value _,w',oJ ao aF,.inl ⟨_,rfl,?_⟩,bg,bK⟩;have:=bs.gk (ι:=aM) ⟨st.aj,0,none⟩ ⟨w.heap.size,0,dR-(len+n),id⟩ 0 (len+n) (len+n) ep rfl (.inl rfl);rw[show len+n+(dR-(len+n))=dR by omega]at this;exact this
    |false=>
     have hK:=hc.plain rfl;have OF:cap+l.ex=cap:=by rw[hK.1];rfl
     rw[OF]at oJ hold oG;have dn:ey (len+n) cap (oX cs (Nat.add ad.off (Nat.mul len i.size)) new (fun cs'=>st.gN ad.block (.cells cs' el bt false) fun st=>aY.ok (.slice (some ad) (len+n) cap) fr st) .no)
      (hV cs ad.off (Nat.mul len i.size) (fun old=>st.iS (.cells (gL old new) el (0,0) true) fun id st=>.ok (.slice (some ⟨id,0,none⟩) (len+n) (len+n)) fr st) .no)=aY.ok v aE st':=dn
     rw[nQ]at dn;split at dn
     ·rename_i ll;have rD:=oG ll;subst rD;have DS:n*i.size+len*i.size<=cap*i.size:=by rw[<-Nat.add_mul];exact g5 _ (by omega)
      have Ig:ad.off+len*i.size+new.length<=cs.length:=by rw[oF];omega
      have eR:st.gN ad.block (.cells (cs.take (ad.off+len*i.size)++(new++cs.drop (ad.off+len*i.size+new.length))) el bt false) (fun st=>aY.ok (.slice (some ad) (len+n) cap) fr st)=aY.ok v aE st':=by
       rcases JY dn (by simp)with⟨_,eR⟩|⟨he,eR⟩
       ·exact eR
       ·rw[he];simp;exact eR
      rw[jy]at eR;cases eR;obtain⟨w',aF,bg,bK⟩:=hw.store aZ hl mw Ig oE bM;have IA:=oJ ao (F1 (base:=some ⟨l.cU,l.cW+ad.off,none⟩) hu aa ax ag u9 ll o.type w' (fun a h=>by cases h;rw[add_eq,Nat.add_assoc];exact aF) (fun h=>by cases h));refine⟨rfl,ι,.value _,w',IA,.inl ⟨_,rfl,?_⟩,bg,bK⟩;have:=bs.gk (ι:=ι) ad l (l.cW+ad.off) (len+n) cap hl ak (.inl rfl);rw[OF]at this;exact this
     ·rename_i ll;obtain⟨oA,eR⟩:=sH dn (by simp);rw[gF,pf]at eR;cases eR;obtain⟨dR,w',ko,aF,hh,gw⟩:=KN (base:=some ⟨l.cU,off,none⟩) (len:=len) (cap:=cap) hu aa ax ag a8 u9 (by omega) cX o.type hold;obtain⟨aM,bg,bK,ep,_⟩:=hw.Ez el (jc.append oE) (Builtin.zeroCells z.cells (dR-(len+n))).toList (dR-(len+n)) (by
       rw[Array.length_toList,Lt,qp,kO];exact cd _) (0,0) (fun i _=>by simp) w' (by rw[hh]) gw
      refine⟨rfl,aM,.value _,w',oJ ao aF,.inl ⟨_,rfl,?_⟩,bg,bK⟩;have:=bs.gk (ι:=aM) ⟨st.aj,0,none⟩ ⟨w.heap.size,0,dR-(len+n),id⟩ 0 (len+n) (len+n) ep rfl (.inl rfl);rw[show len+n+(dR-(len+n))=dR by omega]at this;exact this
end
theorem BV:∀bn:List UInt8,kx bn=bn.map fun b=>Value.int .u8 (b.toNat:Int)
 |[]=>rfl
 |b::bn=>by show _::kx bn=_;rw[BV bn];rfl
theorem Uv:∀bn:List UInt8,gS (kx bn)=true
 |[]=>rfl
 |_::bn=>Uv bn
theorem La(ι:bq):∀bn:List UInt8,bF ι (kx bn) (kx bn)
 |[]=>bF.nil ι
 |_::bn=>bF.cons (.int _ _) (La ι bn)
theorem Ha:∀{vs:List Value} {bn:List UInt8},bytesOf vs=some bn->∃cD:List Int,vs=cD.map (Value.int .u8)∧bn=cD.map (fun n=>UInt8.ofNat n.toNat)
 |[],bn,h=>by cases h;exact⟨[],rfl,rfl⟩
 |v::vs,bn,h=>by
  obtain⟨k,n,e,aW⟩:=iF (h:gd v _ _=_) (by simp);obtain⟨ae,a0⟩:=hU aW (by simp);obtain⟨r,aF,bx⟩:=fC a0 (by simp);cases bx;obtain⟨cD,aG,e2⟩:=Ha (vs:=vs) aF;have:=rP ae;subst this;exact⟨n::cD,by simp[e,aG],by simp[e2]⟩
section
variable{ι:bq}{fr aE:aQ}{a:Act}{ay:Nat}{st st':aw}{w:World}{o:Oper}{v:Value}{call:bP}
theorem alP(P:Program)(w:World)(s:ByteArray)(size:Nat):Src P w (.string s) s.data.toList.length size (kx s.data.toList):=by
 have fa:s.size=s.data.toList.length:=(Array.length_toList (xs:=s.data)).symm;refine⟨by rw[<-fa];rfl,fun tape drawn=> ?_⟩;simp only[Builtin.firstCells,Sem.run_pure];congr 1;apply Array.ext';have:(s.extract 0 s.data.toList.length).data=s.data:=by
  rw[ByteArray.data_extract];apply Array.ext';rw[Array.toList_extract,List.extract_eq_take_drop,List.drop_zero,Nat.sub_zero,List.take_length]
 rw[this,BV];simp
theorem akQ{kv jN elem:TypeId}{d:TypeDesc}{i:TypeInfo}{z:Value}{s x:Operand}(ak:cO X.aB s=true)(b4:cO X.aB x=true)(ao:o.op= .call {callee:=.builtin .append,args:= #[s,x],argTypes:= #[kv,jN]})
 (hu:X.P.underlying kv=some (.slice elem)) (aa:X.P.underlying jN=some d) (ax:∀k,d≠.int k) (ag:X.P.info? elem=some i) (a8:i.zero=some z) (qp:z.cells.size=i.size)
 (af:cE ι fr a ay) (hw:bp X ι st w) (h:QR elem i.size i.bytes s x call fr st= .ok v aE st'):aE=fr∧jQ X ι w v st' (execOp a.eval o):=by
 obtain⟨base,len,cap,rH,g⟩:=sj h (by simp);have qn:=af.an hw ak;rw[rH]at qn;have da:=af.an hw b4;generalize cM:fr.an x=fo at g da;cases fo with
 |slice b n c=>
  cases b with
  |none=>
   obtain⟨kn,a0⟩:=jD (g:ea n 0 (ki fr st elem i.size i.bytes base len cap 0 []) _=aY.ok v aE st') (by simp);subst kn;generalize kN:a.eval x=uj at da;cases da;refine KV (n:=0) (new:=[]) (new':=[]) ao hu aa ax ag a8 qp hw qn ?_ (bF.nil ι) (by simp) rfl a0;rw[kN];exact⟨rfl,fun _ _=>rfl⟩
  |some b=>
   obtain⟨aav,cs,el,bt,aR,aZ,hn,a0⟩:=xN (g:aw.load st b _ _ _=_) (by simp);obtain⟨bM,bx⟩:=hU a0 (by simp);obtain⟨l,hl,C,er,hc⟩:=hw.eu _ _ aZ (by simp);generalize kN:a.eval x=uj at da;cases da with
   |gk _ l' off _ _ cy e9 hz=>
    rw[hl]at cy;cases cy;have lp:n*i.size<=(cs.drop b.off).length:=hn;have oL:=hc.room;rw[List.length_drop]at lp;refine KV (n:=n) (new:=(cs.drop b.off).take (n*i.size)) (new':=(C.toList.drop off).take (n*i.size)) ao hu aa ax ag a8 qp hw qn ?_ ?_ ?_ bM bx
    ·rw[kN];refine⟨rfl,fun tape drawn=> ?_⟩;simp only[Builtin.firstCells];rcases hz with h|⟨J,_,_⟩
     ·by_cases h0:n*i.size=0
      ·rw[h0];simp[loadCells,loadCellsFrom]
      ·exact BE (by exact hc.there) (by rw[h];omega)
     ·subst J;simp[loadCells,loadCellsFrom]
    ·rcases hz with h|⟨J,_,_⟩
     ·rw[h];exact hc.row b.off (n*i.size) hn
     ·subst J;simpa using bF.nil ι
    ·simp;omega
 |string ho=>
  obtain⟨mD,a0⟩:=jD (g:ea i.size 1 (ki fr st elem i.size i.bytes base len cap (ef ho.data.toList) (kx ho.data.toList)) _=aY.ok v aE st') (by simp);rw[fx]at a0;generalize kN:a.eval x=uj at da;cases da;refine KV (n:=ho.data.toList.length) (new:=kx ho.data.toList) (new':=kx ho.data.toList) ao hu aa ax ag a8 qp hw qn ?_ (La ι _) ?_ (Uv _) a0
  ·rw[kN];exact alP X.P w ho i.size
  ·rw[BV,List.length_map,mD,Nat.mul_one]
 |_=>exact absurd g (by simp[jh,ik])
end
section
variable{ι:bq}{fr aE:aQ}{a:Act}{ay:Nat}{st st':aw}{w:World}{o:Oper}{v:Value}{call:bP}
theorem ak2{kv jN elem:TypeId}{i:TypeInfo}{d s:Operand}(ax:cO X.aB d=true)(ak:cO X.aB s=true)(ao:o.op= .call {callee:=.builtin .copy,args:= #[d,s],argTypes:= #[kv,jN]})
 (hu:X.P.underlying kv=some (.slice elem)) (ag:X.P.info? elem=some i) (af:cE ι fr a ay) (hw:bp X ι st w) (h:QU i.size d s call fr st= .ok v aE st'):
 aE=fr∧jQ X ι w v st' (execOp a.eval o):=by
 obtain⟨oj,dl,Yd,aaG,aW⟩:=sj h (by simp);obtain⟨akr,bH,bk,rH,a0⟩:=sj aW (by simp);have z7:=af.an hw ax;rw[aaG]at z7;have qn:=af.an hw ak;rw[rH]at qn;have aa:∀{v':Value} {w':World},(Builtin.copy_ #[kv,jN] o.type #[a.eval d,a.eval s]).run X.P w= .ok v' w'->(execOp a.eval o).run X.P w= .ok (.value v') w':=by
  intro v' w' aF;unfold execOp;rw[ao];simp only[resolve,List.map_toArray,List.map_cons,List.map_nil,Sem.run_bind,Sem.run_pure,Result.andThen,invoke,builtin,aF]
 generalize nL:a.eval d=ann at z7 aa;generalize qm:a.eval s=amb at qn aa;cases oj with
 |none=>
  obtain⟨h0,bx⟩:=jD (a0:ea dl 0 _ _=_) (by simp);subst h0;cases bx;cases z7;refine⟨rfl,jQ.same (v':=.int .i64 0) hw (aa ?_) (.int _ _)⟩;cases qn<;>simp[Builtin.copy_,run_underlying hu,Result.andThen,Builtin.lenOf,iU ag,Builtin.firstCells,loadCells,loadCellsFrom,goInt]
 |some ad=>
  cases akr with
  |none=>
   obtain⟨h0,bx⟩:=jD (a0:ea bH 0 _ _=_) (by simp);subst h0;cases bx;cases qn;refine⟨rfl,jQ.same (v':=.int .i64 0) hw (aa ?_) (.int _ _)⟩;cases z7;simp[Builtin.copy_,run_underlying hu,Result.andThen,Builtin.lenOf,iU ag,Builtin.firstCells,goInt,Nat.min_def,storeCells]
  |some BF=>
   have bx:st.load BF (Nat.mul (ey bH dl bH dl) i.size) (fun vs=>cond (gS vs) (st.store ad vs (fun st=>aY.ok (.int .i64 (.ofNat (ey bH dl bH dl))) fr st) .no) .no) .no=aY.ok v aE st':=a0;rw[show ey bH dl bH dl=Nat.min bH dl by rw[nQ];show _=min bH dl;rw[Nat.min_def]]at bx;rw[show Nat.mul (Nat.min bH dl) i.size=Nat.min bH dl*i.size from rfl]at bx;obtain⟨an1,cs,el,bt,aR,aZ,hn,cK⟩:=xN bx (by simp);obtain⟨bM,dn⟩:=hU cK (by simp);obtain⟨iQ,anl,ano,Df,anr,oB,aaS,eR⟩:=Ti dn (by simp);obtain⟨l,hl,C,er,hc⟩:=hw.eu _ _ aZ (by simp);obtain⟨ie,pv,OW⟩:=hw.eu _ _ oB (by simp);have lp:Nat.min bH dl*i.size<=(cs.drop BF.off).length:=hn;have oL:=hc.room;rw[List.length_drop]at lp;cases qn with
   |gk _ l' off _ _ cy e9 hz=>
    rw[hl]at cy;cases cy;cases z7 with
    |gk _ aob JB _ _ DK anZ abm=>
     rw[pv]at DK;cases DK;have Il:bH=0∨dl=0->Nat.min bH dl=0:=by
      intro hh;show min bH dl=0;omega
     have jc:bF ι ((cs.drop BF.off).take (Nat.min bH dl*i.size)) ((C.toList.drop off).take (Nat.min bH dl*i.size)):=by
      rcases hz with h|⟨J,_,_⟩
      ·rw[h];exact hc.row BF.off _ hn
      ·rw[Il (.inl J)];simpa using bF.nil ι
     have aaK:(Builtin.firstCells i.size (Nat.min bH dl) (.slice (some ⟨l.cU,off,none⟩) bH (bk+l.ex))).run X.P w= .ok ((C.toList.drop off).take (Nat.min bH dl*i.size)).toArray w:=by
      simp only[Builtin.firstCells];rcases hz with h|⟨J,_,_⟩
      ·by_cases h0:Nat.min bH dl*i.size=0
       ·rw[h0];simp[loadCells,loadCellsFrom]
       ·exact BE hc.there (by rw[h];omega)
      ·rw[Il (.inl J)];simp[loadCells,loadCellsFrom]
     have fw:∀w',(storeCells ⟨ie.cU,JB,none⟩ ((C.toList.drop off).take (Nat.min bH dl*i.size))).run X.P w= .ok () w'->
      (Builtin.copy_ #[kv,jN] o.type #[.slice (some ⟨ie.cU,JB,none⟩) dl (Yd+ie.ex),.slice (some ⟨l.cU,off,none⟩) bH (bk+l.ex)]).run X.P w= .ok (.int .i64 (Nat.min bH dl:Nat)) w':=by
      intro w' aF;simp only[Builtin.copy_,List.getElem?_toArray,List.getElem?_cons_zero,List.getElem?_cons_succ,Sem.run_bind,run_underlying hu,Result.andThen,iU ag,Builtin.lenOf,Sem.run_pure];rw[aaK];simp only[];simp only[aF,goInt]
     rcases eR with⟨hle,g9⟩|⟨he,g9⟩
     ·cases g9;by_cases a8:(cs.drop BF.off).take (Nat.min bH dl*i.size)=[]
      ·have vg:(C.toList.drop off).take (Nat.min bH dl*i.size)=[]:=by
        have:=jc.1;rw[a8]at this;exact List.eq_nil_of_length_eq_zero this.symm
       refine⟨rfl,ι,.value _,w,aa (fw w (by rw[vg];rfl)),.inl ⟨_,rfl,.int _ _⟩,?_,.refl ι w⟩;have:=hw.KQ oB;rw[a8];simpa using this
      ·have abn:JB=ie.cW+ad.off:=by
        rcases abm with h|⟨J,_,_⟩
        ·exact h
        ·exfalso;apply a8;rw[Il (.inr J)];simp
       subst abn;obtain⟨w',aF,bg,bK⟩:=hw.store oB pv aaS hle jc bM;exact⟨rfl,ι,.value _,w',aa (fw w' aF),.inl ⟨_,rfl,.int _ _⟩,bg,bK⟩
     ·cases g9;have vg:(C.toList.drop off).take (Nat.min bH dl*i.size)=[]:=by
       have:=jc.1;rw[he]at this;exact List.eq_nil_of_length_eq_zero this.symm
      exact⟨rfl,ι,.value _,w,aa (fw w (by rw[vg];rfl)),.inl ⟨_,rfl,.int _ _⟩,hw.KQ oB,.refl ι w⟩
theorem Rx(P:Program)(w:World)(f:Value->ByteArray->Sem (ForInStep ByteArray))(af:∀n s,f (.int .u8 n) s=pure (.yield (s.push (UInt8.ofNat n.toNat)))):∀(cD:List Int) (s:ByteArray),
 (forIn (cD.map (Value.int .u8)).toArray s f:Sem ByteArray).run P w= .ok ⟨⟨s.data.toList++cD.map (fun n=>UInt8.ofNat n.toNat)⟩⟩ w
 |[],s=>by simp
 |n::cD,s=>by
  simp only[List.map_cons,List.forIn_toArray,List.forIn_cons,Sem.run_bind,af,Sem.run_pure,Result.andThen];have:=Rx P w f af cD (s.push (UInt8.ofNat n.toNat));simp only[List.forIn_toArray]at this;rw[this];congr 1;simp[ByteArray.data_push]
theorem akW{pU pX e:TypeId}{x:Operand}(aa:cO X.aB x=true)(ao:o.op= .convert pU pX x)(ak:X.P.underlying pU=some (.slice e))(aX:X.P.underlying pX=some .string)(he:X.P.underlying e=some (.int .u8))
 (af:cE ι fr a ay) (hw:bp X ι st w) (h:EG x call fr st= .ok v aE st'):aE=fr∧cv X ι w v st st' (execOp a.eval o):=by
 obtain⟨b,n,c,hp,aW⟩:=sj h (by simp);have da:=af.an hw aa;rw[hp]at da;generalize cM:a.eval x=fo at da;cases b with
 |none=>
  cases aW;cases da;refine⟨rfl,cv.same (v':=.string .empty) hw ?_ (.string _)⟩;unfold execOp;rw[ao];simp[cM,convert,run_underlying ak,run_underlying aX,run_underlying he,Result.andThen,Conv.bytesToString]
 |some b=>
  obtain⟨aav,cs,el,bt,aR,aZ,hn,a0⟩:=xN (aW:aw.load st b _ _ _=_) (by simp);obtain⟨bn,hb,bx⟩:=fC a0 (by simp);cases bx;obtain⟨l,hl,C,er,hc⟩:=hw.eu _ _ aZ (by simp);have oL:=hc.room;obtain⟨cD,aG,e2⟩:=Ha hb;cases da with
  |gk _ l' off _ _ cy e9 hz=>
   rw[hl]at cy;cases cy;have jc:bF ι ((cs.drop b.off).take n) ((C.toList.drop off).take n):=by
    rcases hz with h|⟨J,_,_⟩
    ·rw[h];exact hc.row b.off _ hn
    ·subst J;simpa using bF.nil ι
   have ej:(C.toList.drop off).take n=cD.map (Value.int .u8):=by
    rw[aG]at jc;have key:∀(cD:List Int) (av:List Value),bF ι (cD.map (Value.int .u8)) av->av=cD.map (Value.int .u8):=by
     intro cD
     induction cD with
     |nil=>intro av aJ;rw[aJ.tl];rfl
     |cons m ms bb=>
      intro av aJ;obtain⟨y,im,rfl,J,U⟩:=aJ.cons_inv;cases J;rw[bb im U];rfl
    exact key cD _ jc
   have xt:(loadCells ⟨l.cU,off,none⟩ n).run X.P w= .ok (cD.map (Value.int .u8)).toArray w:=by
    rw[<-ej];rcases hz with h|⟨J,_,_⟩
    ·by_cases h0:n=0
     ·subst h0;simp[loadCells,loadCellsFrom]
     ·rw[List.length_drop]at hn;exact BE hc.there (by rw[h];omega)
    ·subst J;simp[loadCells,loadCellsFrom]
   refine⟨rfl,cv.same (v':=.string ⟨⟨bn⟩⟩) hw ?_ (.string _)⟩;unfold execOp;rw[ao];simp only[cM,convert,Sem.run_bind,run_underlying ak,run_underlying aX,run_underlying he,Result.andThen,Conv.bytesToString,xt];rw[Rx X.P w _ (fun _ _=>rfl) cD ByteArray.empty];simp[e2]
end
theorem PR(P:Program)(e:TypeId)(count off n:Nat)(ak:P.cellsOf e≠0)(h0:off%P.cellsOf e=0)(hn:off/P.cellsOf e+n<=count):liesAt P P.depth e count off e n=true:=by
 have ax:P.depth=(2*(P.types.size+Made.depth)+1)+1:=rfl;rw[ax];have DY:sameLayout P (2*(P.types.size+Made.depth)+1+1) e e=true:=by simp[sameLayout]
 have aF:rowAt P (sameLayout P P.depth · e) P.depth e count off n=true:=by
  rw[ax];simp only[rowAt];rw[if_neg ak];simp[h0,hn,DY]
 simp only[liesAt];rw[aF];rfl
theorem Pr(c:UInt8):∀(l:List UInt8),oN c l=(List.range l.length).find? (fun i=>l[i]! ==c)
 |[]=>rfl
 |b::bn=>by
  show cond (Nat.beq b.toNat c.toNat) (some 0) (bo (oN c bn) (fun i=>some (Nat.succ i)) none)=_;rw[List.length_cons,List.range_succ_eq_map,List.find?_cons];by_cases hb:b=c
  ·subst hb;simp
  ·have J:Nat.beq b.toNat c.toNat=false:=by
    rw[Bool.eq_false_iff];intro hh;exact hb (UInt8.toNat_inj.1 (dY hh))
   have U:((b::bn)[0]! ==c)=false:=by simpa using hb
   rw[J,U,List.find?_map,Pr c bn];show bo _ _ _=_;have:((fun i=>(b::bn)[i]! ==c)∘Nat.succ)=(fun i=>bn[i]! ==c):=by
    funext i;simp
   rw[this];cases(List.range bn.length).find? (fun i=>bn[i]! ==c)<;>rfl
section
variable{ι:bq}{fr aE:aQ}{a:Act}{ay:Nat}{st st':aw}{w:World}{o:Oper}{v:Value}{call:bP}
theorem C6{f:FuncId}{args:Array Operand}{ts:Array TypeId}(ao:o.op= .call {callee:=.value (.func f),args:=args,argTypes:=ts}):
 (execOp a.eval o).run X.P w=(callFunc f (args.map a.eval)).run X.P w:=by
 unfold execOp;rw[ao];simp[resolve,Act.eval,Deferred.ofValue,invoke]
theorem alz{f:FuncId}{x:Operand}{ts:Array TypeId}(aa:cO X.aB x=true)(eD:X.j5 f=true)(ao:o.op= .call {callee:=.value (.func f),args:= #[x],argTypes:=ts})(af:cE ι fr a ay)(hw:bp X ι st w)
 (h:Q9 x call fr st= .ok v aE st'):aE=fr∧cv X ι w v st st' (execOp a.eval o):=by
 cases h;refine⟨rfl,cv.same (v':=a.eval x) hw ?_ (af.an hw aa)⟩;rw[C6 ao];simpa using X.A4 f eD (a.eval x) w
theorem ale{f:FuncId}{x y:Operand}{ts:Array TypeId}(aa:cO X.aB x=true)(aJ:cO X.aB y=true)(eD:X.kq f=true)(ao:o.op= .call {callee:=.value (.func f),args:= #[x,y],argTypes:=ts})(af:cE ι fr a ay)(hw:bp X ι st w)
 (h:EJ x y call fr st= .ok v aE st'):aE=fr∧cv X ι w v st st' (execOp a.eval o):=by
 obtain⟨s,ak,aW⟩:=n7 h (by simp);obtain⟨k,p7,hc,a0⟩:=iF aW (by simp);obtain⟨ae,bx⟩:=hU a0 (by simp);obtain⟨c,aG,cK⟩:=lB bx (by simp);have fJ:=rP ae;clear h aW a0 bx;subst aG fJ;have da:=af.an hw aa;rw[ak]at da;generalize cM:a.eval x=fo at da;have fm:=af.an hw aJ;rw[hc]at fm;generalize fK:a.eval y=o8 at fm;cases da;cases fm;obtain⟨e2,cw,gz⟩:=tt cK;subst e2 cw gz;refine⟨rfl,cv.same (v':=.int .i64 (bo (oN (UInt8.ofNat c) s.data.toList) (fun i=>.ofNat i) (.negSucc 0))) hw ?_ (.int _ _)⟩;rw[C6 ao];have:=X.AL f eD s (c:Int) w;simp only[List.map_toArray,List.map_cons,List.map_nil,cM,fK];rw[this];congr 2;have fa:s.size=s.data.toList.length:=(Array.length_toList (xs:=s.data)).symm;rw[Pr,fa];have aaR:(fun i:Nat=>s[i]! ==(c:Int).toNat.toUInt8)=(fun i:Nat=>s.data.toList[i]! ==UInt8.ofNat c):=by
  funext i;have:s[i]! =s.data.toList[i]! :=by
   have aG:s[i]! =s.data[i]! :=by
    by_cases ag:i<s.size
    ·rw[getElem!_pos s i ag,getElem!_pos s.data i ag];rfl
    ·rw[getElem!_neg s i ag,getElem!_neg s.data i ag]
   rw[aG];simp[Array.getElem!_eq_getD]
  rw[this];rfl
 rw[aaR];cases(List.range s.data.toList.length).find? (fun i=>s.data.toList[i]! ==UInt8.ofNat c)<;>rfl
theorem akv(ts:Array TypeId)(t:TypeId)(n c:Nat):Builtin.unsafeSliceData_ ts t #[.slice none n c]=pure (.pointer none):=rfl
theorem akw(ts:Array TypeId)(t:TypeId)(b:Addr)(n c:Nat)(hc:c≠0):Builtin.unsafeSliceData_ ts t #[.slice (some b) n c]=pure (.pointer (some b)):=by
 have:Builtin.unsafeSliceData_ ts t #[.slice (some b) n c]=(if c≠0 then pure (.pointer (some b))else do
  if(<-viewAt b.block).isSome then pure (.pointer (some b))
  else pure (.pointer (some ⟨<-newObj (.view b (<-elemOf t)),0,none⟩))):=rfl
 rw[this,if_pos hc]
theorem alB{x:Operand}{t:TypeId}(aa:cO X.aB x=true)(ao:o.op= .call {callee:=.builtin .unsafeSliceData,args:= #[x],argTypes:= #[t]})(af:cE ι fr a ay)(hw:bp X ι st w)
 (h:EM x call fr st= .ok v aE st'):aE=fr∧cv X ι w v st st' (execOp a.eval o):=by
 obtain⟨b,n,c,hp,aW⟩:=sj h (by simp);have da:=af.an hw aa;rw[hp]at da;generalize cM:a.eval x=fo at da;cases b with
 |none=>
  cases aW;cases da;refine⟨rfl,cv.same (v':=.pointer none) hw ?_ .l6⟩;unfold execOp;rw[ao];simp[resolve,invoke,builtin,akv,cM]
 |some b=>
  have a0:ea c 0 aY.no (aY.ok (.pointer (some b)) fr st)=aY.ok v aE st':=aW;rw[mW]at a0;split at a0
  ·cases a0
  ·rename_i m3;cases a0;cases da with
   |gk _ l off _ _ hl ak hz=>
    have rD:off=l.cW+b.off:=by rcases hz with h|⟨_,h,_⟩;exact h;exact absurd h m3
    subst rD;refine⟨rfl,cv.same (v':=.pointer (some ⟨l.cU,l.cW+b.off,none⟩)) hw ?_ (.ptr _ _ hl ak)⟩;unfold execOp;rw[ao];simp[resolve,invoke,builtin,akw _ _ _ _ (c+l.ex) (by omega),cM]
theorem F5{w:World}{b:Nat}{C:Array Value}{e:TypeId}{bt:Nat×Nat}(h:w.heap[b]? =some (.cells C e bt)):w.shape? b=some (e,C.size):=by simp[World.shape?,h]
theorem SD(P:Program){w:World}{ad:Addr}{C:Array Value}{e:TypeId}{bt:Nat×Nat}(h:w.heap[ad.block]? =some (.cells C e bt)):(Conv.seenAt ad).run P w= .ok ad w:=by
 simp[Conv.seenAt,viewAt,F5 h,Result.andThen]
theorem ak1{pU pX t:TypeId}{x:Operand}{i:TypeInfo}(aa:cO X.aB x=true)(ao:o.op= .convert pU pX x)(ak:X.P.underlying pU=some (.pointer t))(aX:X.P.underlying pX=some .unsafePointer)(ag:X.P.info? t=some i)(a8:i.size≠0)
 (af:cE ι fr a ay) (hw:bp X ι st w) (h:EH x call fr st= .ok v aE st'):aE=fr∧cv X ι w v st st' (execOp a.eval o):=by
 obtain⟨p,hp,aW⟩:=n6 h (by simp);obtain⟨ad,aG,a0⟩:=fC aW (by simp);subst aG;obtain⟨s8,cs,elem,bt,aR,aZ,bx⟩:=sG a0 (by simp);obtain⟨bO,cK⟩:=iC bx (by simp);rw[fx]at bO;cases cK;obtain⟨l,hl,C,er,hc⟩:=hw.eu _ _ aZ (by simp);have oL:=hc.room;have da:=af.an hw aa;rw[hp]at da;generalize cM:a.eval x=fo at da;cases da with
 |ptr _ l' cy e9=>
  rw[hl]at cy;cases cy;refine⟨rfl,cv.same (v':=.pointer (some ⟨l.cU,l.cW+ad.off,none⟩)) hw ?_ (.ptr _ _ hl s8)⟩;unfold execOp;rw[ao];have Ar:¬(C.size<=l.cW+ad.off):=by omega
  simp[cM,convert,run_underlying ak,run_underlying aX,Result.andThen,Conv.unsafePointer,SD X.P (ad:=⟨l.cU,l.cW+ad.off,none⟩) hc.there,cellsIn,F5 hc.there,iU ag,a8,Ar]
theorem ak4{pU pX t:TypeId}{x:Operand}{i:TypeInfo}(aa:cO X.aB x=true)(ao:o.op= .convert pU pX x)(ak:X.P.underlying pU=some .unsafePointer)(aX:X.P.underlying pX=some (.pointer t))(ag:X.P.info? t=some i)(a8:i.size≠0)
 (af:cE ι fr a ay) (hw:bp X ι st w) (h:EI t i.size x call fr st= .ok v aE st'):aE=fr∧cv X ι w v st st' (execOp a.eval o):=by
 obtain⟨p,hp,aW⟩:=n6 h (by simp);obtain⟨ad,aG,a0⟩:=fC aW (by simp);subst aG;obtain⟨s8,cs,elem,bt,aR,aZ,bx⟩:=sG a0 (by simp);obtain⟨xn,cK⟩:=xX bx (by simp);obtain⟨h0,dn⟩:=jD cK (by simp);obtain⟨uR,eR⟩:=jD dn (by simp);obtain⟨pw,g9⟩:=jD eR (by simp);rw[fx]at pw;cases g9;subst xn uR;obtain⟨l,hl,C,er,hc⟩:=hw.eu _ _ aZ (by simp);have hK:=hc.plain rfl;have da:=af.an hw aa;rw[hp]at da;generalize cM:a.eval x=fo at da;cases da with
 |ptr _ l' cy e9=>
  rw[hl]at cy;cases cy;have kO:X.P.cellsOf elem=i.size:=by simp[Program.cellsOf,ag]
  have hz:l.cW+ad.off=0:=by omega
  have IH:(variablesAt ⟨l.cU,l.cW+ad.off,none⟩ elem 1).run X.P w= .ok true w:=by
   simp only[variablesAt,Sem.run_bind,run_program,Result.andThen,run_shape,F5 hc.there,Sem.run_pure];rw[PR X.P elem _ _ 1 (by rw[kO];exact a8) (by rw[hz];simp) (by
    rw[hz,kO,hK.2.2,pw];simp[Nat.div_self (Nat.pos_of_ne_zero a8)])]
  refine⟨rfl,cv.same (v':=.pointer (some ⟨l.cU,l.cW+ad.off,none⟩)) hw ?_ (.ptr _ _ hl s8)⟩;unfold execOp;rw[ao];simp[cM,convert,run_underlying ak,run_underlying aX,Result.andThen,Conv.unsafePointer,SD X.P (ad:=⟨l.cU,l.cW+ad.off,none⟩) hc.there,iU ag,a8,IH]
end
section
variable{ι:bq}{fr aE:aQ}{a:Act}{ay:Nat}{st st':aw}{w:World}{o:Oper}{v:Value}{call:bP}
theorem ak3{pU pX e:TypeId}{x:Operand}{i:TypeInfo}(aa:cO X.aB x=true)(ao:o.op= .convert pU pX x)(ak:X.P.underlying pU=some .string)(aX:X.P.underlying pX=some (.slice e))(he:X.P.underlying e=some (.int .u8))
 (ag:X.P.info? e=some i) (a8:i.size=1) (af:cE ι fr a ay) (hw:bp X ι st w) (h:yf e x call fr st= .ok v aE st'):aE=fr∧qU X ι w v st st' (execOp a.eval o):=by
 obtain⟨s,hp,aW⟩:=n7 h (by simp);obtain⟨hle,a0⟩:=iC aW (by simp);rw[gF]at a0;simp only[fx]at hle a0;cases a0;have da:=af.an hw aa;rw[hp]at da;generalize cM:a.eval x=fo at da;cases da;have fa:s.size=s.data.toList.length:=(Array.length_toList (xs:=s.data)).symm
 let q:Question:=.appendCap s.size 0 e
 have Dt:s.size<=q.cut (w.tape w.drawn q):=by show s.size<=s.size+_;omega
 let C:Array Value:=(s.data.map fun b=>Value.int .u8 b.toNat)++Array.replicate (q.cut (w.tape w.drawn q)-s.size) (.int .u8 0)
 have Ok:C.size=q.cut (w.tape w.drawn q):=by
  simp only[C,Array.size_append,Array.size_map,Array.size_replicate];have:s.data.size=s.size:=rfl;omega
 have kO:X.P.cellsOf e=1:=by simp[Program.cellsOf,ag,a8]
 let w':World:={w with drawn:=w.drawn+1,heap:=w.heap.push (.cells C e (C.size,C.size+1))}
 have fw:(execOp a.eval o).run X.P w= .ok (.value (.slice (some ⟨w.heap.size,0,none⟩) s.size (q.cut (w.tape w.drawn q)))) w':=by
  unfold execOp;rw[ao];have abd:(markStringish ⟨w.heap.size,0,none⟩).run X.P {w with drawn:=w.drawn+1,heap:=w.heap.push (.cells C e)}= .ok () w':=by
   simp[markStringish,World.shape?,World.freeze,Result.andThen,w'];apply Array.ext_getElem?;intro j;rw[Array.getElem?_modify];by_cases hj:w.heap.size=j
   ·subst hj;simp
   ·rw[if_neg hj,Array.getElem?_push,Array.getElem?_push,if_neg (Ne.symm hj),if_neg (Ne.symm hj)]
  simp only[cM,convert,Sem.run_bind,run_underlying ak,run_underlying aX,Result.andThen,run_underlying he,Conv.stringToBytes,run_choose,Question.forced,Bool.false_eq_true,if_false,newRow,run_newObj,Sem.run_pure];rw[abd]
 obtain⟨aM,bg,bK,ep,kY⟩:=hw.Ez e (cs:=kx s.data.toList) (cs':=kx s.data.toList) (La ι _) (List.replicate (q.cut (w.tape w.drawn q)-s.size) (.int .u8 0)) (q.cut (w.tape w.drawn q)-s.size) (by
  rw[kO];simp) (C.size,C.size+1) (fun j hj=>by
   rw[BV]at hj;simp only[List.length_map,List.length_replicate]at hj;simp only;omega) w' (by
   show w.heap.push (.cells C e (C.size,C.size+1))=_;congr 2;apply Array.ext';rw[BV];simp[C])
 rw[kY]at bg bK ep;refine⟨rfl,_,_,_,_,w',rfl,by simp,fw,rfl,?_,bg,bK⟩;have:=bs.gk (ι:=g8 ι st.aj ⟨w.heap.size,0,q.cut (w.tape w.drawn q)-s.size,id⟩) ⟨st.aj,0,none⟩ ⟨w.heap.size,0,q.cut (w.tape w.drawn q)-s.size,id⟩ 0 s.data.toList.length s.data.toList.length ep rfl (.inl rfl);rw[<-fa]at this⊢;rw[show s.size+(q.cut (w.tape w.drawn q)-s.size)=q.cut (w.tape w.drawn q) by omega]at this;exact this
theorem PS(P:Program)(w:World)(b:Nat)(C:Array Value)(e:TypeId)(bt:Nat×Nat)(h:w.heap[b]? =some (.cells C e bt)):∀(cD:List Int) (o:Nat) (acc:ByteArray),(C.toList.drop o).take cD.length=cD.map (Value.int .u8)->
 (loadBytes ⟨b,o,none⟩ acc cD.length).run P w= .ok ⟨⟨acc.data.toList++cD.map (fun n=>UInt8.ofNat n.toNat)⟩⟩ w
 |[],o,acc,_=>by simp[loadBytes]
 |n::cD,o,acc,hc=>by
  have j0:C[o]? =some (.int .u8 n):=by
   have:=congrArg (fun l=>l[0]?) hc;simpa using this
  have bO:o<C.toList.length:=by
   have:=(Array.getElem?_eq_some_iff.1 j0).1;simpa using this
  have vd:(C.toList.drop (o+1)).take cD.length=cD.map (Value.int .u8):=by
   rw[iG bO]at hc;simp only[List.length_cons,List.take_succ_cons,List.map_cons]at hc;exact(List.cons.inj hc).2
  simp only[List.length_cons,loadBytes,Sem.run_bind,run_load,cell_of h,j0,Result.andThen,add_eq];rw[PS P w b C e bt h cD (o+1) _ vd];congr 1;simp[ByteArray.data_push,Nat.toUInt8]
theorem alI{x y:Operand}{Bi t2 e:TypeId}{i:TypeInfo}(aa:cO X.aB x=true)(aJ:cO X.aB y=true)(ao:o.op= .call {callee:=.builtin .unsafeString,args:= #[x,y],argTypes:= #[Bi,t2]})(jb:X.P.underlying Bi=some (.pointer e))
 (ag:X.P.info? e=some i) (a8:i.size=1) (af:cE ι fr a ay) (hw:bp X ι st w) (h:EO e x y call fr st= .ok v aE st'):aE=fr∧jQ X ι w v st' (execOp a.eval o):=by
 obtain⟨p,hp,aW⟩:=n6 h (by simp);obtain⟨k,mH,hn,a0⟩:=iF aW (by simp);obtain⟨n,aG,bx⟩:=lB a0 (by simp);clear h aW a0;subst aG;have da:=af.an hw aa;rw[hp]at da;generalize cM:a.eval x=fo at da;have fm:=af.an hw aJ;rw[hn]at fm;generalize fK:a.eval y=o8 at fm;cases fm;have kO:X.P.cellsOf e=1:=by simp[Program.cellsOf,ag,a8]
 have rJ:∀{v':Value} {w':World},(Builtin.unsafeString_ #[Bi,t2] o.type #[a.eval x,a.eval y]).run X.P w= .ok v' w'->(execOp a.eval o).run X.P w= .ok (.value v') w':=by
  intro v' w' aF;unfold execOp;rw[ao];simp only[resolve,List.map_toArray,List.map_cons,List.map_nil,Sem.run_bind,Sem.run_pure,Result.andThen,invoke,builtin,aF]
 rw[cM,fK]at rJ;have DR:¬((n:Int)<0):=by omega
 have IG:∀p:Option Addr,∃(e0:String) (gV:RuntimeError) (l2:Unsupported) (oS:RuntimeError) (xP:Unsupported),Builtin.unsafeString_ #[Bi,t2] o.type #[.pointer p,.int k (n:Int)]=(do
  let r<-asInt (.int k (n:Int))
  let some e:=(#[Bi,t2]:Array TypeId)[0]? |stuck e0
  if r<0 then runtimePanic gV
  if r>IntKind.i64.max then unsupported l2
  match p with
  |none=>if r=0 then pure (.string .empty)else runtimePanic oS
  |some q=>if r=0 then pure (.string .empty)else if<-variablesAt q (<-elemOf e) r.toNat then do let s<-loadBytes q .empty r.toNat;freeze q r.toNat;pure (.string s)else unsupported xP):=fun p=>⟨default,_,_,_,_,rfl⟩
 rw[mW]at bx;split at bx
 ·rename_i h0;subst h0;cases bx;have Ap:¬(((0:Nat):Int)>IntKind.i64.max):=by decide
  cases da with
  |l6=>
   refine⟨rfl,jQ.same (v':=.string .empty) hw (rJ ?_) (.string _)⟩;obtain⟨e0,gV,l2,oS,xP,hu⟩:=IG _;rw[hu];simp[asInt,asIntOf]
  |ptr ad l hl ak=>
   refine⟨rfl,jQ.same (v':=.string .empty) hw (rJ ?_) (.string _)⟩;obtain⟨e0,gV,l2,oS,xP,hu⟩:=IG _;rw[hu];simp[asInt,asIntOf]
 ·rename_i h0;obtain⟨ad,aG,cK⟩:=fC bx (by simp);subst aG;obtain⟨OS,dn⟩:=iC cK (by simp);obtain⟨s8,cs,el,bt,aR,aZ,eR⟩:=sG dn (by simp);obtain⟨mw,g9⟩:=iC eR (by simp);obtain⟨uR,nE⟩:=jD g9 (by simp);obtain⟨hlen,rm⟩:=sH nE (by simp);obtain⟨bn,hb,rl⟩:=fC rm (by simp);rw[jy]at rl;cases rl;clear bx cK dn eR g9 nE rm;subst uR;obtain⟨l,hl,C,er,hc⟩:=hw.eu _ _ aZ (by simp);have oL:=hc.room;obtain⟨cD,aG,e2⟩:=Ha hb;have anL:n<=1099511627776:=OS;rw[List.length_drop]at hlen;cases da with
  |ptr _ l' cy e9=>
   rw[hl]at cy;cases cy;have jc:=hc.row ad.off n (by rw[List.length_drop];exact hlen);have ej:(C.toList.drop (l.cW+ad.off)).take n=cD.map (Value.int .u8):=by
    rw[aG]at jc;have key:∀(cD:List Int) (av:List Value),bF ι (cD.map (Value.int .u8)) av->av=cD.map (Value.int .u8):=by
     intro cD
     induction cD with
     |nil=>intro av aJ;rw[aJ.tl];rfl
     |cons m ms bb=>
      intro av aJ;obtain⟨y,im,rfl,J,U⟩:=aJ.cons_inv;cases J;rw[bb im U];rfl
    exact key cD _ jc
   have oF:cD.length=n:=by
    have:=congrArg List.length aG;simp at this;omega
   have xt:=PS X.P w l.cU C el er hc.there cD (l.cW+ad.off) .empty (by rw[oF];exact ej);rw[oF]at xt;have IH:(variablesAt ⟨l.cU,l.cW+ad.off,none⟩ el n).run X.P w= .ok true w:=by
    simp only[variablesAt,Sem.run_bind,run_program,Result.andThen,run_shape,F5 hc.there,Sem.run_pure];rw[PR X.P el _ _ n (by rw[kO];omega) (by rw[kO];omega) (by rw[kO];simp;omega)]
   have cX:=(Array.getElem?_eq_some_iff.1 hc.there).1
   let Df:Nat×Nat:=if er.1==er.2 then(l.cW+ad.off,l.cW+ad.off+n)else(min er.1 (l.cW+ad.off),max er.2 (l.cW+ad.off+n))
   have DA:(w.freeze ⟨l.cU,l.cW+ad.off,none⟩ n).heap=w.heap.setIfInBounds l.cU (.cells C el Df):=by
    simp only[World.freeze,if_neg h0];apply Array.ext_getElem?;intro j;rw[Array.getElem?_modify];by_cases iN:l.cU=j
    ·subst iN;rw[if_pos rfl,hc.there,Array.getElem?_setIfInBounds];simp[cX,Df]
    ·rw[if_neg iN,Array.getElem?_setIfInBounds_ne iN]
   obtain⟨t1,t2⟩:=bp.sg X hw aZ (by simp) (fun af=>by have:=af.2;omega) hl (.cells cs el (ad.off,Nat.add ad.off n) aR) _ (w.freeze ⟨l.cU,l.cW+ad.off,none⟩ n) DA (fun _ aX=>⟨C,Df,⟨aX,hc.room,hc.cell,fun ek=>by
    exfalso;have:ad.off+n<=ad.off:=ek;omega,hc.plain⟩⟩) (by constructor<;>simp only[World.freeze,if_neg h0])
   refine⟨rfl,ι,.value (.string ⟨⟨bn⟩⟩),_,rJ ?_,.inl ⟨_,rfl,.string _⟩,t1,t2⟩;obtain⟨e0,gV,l2,oS,xP,hu⟩:=IG _;rw[hu];have ah:¬((n:Int)>IntKind.i64.max):=by
    have:IntKind.i64.max=9223372036854775807:=by decide
    rw[this];omega
   have aC:¬((n:Int)=0):=by omega
   simp only[asInt,asIntOf,Sem.run_bind,Sem.run_pure,Result.andThen,List.getElem?_toArray,List.getElem?_cons_zero,if_neg DR,if_neg ah,if_neg aC,elemOf,run_underlying jb,IH,Int.toNat_natCast,if_true,xt,run_freeze];rw[e2];simp
end
section
variable{ι:bq}{fr aE:aQ}{a:Act}{ay:Nat}{st st':aw}{w:World}{o:Oper}{v:Value}{call:bP}
def td:Operand->Bool
 |.const _=>true
 |_=>false
theorem Y9{neg:Bool}{t wv:TypeId}{x y:Operand}{b:Bool}(ao:o.op= .binOp (if neg then .neq else .eql) t x y wv)
 (aZ:(eqGuard (if neg then .neq else .eql) t x y (a.eval x) (a.eval y)).run X.P w= .ok () w)
 (hb:∀op:BinOp,op= .eql∨op= .neq->binOp op t (a.eval x) (a.eval y)=(if op= .eql then do pure (.bool (<-Op.equal t (a.eval x) (a.eval y)))else do pure (.bool (!(<-Op.equal t (a.eval x) (a.eval y))))))
 (he:(Op.equal t (a.eval x) (a.eval y)).run X.P w= .ok b w):(execOp a.eval o).run X.P w= .ok (.value (.bool (cond neg (!b) b))) w:=by
 unfold execOp;rw[ao];simp only[Sem.run_bind,aZ,Result.andThen];cases neg
 ·simp only[Bool.false_eq_true,if_false];rw[hb .eql (.inl rfl),if_pos rfl];simp[he,Result.andThen]
 ·simp only[if_true];rw[hb .neq (.inr rfl),if_neg (by simp)];simp[he,Result.andThen]
theorem YT{P:Program}{t:TypeId}(hu:P.underlying t=some .bool)(d:Nat)(x y:Bool):(Op.equalIn (d+1) t (.bool x) (.bool y)).run P w= .ok (x==y) w:=by
 simp[Op.equalIn,run_underlying hu,Result.andThen]
theorem YX{x y eW k9:Value}{b:Bool}{t e:TypeId}(n:Nat)(aa:bs ι x eW)(aJ:bs ι y k9)(h:qd x y=some b)(hu:X.P.underlying t=some (.slice e)):
 (Op.equalIn (n+1) t eW k9).run X.P w= .ok b w:=by
 unfold qd at h;split at h
 ·cases h;cases aa;cases aJ<;>simp[Op.equalIn,run_underlying hu,Result.andThen]
 ·cases h;cases aa;cases aJ;simp[Op.equalIn,run_underlying hu,Result.andThen]
 ·cases h
theorem YW{x y eW k9:Value}{b:Bool}{t k e:TypeId}(n:Nat)(aa:bs ι x eW)(aJ:bs ι y k9)(h:zI x y=some b)(hu:X.P.underlying t=some (.map k e)):
 (Op.equalIn (n+1) t eW k9).run X.P w= .ok b w:=by
 unfold zI at h;split at h
 ·cases h;cases aa;cases aJ<;>simp[Op.equalIn,run_underlying hu,Result.andThen]
 ·cases h;cases aa;cases aJ;simp[Op.equalIn,run_underlying hu,Result.andThen]
 ·cases h
theorem YU{x y eW k9:Value}{b:Bool}{t:TypeId}{p q:Array TypeId}{r:Bool}(n:Nat)(aa:bs ι x eW)(aJ:bs ι y k9)(h:wY x y=some b)(hu:X.P.underlying t=some (.func p q r)):
 (Op.equalIn (n+1) t eW k9).run X.P w= .ok b w:=by
 unfold wY at h;split at h
 ·cases h;cases aa;cases aJ;simp[Op.equalIn,run_underlying hu,Result.andThen]
 ·cases h;cases aa;cases aJ;simp[Op.equalIn,run_underlying hu,Result.andThen]
 ·cases h;cases aa;cases aJ;simp[Op.equalIn,run_underlying hu,Result.andThen]
 ·cases h
theorem YV{x y eW k9:Value}{b:Bool}{t:TypeId}{ms:Array (String×TypeId)}(n:Nat)(aa:bs ι x eW)(aJ:bs ι y k9)(h:zH x y=some b)(hu:X.P.underlying t=some (.interface ms)):
 (Op.equalIn (n+1) t eW k9).run X.P w= .ok b w:=by
 unfold zH at h;split at h
 ·cases h;cases aa;cases aJ;simp[Op.equalIn,run_underlying hu,Result.andThen]
 ·cases h;cases aa;cases aJ;simp[Op.equalIn,run_underlying hu,Result.andThen]
 ·cases h;cases aa;cases aJ;simp[Op.equalIn,run_underlying hu,Result.andThen]
 ·cases h
theorem YY{x y eW k9:Value}{b:Bool}{t e:TypeId}{i:TypeInfo}(n:Nat)(aa:bs ι x eW)(aJ:bs ι y k9)(h:qe x y=some b)(hu:X.P.underlying t=some (.pointer e))(ag:X.P.info? e=some i)(a8:i.size≠0):
 (Op.equalIn (n+1) t eW k9).run X.P w= .ok b w:=by
 unfold qe at h;split at h
 ·cases h;cases aa;cases aJ<;>simp[Op.equalIn,run_underlying hu,Result.andThen]
 ·cases h;cases aa;cases aJ;simp[Op.equalIn,run_underlying hu,Result.andThen]
 ·split at h
  ·rename_i p q hc;cases h;cases aa with
   |ptr _ l hl ak=>
    cases aJ with
    |ptr _ ie pv kW=>
     rw[hc.1,pv]at hl;cases hl;simp[Op.equalIn,run_underlying hu,iU ag,a8,sameAddr,Result.andThen];rw[Bool.eq_iff_iff];simp
  ·cases h
 ·cases h
inductive sq(P:Program)(t:TypeId)(x y:Operand):n8->Prop
 |oW (h:P.underlying t=some .bool):sq P t x y .oW
 |nc (e:TypeId) (h:P.underlying t=some (.slice e)):sq P t x y .nc
 |xZ (k e:TypeId) (h:P.underlying t=some (.map k e)):sq P t x y .xZ
 |vC (p q:Array TypeId) (r:Bool) (h:P.underlying t=some (.func p q r)):sq P t x y .vC
 |tk (ms:Array (String×TypeId)) (h:P.underlying t=some (.interface ms)) (hc:td x=true∨td y=true):sq P t x y .tk
 |ptr (e:TypeId) (i:TypeInfo) (h:P.underlying t=some (.pointer e)) (ag:P.info? e=some i) (a8:i.size≠0):sq P t x y .ptr
theorem YS(P:Program)(op:BinOp)(t:TypeId)(x y:Operand)(hc:td x=true∨td y=true):(eqGuard op t x y .nilIface .nilIface).run P w= .ok () w:=by
 rcases hc with hc|hc
 ·cases x<;>simp[td]at hc;cases op<;>simp[eqGuard]
 ·cases y<;>simp[td]at hc;cases op<;>cases x<;>simp[eqGuard]
theorem ak7{neg:Bool}{e:n8}{t wv:TypeId}{x y:Operand}(aa:cO X.aB x=true)(aJ:cO X.aB y=true)(ao:o.op= .binOp (if neg then .neq else .eql) t x y wv)(bM:sq X.P t x y e)
 (af:cE ι fr a ay) (hw:bp X ι st w) (h:QV neg e x y call fr st= .ok v aE st'):aE=fr∧cv X ι w v st st' (execOp a.eval o):=by
 obtain⟨b,hb,g⟩:=fC h (by simp);have da:=af.an hw aa;have fm:=af.an hw aJ;obtain⟨aG,e2,cw⟩:=tt g;subst aG e2 cw;clear g h;generalize cM:a.eval x=fo at da;generalize fK:a.eval y=o8 at fm;have key:∀(_:(Op.equal t fo o8).run X.P w= .ok b w) (_:(eqGuard (if neg then .neq else .eql) t x y fo o8).run X.P w= .ok () w)
  (_:∀op:BinOp,op= .eql∨op= .neq->binOp op t fo o8=(if op= .eql then do pure (.bool (<-Op.equal t fo o8))else do pure (.bool (!(<-Op.equal t fo o8))))),
  fr=fr∧cv X ι w (.bool (cond neg (!b) b)) st st (execOp a.eval o):=by
  intro J U ah;exact⟨rfl,cv.same (v':=.bool (cond neg (!b) b)) hw (Y9 ao (by rw[cM,fK];exact U) (by rw[cM,fK];exact ah) (by rw[cM,fK];exact J)) (.bool _)⟩
 cases bM with
 |oW hu=>
  have cX:wZ (fr.an x) (fr.an y)=some b:=hb;generalize fr.an x=zS at cX da;generalize fr.an y=zT at cX fm;unfold wZ at cX;split at cX
  ·cases cX;cases da;cases fm;exact key (YT hu 9999 _ _) (by cases neg<;>simp[eqGuard]) (by intro op dK;rcases dK with rfl|rfl<;>rfl)
  ·split at cX
   ·cases cX;cases da;cases fm;rename_i bg lA bK rV ae;subst ae;refine⟨rfl,cv.same (v':=.bool (cond neg (!(lA==rV)) (lA==rV))) hw ?_ (.bool _)⟩;unfold execOp;rw[ao];cases neg<;>simp[cM,fK,eqGuard,binOp,Op.intCmp]<;>rfl
   ·cases cX
  ·cases cX;cases da;cases fm;rename_i s1 s2;refine⟨rfl,cv.same (v':=.bool (cond neg (!(s1.data.toList==s2.data.toList)) (s1.data.toList==s2.data.toList))) hw ?_ (.bool _)⟩;unfold execOp;rw[ao];cases neg<;>simp only[cM,fK,Sem.run_bind,Bool.false_eq_true,if_false,if_true,C1,Result.andThen,binOp,Op.stringOp,toList_eq]<;>rfl
  ·cases cX
 |nc e hu=>
  have cX:qd (fr.an x) (fr.an y)=some b:=hb;have J:=YX (w:=w) 9999 da fm cX hu;generalize fr.an x=zS at cX da;generalize fr.an y=zT at cX fm;unfold qd at cX;split at cX<;>first|(cases cX;done)|(cases cX;cases da;cases fm<;>exact key J (by cases neg<;>simp[eqGuard]) (by intro op dK;rcases dK with rfl|rfl<;>rfl))
 |xZ k e hu=>
  have cX:zI (fr.an x) (fr.an y)=some b:=hb;have J:=YW (w:=w) 9999 da fm cX hu;generalize fr.an x=zS at cX da;generalize fr.an y=zT at cX fm;unfold zI at cX;split at cX<;>first|(cases cX;done)|(cases cX;cases da;cases fm<;>exact key J (by cases neg<;>simp[eqGuard]) (by intro op dK;rcases dK with rfl|rfl<;>rfl))
 |vC p q r hu=>
  have cX:wY (fr.an x) (fr.an y)=some b:=hb;have J:=YU (w:=w) 9999 da fm cX hu;generalize fr.an x=zS at cX da;generalize fr.an y=zT at cX fm;unfold wY at cX;split at cX<;>first|(cases cX;done)|(cases cX;cases da;cases fm;exact key J (by cases neg<;>simp[eqGuard]) (by intro op dK;rcases dK with rfl|rfl<;>rfl))
 |tk ms hu hc=>
  have cX:zH (fr.an x) (fr.an y)=some b:=hb;have J:=YV (w:=w) 9999 da fm cX hu;generalize fr.an x=zS at cX da;generalize fr.an y=zT at cX fm;unfold zH at cX;split at cX
  ·cases cX;cases da;cases fm;exact key J (YS X.P _ t x y hc) (by intro op dK;rcases dK with rfl|rfl<;>rfl)
  ·cases cX;cases da;cases fm;exact key J (by cases neg<;>simp[eqGuard]) (by intro op dK;rcases dK with rfl|rfl<;>rfl)
  ·cases cX;cases da;cases fm;exact key J (by cases neg<;>simp[eqGuard]) (by intro op dK;rcases dK with rfl|rfl<;>rfl)
  ·cases cX
 |ptr e i hu ag a8=>
  have cX:qe (fr.an x) (fr.an y)=some b:=hb;have J:=YY (w:=w) 9999 da fm cX hu ag a8;generalize fr.an x=zS at cX da;generalize fr.an y=zT at cX fm;unfold qe at cX;split at cX
  ·cases cX;cases da;cases fm<;>exact key J (by cases neg<;>simp[eqGuard]) (by intro op dK;rcases dK with rfl|rfl<;>rfl)
  ·cases cX;cases da;cases fm;exact key J (by cases neg<;>simp[eqGuard]) (by intro op dK;rcases dK with rfl|rfl<;>rfl)
  ·cases da;cases fm;exact key J (by cases neg<;>simp[eqGuard]) (by intro op dK;rcases dK with rfl|rfl<;>rfl)
  ·cases cX
end
end Go.az
namespace Go.az
def JN:Operand->Operand->Bool
 |.tmp a,.tmp b=>Nat.beq a b
 |.const v,.const w=>dI v w
 |.global a,.global b=>Nat.beq a b
 |.func a,.func b=>Nat.beq a b
 |_,_=>false
theorem aiY{a b:Operand}(h:JN a b=true):a=b:=by
 cases a<;>cases b<;>simp only[JN]at h<;>first|(cases h;done)|(rw[dY h])|(rw[lM _ _ h])
def b6(aB:Nat)(a b:Operand):Bool:=JN a b&&cO aB b
theorem c2{aB:Nat}{a b:Operand}(h:b6 aB a b=true):a=b∧cO aB b=true:=by
 unfold b6 at h;rw[b2]at h;exact⟨aiY h.1,h.2⟩
def lD(aB:Nat):List Operand->List Operand->Bool
 |[],[]=>true
 |a::as,b::bn=>b6 aB a b&&lD aB as bn
 |_,_=>false
theorem tx{aB:Nat}:∀{as bn:List Operand},lD aB as bn=true->as=bn∧∀x∈bn,cO aB x=true
 |[],[],_=>⟨rfl,by simp⟩
 |a::as,b::bn,h=>by
  simp only[lD,b2]at h;obtain⟨J,U⟩:=c2 h.1;obtain⟨ah,aC⟩:=tx h.2;exact⟨by rw[J,ah],fun x aa=>by rcases List.mem_cons.1 aa with rfl|aa;exact U;exact aC x aa⟩
 |[],_::_,h=>by simp[lD]at h
 |_::_,[],h=>by simp[lD]at h
def k1(aB:Nat):Option Operand->Option Operand->Bool
 |none,none=>true
 |some a,some b=>b6 aB a b
 |_,_=>false
theorem tw{aB:Nat}{a b:Option Operand}(h:k1 aB a b=true):a=b∧∀y,b=some y->cO aB y=true:=by
 cases a<;>cases b<;>simp only[k1]at h<;>first|(cases h;done)|skip
 ·exact⟨rfl,by simp⟩
 ·obtain⟨J,U⟩:=c2 h;exact⟨by rw[J],fun y aJ=>by cases aJ;exact U⟩
def pK(aB:Nat)(place:Nat->Option (Nat×Nat)):List (Nat×Nat×Operand)->List (Nat×Operand)->Bool
 |[],[]=>true
 |(off,bj,x)::ps,(i,y)::dj=>
  (match place i with
   |some (o,s)=>Nat.beq off o&&Nat.beq bj s
   |none=>false)&&b6 aB x y&&pK aB place ps dj
 |_,_=>false
theorem EU{aB:Nat}{place:Nat->Option (Nat×Nat)}:∀{ps:List (Nat×Nat×Operand)} {dj:List (Nat×Operand)},pK aB place ps dj=true->
 ps=dj.map (fun p=>(((place p.1).getD (0,0)).1,((place p.1).getD (0,0)).2,p.2))∧∀p∈dj,(place p.1).isSome∧cO aB p.2=true
 |[],[],_=>⟨rfl,by simp⟩
 |(off,bj,x)::ps,(i,y)::dj,h=>by
  simp only[pK,b2]at h;obtain⟨⟨J,U⟩,ah⟩:=h;obtain⟨aG,e2⟩:=c2 U;obtain⟨f1,f2⟩:=EU ah;cases hp:place i with
  |none=>rw[hp]at J;cases J
  |some q=>
   obtain⟨o,s⟩:=q;rw[hp]at J;simp only[b2]at J;have gZ:=dY J.1;have hG:=dY J.2;refine⟨by rw[f1,aG,gZ,hG];simp[hp],fun p jb=> ?_⟩;rcases List.mem_cons.1 jb with rfl|jb
   ·exact⟨by simp[hp],e2⟩
   ·exact f2 p jb
 |[],_::_,h=>by simp[pK]at h
 |_::_,[],h=>by simp[pK]at h
section
variable(P:Program)(aB:Nat)(j5 kq:FuncId->Bool)(keys:TypeId->Option fz)(nv:FuncId->Bool)(eqs:TypeId->Option Nat)(nO:FuncId->Bool)(l4:Nat)
def ob(t:TypeId):Option Bool:=(P.underlying t).map pe
def gb(t:TypeId):Option Nat:=(P.info? t).map (·.size)
def p1(t:TypeId):Option Value:=(P.info? t).bind (·.zero)
def C3(t:TypeId)(e:n8)(x y:Operand):Bool:=
 match e,P.underlying t with
 |.oW,some .bool=>true
 |.nc,some (.slice _)=>true
 |.xZ,some (.map _ _)=>true
 |.vC,some (.func _ _ _)=>true
 |.tk,some (.interface _)=>td x||td y
 |.ptr,some (.pointer el)=>match gb P el with
  |some n=> !Nat.beq n 0
  |none=>false
 |_,_=>false
theorem YZ{t:TypeId}{e:n8}{x y:Operand}(h:C3 P t e x y=true):sq P t x y e:=by
 unfold C3 at h;split at h
 ·rename_i hu;exact .oW hu
 ·rename_i hu;exact .nc _ hu
 ·rename_i hu;exact .xZ _ _ hu
 ·rename_i hu;exact .vC _ _ _ hu
 ·rename_i hu;exact .tk _ hu (by simpa using h)
 ·rename_i hu;split at h
  ·rename_i n hn;unfold gb at hn;obtain⟨i,ag,e⟩:=Option.map_eq_some_iff.1 hn;refine .ptr _ i hu ag ?_;intro a8;rw[<-e,a8]at h;simp at h
  ·cases h
 ·cases h
def I1:fz->fz->Bool
 |.int k,.int k'=>decide (k=k')
 |.str,.str=>true
 |.arr k n,.arr k' cI=>decide (k=k')&&Nat.beq n cI
 |_,_=>false
def AR(t:TypeId)(dq:fz):Bool:=
 match P.underlying t with
 |some (.map fb _)=>(match keys fb with|some PG=>I1 dq PG|none=>false)
 |_=>false
def B1(op:Op)(y:ue):Bool:=
 match y,op with
 |.look dq z ok m k,.lookup t fL k' tq=>b6 aB m fL&&b6 aB k k'&&(ok==tq)&&AR P keys t dq&&
  (match P.underlying t with|some (.map _ e)=>(match p1 P e with|some v=>dI z v&&jj z|none=>false)|_=>false)
 |.dQ dq m k v,.mapUpdate t fL k' v'|.dQ dq m k v,.insert t fL k' v'=>b6 aB m fL&&b6 aB k k'&&b6 aB v v'&&AR P keys t dq
 |.del dq m k,.call {callee:=.builtin .delete,args:=⟨[fL,k']⟩,argTypes:=⟨[t,_]⟩}=>b6 aB m fL&&b6 aB k k'&&AR P keys t dq
 |.xT m,.call {callee:=.builtin .len,args:=⟨[fL]⟩,argTypes:=⟨[t]⟩}=>b6 aB m fL&&(match P.underlying t with|some (.map _ _)=>true|_=>false)
 |.rU m,.range t fL=>b6 aB m fL&&(match P.underlying t with|some (.map _ _)=>true|_=>false)
 |.qz i,.entry ib=>b6 aB i ib
 |.pH i,.next ib false=>b6 aB i ib
 |.ur gt a b,.binOp cg t a' fF _=>decide (cg=(if gt then .gtr else .leq))&&b6 aB a a'&&b6 aB b fF&&(match P.underlying t with|some (.int .i64)=>true|_=>false)
 |.idxs g a c,.call {callee:=.value (.func f),args:=⟨[b,d]⟩,.. }=>b6 aB a b&&b6 aB c d&&nO f&&Nat.beq g l4
 |.bw a c,.call {callee:=.value (.func f),args:=⟨[b,d]⟩,.. }=>b6 aB a b&&b6 aB c d&&nv f
 |.zK neg n a b,.binOp cg t a' fF _=>decide (cg=(if neg then .neq else .eql))&&b6 aB a a'&&b6 aB b fF&&(match eqs t with|some cI=>Nat.beq n cI|none=>false)
 |_,_=>false
def anb(op:Op)(x:dH):Bool:=
 match x,op with
 |.na a,.move b|.na a,.assign b=>b6 aB a b
 |.pick c a b,.pick bE a' fF=>b6 aB c bE&&b6 aB a a'&&b6 aB b fF
 |.alloc z e,.alloc t=>Nat.beq e t&&(match p1 P t with|some v=>kz z v.cells.toList&&lN z|none=>false)
 |.box e a,.box t b=>Nat.beq e t&&b6 aB a b
 |.build z ps,.build t parts=>
  (match p1 P t with|some v=>kz z v.cells.toList&&lN z|none=>false)&&
  (match P.underlying t with
   |some (.struct fields)=>fields.toList.all (fun f=>(P.info? f.type).isSome)&&pK aB (fun j=>(fields.map fun f=>(f.offset,P.cellsOf f.type))[j]?) ps parts.toList
   |some (.array _ e)=>(match gb P e with|some s=>pK aB (fun j=>some (j*s,s)) ps parts.toList|none=>false)
   |_=>false)
 |.p6 e n z ps,.buildSlice t m parts=>
  Nat.beq n m&&(match P.underlying t with
   |some (.slice el)=>Nat.beq e el&&(match gb P el,p1 P el with
    |some s,some v=>Nat.ble (m*s) (2^24)&&kz z ((List.range (m*s)).map (fun j=>(if m*s=0 then(#[]:Array Value)else v.cells)[j%(if m*s=0 then(#[]:Array Value)else v.cells).size]!))&&lN z&&
     pK aB (fun j=>some (j*s,s)) ps parts.toList
    |_,_=>false)
   |_=>false)
 |.l1 a,.load t b=>b6 aB a b&&(match ob P t with|some g=> !g|none=>false)
 |.qy n a,.load t b=>b6 aB a b&&(match ob P t,gb P t with|some g,some s=>g&&Nat.beq n s|_,_=>false)
 |.store n a x,.store t b y=>b6 aB a b&&b6 aB x y&&(match gb P t with|some s=>Nat.beq n s|none=>false)
 |.tm a,.nilCheck b=>b6 aB a b
 |.bin o a b,.binOp cg _ a' fF _=>decide (o=cg)&&b6 aB a a'&&b6 aB b fF
 |.eqv neg e a b,.binOp cg t a' fF _=>decide (cg=(if neg then .neq else .eql))&&b6 aB a a'&&b6 aB b fF&&C3 P t e a' fF
 |.un o a,.unOp cg _ b=>decide (o=cg)&&b6 aB a b
 |.uq k a,.convert s t b=>b6 aB a b&&(match P.underlying s,P.underlying t with|some _,some (.int k')=>decide (k=k')|_,_=>false)
 |.zu a,.convert s t b=>b6 aB a b&&(match P.underlying s,P.underlying t with|some _,some .string=>true|_,_=>false)
 |.zq a,.convert s t b=>b6 aB a b&&(match P.underlying s,P.underlying t with|some (.slice e),some .string=>(match P.underlying e with|some (.int .u8)=>true|_=>false)|_,_=>false)
 |.wQ e a,.convert s t b=>b6 aB a b&&(match P.underlying s,P.underlying t with|some .string,some (.slice cj)=>Nat.beq e cj&&(match P.underlying cj,gb P cj with|some (.int .u8),some 1=>true|_,_=>false)|_,_=>false)
 |.Jm t a,.makeInterface gO b=>Nat.beq t gO&&b6 aB a b&&(match P.underlying gO with|some (.interface _)=>false|some _=>true|none=>false)
 |.vz (.func f) a c,.makeFunc (.func g) b d=>Nat.beq f g&&lD aB a b.toList&&lD aB c d.toList
 |.tj e bn z l c,.makeSlice t l' bE=>b6 aB l l'&&b6 aB c bE&&(match P.underlying t with
  |some (.slice el)=>Nat.beq e el&&(match P.info? el with
   |some i=>Nat.beq bn i.bytes&& !Nat.beq i.size 0&&(match i.zero with|some v=>kz z v.cells.toList&&lN z&&Nat.beq v.cells.toList.length i.size|none=>false)
   |none=>false)
  |_=>false)
 |.sf a bD ag,.slice t b pG dS none=>b6 aB a b&&k1 aB bD pG&&k1 aB ag dS&&(match P.underlying t with|some .string=>true|_=>false)
 |.F8 n s a bD ag eM,.slice t b pG dS nT=>b6 aB a b&&k1 aB bD pG&&k1 aB ag dS&&k1 aB eM nT&&(nT.isNone||dS.isSome)&&
  (match P.underlying t with|some (.array cI e)=>Nat.beq n cI&&(match gb P e with|some br=>Nat.beq s br|none=>false)|_=>false)
 |.n3 s a bD ag eM,.slice t b pG dS nT=>b6 aB a b&&k1 aB bD pG&&k1 aB ag dS&&k1 aB eM nT&&(nT.isNone||dS.isSome)&&
  (match P.underlying t with|some (.slice e)=>(match gb P e with|some br=>Nat.beq s br|none=>false)|_=>false)
 |.w3 off a,.fieldAddr t b f=>b6 aB a b&&(match P.underlying t with
  |some (.struct fields)=>(match fields[f]? with|some fd=>Nat.beq off fd.offset&&(match gb P fd.type with|some s=> !Nat.beq s 0|none=>false)|none=>false)
  |_=>false)
 |.w7 off bj g0 a,.field t b f=>b6 aB a b&&(match P.underlying t with
  |some (.struct fields)=>(match fields[f]? with|some fd=>Nat.beq off fd.offset&&(match gb P fd.type,ob P fd.type with|some s,some g=>Nat.beq bj s&&(g0==g)|_,_=>false)|none=>false)
  |_=>false)
 |.tc n bj a i,.indexAddr t b j=>b6 aB a b&&b6 aB i j&&(match P.underlying t with|some (.array cI e)=>Nat.beq n cI&&(match gb P e with|some s=>Nat.beq bj s|none=>false)|_=>false)
 |.lZ bj a i,.indexAddr t b j=>b6 aB a b&&b6 aB i j&&(match P.underlying t with|some (.slice e)=>(match gb P e with|some s=>Nat.beq bj s|none=>false)|_=>false)
 |.vl a i,.index t b j=>b6 aB a b&&b6 aB i j&&(match P.underlying t with|some .string=>true|_=>false)
 |.AQ n bj g0 a i,.index t b j=>b6 aB a b&&b6 aB i j&&(match P.underlying t with|some (.array cI e)=>Nat.beq n cI&&(match gb P e,ob P e with|some s,some g=>Nat.beq bj s&&(g0==g)|_,_=>false)|_=>false)
 |.Gg t z ok a,.typeAssert b _ gO tq=>b6 aB a b&&Nat.beq t gO&&(ok==tq)&&(match P.underlying gO with|some (.interface _)=>false|some _=>true|none=>false)&&(match p1 P gO with|some v=>dI z v&&jj z|none=>false)
 |.zN a i,.extract b j=>b6 aB a b&&Nat.beq i j
 |.call f as,.call {callee:=.value g,args,.. }=>b6 aB f g&&lD aB as args.toList&&(match g with|.func k=>((P.funcs[k]?).map (fun fn=>fn.body.isSome&& !(fn.name== "runtime.NumGoroutine"))).getD false|_=>true)
 |.oR a,.call {callee:=.builtin .len,args:=⟨[b]⟩,argTypes:=⟨[t]⟩}=>b6 aB a b&&(match P.underlying t with|some (.slice _)=>true|_=>false)
 |.vq a,.call {callee:=.builtin .len,args:=⟨[b]⟩,argTypes:=⟨[t]⟩}=>b6 aB a b&&(match P.underlying t with|some .string=>true|_=>false)
 |.AU n,.call {callee:=.builtin .len,args:=⟨[_]⟩,argTypes:=⟨[t]⟩}=>(match P.underlying t with|some (.array m _)=>Nat.beq n m|some (.pointer u)=>(match P.underlying u with|some (.array m _)=>Nat.beq n m|_=>false)|_=>false)
 |.app e bj bn s a,.call {callee:=.builtin .append,args:=⟨[br,b]⟩,argTypes:=⟨[t,u]⟩}=>b6 aB s br&&b6 aB a b&&(match P.underlying t,P.underlying u with
  |some (.slice el),some d=>Nat.beq e el&&(match d with|.int _=>false|_=>true)&&(match P.info? el with
   |some i=>Nat.beq bj i.size&&Nat.beq bn i.bytes&&(match i.zero with|some v=>Nat.beq v.cells.size i.size|none=>false)
   |none=>false)
  |_,_=>false)
 |.eM a as,.call {callee:=.builtin .max,args:=⟨b::bn⟩,.. }=>b6 aB a b&&lD aB as bn
 |.rS a as,.call {callee:=.builtin .min,args:=⟨b::bn⟩,.. }=>b6 aB a b&&lD aB as bn
 |.q7 bj d s,.call {callee:=.builtin .copy,args:=⟨[lh,br]⟩,argTypes:=⟨[t,_]⟩}=>b6 aB d lh&&b6 aB s br&&(match P.underlying t with|some (.slice e)=>(match gb P e with|some n=>Nat.beq bj n|none=>false)|_=>false)
 |.tJ,.call {callee:=.builtin .recover,args:=⟨[]⟩,.. }=>true
 |.qb f as,.defer {callee:=.value g,args,.. }=>b6 aB f g&&lD aB as args.toList
 |.nX a,.panic b=>b6 aB a b
 |.CL a,.convert s t b=>b6 aB a b&&(match P.underlying s,P.underlying t with|some (.pointer e),some .unsafePointer=>(match gb P e with|some n=> !Nat.beq n 0|none=>false)|_,_=>false)
 |.CM e n a,.convert s t b=>b6 aB a b&&(match P.underlying s,P.underlying t with|some .unsafePointer,some (.pointer cj)=>Nat.beq e cj&&(match gb P cj with|some m=>Nat.beq n m&& !Nat.beq m 0|none=>false)|_,_=>false)
 |.BH a,.call {callee:=.builtin .unsafeSliceData,args:=⟨[b]⟩,argTypes:=⟨[_]⟩}=>b6 aB a b
 |.tT e a n,.call {callee:=.builtin .unsafeString,args:=⟨[b,m]⟩,argTypes:=⟨[t,_]⟩}=>b6 aB a b&&b6 aB n m&&(match P.underlying t with|some (.pointer cj)=>Nat.beq e cj&&(match gb P cj with|some 1=>true|_=>false)|_=>false)
 |.kq a c,.call {callee:=.value (.func f),args:=⟨[b,d]⟩,.. }=>b6 aB a b&&b6 aB c d&&kq f
 |.j5 a,.call {callee:=.value (.func f),args:=⟨[b]⟩,.. }=>b6 aB a b&&j5 f
 |.l3,.makeMap _ none=>true
 |.xM _,_=>true
 |.ext y,op=>B1 P aB keys nv eqs nO l4 op y
 |.refuse,_=>true
 |_,_=>false
end
end Go.az
namespace Go.az
variable{X:Ctx}
section
variable{α β:Type}{r z:β}
theorem BW{v:Value}{k:Option Nat->β}(h:wi v k z=r)(a8:z≠r):∃p,v= .map p∧k p=r:=by
 cases v<;>first|exact absurd h a8|exact⟨_,rfl,h⟩
theorem vw{o:Option bL}{k:List MapEntry->Nat->β}(h:nS o k z=r)(a8:z≠r):∃es c,o=some (.map es c)∧k es c=r:=by
 unfold nS at h;obtain⟨o,rfl,h⟩:=fC h a8;cases o<;>first|exact absurd h a8|exact⟨_,_,rfl,h⟩
theorem Py{o:Option bL}{k:Option Nat->Nat->List Nat->Nat->β}(h:Eb o k z=r)(a8:z≠r):∃a b c d,o=some (.oU a b c d)∧k a b c d=r:=by
 unfold Eb at h;obtain⟨o,rfl,h⟩:=fC h a8;cases o<;>first|exact absurd h a8|exact⟨_,_,_,_,rfl,h⟩
end
theorem fz.same{ι:bq}{dq:fz}{v v':Value}(h:dq.ok v=true)(aF:bs ι v v'):v'=v:=by
 cases dq with
 |int k=>
  obtain⟨k',n,rfl,_⟩:=iF (v:=v) (z:=false) (r:=true) h (by decide);cases aF;rfl
 |str=>
  obtain⟨s,rfl,_⟩:=n7 (v:=v) (z:=false) (r:=true) h (by decide);cases aF;rfl
 |arr k n=>
  obtain⟨xs,rfl,U⟩:=wg (v:=v) (z:=false) (r:=true) h (by decide);rw[b2,List.all_eq_true]at U;cases aF with
  |agg _ av J hh=>
   congr 1;apply Array.ext
   ·exact J.symm
   ·intro i a b;have aa:=U.2 xs[i] (by simp);obtain⟨k',m,he,_⟩:=iF (v:=xs[i]) (z:=false) (r:=true) aa (by decide);have:=hh i b a;rw[he]at this⊢;generalize av[i]=y at this⊢;cases this;rfl
theorem uniq{es:List MapEntry}(h:es.Pairwise (fun a b=>a.key≠b.key)){a b:MapEntry}(a2:a∈es)(hb:b∈es)(e:a.key=b.key):a=b:=by
 induction es with
 |nil=>cases a2
 |cons x xs bb=>
  rw[List.pairwise_cons]at h;rcases List.mem_cons.1 a2 with rfl|oy<;>rcases List.mem_cons.1 hb with rfl|cX
  ·rfl
  ·exact absurd e (h.1 b cX)
  ·exact absurd e.symm (h.1 a oy)
  ·exact bb h.2 oy cX
theorem AX{k:Value}{es:List MapEntry}{e:MapEntry}(h:iR k es=some e):e∈es∧e.key=k:=by
 unfold iR at h;refine⟨List.mem_of_find?_eq_some h,?_⟩;have:=List.find?_some h;exact(lM _ _ this).symm
theorem Ep{k:Value}{es:List MapEntry}(h:iR k es=none):∀e∈es,e.key≠k:=by
 intro e he YP;unfold iR at h;have:=List.find?_eq_none.1 h e he;rw[YP,wk]at this;exact this rfl
theorem Ec{dq:fz}{es:List MapEntry}(h:tf dq es=true){e:MapEntry}(he:e∈es):dq.ok e.key=true:=
 List.all_eq_true.1 h e he
theorem h7.find{ι:bq}{bW:Nat->Nat}{es:List MapEntry}{clock:Nat}{C:List MapEntry}{jC:Nat}(h:h7 ι bW es clock C jC){fb:TypeId}{dq:fz}(eZ:X.keys fb=some dq){k:Value}(ae:dq.ok k=true)(he:tf dq es=true)(w:World):
 ((Instr.findKey fb k C).run X.P w= .ok none w∧iR k es=none∧∀c∈C,c.key≠k)∨
 ∃e j c,(Instr.findKey fb k C).run X.P w= .ok (some (j,c.val)) w∧C[j]? =some c∧c.key=k∧iR k es=some e∧e∈es∧e.key=k∧bs ι e.val c.val∧c.born=bW e.born:=by
 obtain⟨K,bM⟩:=X.qt fb dq eZ;obtain⟨l,hp,hlen,hl⟩:=h.same;have sZ:∀(i:Nat) (a:i<l.length) (b:i<C.length),C[i].key=l[i].key:=by
  intro i a b;exact fz.same (Ec he (hp.mem_iff.1 (ew a))) (hl i a b).1
 have dV:∀c∈C,∃l,keyOf X.P fb c.key=some l:=by
  intro c hc;obtain⟨i,ag,rfl⟩:=List.getElem_of_mem hc;have dS:i<l.length:=by omega
  rw[sZ i dS ag];exact bM _ (Ec he (hp.mem_iff.1 (ew dS)))
 obtain⟨Je,uX⟩:=bM k ae;rcases K.find w uX C dV with⟨J,U⟩|⟨j,c,J,U,ah⟩
 ·left;refine⟨J,?_,U⟩;cases af:iR k es with
  |none=>rfl
  |some e=>
   exfalso;obtain⟨e0,gV⟩:=AX af;obtain⟨i,ag,fI⟩:=List.getElem_of_mem (hp.mem_iff.2 e0);have dS:i<C.length:=by omega
   exact U C[i] (ew dS) (by rw[sZ i ag dS,fI,gV])
 ·right;obtain⟨hj,sY⟩:=List.getElem?_eq_some_iff.1 U;have kT:j<l.length:=by omega
  have Ak:l[j].key=k:=by rw[<-sZ j kT hj,sY,ah]
  have s3:l[j]∈es:=hp.mem_iff.1 (ew kT);cases af:iR k es with
  |none=>exact absurd Ak (Ep af _ s3)
  |some e=>
   obtain⟨e0,gV⟩:=AX af;have:e=l[j]:=uniq h.keys e0 s3 (by rw[gV,Ak]);subst this;have:=hl j kT hj;rw[sY]at this;exact⟨_,j,c,J,U,ah,rfl,s3,Ak,this.2.1,this.2.2⟩
theorem h7.put{ι:bq}{bW:Nat->Nat}{es:List MapEntry}{clock:Nat}{C:List MapEntry}{jC:Nat}(h:h7 ι bW es clock C jC){dq:fz}{k v v':Value}(he:tf dq es=true){j:Nat}{c:MapEntry}(hj:C[j]? =some c)(hc:c.key=k)(aD:bs ι v v'):
 h7 ι bW (xS k v es) clock (C.set j {c with key:=k,val:=v'}) jC:=by
 obtain⟨l,hp,hlen,hl⟩:=h.same;have aA:∀e:MapEntry,(cond (dI k e.key) (⟨e.key,v,e.born⟩:MapEntry) e).key=e.key:=by
  intro e;cases dI k e.key<;>rfl
 have bC:∀e:MapEntry,(cond (dI k e.key) (⟨e.key,v,e.born⟩:MapEntry) e).born=e.born:=by
  intro e;cases dI k e.key<;>rfl
 have sZ:∀(i:Nat) (a:i<l.length) (b:i<C.length),C[i].key=l[i].key:=by
  intro i a b;exact fz.same (Ec he (hp.mem_iff.1 (ew a))) (hl i a b).1
 obtain⟨j1,sY⟩:=List.getElem?_eq_some_iff.1 hj;refine⟨h.iL,h.n2,?_,?_,?_,l.map (fun e=>cond (dI k e.key) ⟨e.key,v,e.born⟩ e),hp.map _,by simp[hlen],?_⟩
 ·intro e hm;obtain⟨cj,ix,rfl⟩:=List.mem_map.1 hm;rw[bC];exact h.born cj ix
 ·unfold xS;rw[List.pairwise_map];exact h.keys.imp (fun{a b} hW=>by rw[aA,aA];exact hW)
 ·unfold xS;rw[List.pairwise_map];exact h.sE.imp (fun{a b} hW=>by rw[bC,bC];exact hW)
 ·intro i a b;have a':i<l.length:=by simpa using a
  have fF:i<C.length:=by simpa using b
  rw[List.getElem_map,List.getElem_set];by_cases e:j=i
  ·subst e;rw[if_pos rfl];have ae:l[j].key=k:=by rw[<-sZ j a' fF,sY,hc]
   have:dI k l[j].key=true:=by rw[ae];exact wk k
   rw[this];have hh:=hl j a' fF;rw[sY]at hh;refine⟨?_,aD,hh.2.2⟩;have:=hh.1;rw[hc]at this;exact this
  ·rw[if_neg e];have cx:dI k l[i].key=false:=by
    rw[Bool.eq_false_iff];intro hq;have ae:=lM _ _ hq;have uT:j<l.length:=by omega
    have J:l[i].key=l[j].key:=by rw[<-ae,<-sZ j uT j1,sY,hc]
    have oI:=(hp.symm.pairwise_iff (R:=fun a b:MapEntry=>a.key≠b.key) (fun{a b} h=>h.symm)).1 h.keys;have U:i=j:=by
     rcases Nat.lt_trichotomy i j with h|h|h
     ·exact absurd J (List.pairwise_iff_getElem.1 oI i j a' uT h)
     ·exact h
     ·exact absurd J.symm (List.pairwise_iff_getElem.1 oI j i uT a' h)
    exact e U.symm
   rw[cx];exact hl i a' fF
theorem h7.push{ι:bq}{bW:Nat->Nat}{es:List MapEntry}{clock:Nat}{C:List MapEntry}{jC:Nat}(h:h7 ι bW es clock C jC){k v v':Value}(ae:bs ι k k)(hn:iR k es=none)(aD:bs ι v v'):
 h7 ι bW (es++[⟨k,v,clock⟩]) (clock+1) (C++[⟨k,v',jC⟩]) (jC+1):=by
 obtain⟨l,hp,hlen,hl⟩:=h.same;have ak:=h.n2;refine⟨?_,⟨fun s t e9 aX e=> ?_,fun s e9=> ?_,fun j=> ?_⟩,?_,?_,?_,l++[⟨k,v,clock⟩],hp.append_right _,by simp[hlen],?_⟩
 ·rw[h.iL,ak.up 1]
 ·rcases Nat.lt_or_ge s clock with a|a<;>rcases Nat.lt_or_ge t clock with b|b
  ·exact ak.inj s t a b e
  ·have:t=clock:=by omega
   subst this;have:=ak.lt s a;omega
  ·have:s=clock:=by omega
   subst this;have:=ak.lt t b;omega
  ·omega
 ·rw[ak.up 1];rcases Nat.lt_or_ge s clock with a|a
  ·have:=ak.lt s a;omega
  ·have:s=clock:=by omega
   subst this;omega
 ·rw[show clock+1+j=clock+(1+j) by omega,ak.up,ak.up 1];omega
 ·intro e he;rcases List.mem_append.1 he with he|he
  ·have:=h.born e he;omega
  ·have:e=⟨k,v,clock⟩:=by simpa using he
   subst this;exact Nat.lt_succ_self _
 ·rw[List.pairwise_append];refine⟨h.keys,by simp,fun a a2 b hb=> ?_⟩;have:b=⟨k,v,clock⟩:=by simpa using hb
  subst this;exact Ep hn a a2
 ·rw[List.pairwise_append];refine⟨h.sE,by simp,fun a a2 b hb=> ?_⟩;have:b=⟨k,v,clock⟩:=by simpa using hb
  subst this;have:=h.born a a2;exact Nat.ne_of_lt this
 ·intro i a b;by_cases e:i<l.length
  ·rw[List.getElem_append_left e,List.getElem_append_left (by omega)];exact hl i e (by omega)
  ·have ag:i=l.length:=by simp at a;omega
   subst ag;rw[List.getElem_append_right (by omega),List.getElem_append_right (by omega)];simp only[hlen,Nat.sub_self,List.getElem_cons_zero];exact⟨ae,aD,h.iL⟩
theorem h7.del{ι:bq}{bW:Nat->Nat}{es:List MapEntry}{clock:Nat}{C:List MapEntry}{jC:Nat}(h:h7 ι bW es clock C jC){dq:fz}{k:Value}(he:tf dq es=true){j:Nat}{c:MapEntry}(hj:C[j]? =some c)(hc:c.key=k):
 h7 ι bW (xR k es) clock (C.eraseIdx j) jC:=by
 obtain⟨l,hp,hlen,hl⟩:=h.same;have sZ:∀(i:Nat) (a:i<l.length) (b:i<C.length),C[i].key=l[i].key:=by
  intro i a b;exact fz.same (Ec he (hp.mem_iff.1 (ew a))) (hl i a b).1
 obtain⟨j1,sY⟩:=List.getElem?_eq_some_iff.1 hj;have uT:j<l.length:=by omega
 have Ak:l[j].key=k:=by rw[<-sZ j uT j1,sY,hc]
 have oI:l.Pairwise (fun a b=>a.key≠b.key):=(hp.symm.pairwise_iff (R:=fun a b:MapEntry=>a.key≠b.key) (fun{a b} h=>h.symm)).1 h.keys;have H4:∀(l:List MapEntry) (j:Nat) (hj:j<l.length),l.Pairwise (fun a b=>a.key≠b.key)->l[j].key=k->l.filter (fun e=> !dI k e.key)=l.eraseIdx j:=by
  intro l
  induction l with
  |nil=>intro j hj;simp at hj
  |cons x xs bb=>
   intro j hj oI ae;rw[List.pairwise_cons]at oI;cases j with
   |zero=>
    have aa:dI k x.key=true:=by rw[show x.key=k from ae];exact wk k
    rw[List.filter_cons];simp only[aa,Bool.not_true,Bool.false_eq_true,if_false,List.eraseIdx_cons_zero];rw[List.filter_eq_self];intro a a2;have:=oI.1 a a2;rw[show x.key=k from ae]at this;cases aD:dI k a.key
    ·rfl
    ·exact absurd (lM _ _ aD) this
   |succ j=>
    have kT:j<xs.length:=by simpa using hj
    have fJ:xs[j].key=k:=by simpa using ae
    have aa:dI k x.key=false:=by
     rw[Bool.eq_false_iff];intro hq;exact oI.1 xs[j] (ew kT) (by rw[fJ,lM _ _ hq])
    rw[List.filter_cons];simp only[aa,Bool.not_false,if_true,List.eraseIdx_cons_succ];rw[bb j kT oI.2 fJ]
 refine⟨h.iL,h.n2,fun e hm=>h.born e (List.mem_filter.1 hm).1,h.keys.filter _,h.sE.filter _,l.eraseIdx j,?_,?_,?_⟩
 ·rw[<-H4 l j uT oI Ak];exact hp.filter _
 ·rw[List.length_eraseIdx_of_lt uT,List.length_eraseIdx_of_lt j1,hlen]
 ·intro i a b;rw[List.getElem_eraseIdx,List.getElem_eraseIdx];split
  ·exact hl i _ _
  ·exact hl (i+1) _ _
section
variable{ι:bq}{fr aE:aQ}{a:Act}{ay:Nat}{st st':aw}{w:World}{o:Oper}{v:Value}{call:bP}
open Go.MapKept
theorem Zm{fb:TypeId}{dq:fz}(eZ:X.keys fb=some dq){k:Value}(ae:dq.ok k=true)(w:World):(Instr.findKey fb k []).run X.P w= .ok none w:=by
 obtain⟨K,bM⟩:=X.qt fb dq eZ;obtain⟨Je,uX⟩:=bM k ae;rcases K.find w uX [] (by simp)with⟨J,_⟩|⟨j,c,_,U,_⟩
 ·exact J
 ·simp at U
theorem uo{fb:TypeId}{dq:fz}(eZ:X.keys fb=some dq){k:Value}(ae:dq.ok k=true)(em:Bool)(w:World):(Instr.checkKey em 10000 fb k).run X.P w= .ok () w:=by
 obtain⟨K,bM⟩:=X.qt fb dq eZ;obtain⟨Je,uX⟩:=bM k ae;exact K.check w em uX
theorem aln{dq:fz}{z:Value}{ok:Bool}{m k:Operand}{t fb iO:TypeId}{i:TypeInfo}(hm:cO X.aB m=true)(ae:cO X.aB k=true)(ao:o.op= .lookup t m k ok)(hu:X.P.underlying t=some (.map fb iO))
 (eZ:X.keys fb=some dq) (ag:X.P.info? iO=some i) (a8:i.zero=some z) (acg:jj z=true) (af:cE ι fr a ay) (hw:bp X ι st w)
 (h:ov fr st (.look dq z ok m k)= .ok v aE st'):aE=fr∧cv X ι w v st st' (execOp a.eval o):=by
 obtain⟨hx,h⟩:=hU h (by simp);obtain⟨r,aF,h⟩:=BW h (by simp);have s0:a.eval k=fr.an k:=fz.same hx (af.an hw ae);have ju:=af.an hw hm;rw[aF]at ju;generalize m5:a.eval m=na at ju;have D6:=sm (P:=X.P) ag a8 w;have xG:bs ι z z:=bs.pure ι z acg;cases r with
 |none=>
  cases ju;have h:aY.ok (cond ok (.tuple #[z,.bool false]) z) fr st= .ok v aE st':=h;cases h;refine⟨rfl,cv.same (v':=cond ok (.tuple #[z,.bool false]) z) hw ?_ ?_⟩
  ·unfold execOp;rw[ao];simp only[m5,s0,Instr.lookup,Sem.run_bind,run_underlying hu,Result.andThen,Sem.run_pure,uo eZ hx,Zm eZ hx,D6];cases ok<;>rfl
  ·cases ok
   ·exact xG
   ·exact bs.nf (bF.cons xG (bF.cons (.bool _) (bF.nil ι)))
 |some id=>
  have h:nS (st.h.get id) (fun es _=>cond (tf dq es) (bo (iR (fr.an k) es) (fun e=>.ok (cond ok (.tuple #[e.val,.bool true]) e.val) fr st) (.ok (cond ok (.tuple #[z,.bool false]) z) fr st)) .no) .no=aY.ok v aE st':=h;obtain⟨es,c,aZ,h⟩:=vw h (by simp);obtain⟨uU,h⟩:=hU h (by simp);obtain⟨l,hl,h0,jo,C,bE,hC,c9⟩:=hw.eu _ _ aZ (by simp);cases ju with
  |map _ b bW hb=>
   rw[hl]at hb;cases hb;have hC:w.heap[b]? =some (.map C bE):=hC;rcases c9.find (X:=X) eZ hx uU w with⟨J,U,_⟩|⟨e,j,p7,J,U,ah,aC,a5,ch,cV,fG⟩
   ·rw[U]at h;cases h;refine⟨rfl,cv.same (v':=cond ok (.tuple #[z,.bool false]) z) hw ?_ ?_⟩
    ·unfold execOp;rw[ao];simp only[m5,s0,Instr.lookup,Sem.run_bind,run_underlying hu,Result.andThen,Sem.run_pure,MapKept.run_getObj_map hC,uo eZ hx,J,D6];cases ok<;>rfl
    ·cases ok
     ·exact xG
     ·exact bs.nf (bF.cons xG (bF.cons (.bool _) (bF.nil ι)))
   ·rw[aC]at h;cases h;refine⟨rfl,cv.same (v':=cond ok (.tuple #[p7.val,.bool true]) p7.val) hw ?_ ?_⟩
    ·unfold execOp;rw[ao];simp only[m5,s0,Instr.lookup,Sem.run_bind,run_underlying hu,Result.andThen,Sem.run_pure,MapKept.run_getObj_map hC,uo eZ hx,J];cases ok<;>rfl
    ·cases ok
     ·exact cV
     ·exact bs.nf (bF.cons cV (bF.cons (.bool _) (bF.nil ι)))
theorem als{m:Operand}{t fb iO:TypeId}(hm:cO X.aB m=true)(ao:o.op= .call {callee:=.builtin .len,args:= #[m],argTypes:= #[t]})(hu:X.P.underlying t=some (.map fb iO))(af:cE ι fr a ay)(hw:bp X ι st w)
 (h:ov fr st (.xT m)= .ok v aE st'):aE=fr∧cv X ι w v st st' (execOp a.eval o):=by
 obtain⟨r,aF,h⟩:=BW h (by simp);have ju:=af.an hw hm;rw[aF]at ju;generalize m5:a.eval m=na at ju;cases r with
 |none=>
  cases ju;have h:aY.ok (.int .i64 0) fr st= .ok v aE st':=h;cases h;refine⟨rfl,cv.same (v':=.int .i64 0) hw ?_ (.int _ _)⟩;unfold execOp;rw[ao];simp[resolve,invoke,builtin,m5,Builtin.len_,run_underlying hu,Result.andThen,goInt]
 |some id=>
  have h:nS (st.h.get id) (fun es _=>fB (ef es) fun n=>aY.ok (.int .i64 (.ofNat n)) fr st) .no= .ok v aE st':=h;obtain⟨es,c,aZ,h⟩:=vw h (by simp);rw[w9,fx]at h;cases h;obtain⟨l,hl,h0,jo,C,bE,hC,c9⟩:=hw.eu _ _ aZ (by simp);cases ju with
  |map _ b bW hb=>
   rw[hl]at hb;cases hb;have hC:w.heap[b]? =some (.map C bE):=hC;obtain⟨l,hp,hlen,_⟩:=c9.same;have e:es.length=C.size:=by rw[<-hp.length_eq,hlen];simp
   refine⟨rfl,cv.same (v':=.int .i64 es.length) hw ?_ (.int _ _)⟩;unfold execOp;rw[ao];simp[resolve,invoke,builtin,m5,Builtin.len_,run_underlying hu,Result.andThen,goInt,MapKept.run_getObj_map hC,e]
end
