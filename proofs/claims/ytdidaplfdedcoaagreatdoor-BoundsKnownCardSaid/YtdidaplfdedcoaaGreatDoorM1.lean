/- An abstract machine, and that its evaluations stand for runs of the model (part 1); no condition. -/
import Derived.Calls
import Derived.Laws.Cells
import Derived.Maps.Keyed
import Derived.Lib.Strings
namespace Go.AM

inductive PM (α : Type) where
  | nil : PM α
  | node (l : PM α) (v : Option α) (r : PM α) : PM α

namespace PM
variable {α β : Type}

noncomputable def get (t : PM α) : Nat → Option α :=
  PM.rec (motive := fun _ => Nat → Option α) (fun _ => none)
    (fun _ v _ gl gr n => Nat.rec (motive := fun _ => Option α) v (fun m _ => Nat.rec (motive := fun _ => Option α) (gl (Nat.div m 2)) (fun _ _ => gr (Nat.div m 2)) (Nat.mod m 2)) n) t

/-- Put a value in, and hand the new map on. -/
noncomputable def setK (f : Nat) : PM α → Nat → α → (PM α → β) → β :=
  Nat.rec (motive := fun _ => PM α → Nat → α → (PM α → β) → β) (fun t _ _ k => k t)
    (fun _ ih t n x k =>
      PM.rec (motive := fun _ => β)
        (Nat.rec (motive := fun _ => β) (k (.node .nil (some x) .nil))
          (fun m _ => Nat.rec (motive := fun _ => β) (ih .nil (Nat.div m 2) x fun l' => k (.node l' none .nil)) (fun _ _ => ih .nil (Nat.div m 2) x fun r' => k (.node .nil none r')) (Nat.mod m 2)) n)
        (fun l v r _ _ =>
          Nat.rec (motive := fun _ => β) (k (.node l (some x) r))
            (fun m _ => Nat.rec (motive := fun _ => β) (ih l (Nat.div m 2) x fun l' => k (.node l' v r)) (fun _ _ => ih r (Nat.div m 2) x fun r' => k (.node l v r')) (Nat.mod m 2)) n) t) f

noncomputable def set (t : PM α) (n : Nat) (x : α) : PM α := setK (Nat.succ n) t n x id

/-! The same in small closed pieces: cheaper for the kernel. -/
noncomputable def nodL (v : Option α) (r : PM α) (l : PM α) : PM α :=
  PM.rec (motive := fun _ => PM α) (.node .nil v r) (fun a b c _ _ => .node (.node a b c) v r) l
noncomputable def nodR (l : PM α) (v : Option α) (r : PM α) : PM α :=
  PM.rec (motive := fun _ => PM α) (.node l v .nil) (fun a b c _ _ => .node l v (.node a b c)) r
noncomputable def put2 (ih : PM α → Nat → α → PM α) (l : PM α) (v : Option α) (r : PM α) (m : Nat) (x : α) : PM α :=
  Nat.rec (motive := fun _ => PM α) (nodL v r (ih l (Nat.div m 2) x)) (fun _ _ => nodR l v (ih r (Nat.div m 2) x)) (Nat.mod m 2)
noncomputable def put1 (ih : PM α → Nat → α → PM α) (l : PM α) (v : Option α) (r : PM α) (n : Nat) (x : α) : PM α :=
  Nat.rec (motive := fun _ => PM α) (.node l (some x) r) (fun m _ => put2 ih l v r m x) n
noncomputable def put0 (ih : PM α → Nat → α → PM α) (t : PM α) (n : Nat) (x : α) : PM α :=
  PM.rec (motive := fun _ => PM α) (put1 ih .nil none .nil n x) (fun l v r _ _ => put1 ih l v r n x) t
noncomputable def putF (f : Nat) : PM α → Nat → α → PM α :=
  Nat.rec (motive := fun _ => PM α → Nat → α → PM α) (fun t _ _ => t) (fun _ ih => put0 ih) f
noncomputable def fin (t : PM α) (k : PM α → β) : β :=
  PM.rec (motive := fun _ => β) (k .nil) (fun a b c _ _ => k (.node a b c)) t

end PM

/-- Which equality a type has. -/
inductive EqT where
  | prim           -- bools, integers, strings
  | nilS           -- slices, maps, functions, interfaces: one of both is nil
  | nilM
  | nilF
  | nilI
  | ptr
  | agg (ps : List (Nat × Nat × Bool × EqT))   -- parts: offset, size, is it a struct or array

/-- Kinds of a map's keys. -/
inductive KS where
  | int (k : IntKind)
  | str
  | arr (k : IntKind) (n : Nat)

/-- Operations on maps, and a few more. -/
inductive YOp where
  | look (ks : KS) (zero : Value) (ok : Bool) (m k : Operand)
  | upd (ks : KS) (m k v : Operand)
  | del (ks : KS) (m k : Operand)
  | mlen (m : Operand)
  | mrng (m : Operand)
  | ment (it : Operand)
  | cnt (s c : Operand)
  | eqa (neg : Bool) (n : Nat) (x y : Operand)
  | nxt (it : Operand)
  /-- A number held against one that is not known: '<=', or '>'. -/
  | cmpu (gt : Bool) (x y : Operand)
  /-- bytealg.IndexString; the global that bounds it. -/
  | idxs (g : Nat) (s b : Operand)

inductive XOp where
  | mv (x : Operand)
  | pick (c a b : Operand)
  | alloc (z : List Value) (elem : TypeId)
  | box (elem : TypeId) (x : Operand)
  | build (z : List Value) (ps : List (Nat × Nat × Operand))
  | bslice (elem : TypeId) (len : Nat) (z : List Value) (ps : List (Nat × Nat × Operand))
  | load1 (a : Operand)
  | loadn (n : Nat) (a : Operand)
  | store (n : Nat) (a x : Operand)
  | nilck (x : Operand)
  | bin (op : BinOp) (x y : Operand)
  | eqv (neg : Bool) (e : EqT) (x y : Operand)
  | un (op : UnOp) (x : Operand)
  | cint (k : IntKind) (x : Operand)
  | cid (x : Operand)
  | cb2s (x : Operand)
  | cs2b (elem : TypeId) (x : Operand)
  | mkif (t : TypeId) (x : Operand)
  | mkfn (fn : Fn) (first capt : List Operand)
  | mkmap
  | mksl (elem : TypeId) (bytes : Nat) (z : List Value) (len cap : Operand)
  | slstr (x : Operand) (lo hi : Option Operand)
  | slarr (n sz : Nat) (x : Operand) (lo hi mx : Option Operand)
  | slsl (sz : Nat) (x : Operand) (lo hi mx : Option Operand)
  | faddr (off : Nat) (x : Operand)
  | fld (off sz : Nat) (agg : Bool) (x : Operand)
  | iaA (n sz : Nat) (x i : Operand)
  | iaS (sz : Nat) (x i : Operand)
  | ixs (x i : Operand)
  | ixa (n sz : Nat) (agg : Bool) (x i : Operand)
  | tas (t : TypeId) (zero : Value) (ok : Bool) (x : Operand)
  | extr (x : Operand) (i : Nat)
  | call (f : Operand) (args : List Operand)
  | lenS (x : Operand)
  | lenT (x : Operand)
  | lenC (n : Nat)
  | lenM (x : Operand)
  | app (elem : TypeId) (sz bytes : Nat) (s x : Operand)
  | mx (x : Operand) (xs : List Operand)
  | mn (x : Operand) (xs : List Operand)
  | cpy (sz : Nat) (d s : Operand)
  | recov
  | dfr (f : Operand) (args : List Operand)
  | pnc (x : Operand)
  | cpu (x : Operand)
  | cup (elem n : Nat) (x : Operand)
  | sdata (x : Operand)
  | ustr (elem : TypeId) (x n : Operand)
  | ibs (s c : Operand)
  | noesc (x : Operand)
  | ext (y : YOp)
  | refuse

/-- An operation of a region: where its value goes, what it is, and its guard. -/
structure XOper where
  d : Option Tmp
  o : XOp
  g : Option (Tmp × Bool)

/-- How an operation may be moved in a region that draws its order. -/
inductive Cls where
  /-- It may do anything. -/
  | eff
  /-- It makes one new block, and looks at these temporaries. -/
  | al (ts : List Tmp)
  /-- It reads, at a place that may lie so many effects back, and looks at these temporaries. -/
  | read (back : Nat) (ts : List Tmp)

inductive XCode where
  | skip
  | reg (ops : List XOper)
  /-- A region that draws its order: the operations in some order, where they stood, the temporaries that nobody may look at before they are written, and the sets of places that come before. -/
  | dreg (ops : List (XOper × Cls)) (ix : List Nat) (pz : List Tmp) (ms : List Nat)
  | seq (a b : XCode)
  | cond (c : Operand) (a b : XCode)
  | block (id : Nat) (b : XCode)
  | loop (b : XCode)
  | rng (f : Operand) (params : List Tmp) (assign body : XCode)
  | exit (id : Nat)
  | scope (b : XCode)
  | ret
  | refuse

/-- How code is left. -/
inductive XExit where
  | norm
  | exit (id : Nat)
  | ret
  | pan (v : Value)

inductive XRes where
  | tmp (t : Tmp)
  | cell (a : Tmp) (agg : Bool) (n : Nat)

structure XFn where
  nt : Nat
  res : List XRes
  body : XCode

/-- An abstract object. In 'cells' the last two say which cells a string shares, and whether the capacity is unknown. -/
inductive AObj where
  | cells (cs : List Value) (elem : TypeId) (fz : Nat × Nat) (gr : Bool)
  | map (es : List MapEntry) (clock : Nat)
  | siter (s : ByteArray) (pos : Nat)
  | miter (m : Option Nat) (since : Nat) (seen : List Nat) (stepped : Nat)
  | loop (st : LoopState) (pending : Option XExit) (fn : FuncId) (tmps : PM Value) (params : List Tmp) (assign body : XCode) (defers : Nat)
  | defd (calls : Option (List Deferred))
  | dead

structure St where
  h : PM AObj
  nx : Nat

structure AFr where
  t : PM Value
  df : List Deferred
  pan : Option Value
  took : Bool
  rnd : Option Nat

noncomputable def AFr.tmp (fr : AFr) (n : Nat) : Value :=
  Option.rec (motive := fun _ => Value) (.chan (some 0)) (fun v => v) (fr.t.get n)

noncomputable def AFr.ev (fr : AFr) (x : Operand) : Value :=
  Operand.rec (motive := fun _ => Value) (fun t => fr.tmp t) (fun v => v) (fun g => .pointer (some ⟨g, 0, none⟩)) (fun f => .func (.func f) #[] #[]) x

noncomputable def AFr.mkF (t : PM Value) (df : List Deferred) (pan : Option Value) (took : Bool) (rnd : Option Nat) : AFr :=
  PM.rec (motive := fun _ => AFr) ⟨.nil, df, pan, took, rnd⟩ (fun a b c _ _ => ⟨.node a b c, df, pan, took, rnd⟩) t

noncomputable def AFr.put1 (d : Nat) (v : Value) (fr : AFr) : AFr :=
  AFr.rec (motive := fun _ => AFr) (fun t df pan took rnd => AFr.mkF (PM.putF (Nat.succ d) t d v) df pan took rnd) fr

noncomputable def AFr.put (fr : AFr) (d : Option Tmp) (v : Value) : AFr :=
  Option.rec (motive := fun _ => AFr) fr (fun d => AFr.put1 d v fr) d

/-- What an operation comes to. -/
inductive OR where
  | ok (v : Value) (fr : AFr) (st : St)
  | pan (v : Value) (st : St)
  | no

/-- What a call comes to. -/
inductive FR where
  | ret (v : Value) (st : St) (tk : Bool)
  | pan (v : Value) (st : St) (tk : Bool)
  | no

section lists
variable {α β : Type}

/-- The first n of a list, if there are so many. -/
noncomputable def takeX (n : Nat) : List α → Option (List α) :=
  Nat.rec (motive := fun _ => List α → Option (List α)) (fun _ => some [])
    (fun _ ih l => List.rec (motive := fun _ => Option (List α)) none
      (fun x xs _ => Option.rec (motive := fun _ => Option (List α)) none (fun r => some (x :: r)) (ih xs)) l) n

noncomputable def dropX (n : Nat) : List α → List α :=
  Nat.rec (motive := fun _ => List α → List α) (fun l => l)
    (fun _ ih l => List.rec (motive := fun _ => List α) [] (fun _ xs _ => ih xs) l) n

/-- Put a row of values into a list from a place on. -/
noncomputable def putsK (l : List α) : Nat → List α → (List α → β) → β → β :=
  List.rec (motive := fun _ => Nat → List α → (List α → β) → β → β) (fun _ vs k z => List.rec (motive := fun _ => β) (k []) (fun _ _ _ => z) vs)
    (fun y ys ih n vs k z =>
      Nat.rec (motive := fun _ => β)
        (List.rec (motive := fun _ => β) (k (y :: ys)) (fun v vs _ => ih 0 vs (fun l' => k (v :: l')) z) vs)
        (fun m _ => ih m vs (fun l' => k (y :: l')) z) n) l
end lists

noncomputable def forceN {β : Type} (n : Nat) (k : Nat → β) : β := cond (Nat.beq n n) (k n) (k n)

noncomputable def forceI {β : Type} (n : Int) (k : Int → β) : β :=
  Int.rec (motive := fun _ => β) (fun m => forceN m fun m => k (.ofNat m)) (fun m => forceN m fun m => k (.negSucc m)) n

noncomputable def St.newK {β : Type} (st : St) (o : AObj) (k : Nat → St → β) : β :=
  forceN st.nx fun n => PM.fin (PM.putF (Nat.succ n) st.h n o) fun h => k n ⟨h, Nat.succ n⟩

noncomputable def cellsL (v : Value) : List Value := v.cells.toList

/-- The mark of a value of which nothing is known. -/
def isPoison : Value → Bool
  | .chan _ => true
  | _ => false

/-- A value of one cell. -/
def cellOk : Value → Bool
  | .agg _ | .tuple _ | .chan _ => false
  | _ => true

noncomputable def allOk (vs : List Value) : Bool := List.rec (motive := fun _ => Bool) true (fun v _ r => cond (cellOk v) r false) vs

mutual
def veq : Value → Value → Bool
  | .bool a, .bool b => a == b
  | .int k a, .int k' b => decide (k = k') && a == b
  | .float k a, .float k' b => decide (k = k') && a == b
  | .complex k a c, .complex k' b d => decide (k = k') && a == b && c == d
  | .string a, .string b => a.data.toList == b.data.toList
  | .pointer a, .pointer b => a == b
  | .slice a l c, .slice b l' c' => a == b && l == l' && c == c'
  | .map a, .map b => a == b
  | .chan a, .chan b => a == b
  | .func f x y, .func g u v => decide (f = g) && veqA x u && veqA y v
  | .nilFunc, .nilFunc => true
  | .iface t v, .iface u w => t == u && veq v w
  | .nilIface, .nilIface => true
  | .agg a, .agg b => veqA a b
  | .tuple a, .tuple b => veqA a b
  | _, _ => false
def veqA : Array Value → Array Value → Bool
  | ⟨a⟩, ⟨b⟩ => veqL a b
def veqL : List Value → List Value → Bool
  | [], [] => true
  | a :: as, b :: bs => veq a b && veqL as bs
  | _, _ => false
end
mutual
theorem veq_refl : ∀ v : Value, veq v v = true
  | .bool a => by simp [veq]
  | .int k a => by simp [veq]
  | .float k a => by simp [veq]
  | .complex k a c => by simp [veq]
  | .string a => by simp [veq]
  | .pointer a => by simp [veq]
  | .slice a l c => by simp [veq]
  | .map a => by simp [veq]
  | .chan a => by simp [veq]
  | .func f x y => by simp [veq, veqA_refl x, veqA_refl y]
  | .nilFunc => by simp [veq]
  | .iface t v => by simp [veq, veq_refl v]
  | .nilIface => by simp [veq]
  | .agg a => by simp [veq, veqA_refl a]
  | .tuple a => by simp [veq, veqA_refl a]
theorem veqA_refl : ∀ v : Array Value, veqA v v = true
  | ⟨a⟩ => by simp [veqA, veqL_refl a]
theorem veqL_refl : ∀ v : List Value, veqL v v = true
  | [] => by simp [veqL]
  | a :: as => by simp [veqL, veq_refl a, veqL_refl as]
end
mutual
theorem veq_eq : ∀ v w : Value, veq v w = true → v = w
  | .bool a, w, h => by cases w <;> simp_all [veq]
  | .int k a, w, h => by cases w <;> simp_all [veq]
  | .float k a, w, h => by cases w <;> simp_all [veq]
  | .complex k a c, w, h => by cases w <;> simp_all [veq]
  | .string a, w, h => by
    cases w <;> simp_all [veq]
    rename_i b
    cases a; cases b; simp_all
  | .pointer a, w, h => by cases w <;> simp_all [veq]
  | .slice a l c, w, h => by cases w <;> simp_all [veq]
  | .map a, w, h => by cases w <;> simp_all [veq]
  | .chan a, w, h => by cases w <;> simp_all [veq]
  | .func f x y, w, h => by
    cases w <;> simp [veq] at h
    rename_i g u v
    simp [h.1.1, veqA_eq x u h.1.2, veqA_eq y v h.2]
  | .nilFunc, w, h => by cases w <;> simp_all [veq]
  | .iface t v, w, h => by
    cases w <;> simp [veq] at h
    rename_i u x
    simp [h.1, veq_eq v x h.2]
  | .nilIface, w, h => by cases w <;> simp_all [veq]
  | .agg a, w, h => by
    cases w <;> simp [veq] at h
    rename_i b
    simp [veqA_eq a b h]
  | .tuple a, w, h => by
    cases w <;> simp [veq] at h
    rename_i b
    simp [veqA_eq a b h]
theorem veqA_eq : ∀ v w : Array Value, veqA v w = true → v = w
  | ⟨a⟩, ⟨b⟩, h => by simp [veqA] at h; simp [veqL_eq a b h]
theorem veqL_eq : ∀ v w : List Value, veqL v w = true → v = w
  | [], [], _ => rfl
  | a :: as, b :: bs, h => by simp [veqL] at h; simp [veq_eq a b h.1, veqL_eq as bs h.2]
  | [], _ :: _, h => by simp [veqL] at h
  | _ :: _, [], h => by simp [veqL] at h
end
end Go.AM
namespace Go.AM

noncomputable def modX (n : Int) (M : Nat) : Nat :=
  Int.rec (motive := fun _ => Nat) (fun m => Nat.mod m M) (fun m => Nat.sub (Nat.sub M 1) (Nat.mod m M)) n

noncomputable def wU (M : Nat) (n : Int) : Int := .ofNat (modX n M)
noncomputable def wS (M H : Nat) (n : Int) : Int :=
  forceN (modX n M) fun r => cond (Nat.ble (Nat.succ r) H) (.ofNat r) (.negSucc (Nat.sub (Nat.sub M 1) r))

noncomputable def wrapX (k : IntKind) (n : Int) : Int :=
  IntKind.rec (motive := fun _ => Int → Int) (wS 256 128) (wS 65536 32768) (wS 4294967296 2147483648) (wS 18446744073709551616 9223372036854775808)
    (wU 256) (wU 65536) (wU 4294967296) (wU 18446744073709551616) k n

theorem modX_eq (n : Int) (M : Nat) (h : 0 < M) : (modX n M : Int) = n % M := by
  cases n with
  | ofNat m => rfl
  | negSucc m =>
    show ((M - 1 - m % M : Nat) : Int) = _
    rw [Int.negSucc_emod _ (by omega)]
    have : m % M < M := Nat.mod_lt _ h
    omega

theorem wU_eq (M : Nat) (n : Int) (h : 0 < M) : wU M n = n % M := modX_eq n M h

theorem wS_eq (M H : Nat) (n : Int) (h : 0 < M) : wS M H n = if n % M ≥ H then n % M - M else n % M := by
  have e := modX_eq n M h
  have hlt : modX n M < M := by have := Int.emod_lt_of_pos n (show (0 : Int) < M by omega); omega
  unfold wS forceN
  rw [Nat.beq_refl]
  rw [← e]
  simp only [cond]
  by_cases c : modX n M < H
  · rw [Nat.ble_eq_true_of_le c]
    rw [if_neg (by omega)]
    rfl
  · have : Nat.ble (Nat.succ (modX n M)) H = false := by
      rw [Bool.eq_false_iff]; intro hh; exact c (Nat.le_of_ble_eq_true hh)
    rw [this]
    rw [if_pos (by omega)]
    show Int.negSucc (M - 1 - modX n M) = _
    omega

theorem wrapX_eq (k : IntKind) (n : Int) : wrapX k n = k.wrap n := by
  cases k
  all_goals simp only [wrapX, IntKind.wrap, IntKind.bits, IntKind.signed]
  · rw [wS_eq 256 128 n (by decide)]; simp
  · rw [wS_eq 65536 32768 n (by decide)]; simp
  · rw [wS_eq 4294967296 2147483648 n (by decide)]; simp
  · rw [wS_eq 18446744073709551616 9223372036854775808 n (by decide)]; simp
  · rw [wU_eq 256 n (by decide)]; rfl
  · rw [wU_eq 65536 n (by decide)]; rfl
  · rw [wU_eq 4294967296 n (by decide)]; rfl
  · rw [wU_eq 18446744073709551616 n (by decide)]; rfl

noncomputable def subNX (m n : Nat) : Int := cond (Nat.ble n m) (.ofNat (Nat.sub m n)) (.negSucc (Nat.sub (Nat.sub n m) 1))
theorem subNX_eq (m n : Nat) : subNX m n = (m : Int) - n := by
  unfold subNX
  by_cases h : n ≤ m
  · rw [Nat.ble_eq_true_of_le h]; show ((m - n : Nat) : Int) = _; omega
  · have : Nat.ble n m = false := by rw [Bool.eq_false_iff]; intro hh; exact h (Nat.le_of_ble_eq_true hh)
    rw [this]; show Int.negSucc (n - m - 1) = _; omega

noncomputable def addX (a b : Int) : Int :=
  Int.rec (motive := fun _ => Int)
    (fun m => Int.rec (motive := fun _ => Int) (fun n => .ofNat (Nat.add m n)) (fun n => subNX m (Nat.succ n)) b)
    (fun m => Int.rec (motive := fun _ => Int) (fun n => subNX n (Nat.succ m)) (fun n => .negSucc (Nat.succ (Nat.add m n))) b) a
theorem addX_eq (a b : Int) : addX a b = a + b := by
  cases a with
  | ofNat m =>
    cases b with
    | ofNat n => rfl
    | negSucc n => simp only [addX, subNX_eq]; show (m : Int) - ((n + 1 : Nat) : Int) = (m : Int) + Int.negSucc n; omega
  | negSucc m =>
    cases b with
    | ofNat n => simp only [addX, subNX_eq]; show (n : Int) - ((m + 1 : Nat) : Int) = Int.negSucc m + (n : Int); omega
    | negSucc n => rfl

noncomputable def negX (a : Int) : Int :=
  Int.rec (motive := fun _ => Int) (fun m => subNX 0 m) (fun m => .ofNat (Nat.succ m)) a
theorem negX_eq (a : Int) : negX a = -a := by
  cases a with
  | ofNat m => simp only [negX, subNX_eq]; show ((0 : Nat) : Int) - (m : Int) = -(m : Int); omega
  | negSucc m => rfl

noncomputable def mulX (a b : Int) : Int :=
  Int.rec (motive := fun _ => Int)
    (fun m => Int.rec (motive := fun _ => Int) (fun n => .ofNat (Nat.mul m n)) (fun n => subNX 0 (Nat.mul m (Nat.succ n))) b)
    (fun m => Int.rec (motive := fun _ => Int) (fun n => subNX 0 (Nat.mul (Nat.succ m) n)) (fun n => .ofNat (Nat.mul (Nat.succ m) (Nat.succ n))) b) a
theorem mulX_eq (a b : Int) : mulX a b = a * b := by
  cases a with
  | ofNat m =>
    cases b with
    | ofNat n => rfl
    | negSucc n =>
      simp only [mulX, subNX_eq]
      show (0 : Int) - ((m * (n + 1) : Nat) : Int) = (m : Int) * -((n : Int) + 1)
      rw [Int.mul_neg]; push_cast; omega
  | negSucc m =>
    cases b with
    | ofNat n =>
      simp only [mulX, subNX_eq]
      show (0 : Int) - (((m + 1) * n : Nat) : Int) = -((m : Int) + 1) * n
      rw [Int.neg_mul]; push_cast; omega
    | negSucc n =>
      simp only [mulX]
      show (((m + 1) * (n + 1) : Nat) : Int) = -((m : Int) + 1) * -((n : Int) + 1)
      rw [Int.neg_mul_neg]; push_cast; rfl

noncomputable def leX (a b : Int) : Bool :=
  Int.rec (motive := fun _ => Bool)
    (fun m => Int.rec (motive := fun _ => Bool) (fun n => Nat.ble m n) (fun _ => false) b)
    (fun m => Int.rec (motive := fun _ => Bool) (fun _ => true) (fun n => Nat.ble n m) b) a
theorem leX_eq (a b : Int) : leX a b = decide (a ≤ b) := by
  cases a with
  | ofNat m =>
    cases b with
    | ofNat n => simp only [leX]; rw [Bool.eq_iff_iff]; simp
    | negSucc n => simp only [leX]; rw [Bool.eq_iff_iff]; simp; omega
  | negSucc m =>
    cases b with
    | ofNat n => simp only [leX]; rw [Bool.eq_iff_iff]; simp; omega
    | negSucc n => simp only [leX]; rw [Bool.eq_iff_iff]; simp; omega

noncomputable def eqX (a b : Int) : Bool :=
  Int.rec (motive := fun _ => Bool)
    (fun m => Int.rec (motive := fun _ => Bool) (fun n => Nat.beq m n) (fun _ => false) b)
    (fun m => Int.rec (motive := fun _ => Bool) (fun _ => false) (fun n => Nat.beq n m) b) a
theorem eqX_eq (a b : Int) : eqX a b = (a == b) := by
  cases a with
  | ofNat m =>
    cases b with
    | ofNat n => simp only [eqX]; rw [Bool.eq_iff_iff]; simp; omega
    | negSucc n => simp only [eqX]; rw [Bool.eq_iff_iff]; simp
  | negSucc m =>
    cases b with
    | ofNat n => simp only [eqX]; rw [Bool.eq_iff_iff]; simp
    | negSucc n => simp only [eqX]; rw [Bool.eq_iff_iff]; simp; omega

section
variable {β : Type}
noncomputable def vBool (v : Value) (k : Bool → β) (z : β) : β :=
  @Value.rec (fun _ => β) (fun _ => Unit) (fun _ => Unit) (fun x0 => k x0) (fun _ _ => z) (fun _ _ => z) (fun _ _ _ => z) (fun _ => z) (fun _ => z) (fun _ _ _ => z) (fun _ => z) (fun _ => z) (fun _ _ _ _ _ => z) z (fun _ _ _ => z) z (fun _ _ => z) (fun _ _ => z) (fun _ _ => ()) () (fun _ _ _ _ => ()) v
noncomputable def vInt (v : Value) (k : IntKind → Int → β) (z : β) : β :=
  @Value.rec (fun _ => β) (fun _ => Unit) (fun _ => Unit) (fun _ => z) (fun x0 x1 => k x0 x1) (fun _ _ => z) (fun _ _ _ => z) (fun _ => z) (fun _ => z) (fun _ _ _ => z) (fun _ => z) (fun _ => z) (fun _ _ _ _ _ => z) z (fun _ _ _ => z) z (fun _ _ => z) (fun _ _ => z) (fun _ _ => ()) () (fun _ _ _ _ => ()) v
noncomputable def vString (v : Value) (k : ByteArray → β) (z : β) : β :=
  @Value.rec (fun _ => β) (fun _ => Unit) (fun _ => Unit) (fun _ => z) (fun _ _ => z) (fun _ _ => z) (fun _ _ _ => z) (fun x0 => k x0) (fun _ => z) (fun _ _ _ => z) (fun _ => z) (fun _ => z) (fun _ _ _ _ _ => z) z (fun _ _ _ => z) z (fun _ _ => z) (fun _ _ => z) (fun _ _ => ()) () (fun _ _ _ _ => ()) v
noncomputable def vPointer (v : Value) (k : Option Addr → β) (z : β) : β :=
  @Value.rec (fun _ => β) (fun _ => Unit) (fun _ => Unit) (fun _ => z) (fun _ _ => z) (fun _ _ => z) (fun _ _ _ => z) (fun _ => z) (fun x0 => k x0) (fun _ _ _ => z) (fun _ => z) (fun _ => z) (fun _ _ _ _ _ => z) z (fun _ _ _ => z) z (fun _ _ => z) (fun _ _ => z) (fun _ _ => ()) () (fun _ _ _ _ => ()) v
noncomputable def vSlice (v : Value) (k : Option Addr → Nat → Nat → β) (z : β) : β :=
  @Value.rec (fun _ => β) (fun _ => Unit) (fun _ => Unit) (fun _ => z) (fun _ _ => z) (fun _ _ => z) (fun _ _ _ => z) (fun _ => z) (fun _ => z) (fun x0 x1 x2 => k x0 x1 x2) (fun _ => z) (fun _ => z) (fun _ _ _ _ _ => z) z (fun _ _ _ => z) z (fun _ _ => z) (fun _ _ => z) (fun _ _ => ()) () (fun _ _ _ _ => ()) v
noncomputable def vFunc (v : Value) (k : Fn → Array Value → Array Value → β) (z : β) : β :=
  @Value.rec (fun _ => β) (fun _ => Unit) (fun _ => Unit) (fun _ => z) (fun _ _ => z) (fun _ _ => z) (fun _ _ _ => z) (fun _ => z) (fun _ => z) (fun _ _ _ => z) (fun _ => z) (fun _ => z) (fun x0 x1 x2 _ _ => k x0 x1 x2) z (fun _ _ _ => z) z (fun _ _ => z) (fun _ _ => z) (fun _ _ => ()) () (fun _ _ _ _ => ()) v
noncomputable def vIface (v : Value) (k : TypeId → Value → β) (z : β) : β :=
  @Value.rec (fun _ => β) (fun _ => Unit) (fun _ => Unit) (fun _ => z) (fun _ _ => z) (fun _ _ => z) (fun _ _ _ => z) (fun _ => z) (fun _ => z) (fun _ _ _ => z) (fun _ => z) (fun _ => z) (fun _ _ _ _ _ => z) z (fun x0 x1 _ => k x0 x1) z (fun _ _ => z) (fun _ _ => z) (fun _ _ => ()) () (fun _ _ _ _ => ()) v
noncomputable def vAgg (v : Value) (k : Array Value → β) (z : β) : β :=
  @Value.rec (fun _ => β) (fun _ => Unit) (fun _ => Unit) (fun _ => z) (fun _ _ => z) (fun _ _ => z) (fun _ _ _ => z) (fun _ => z) (fun _ => z) (fun _ _ _ => z) (fun _ => z) (fun _ => z) (fun _ _ _ _ _ => z) z (fun _ _ _ => z) z (fun x0 _ => k x0) (fun _ _ => z) (fun _ _ => ()) () (fun _ _ _ _ => ()) v
noncomputable def vTuple (v : Value) (k : Array Value → β) (z : β) : β :=
  @Value.rec (fun _ => β) (fun _ => Unit) (fun _ => Unit) (fun _ => z) (fun _ _ => z) (fun _ _ => z) (fun _ _ _ => z) (fun _ => z) (fun _ => z) (fun _ _ _ => z) (fun _ => z) (fun _ => z) (fun _ _ _ _ _ => z) z (fun _ _ _ => z) z (fun _ _ => z) (fun x0 _ => k x0) (fun _ _ => ()) () (fun _ _ _ _ => ()) v
noncomputable def vMap (v : Value) (k : Option Nat → β) (z : β) : β :=
  @Value.rec (fun _ => β) (fun _ => Unit) (fun _ => Unit) (fun _ => z) (fun _ _ => z) (fun _ _ => z) (fun _ _ _ => z) (fun _ => z) (fun _ => z) (fun _ _ _ => z) (fun x0 => k x0) (fun _ => z) (fun _ _ _ _ _ => z) z (fun _ _ _ => z) z (fun _ _ => z) (fun _ _ => z) (fun _ _ => ()) () (fun _ _ _ _ => ()) v
end
end Go.AM
namespace Go.AM

/-- A value of which nothing is known. -/
def poison : Value := .chan (some 0)

abbrev CallT := Value → List Value → Option Value → St → FR

section elim
variable {α β : Type}
noncomputable def oK (o : Option α) (k : α → β) (z : β) : β := Option.rec (motive := fun _ => β) z k o
noncomputable def leK (a b : Nat) (x y : β) : β := cond (Nat.ble a b) x y
noncomputable def eqK (a b : Nat) (x y : β) : β := cond (Nat.beq a b) x y

/-- A number that is not below 0. -/
noncomputable def natK (n : Int) (k : Nat → β) (z : β) : β := Int.rec (motive := fun _ => β) k (fun _ => z) n

noncomputable def lenX (l : List α) : Nat := List.rec (motive := fun _ => Nat) 0 (fun _ _ n => Nat.succ n) l

noncomputable def appX (l m : List α) : List α := List.rec (motive := fun _ => List α) m (fun x _ r => x :: r) l

/-- n of a list from a place on, if there are so many. -/
noncomputable def cutK (l : List α) (off n : Nat) (k : List α → β) (z : β) : β := oK (takeX n (dropX off l)) k z

noncomputable def one (l : List α) (k : α → β) (z : β) : β :=
  List.rec (motive := fun _ => β) z (fun x xs _ => List.rec (motive := fun _ => β) (k x) (fun _ _ _ => z) xs) l
end elim

noncomputable def intV {β : Type} (k : IntKind) (n : Int) (c : Value → β) : β := forceI n fun m => c (.int k m)

noncomputable def kindEq (a b : IntKind) : Bool := Nat.beq a.ctorIdx b.ctorIdx

noncomputable def bits2 (f : Nat → Nat → Nat) (g : Int) (k : IntKind) (a b : Int) (c : Value → OR) : OR :=
  natK a (fun m => natK b (fun n => intV k (wrapX k (.ofNat (f (modX (.ofNat m) (2 ^ k.bits)) (modX (.ofNat n) (2 ^ k.bits))))) c) (intV k g c)) (intV k g c)

noncomputable def bi_add (k : IntKind) (a b : Int) (c : Value → OR) : OR := intV k (wrapX k (addX a b)) c
noncomputable def bi_sub (k : IntKind) (a b : Int) (c : Value → OR) : OR := intV k (wrapX k (addX a (negX b))) c
noncomputable def bi_mul (k : IntKind) (a b : Int) (c : Value → OR) : OR := intV k (wrapX k (mulX a b)) c
noncomputable def bi_quo (k : IntKind) (a b : Int) (c : Value → OR) : OR := cond (eqX b 0) .no (natK a (fun m => natK b (fun n => intV k (wrapX k (.ofNat (Nat.div m n))) c) (intV k (k.wrap (a.tdiv b)) c)) (intV k (k.wrap (a.tdiv b)) c))
noncomputable def bi_rem (k : IntKind) (a b : Int) (c : Value → OR) : OR := cond (eqX b 0) .no (natK a (fun m => natK b (fun n => intV k (.ofNat (Nat.mod m n)) c) (intV k (a.tmod b) c)) (intV k (a.tmod b) c))
noncomputable def bi_and (k : IntKind) (a b : Int) (c : Value → OR) : OR := bits2 Nat.land (k.wrap (BitVec.ofInt k.bits a &&& BitVec.ofInt k.bits b).toNat) k a b c
noncomputable def bi_or (k : IntKind) (a b : Int) (c : Value → OR) : OR := bits2 Nat.lor (k.wrap (BitVec.ofInt k.bits a ||| BitVec.ofInt k.bits b).toNat) k a b c
noncomputable def bi_xor (k : IntKind) (a b : Int) (c : Value → OR) : OR := bits2 Nat.xor (k.wrap (BitVec.ofInt k.bits a ^^^ BitVec.ofInt k.bits b).toNat) k a b c
noncomputable def bi_andNot (k : IntKind) (a b : Int) (c : Value → OR) : OR := intV k (k.wrap (BitVec.ofInt k.bits a &&& ~~~(BitVec.ofInt k.bits b)).toNat) c
noncomputable def bi_eql (_k : IntKind) (a b : Int) (c : Value → OR) : OR := c (.bool (eqX a b))
noncomputable def bi_neq (_k : IntKind) (a b : Int) (c : Value → OR) : OR := c (.bool (!eqX a b))
noncomputable def bi_lss (_k : IntKind) (a b : Int) (c : Value → OR) : OR := c (.bool (!leX b a))
noncomputable def bi_leq (_k : IntKind) (a b : Int) (c : Value → OR) : OR := c (.bool (leX a b))
noncomputable def bi_gtr (_k : IntKind) (a b : Int) (c : Value → OR) : OR := c (.bool (!leX a b))
noncomputable def bi_geq (_k : IntKind) (a b : Int) (c : Value → OR) : OR := c (.bool (leX b a))
noncomputable def bi_no (_k : IntKind) (_a _b : Int) (_c : Value → OR) : OR := .no
noncomputable def binInt (op : BinOp) (k : IntKind) (a b : Int) (c : Value → OR) : OR :=
  BinOp.rec (motive := fun _ => IntKind → Int → Int → (Value → OR) → OR) bi_add bi_sub bi_mul bi_quo bi_rem bi_and bi_or bi_xor bi_no bi_no bi_andNot bi_eql bi_neq bi_lss bi_leq bi_gtr bi_geq op k a b c

noncomputable def binStr (op : BinOp) (x y : ByteArray) (c : Value → OR) : OR :=
  match op with
  | .add => leK (Nat.add (lenX x.data.toList) (lenX y.data.toList)) (2 ^ 40) (c (.string ⟨⟨appX x.data.toList y.data.toList⟩⟩)) .no
  | .eql => c (.bool (x.data.toList == y.data.toList))
  | .neq => c (.bool (!(x.data.toList == y.data.toList)))
  | _ => .no

noncomputable def shlX (k : IntKind) (a : Int) (n : Nat) : Int := wrapX k (mulX a (.ofNat (Nat.pow 2 (min n k.bits))))
noncomputable def shrX (k : IntKind) (a : Int) (n : Nat) : Int :=
  natK a (fun m => .ofNat (Nat.div m (Nat.pow 2 (min n k.bits)))) (a.fdiv (2 ^ (min n k.bits)))

noncomputable def ei_shl (_op : BinOp) (k : IntKind) (a : Int) (_yk : IntKind) (b : Int) (c : Value → OR) : OR := natK b (fun n => intV k (shlX k a n) c) .no
noncomputable def ei_shr (_op : BinOp) (k : IntKind) (a : Int) (_yk : IntKind) (b : Int) (c : Value → OR) : OR := natK b (fun n => intV k (shrX k a n) c) .no
noncomputable def ei_bin (op : BinOp) (k : IntKind) (a : Int) (yk : IntKind) (b : Int) (c : Value → OR) : OR := cond (kindEq k yk) (binInt op k a b c) .no
noncomputable def evIntBin (op : BinOp) (k : IntKind) (a : Int) (yk : IntKind) (b : Int) (c : Value → OR) : OR :=
  BinOp.rec (motive := fun _ => BinOp → IntKind → Int → IntKind → Int → (Value → OR) → OR) ei_bin ei_bin ei_bin ei_bin ei_bin ei_bin ei_bin ei_bin ei_shl ei_shr ei_bin ei_bin ei_bin ei_bin ei_bin ei_bin ei_bin op op k a yk b c

noncomputable def evBin (op : BinOp) (x y : Value) (c : Value → OR) : OR :=
  vInt x (fun k a => vInt y (fun yk b => evIntBin op k a yk b c) .no)
  (vString x (fun a => vString y (fun b => binStr op a b c) .no) .no)

/-- A part of the cells of a struct or an array. -/
noncomputable def partL (off sz : Nat) (agg : Bool) (cs : List Value) : Option Value :=
  cutK cs off sz (fun vs => cond agg (some (.agg ⟨vs⟩)) (one vs (fun v => some v) none)) none

def eqNilS : Value → Value → Option Bool
  | .slice none _ _, .slice b _ _ => some b.isNone
  | .slice (some _) _ _, .slice none _ _ => some false
  | _, _ => none
def eqNilM : Value → Value → Option Bool
  | .map none, .map b => some b.isNone
  | .map (some _), .map none => some false
  | _, _ => none
def eqNilF : Value → Value → Option Bool
  | .nilFunc, .nilFunc => some true
  | .nilFunc, .func _ _ _ => some false
  | .func _ _ _, .nilFunc => some false
  | _, _ => none
def eqNilI : Value → Value → Option Bool
  | .nilIface, .nilIface => some true
  | .nilIface, .iface _ _ => some false
  | .iface _ _, .nilIface => some false
  | _, _ => none

def eqPtr : Value → Value → Option Bool
  | .pointer none, .pointer b => some b.isNone
  | .pointer (some _), .pointer none => some false
  | .pointer (some a), .pointer (some b) => if a.block = b.block ∧ a.spot = none ∧ b.spot = none then some (a.off == b.off) else none
  | _, _ => none

def eqPrim : Value → Value → Option Bool
  | .bool a, .bool b => some (a == b)
  | .int k a, .int k' b => if k = k' then some (a == b) else none
  | .string a, .string b => some (a.data.toList == b.data.toList)
  | _, _ => none

/-- Equality by a type's kind; n bounds the depth. -/
noncomputable def eqE : Nat → EqT → Value → Value → Option Bool
  | _, .prim, x, y => eqPrim x y
  | _, .nilS, x, y => eqNilS x y
  | _, .nilM, x, y => eqNilM x y
  | _, .nilF, x, y => eqNilF x y
  | _, .nilI, x, y => eqNilI x y
  | _, .ptr, x, y => eqPtr x y
  | 0, .agg _, _, _ => none
  | n + 1, .agg ps, .agg xs, .agg ys => eqEs n xs.toList ys.toList ps
  | _, .agg _, _, _ => none
  where
  eqEs (n : Nat) (xs ys : List Value) : List (Nat × Nat × Bool × EqT) → Option Bool
    | [] => some true
    | (off, sz, ag, e) :: rest =>
      match partL off sz ag xs, partL off sz ag ys with
      | some x, some y =>
        match eqE n e x y with
        | some true => eqEs n xs ys rest
        | r => r
      | _, _ => none

noncomputable def evUn (op : UnOp) (x : Value) (c : Value → OR) : OR :=
  match op with
  | .neg => vInt x (fun k n => intV k (wrapX k (negX n)) c) .no
  | .xor => vInt x (fun k n => intV k (k.wrap (BitVec.ofInt k.bits (if k.signed then -1 else k.max) ^^^ BitVec.ofInt k.bits n).toNat) c) .no
  | .not => vBool x (fun b => c (.bool (!b))) .no
  | _ => .no

/-- Fill parts into a row of cells. -/
noncomputable def fillK (fr : AFr) (ps : List (Nat × Nat × Operand)) : List Value → (List Value → OR) → OR :=
  List.rec (motive := fun _ => List Value → (List Value → OR) → OR) (fun cs c => c cs)
    (fun p _ ih cs c =>
      (fun v => cond (isPoison v) .no ((fun vs => eqK (lenX vs) p.2.1 (leK (Nat.add p.1 p.2.1) (lenX cs) (putsK cs p.1 vs (fun cs' => ih cs' c) .no) .no) .no) (cellsL v))) (fr.ev p.2.2)) ps

noncomputable def bytesOf (vs : List Value) : Option (List UInt8) :=
  List.rec (motive := fun _ => Option (List UInt8)) (some [])
    (fun v _ r => vInt v (fun k n => cond (kindEq k .u8) (oK r (fun bs => some (UInt8.ofNat n.toNat :: bs)) none) none) none) vs

noncomputable def u8s (bs : List UInt8) : List Value :=
  List.rec (motive := fun _ => List Value) [] (fun b _ r => Value.int .u8 (.ofNat b.toNat) :: r) bs

/-- A bound of a slice expression: what it says, if it is from 0 to y. -/
noncomputable def boundK (fr : AFr) (x : Option Operand) (dflt y : Nat) (k : Nat → OR) : OR :=
  oK x (fun x => vInt (fr.ev x) (fun _ n => natK n (fun n => leK n y (k n) .no) .no) .no) (k dflt)

noncomputable def cellsK {β : Type} (o : Option AObj) (k : List Value → TypeId → Nat × Nat → Bool → β) (z : β) : β :=
  oK o (fun o => AObj.rec (motive := fun _ => β) k (fun _ _ => z) (fun _ _ => z) (fun _ _ _ _ => z) (fun _ _ _ _ _ _ _ _ => z) (fun _ => z) z o) z

/-- The cells behind an address. -/
noncomputable def St.cellsAt {β : Type} (st : St) (a : Addr) (k : List Value → TypeId → Nat × Nat → Bool → β) (z : β) : β :=
  oK a.spot (fun _ => z) (cellsK (st.h.get a.block) k z)

noncomputable def St.load {β : Type} (st : St) (a : Addr) (n : Nat) (k : List Value → β) (z : β) : β :=
  st.cellsAt a (fun cs _ _ _ => cutK cs a.off n k z) z

noncomputable def St.setO {β : Type} (st : St) (id : Nat) (o : AObj) (k : St → β) : β :=
  PM.fin (PM.putF (Nat.succ id) st.h id o) fun h => k ⟨h, st.nx⟩

noncomputable def St.store {β : Type} (st : St) (a : Addr) (vs : List Value) (k : St → β) (z : β) : β :=
  st.cellsAt a (fun cs elem fz gr => leK fz.2 fz.1 (putsK cs a.off vs (fun cs' => st.setO a.block (.cells cs' elem fz gr) k) z) z) z

noncomputable def evAppend (fr : AFr) (st : St) (elem : TypeId) (sz bytes : Nat) (base : Option Addr) (len cap : Nat) (n : Nat) (new : List Value) : OR :=
  (fun need =>
    leK (Nat.mul (Nat.add (Nat.mul 2 need) 768) (Nat.succ bytes)) (2 ^ 40)
      (oK base
        (fun a => st.cellsAt a (fun cs el fz gr =>
          leK fz.2 fz.1 (leK len cap (leK (Nat.add a.off (Nat.mul cap sz)) (lenX cs) (eqK el elem
            (eqK n 0 (.ok (.slice (some a) len cap) fr st)
              (cond gr
                (cutK cs a.off (Nat.mul len sz) (fun old => st.setO a.block .dead fun st => st.newK (.cells (appX old new) elem (0, 0) true) fun id st => .ok (.slice (some ⟨id, 0, none⟩) need need) fr st) .no)
                (leK need cap
                  (putsK cs (Nat.add a.off (Nat.mul len sz)) new (fun cs' => st.setO a.block (.cells cs' el fz false) fun st => .ok (.slice (some a) need cap) fr st) .no)
                  (cutK cs a.off (Nat.mul len sz) (fun old => st.newK (.cells (appX old new) elem (0, 0) true) fun id st => .ok (.slice (some ⟨id, 0, none⟩) need need) fr st) .no))))
            .no) .no) .no) .no) .no)
        (eqK len 0 (eqK cap 0
          (eqK n 0 (.ok (.slice none 0 0) fr st)
            (st.newK (.cells new elem (0, 0) true) fun id st => .ok (.slice (some ⟨id, 0, none⟩) need need) fr st))
          .no) .no))
      .no) (Nat.add len n)

noncomputable def maxInts (k : IntKind) (fr : AFr) (xs : List Operand) : Int → Option Int :=
  List.rec (motive := fun _ => Int → Option Int) (fun m => some m)
    (fun x _ ih m => vInt (fr.ev x) (fun k' y => cond (kindEq k k') (ih (cond (leX y m) m y)) none) none) xs

noncomputable def minInts (k : IntKind) (fr : AFr) (xs : List Operand) : Int → Option Int :=
  List.rec (motive := fun _ => Int → Option Int) (fun m => some m)
    (fun x _ ih m => vInt (fr.ev x) (fun k' y => cond (kindEq k k') (ih (cond (leX m y) m y)) none) none) xs

noncomputable def evs (fr : AFr) (xs : List Operand) : List Value :=
  List.rec (motive := fun _ => List Value) [] (fun x _ r => fr.ev x :: r) xs

/-- n copies of a row. -/
noncomputable def copies (z : List Value) (n : Nat) : List Value :=
  Nat.rec (motive := fun _ => List Value) [] (fun _ r => appX z r) n

/-! Maps. -/
noncomputable def inKind (k : IntKind) (n : Int) : Bool := leX k.min n && leX n k.max
noncomputable def KS.ok (ks : KS) (v : Value) : Bool :=
  match ks with
  | .int k => vInt v (fun k' n => kindEq k k' && inKind k n) false
  | .str => vString v (fun s => Nat.ble (lenX s.data.toList) (2 ^ 40)) false
  | .arr k n => vAgg v (fun xs => Nat.beq (lenX xs.toList) n && xs.toList.all (fun x => vInt x (fun k' m => kindEq k k' && inKind k m) false)) false

noncomputable def mapK {β : Type} (o : Option AObj) (k : List MapEntry → Nat → β) (z : β) : β :=
  oK o (fun o => AObj.rec (motive := fun _ => β) (fun _ _ _ _ => z) k (fun _ _ => z) (fun _ _ _ _ => z) (fun _ _ _ _ _ _ _ _ => z) (fun _ => z) z o) z
noncomputable def iterK {β : Type} (o : Option AObj) (k : Option Nat → Nat → List Nat → Nat → β) (z : β) : β :=
  oK o (fun o => AObj.rec (motive := fun _ => β) (fun _ _ _ _ => z) (fun _ _ => z) (fun _ _ => z) k (fun _ _ _ _ _ _ _ _ => z) (fun _ => z) z o) z

noncomputable def keysB (ks : KS) (es : List MapEntry) : Bool := es.all (fun e => ks.ok e.key)
def mapFind (k : Value) (es : List MapEntry) : Option MapEntry := es.find? (fun e => veq k e.key)
def mapPut (k v : Value) (es : List MapEntry) : List MapEntry := es.map (fun e => cond (veq k e.key) ⟨e.key, v, e.born⟩ e)
def mapDel (k : Value) (es : List MapEntry) : List MapEntry := es.filter (fun e => !veq k e.key)

def eqIntV : Value → Value → Option Bool
  | .int k a, .int k' b => if k = k' then some (a == b) else none
  | _, _ => none
noncomputable def eqFlat : List Value → List Value → Option Bool
  | [], [] => some true
  | x :: xs, y :: ys => oK (eqIntV x y) (fun b => cond b (eqFlat xs ys) (oK (eqFlat xs ys) (fun _ => some false) none)) none
  | _, _ => none

/-- Is n at most a number of which so much is known? -/
def cmpU (n : Nat) : Value → Option Bool
  | .chan (some c) => if c % 2 = 0 then (if 2 ≤ c ∧ n ≤ (c - 2) / 2 then some true else none) else (if 3 ≤ c ∧ (c - 3) / 2 ≤ n then some false else none)
  | _ => none
def idxU (n : Nat) (c : Value) : Bool := match cmpU n c with | some true => true | _ => false
/-- Where a row of bytes stands in another. -/
def preX : List UInt8 → List UInt8 → Bool
  | [], _ => true
  | a :: as, b :: bs => a == b && preX as bs
  | _ :: _, [] => false
def subX (b : List UInt8) : List UInt8 → Option Nat
  | [] => if b.isEmpty then some 0 else none
  | x :: xs => if preX b (x :: xs) then some 0 else (subX b xs).map (· + 1)
noncomputable def lastX (l : List Nat) : Option Nat := l.getLast?

noncomputable def evY (fr : AFr) (st : St) (y : YOp) : OR :=
  match y with
  | .look ks z ok m k => (fun key => cond (ks.ok key)
      (vMap (fr.ev m) (fun r => oK r (fun id => mapK (st.h.get id) (fun es _ => cond (keysB ks es) (oK (mapFind key es) (fun e => .ok (cond ok (.tuple #[e.val, .bool true]) e.val) fr st) (.ok (cond ok (.tuple #[z, .bool false]) z) fr st)) .no) .no)
        (.ok (cond ok (.tuple #[z, .bool false]) z) fr st)) .no) .no) (fr.ev k)
  | .upd ks m k v => (fun key => cond (ks.ok key)
      (vMap (fr.ev m) (fun r => oK r (fun id => mapK (st.h.get id) (fun es clock => cond (keysB ks es)
        (oK (mapFind key es) (fun _ => st.setO id (.map (mapPut key (fr.ev v) es) clock) fun st => .ok undef fr st)
          (st.setO id (.map (es ++ [⟨key, fr.ev v, clock⟩]) (Nat.succ clock)) fun st => .ok undef fr st)) .no) .no) .no) .no) .no) (fr.ev k)
  | .del ks m k => (fun key => cond (ks.ok key)
      (vMap (fr.ev m) (fun r => oK r (fun id => mapK (st.h.get id) (fun es clock => cond (keysB ks es) (st.setO id (.map (mapDel key es) clock) fun st => .ok undef fr st) .no) .no) .no) .no) .no) (fr.ev k)
  | .mlen m => vMap (fr.ev m) (fun r => oK r (fun id => mapK (st.h.get id) (fun es _ => forceN (lenX es) fun n => .ok (.int .i64 (.ofNat n)) fr st) .no) (.ok (.int .i64 0) fr st)) .no
  | .mrng m => vMap (fr.ev m) (fun r => oK r (fun id => mapK (st.h.get id) (fun _ clock => st.newK (.miter (some id) clock [] clock) fun id st => .ok (.pointer (some ⟨id, 0, none⟩)) fr st) .no)
      (st.newK (.miter none 0 [] 0) fun id st => .ok (.pointer (some ⟨id, 0, none⟩)) fr st)) .no
  | .ment it => vPointer (fr.ev it) (fun p => oK p (fun a => oK a.spot (fun _ => .no) (eqK a.off 0 (iterK (st.h.get a.block) (fun m _ seen stepped =>
      oK m (fun id => oK (lastX seen) (fun s => mapK (st.h.get id) (fun es clock => eqK clock stepped (leK (Nat.succ s) clock (oK (es.find? (fun e => Nat.beq e.born s)) (fun e => .ok (.tuple #[e.key, e.val]) fr st) .no) .no) .no) .no) .no) .no) .no) .no)) .no) .no
  | .cnt s c => vString (fr.ev s) (fun s => vInt (fr.ev c) (fun k c => cond (kindEq k .u8) (natK c (fun c => .ok (.int .i64 (.ofNat (s.data.toList.countP (fun b => b == UInt8.ofNat c)))) fr st) .no) .no) .no) .no
  | .eqa neg n x y => vAgg (fr.ev x) (fun xs => vAgg (fr.ev y) (fun ys => eqK (lenX xs.toList) n (eqK (lenX ys.toList) n (oK (eqFlat xs.toList ys.toList) (fun b => .ok (.bool (cond neg (!b) b)) fr st) .no) .no) .no) .no) .no
  | .nxt _ => .no
  | .cmpu gt x y => vInt (fr.ev x) (fun k n => cond (kindEq k .i64) (natK n (fun n => oK (cmpU n (fr.ev y)) (fun b => .ok (.bool (cond gt (!b) b)) fr st) .no) .no) .no) .no
  | .idxs g s b => vString (fr.ev s) (fun s => vString (fr.ev b) (fun b => cellsK (st.h.get g) (fun cs _ _ gr => cond gr .no (one cs (fun c => cond (idxU (lenX b.data.toList) c) (leK 2 (lenX b.data.toList) (leK (lenX s.data.toList) 1000000
      (.ok (.int .i64 (oK (subX b.data.toList s.data.toList) (fun i => .ofNat i) (.negSucc 0))) fr st) .no) .no) .no) .no)) .no) .no) .no

end Go.AM
namespace Go.AM

noncomputable def idxX (c : UInt8) (l : List UInt8) : Option Nat :=
  List.rec (motive := fun _ => Option Nat) none (fun b _ r => cond (Nat.beq b.toNat c.toNat) (some 0) (oK r (fun i => some (Nat.succ i)) none)) l

noncomputable def op_mv (x : Operand) (_call : CallT) (fr : AFr) (st : St) : OR :=
  .ok (fr.ev x) fr st
noncomputable def op_pick (c : Operand) (a : Operand) (b : Operand) (_call : CallT) (fr : AFr) (st : St) : OR :=
  vBool (fr.ev c) (fun t => .ok (cond t (fr.ev a) (fr.ev b)) fr st) .no
noncomputable def op_alloc (z : List Value) (elem : TypeId) (_call : CallT) (fr : AFr) (st : St) : OR :=
  st.newK (.cells z elem (0, 0) false) fun id st => .ok (.pointer (some ⟨id, 0, none⟩)) fr st
noncomputable def op_box (elem : TypeId) (x : Operand) (_call : CallT) (fr : AFr) (st : St) : OR :=
  (fun v => cond (isPoison v) .no (st.newK (.cells (cellsL v) elem (0, 0) false) fun id st => .ok (.pointer (some ⟨id, 0, none⟩)) fr st)) (fr.ev x)
noncomputable def op_build (z : List Value) (ps : List (Nat × Nat × Operand)) (_call : CallT) (fr : AFr) (st : St) : OR :=
  fillK fr ps z fun cs => .ok (.agg ⟨cs⟩) fr st
noncomputable def op_bslice (elem : TypeId) (len : Nat) (z : List Value) (ps : List (Nat × Nat × Operand)) (_call : CallT) (fr : AFr) (st : St) : OR :=
  fillK fr ps z fun cs => st.newK (.cells cs elem (0, 0) false) fun id st => .ok (.slice (some ⟨id, 0, none⟩) len len) fr st
noncomputable def op_load1 (a : Operand) (_call : CallT) (fr : AFr) (st : St) : OR :=
  vPointer (fr.ev a) (fun p => oK p (fun a => st.load a 1 (fun vs => one vs (fun v => .ok v fr st) .no) .no) .no) .no
noncomputable def op_loadn (n : Nat) (a : Operand) (_call : CallT) (fr : AFr) (st : St) : OR :=
  vPointer (fr.ev a) (fun p => oK p (fun a => st.load a n (fun vs => .ok (.agg ⟨vs⟩) fr st) .no) .no) .no
noncomputable def op_store (n : Nat) (a : Operand) (x : Operand) (_call : CallT) (fr : AFr) (st : St) : OR :=
  vPointer (fr.ev a) (fun p => oK p (fun a => (fun vs => eqK (lenX vs) n (cond (allOk vs) (st.store a vs (fun st => .ok undef fr st) .no) .no) .no) (cellsL (fr.ev x))) .no) .no
noncomputable def op_nilck (x : Operand) (_call : CallT) (fr : AFr) (st : St) : OR :=
  vPointer (fr.ev x) (fun p => oK p (fun a => .ok (.pointer (some a)) fr st) .no) (vFunc (fr.ev x) (fun f a b => match f with | .func g => .ok (.func (.func g) a b) fr st | _ => .no) .no)
noncomputable def op_bin (op : BinOp) (x : Operand) (y : Operand) (_call : CallT) (fr : AFr) (st : St) : OR :=
  evBin op (fr.ev x) (fr.ev y) fun v => .ok v fr st
noncomputable def op_eqv (neg : Bool) (e : EqT) (x : Operand) (y : Operand) (_call : CallT) (fr : AFr) (st : St) : OR :=
  oK (eqE 8 e (fr.ev x) (fr.ev y)) (fun b => .ok (.bool (cond neg (!b) b)) fr st) .no
noncomputable def op_un (op : UnOp) (x : Operand) (_call : CallT) (fr : AFr) (st : St) : OR :=
  evUn op (fr.ev x) fun v => .ok v fr st
noncomputable def op_cint (k : IntKind) (x : Operand) (_call : CallT) (fr : AFr) (st : St) : OR :=
  vInt (fr.ev x) (fun _ n => intV k (wrapX k n) fun v => .ok v fr st) .no
noncomputable def op_cid (x : Operand) (_call : CallT) (fr : AFr) (st : St) : OR :=
  vString (fr.ev x) (fun s => .ok (.string s) fr st) .no
noncomputable def op_cb2s (x : Operand) (_call : CallT) (fr : AFr) (st : St) : OR :=
  vSlice (fr.ev x) (fun a n _ => oK a (fun a => st.load a n (fun vs => oK (bytesOf vs) (fun bs => .ok (.string ⟨⟨bs⟩⟩) fr st) .no) .no) (.ok (.string ⟨⟨[]⟩⟩) fr st)) .no
noncomputable def op_cs2b (elem : TypeId) (x : Operand) (_call : CallT) (fr : AFr) (st : St) : OR :=
  vString (fr.ev x) (fun s => (fun n => leK n (2 ^ 40) (st.newK (.cells (u8s s.data.toList) elem (0, 0) true) fun id st => .ok (.slice (some ⟨id, 0, none⟩) n n) fr st) .no) (lenX s.data.toList)) .no
noncomputable def op_mkif (t : TypeId) (x : Operand) (_call : CallT) (fr : AFr) (st : St) : OR :=
  .ok (.iface t (fr.ev x)) fr st
noncomputable def op_mkfn (fn : Fn) (first : List Operand) (capt : List Operand) (_call : CallT) (fr : AFr) (st : St) : OR :=
  .ok (.func fn ⟨evs fr first⟩ ⟨evs fr capt⟩) fr st
noncomputable def op_mkmap  (_call : CallT) (fr : AFr) (st : St) : OR :=
  st.newK (.map [] 0) fun id st => .ok (.map (some id)) fr st
noncomputable def op_mksl (elem : TypeId) (bytes : Nat) (z : List Value) (len : Operand) (cap : Operand) (_call : CallT) (fr : AFr) (st : St) : OR :=
  vInt (fr.ev len) (fun _ l => vInt (fr.ev cap) (fun _ c => natK l (fun l => natK c (fun c => leK l c (leK (Nat.mul c (Nat.succ bytes)) (2 ^ 40) (st.newK (.cells (copies z c) elem (0, 0) false) fun id st => .ok (.slice (some ⟨id, 0, none⟩) l c) fr st) .no) .no) .no) .no) .no) .no
noncomputable def op_slstr (x : Operand) (lo : Option Operand) (hi : Option Operand) (_call : CallT) (fr : AFr) (st : St) : OR :=
  vString (fr.ev x) (fun s => (fun n => boundK fr hi n n fun h => boundK fr lo 0 h fun l => cutK s.data.toList l (Nat.sub h l) (fun bs => .ok (.string ⟨⟨bs⟩⟩) fr st) .no) (lenX s.data.toList)) .no
noncomputable def op_slarr (n : Nat) (sz : Nat) (x : Operand) (lo : Option Operand) (hi : Option Operand) (mx : Option Operand) (_call : CallT) (fr : AFr) (st : St) : OR :=
  vPointer (fr.ev x) (fun p => oK p (fun a => st.cellsAt a (fun _ _ _ gr => cond gr .no (boundK fr mx n n fun m => boundK fr hi n m fun h => boundK fr lo 0 h fun l => .ok (.slice (some (eqK m l a (a.add (Nat.mul l sz)))) (Nat.sub h l) (Nat.sub m l)) fr st)) .no) .no) .no
noncomputable def op_slsl (sz : Nat) (x : Operand) (lo : Option Operand) (hi : Option Operand) (mx : Option Operand) (_call : CallT) (fr : AFr) (st : St) : OR :=
  vSlice (fr.ev x) (fun b len cap => oK b (fun a => st.cellsAt a (fun _ _ _ gr => cond gr (oK mx (fun _ => .no) (leK len cap (boundK fr hi len len fun h => boundK fr lo 0 h fun l => .ok (.slice (some (a.add (Nat.mul l sz))) (Nat.sub h l) (Nat.sub cap l)) fr st) .no)) (boundK fr mx cap cap fun m => boundK fr hi len m fun h => boundK fr lo 0 h fun l => .ok (.slice (some (eqK m l a (a.add (Nat.mul l sz)))) (Nat.sub h l) (Nat.sub m l)) fr st)) .no) (boundK fr mx cap cap fun m => boundK fr hi len m fun h => boundK fr lo 0 h fun l => .ok (.slice none (Nat.sub h l) (Nat.sub m l)) fr st)) .no
noncomputable def op_faddr (off : Nat) (x : Operand) (_call : CallT) (fr : AFr) (st : St) : OR :=
  vPointer (fr.ev x) (fun p => oK p (fun a => .ok (.pointer (some (a.add off))) fr st) .no) .no
noncomputable def op_fld (off : Nat) (sz : Nat) (agg : Bool) (x : Operand) (_call : CallT) (fr : AFr) (st : St) : OR :=
  vAgg (fr.ev x) (fun cs => oK (partL off sz agg cs.toList) (fun v => .ok v fr st) .no) .no
noncomputable def op_iaA (n : Nat) (sz : Nat) (x : Operand) (i : Operand) (_call : CallT) (fr : AFr) (st : St) : OR :=
  vPointer (fr.ev x) (fun p => oK p (fun a => vInt (fr.ev i) (fun _ j => natK j (fun j => leK (Nat.succ j) n (.ok (.pointer (some (a.add (Nat.mul j sz)))) fr st) .no) .no) .no) .no) .no
noncomputable def op_iaS (sz : Nat) (x : Operand) (i : Operand) (_call : CallT) (fr : AFr) (st : St) : OR :=
  vSlice (fr.ev x) (fun b len _ => oK b (fun a => vInt (fr.ev i) (fun _ j => natK j (fun j => leK (Nat.succ j) len (.ok (.pointer (some (a.add (Nat.mul j sz)))) fr st) .no) .no) .no) .no) .no
noncomputable def op_ixs (x : Operand) (i : Operand) (_call : CallT) (fr : AFr) (st : St) : OR :=
  vString (fr.ev x) (fun s => vInt (fr.ev i) (fun _ j => natK j (fun j => cutK s.data.toList j 1 (fun bs => one bs (fun b => .ok (.int .u8 (.ofNat b.toNat)) fr st) .no) .no) .no) .no) .no
noncomputable def op_ixa (n : Nat) (sz : Nat) (agg : Bool) (x : Operand) (i : Operand) (_call : CallT) (fr : AFr) (st : St) : OR :=
  vAgg (fr.ev x) (fun cs => vInt (fr.ev i) (fun _ j => natK j (fun j => leK (Nat.succ j) n (oK (partL (Nat.mul j sz) sz agg cs.toList) (fun v => .ok v fr st) .no) .no) .no) .no) .no
noncomputable def op_tas (t : TypeId) (zero : Value) (ok : Bool) (x : Operand) (_call : CallT) (fr : AFr) (st : St) : OR :=
  vIface (fr.ev x) (fun u v => eqK u t (.ok (cond ok (.tuple #[v, .bool true]) v) fr st) (cond ok (.ok (.tuple #[zero, .bool false]) fr st) .no)) (match fr.ev x with | .nilIface => cond ok (.ok (.tuple #[zero, .bool false]) fr st) .no | _ => .no)
noncomputable def op_extr (x : Operand) (i : Nat) (_call : CallT) (fr : AFr) (st : St) : OR :=
  vTuple (fr.ev x) (fun vs => cutK vs.toList i 1 (fun l => one l (fun v => .ok v fr st) .no) .no) .no
noncomputable def op_call (f : Operand) (args : List Operand) (call : CallT) (fr : AFr) (st : St) : OR :=
  FR.rec (motive := fun _ => OR) (fun v st _ => .ok v fr st) (fun v st _ => .pan v st) .no (call (fr.ev f) (evs fr args) none st)
noncomputable def op_lenS (x : Operand) (_call : CallT) (fr : AFr) (st : St) : OR :=
  vSlice (fr.ev x) (fun _ n _ => .ok (.int .i64 (.ofNat n)) fr st) .no
noncomputable def op_lenT (x : Operand) (_call : CallT) (fr : AFr) (st : St) : OR :=
  vString (fr.ev x) (fun s => forceN (lenX s.data.toList) fun n => .ok (.int .i64 (.ofNat n)) fr st) .no
noncomputable def op_lenC (n : Nat) (_call : CallT) (fr : AFr) (st : St) : OR :=
  .ok (.int .i64 (.ofNat n)) fr st
noncomputable def op_lenM (_x : Operand) (_call : CallT) (_fr : AFr) (_st : St) : OR :=
  .no
noncomputable def op_app (elem : TypeId) (sz : Nat) (bytes : Nat) (s : Operand) (x : Operand) (_call : CallT) (fr : AFr) (st : St) : OR :=
  vSlice (fr.ev s) (fun base len cap => vSlice (fr.ev x) (fun b n _ => oK b (fun b => st.load b (Nat.mul n sz) (fun new => cond (allOk new) (evAppend fr st elem sz bytes base len cap n new) .no) .no) (eqK n 0 (evAppend fr st elem sz bytes base len cap 0 []) .no)) (vString (fr.ev x) (fun s => eqK sz 1 (evAppend fr st elem sz bytes base len cap (lenX s.data.toList) (u8s s.data.toList)) .no) .no)) .no
noncomputable def op_mx (x : Operand) (xs : List Operand) (_call : CallT) (fr : AFr) (st : St) : OR :=
  vInt (fr.ev x) (fun k n => oK (maxInts k fr xs n) (fun m => intV k m fun v => .ok v fr st) .no) .no
noncomputable def op_mn (x : Operand) (xs : List Operand) (_call : CallT) (fr : AFr) (st : St) : OR :=
  vInt (fr.ev x) (fun k n => oK (minInts k fr xs n) (fun m => intV k m fun v => .ok v fr st) .no) .no
noncomputable def op_cpy (sz : Nat) (d : Operand) (s : Operand) (_call : CallT) (fr : AFr) (st : St) : OR :=
  vSlice (fr.ev d) (fun a dl _ => vSlice (fr.ev s) (fun b sl _ => oK a (fun a => oK b (fun b => (fun n => st.load b (Nat.mul n sz) (fun vs => cond (allOk vs) (st.store a vs (fun st => .ok (.int .i64 (.ofNat n)) fr st) .no) .no) .no) (leK sl dl sl dl)) (eqK sl 0 (.ok (.int .i64 0) fr st) .no)) (eqK dl 0 (.ok (.int .i64 0) fr st) .no)) .no) .no
noncomputable def op_recov  (_call : CallT) (fr : AFr) (st : St) : OR :=
  oK fr.rnd (fun _ => .no) (oK fr.pan (fun v => cond fr.took (.ok .nilIface fr st) (.ok v ⟨fr.t, fr.df, fr.pan, true, fr.rnd⟩ st)) (.ok .nilIface fr st))
noncomputable def op_dfr (f : Operand) (args : List Operand) (_call : CallT) (fr : AFr) (st : St) : OR :=
  oK fr.rnd (fun _ => .no) (vFunc (fr.ev f) (fun fn first capt => match fn with | .func g => .ok undef ⟨fr.t, { target := .fn (.func g) capt, args := ⟨appX first.toList (evs fr args)⟩ } :: fr.df, fr.pan, fr.took, fr.rnd⟩ st | _ => .no) .no)
noncomputable def op_pnc (x : Operand) (_call : CallT) (fr : AFr) (st : St) : OR :=
  vIface (fr.ev x) (fun t v => .pan (.iface t v) st) .no
noncomputable def op_cpu (x : Operand) (_call : CallT) (fr : AFr) (st : St) : OR :=
  vPointer (fr.ev x) (fun p => oK p (fun a => st.cellsAt a (fun cs _ _ _ => leK (Nat.succ a.off) (lenX cs) (.ok (.pointer (some a)) fr st) .no) .no) .no) .no
noncomputable def op_cup (elem : Nat) (n : Nat) (x : Operand) (_call : CallT) (fr : AFr) (st : St) : OR :=
  vPointer (fr.ev x) (fun p => oK p (fun a => st.cellsAt a (fun cs el _ gr => cond gr .no (eqK a.off 0 (eqK el elem (eqK (lenX cs) n (.ok (.pointer (some a)) fr st) .no) .no) .no)) .no) .no) .no
noncomputable def op_sdata (x : Operand) (_call : CallT) (fr : AFr) (st : St) : OR :=
  vSlice (fr.ev x) (fun b _ c => oK b (fun a => eqK c 0 .no (.ok (.pointer (some a)) fr st)) (.ok (.pointer none) fr st)) .no
noncomputable def op_ustr (elem : TypeId) (x : Operand) (n : Operand) (_call : CallT) (fr : AFr) (st : St) : OR :=
  vPointer (fr.ev x) (fun p => vInt (fr.ev n) (fun _ n => natK n (fun n => eqK n 0 (.ok (.string ⟨⟨[]⟩⟩) fr st) (oK p (fun a => leK n (2 ^ 40) (st.cellsAt a (fun cs el fz gr => leK fz.2 fz.1 (eqK el elem (cutK cs a.off n (fun vs => oK (bytesOf vs) (fun bs => st.setO a.block (.cells cs el (a.off, Nat.add a.off n) gr) fun st => .ok (.string ⟨⟨bs⟩⟩) fr st) .no) .no) .no) .no) .no) .no) .no)) .no) .no) .no
noncomputable def op_ibs (s : Operand) (c : Operand) (_call : CallT) (fr : AFr) (st : St) : OR :=
  vString (fr.ev s) (fun s => vInt (fr.ev c) (fun k c => cond (kindEq k .u8) (natK c (fun c => .ok (.int .i64 (oK (idxX (UInt8.ofNat c) s.data.toList) (fun i => .ofNat i) (.negSucc 0))) fr st) .no) .no) .no) .no
noncomputable def op_noesc (x : Operand) (_call : CallT) (fr : AFr) (st : St) : OR :=
  .ok (fr.ev x) fr st
noncomputable def op_ext (y : YOp) (_call : CallT) (fr : AFr) (st : St) : OR :=
  evY fr st y
noncomputable def op_refuse  (_call : CallT) (_fr : AFr) (_st : St) : OR :=
  .no

noncomputable def evOp (call : CallT) (o : XOp) (fr : AFr) (st : St) : OR :=
  XOp.rec (motive := fun _ => CallT → AFr → St → OR) op_mv op_pick op_alloc op_box op_build op_bslice op_load1 op_loadn op_store op_nilck op_bin op_eqv op_un op_cint op_cid op_cb2s op_cs2b op_mkif op_mkfn op_mkmap op_mksl op_slstr op_slarr op_slsl op_faddr op_fld op_iaA op_iaS op_ixs op_ixa op_tas op_extr op_call op_lenS op_lenT op_lenC op_lenM op_app op_mx op_mn op_cpy op_recov op_dfr op_pnc op_cpu op_cup op_sdata op_ustr op_ibs op_noesc op_ext op_refuse o call fr st

/-- What code comes to. -/
inductive CR where
  | out (e : XExit) (fr : AFr) (st : St)
  | no

/-- Is an operation wanted? z: it can't be told. -/
noncomputable def wantK {β : Type} (fr : AFr) (g : Option (Tmp × Bool)) (yes no_ z : β) : β :=
  oK g (fun p => vBool (fr.tmp p.1) (fun b => cond b (cond p.2 yes no_) (cond p.2 no_ yes)) (vTuple (fr.tmp p.1) (fun _ => no_) z)) yes

/-- Operations that may end in a panic. -/
def XOp.canPan : XOp → Bool
  | .call _ _ | .pnc _ => true
  | _ => false

noncomputable def evOps (call : CallT) (ops : List XOper) : AFr → St → CR :=
  List.rec (motive := fun _ => AFr → St → CR) (fun fr st => .out .norm fr st)
    (fun x _ ih fr st =>
      wantK fr x.g
        (OR.rec (motive := fun _ => CR) (fun v fr st => ih (fr.put x.d v) st) (fun v st => cond x.o.canPan (.out (.pan v) fr st) .no) .no (evOp call x.o fr st))
        (ih (fr.put x.d undef) st) .no) ops

/-- Does a read give the same at other heaps? -/
noncomputable def sameAt (call : CallT) (o : XOp) (fr : AFr) (v : Value) (nx : Nat) (n : Nat) : List (PM AObj) → Bool :=
  Nat.rec (motive := fun _ => List (PM AObj) → Bool) (fun _ => true)
    (fun _ ih hs => List.rec (motive := fun _ => Bool) false
      (fun h hs _ => OR.rec (motive := fun _ => Bool) (fun v' _ _ => cond (veq v v') (ih hs) false) (fun _ _ => false) false (evOp call o fr ⟨h, nx⟩)) hs) n

noncomputable def onlyK {β : Type} (t : PM Value) (ts : List Tmp) (k : PM Value → β) : β :=
  List.rec (motive := fun _ => PM Value → β) (fun m => k m) (fun x _ ih m => oK (t.get x) (fun v => PM.setK (Nat.succ x) m x v ih) (ih m)) ts .nil

noncomputable def poisoned (fr : AFr) (ts : List Tmp) : AFr :=
  List.rec (motive := fun _ => AFr → AFr) (fun fr => fr) (fun t _ ih fr => ih (fr.put (some t) poison)) ts fr

/-- A region that draws its order: one order, and what others must meet. -/
noncomputable def evD (call : CallT) (ops : List (XOper × Cls)) : List (PM AObj) → AFr → St → CR :=
  List.rec (motive := fun _ => List (PM AObj) → AFr → St → CR) (fun _ fr st => .out .norm fr st)
    (fun x _ ih snaps fr st =>
      Cls.rec (motive := fun _ => CR)
        (wantK fr x.1.g
          (OR.rec (motive := fun _ => CR) (fun v fr' st' => leK st.nx st'.nx (ih (st'.h :: snaps) (AFr.put ⟨fr.t, fr'.df, fr'.pan, fr'.took, fr'.rnd⟩ x.1.d v) st') .no) (fun _ _ => .no) .no (evOp call x.1.o fr st))
          (ih (st.h :: snaps) (fr.put x.1.d undef) st) .no)
        (fun ts => onlyK fr.t ts fun t => wantK ⟨t, [], none, false, none⟩ x.1.g
          (OR.rec (motive := fun _ => CR) (fun v _ st' => ih snaps (fr.put x.1.d v) st') (fun _ _ => .no) .no (evOp call x.1.o ⟨t, [], none, false, none⟩ st))
          (ih snaps (fr.put x.1.d undef) st) .no)
        (fun back ts => onlyK fr.t ts fun t => wantK ⟨t, [], none, false, none⟩ x.1.g
          (OR.rec (motive := fun _ => CR) (fun v _ _ => cond (sameAt call x.1.o ⟨t, [], none, false, none⟩ v st.nx (Nat.succ back) snaps) (ih snaps (fr.put x.1.d v) st) .no) (fun _ _ => .no) .no (evOp call x.1.o ⟨t, [], none, false, none⟩ st))
          (ih snaps (fr.put x.1.d undef) st) .no)
        x.2) ops

noncomputable def loopK {β : Type} (o : Option AObj) (k : LoopState → Option XExit → FuncId → PM Value → List Tmp → XCode → XCode → Nat → β) (z : β) : β :=
  oK o (fun o => AObj.rec (motive := fun _ => β) (fun _ _ _ _ => z) (fun _ _ => z) (fun _ _ => z) (fun _ _ _ _ => z) k (fun _ => z) z o) z

noncomputable def thenK (r : CR) (k : AFr → St → CR) : CR :=
  CR.rec (motive := fun _ => CR) (fun e fr st => XExit.rec (motive := fun _ => CR) (k fr st) (fun i => .out (.exit i) fr st) (.out .ret fr st) (fun v => .out (.pan v) fr st) e) .no r

noncomputable def blockK (id : Nat) (r : CR) : CR :=
  CR.rec (motive := fun _ => CR) (fun e fr st => XExit.rec (motive := fun _ => CR) (.out .norm fr st) (fun i => eqK i id (.out .norm fr st) (.out (.exit i) fr st)) (.out .ret fr st) (fun v => .out (.pan v) fr st) e) .no r

noncomputable def condK (v : Value) (a b : CR) : CR := vBool v (fun t => cond t a b) .no

/-- The end of a loop over a function's values. -/
noncomputable def rngEnd (l : Nat) (fr' : AFr) (r : FR) : CR :=
  FR.rec (motive := fun _ => CR)
    (fun _ st _ => loopK (st.h.get l) (fun s pend fn' t ps a b d =>
      LoopState.rec (motive := fun _ => CR)
        (st.setO l (.loop .exhausted pend fn' t ps a b d) fun st => oK pend (fun e => .out e fr' st) (.out .norm fr' st))
        .no
        (st.setO l (.loop .exhausted pend fn' t ps a b d) fun st => oK pend (fun e => .out e fr' st) (.out .norm fr' st))
        .no s) .no)
    (fun v st _ => .out (.pan v) fr' st) .no r

/-- A loop over a function's values. -/
noncomputable def evRng (call : CallT) (fn : FuncId) (f : Operand) (params : List Tmp) (assign body : XCode) (fr : AFr) (st : St) : CR :=
  oK fr.rnd (fun _ => .no)
    (st.newK (.defd (some [])) fun r st =>
      st.newK (.loop .ready none fn fr.t params assign body r) fun l st =>
      rngEnd l ⟨fr.t, { target := .collected r, args := #[] } :: fr.df, fr.pan, fr.took, fr.rnd⟩ (call (fr.ev f) [.func (.yield l) #[] #[]] none st))

noncomputable def evCode (call : CallT) (lf : Nat) (fn : FuncId) (c : XCode) : AFr → St → CR :=
  XCode.rec (motive := fun _ => AFr → St → CR)
    (fun fr st => .out .norm fr st)
    (fun ops => evOps call ops)
    (fun ops _ pz _ fr st => evD call ops [st.h] (poisoned fr pz) st)
    (fun _ _ ea eb fr st => thenK (ea fr st) eb)
    (fun c _ _ ea eb fr st => condK (fr.ev c) (ea fr st) (eb fr st))
    (fun id _ e fr st => blockK id (e fr st))
    (fun _ e fr st =>
      Nat.rec (motive := fun _ => AFr → St → CR) (fun _ _ => .no)
        (fun _ ih fr st => thenK (e fr st) ih) lf fr st)
    (fun f params assign body _ _ => evRng call fn f params assign body)
    (fun id fr st => .out (.exit id) fr st)
    (fun _ e => e)
    (fun fr st => .out .ret fr st)
    (fun _ _ => .no) c

/-- The frame's temporaries, from some place on. -/
noncomputable def args0 (vs : List Value) : Nat → PM Value → PM Value :=
  List.rec (motive := fun _ => Nat → PM Value → PM Value) (fun _ t => t) (fun v _ ih i t => PM.setK (Nat.succ i) t i v fun t => ih (Nat.succ i) t) vs

noncomputable def putParams (ts : List Tmp) : List Value → PM Value → PM Value :=
  List.rec (motive := fun _ => List Value → PM Value → PM Value) (fun _ m => m)
    (fun t _ ih vs m => List.rec (motive := fun _ => PM Value) m (fun v vs _ => PM.setK (Nat.succ t) m t v fun m => ih vs m) vs) ts

noncomputable def evRes (fr : AFr) (st : St) (rs : List XRes) : Option (List Value) :=
  List.rec (motive := fun _ => Option (List Value)) (some [])
    (fun r _ ih => oK ih (fun vs =>
      XRes.rec (motive := fun _ => Option (List Value)) (fun t => some (fr.tmp t :: vs))
        (fun a agg n => vPointer (fr.tmp a) (fun p => oK p (fun ad => st.load ad n (fun cs => cond agg (some (.agg ⟨cs⟩ :: vs)) (one cs (fun v => some (v :: vs)) none)) none) none) none) r) none) rs

/-- The deferred calls; the mode: none: returning; some v: panicking with v. -/
noncomputable def unwindX (call : CallT) : List Deferred → Option Value → St → Option (Option Value × St)
  | [], m, st => some (m, st)
  | { target := .collected r, .. } :: ds, m, st =>
    match st.h.get r with
    | some (.defd (some [])) => st.setO r (.defd none) fun st => unwindX call ds m st
    | _ => none
  | { target := .fn (.func g) capt, args } :: ds, m, st =>
    match call (.func (.func g) #[] capt) args.toList m st with
    | .ret _ st tk =>
      match m, tk with
      | some _, true => unwindX call ds none st
      | _, _ => unwindX call ds m st
    | .pan v st _ =>
      match m with
      | none => unwindX call ds (some v) st
      | some _ => none
    | .no => none
  | _ :: _, _, _ => none

/-- Calls by proved contracts. -/
abbrev Orc := FuncId → List Value → St → Option FR

/-- The end of a call: the deferred calls, then the results. -/
noncomputable def finishX (call : CallT) (res : List XRes) (m : Option Value) (fr : AFr) (st : St) : FR :=
  oK (unwindX call fr.df m st)
    (fun p => oK p.1 (fun v => .pan v p.2 fr.took)
      (oK (evRes fr p.2 res) (fun vs => one vs (fun v => .ret v p.2 fr.took) (.ret (.tuple ⟨vs⟩) p.2 fr.took)) .no)) .no

/-- A call of a function by its body. -/
noncomputable def bodyX (call : CallT) (n : Nat) (f : FuncId) (xf : XFn) (as : List Value) (pan : Option Value) (st : St) : FR :=
  leK (lenX as) xf.nt
    (CR.rec (motive := fun _ => FR)
      (fun e fr st => XExit.rec (motive := fun _ => FR) (finishX call xf.res none fr st) (fun _ => .no) (finishX call xf.res none fr st) (fun v => finishX call xf.res (some v) fr st) e)
      .no (evCode call n f xf.body ⟨args0 as 0 .nil, [], pan, false, none⟩ st)) .no

/-- The end of a round. -/
noncomputable def roundEnd (l : Nat) (r : CR) : FR :=
  CR.rec (motive := fun _ => FR)
    (fun e fr st =>
      List.rec (motive := fun _ => FR)
        (XExit.rec (motive := fun _ => FR)
          (loopK (st.h.get l) (fun _ _ fn t ps a b d => st.setO l (.loop .ready none fn t ps a b d) fun st => .ret (.bool true) st false) .no)
          (fun i => loopK (st.h.get l) (fun _ _ fn t ps a b d => st.setO l (.loop .done (some (.exit i)) fn t ps a b d) fun st => .ret (.bool false) st false) .no)
          (loopK (st.h.get l) (fun _ _ fn t ps a b d => st.setO l (.loop .done (some .ret) fn t ps a b d) fun st => .ret (.bool false) st false) .no)
          (fun v => .pan v st false) e)
        (fun _ _ _ => .no) fr.df)
    .no r

/-- A round of a loop over a function's values: what follows the assignment. -/
noncomputable def roundX (call : CallT) (n : Nat) (l : Nat) (f : FuncId) (body : XCode) (fr : AFr) (st : St) : FR :=
  loopK (st.h.get l) (fun s pend fn t ps a b d =>
    LoopState.rec (motive := fun _ => FR)
      (st.setO l (.loop .busy pend fn t ps a b d) fun st => roundEnd l (evCode call n f body fr st))
      .no .no .no s) .no

noncomputable def yieldX (call : CallT) (n : Nat) (l : Nat) (args : List Value) (st : St) : FR :=
  loopK (st.h.get l) (fun _ _ fn t ps asg body _ =>
    eqK (lenX args) (lenX ps)
      (CR.rec (motive := fun _ => FR)
        (fun e fr st => XExit.rec (motive := fun _ => FR) (roundX call n l fn body fr st) (fun _ => .no) .no (fun _ => .no) e) .no
        (evCode call n fn asg ⟨putParams ps args t, [], none, false, some l⟩ st)) .no) .no

/-- A call of a function value with so much fuel. -/
noncomputable def callX (xp : PM XFn) (orc : Orc) (fuel : Nat) : CallT :=
  Nat.rec (motive := fun _ => CallT) (fun _ _ _ _ => .no)
    (fun n ih fv args pan st =>
      vFunc fv (fun fn first capt =>
        Fn.rec (motive := fun _ => FR)
          (fun f => (fun as => oK pan (fun _ => oK (xp.get f) (fun xf => bodyX ih n f xf as pan st) .no) (oK (orc f as st) (fun r => r) (oK (xp.get f) (fun xf => bodyX ih n f xf as pan st) .no))) (appX first.toList (appX args capt.toList)))
          (fun _ => .no) (fun _ _ => .no) (fun _ _ _ _ => .no)
          (fun l => List.rec (motive := fun _ => FR) (List.rec (motive := fun _ => FR) (oK pan (fun _ => .no) (yieldX ih n l args st)) (fun _ _ _ => .no) capt.toList) (fun _ _ _ => .no) first.toList)
          fn) .no) fuel

end Go.AM
namespace Go.AM

namespace PM
variable {α β : Type}

@[simp] theorem get_nil (n : Nat) : (PM.nil : PM α).get n = none := rfl
theorem get_node0 (l r : PM α) (v : Option α) : (PM.node l v r).get 0 = v := rfl
theorem mod2 {β : Sort _} (m : Nat) (a b : β) : Nat.rec (motive := fun _ => β) a (fun _ _ => b) (Nat.mod m 2) = if m % 2 = 0 then a else b := by
  show Nat.rec (motive := fun _ => β) a (fun _ _ => b) (m % 2) = _
  rcases Nat.mod_two_eq_zero_or_one m with h | h
  · rw [h]; rfl
  · rw [h]; rfl
theorem get_nodeS (l r : PM α) (v : Option α) (m : Nat) : (PM.node l v r).get (m + 1) = if m % 2 = 0 then l.get (m / 2) else r.get (m / 2) :=
  mod2 m (l.get (m / 2)) (r.get (m / 2))
theorem setK_nil0 (f : Nat) (x : α) (k : PM α → β) : setK (f + 1) .nil 0 x k = k (.node .nil (some x) .nil) := rfl
theorem setK_nilS (f m : Nat) (x : α) (k : PM α → β) : setK (f + 1) .nil (m + 1) x k = if m % 2 = 0 then setK f .nil (m / 2) x (fun l' => k (.node l' none .nil)) else setK f .nil (m / 2) x (fun r' => k (.node .nil none r')) := mod2 m _ _
theorem setK_node0 (f : Nat) (l r : PM α) (v : Option α) (x : α) (k : PM α → β) : setK (f + 1) (.node l v r) 0 x k = k (.node l (some x) r) := rfl
theorem setK_nodeS (f m : Nat) (l r : PM α) (v : Option α) (x : α) (k : PM α → β) : setK (f + 1) (.node l v r) (m + 1) x k = if m % 2 = 0 then setK f l (m / 2) x (fun l' => k (.node l' v r)) else setK f r (m / 2) x (fun r' => k (.node l v r')) := mod2 m _ _

theorem setK_id {α : Type} : ∀ (f : Nat) (β : Type) (t : PM α) (n : Nat) (x : α) (k : PM α → β), setK f t n x k = k (setK f t n x id)
  | 0, _, _, _, _, _ => rfl
  | f + 1, β, t, n, x, k => by
    cases t with
    | nil =>
      cases n with
      | zero => rfl
      | succ m =>
        rw [setK_nilS, setK_nilS]
        split
        · rw [setK_id f _ .nil (m / 2) x (fun l' => k (PM.node l' none PM.nil)), setK_id f _ .nil (m / 2) x (fun l' => id (PM.node l' none PM.nil))]; rfl
        · rw [setK_id f _ .nil (m / 2) x (fun r' => k (PM.node PM.nil none r')), setK_id f _ .nil (m / 2) x (fun r' => id (PM.node PM.nil none r'))]; rfl
    | node l v r =>
      cases n with
      | zero => rfl
      | succ m =>
        rw [setK_nodeS, setK_nodeS]
        split
        · rw [setK_id f _ l (m / 2) x (fun l' => k (PM.node l' v r)), setK_id f _ l (m / 2) x (fun l' => id (PM.node l' v r))]; rfl
        · rw [setK_id f _ r (m / 2) x (fun r' => k (PM.node l v r')), setK_id f _ r (m / 2) x (fun r' => id (PM.node l v r'))]; rfl

theorem setK_eq (t : PM α) (n : Nat) (x : α) (k : PM α → β) : setK (Nat.succ n) t n x k = k (t.set n x) := setK_id _ _ t n x k

theorem nodL_eq (v : Option α) (r l : PM α) : nodL v r l = .node l v r := by cases l <;> rfl
theorem nodR_eq (v : Option α) (l r : PM α) : nodR l v r = .node l v r := by cases r <;> rfl
theorem fin_eq (t : PM α) (k : PM α → β) : fin t k = k t := by cases t <;> rfl
theorem put2_eq (ih : PM α → Nat → α → PM α) (l r : PM α) (v : Option α) (m : Nat) (x : α) :
    put2 ih l v r m x = if m % 2 = 0 then .node (ih l (m / 2) x) v r else .node l v (ih r (m / 2) x) := by
  rw [← nodL_eq, ← nodR_eq]; exact mod2 m _ _

theorem putF_id : ∀ (f : Nat) (t : PM α) (n : Nat) (x : α), putF f t n x = setK f t n x id
  | 0, _, _, _ => rfl
  | f + 1, t, n, x => by
    cases t with
    | nil =>
      cases n with
      | zero => rfl
      | succ m =>
        rw [setK_nilS]
        show put2 (putF f) .nil none .nil m x = _
        rw [put2_eq, putF_id f]
        split
        · rw [setK_id f _ .nil (m / 2) x (fun l' => id (PM.node l' none PM.nil))]; rfl
        · rw [setK_id f _ .nil (m / 2) x (fun r' => id (PM.node PM.nil none r'))]; rfl
    | node l v r =>
      cases n with
      | zero => rfl
      | succ m =>
        rw [setK_nodeS]
        show put2 (putF f) l v r m x = _
        rw [put2_eq, putF_id f, putF_id f]
        split
        · rw [setK_id f _ l (m / 2) x (fun l' => id (PM.node l' v r))]; rfl
        · rw [setK_id f _ r (m / 2) x (fun r' => id (PM.node l v r'))]; rfl

theorem putF_eq (t : PM α) (n : Nat) (x : α) : putF (Nat.succ n) t n x = t.set n x := putF_id _ t n x

theorem get_setK : ∀ (f : Nat) (t : PM α) (n : Nat) (x : α) (j : Nat), n < f → (setK f t n x id).get j = if j = n then some x else t.get j
  | 0, _, _, _, _, h => by omega
  | f + 1, t, n, x, j, h => by
    cases t with
    | nil =>
      cases n with
      | zero =>
        cases j with
        | zero => rfl
        | succ j => rw [setK_nil0]; show (PM.node .nil (some x) .nil : PM α).get (j + 1) = _; rw [get_nodeS]; simp
      | succ m =>
        have ih := fun i => get_setK f (.nil : PM α) (m / 2) x i (by omega)
        rw [setK_nilS]
        split
        · rename_i hm
          rw [setK_id f _ .nil (m / 2) x (fun l' => id (PM.node l' none PM.nil))]
          show (PM.node _ none .nil : PM α).get j = _
          cases j with
          | zero => rw [get_node0]; simp
          | succ j =>
            rw [get_nodeS]
            by_cases hj : j % 2 = 0
            · rw [if_pos hj, ih]
              by_cases e : j = m
              · subst e; simp
              · rw [if_neg (by omega), if_neg (by omega)]; simp
            · rw [if_neg hj, if_neg (by omega)]; simp
        · rename_i hm
          rw [setK_id f _ .nil (m / 2) x (fun r' => id (PM.node PM.nil none r'))]
          show (PM.node .nil none _ : PM α).get j = _
          cases j with
          | zero => rw [get_node0]; simp
          | succ j =>
            rw [get_nodeS]
            by_cases hj : j % 2 = 0
            · rw [if_pos hj, if_neg (by omega)]; simp
            · rw [if_neg hj, ih]
              by_cases e : j = m
              · subst e; simp
              · rw [if_neg (by omega), if_neg (by omega)]; simp
    | node l v r =>
      cases n with
      | zero =>
        cases j with
        | zero => rfl
        | succ j => rw [setK_node0]; show (PM.node l (some x) r : PM α).get (j + 1) = _; rw [get_nodeS, get_nodeS, if_neg (by omega : ¬ (j + 1 = 0))]
      | succ m =>
        rw [setK_nodeS]
        split
        · rename_i hm
          have ih := fun i => get_setK f l (m / 2) x i (by omega)
          rw [setK_id f _ l (m / 2) x (fun l' => id (PM.node l' v r))]
          show (PM.node _ v r : PM α).get j = _
          cases j with
          | zero => rw [get_node0, if_neg (by omega)]; rfl
          | succ j =>
            rw [get_nodeS, get_nodeS]
            by_cases hj : j % 2 = 0
            · rw [if_pos hj, if_pos hj, ih]
              by_cases e : j = m
              · subst e; simp
              · rw [if_neg (by omega), if_neg (by omega)]
            · rw [if_neg hj, if_neg hj, if_neg (by omega)]
        · rename_i hm
          have ih := fun i => get_setK f r (m / 2) x i (by omega)
          rw [setK_id f _ r (m / 2) x (fun r' => id (PM.node l v r'))]
          show (PM.node l v _ : PM α).get j = _
          cases j with
          | zero => rw [get_node0, if_neg (by omega)]; rfl
          | succ j =>
            rw [get_nodeS, get_nodeS]
            by_cases hj : j % 2 = 0
            · rw [if_pos hj, if_pos hj, if_neg (by omega)]
            · rw [if_neg hj, if_neg hj, ih]
              by_cases e : j = m
              · subst e; simp
              · rw [if_neg (by omega), if_neg (by omega)]

theorem get_set (t : PM α) (n : Nat) (x : α) (j : Nat) : (t.set n x).get j = if j = n then some x else t.get j :=
  get_setK (n + 1) t n x j (by omega)
@[simp] theorem get_set_self (t : PM α) (n : Nat) (x : α) : (t.set n x).get n = some x := by rw [get_set, if_pos rfl]
theorem get_set_ne (t : PM α) {n j : Nat} (x : α) (h : j ≠ n) : (t.set n x).get j = t.get j := by rw [get_set, if_neg h]
end PM

theorem put_some (fr : AFr) (d : Tmp) (v : Value) : fr.put (some d) v = ⟨fr.t.set d v, fr.df, fr.pan, fr.took, fr.rnd⟩ := by
  show AFr.mkF (PM.putF (Nat.succ d) fr.t d v) fr.df fr.pan fr.took fr.rnd = _
  rw [PM.putF_eq]
  cases fr.t.set d v <;> rfl

theorem tmp_put (fr : AFr) (d : Option Tmp) (v : Value) (j : Nat) : (fr.put d v).tmp j = if d = some j then v else fr.tmp j := by
  cases d with
  | none => simp [AFr.put]
  | some d =>
    rw [put_some]
    simp only [AFr.tmp, PM.get_set, Option.some.injEq]
    by_cases h : j = d
    · subst h; simp
    · rw [if_neg h, if_neg (fun e => h e.symm)]

theorem put_fields (fr : AFr) (d : Option Tmp) (v : Value) : (fr.put d v).df = fr.df ∧ (fr.put d v).pan = fr.pan ∧ (fr.put d v).took = fr.took ∧ (fr.put d v).rnd = fr.rnd := by
  cases d with
  | none => simp [AFr.put]
  | some d => rw [put_some]; exact ⟨rfl, rfl, rfl, rfl⟩

/-! Where abstract objects lie: the block, the place of the first cell, and how much capacity is not known. -/
structure Loc where
  blk : Nat
  sh : Nat
  ex : Nat
  /-- Of a map: what its entries' stamps are. -/
  sg : Nat → Nat

/-- The mark of globals: their blocks are never written. -/
def gsg : Nat → Nat := fun _ => 0
theorem id_gsg : (id : Nat → Nat) ≠ gsg := fun h => by have := congrFun h 1; simp [gsg] at this

abbrev Inj := Nat → Option Loc
def Inj.le (ι κ : Inj) : Prop := ∀ i l, ι i = some l → κ i = some l
theorem Inj.le.refl (ι : Inj) : ι.le ι := fun _ _ h => h
theorem Inj.le.trans {ι κ μ : Inj} (h : ι.le κ) (h' : κ.le μ) : ι.le μ := fun i l hi => h' i l (h i l hi)

def FnRel (ι : Inj) (f g : Fn) : Prop := (f = g ∧ ∀ l, f ≠ .yield l) ∨ ∃ l b, f = .yield l ∧ g = .yield b ∧ ι l = some ⟨b, 0, 0, id⟩

/-- What is known of a number that is not known: nothing (1), that it is at least k (2 k + 2), that it is below k (2 k + 3). -/
def unkOk (c : Nat) (m : Int) : Prop := c = 1 ∨ (∃ k : Nat, c = 2 * k + 2 ∧ (k : Int) ≤ m) ∨ ∃ k : Nat, c = 2 * k + 3 ∧ m < k

inductive VRel (ι : Inj) : Value → Value → Prop
  | bool (b : Bool) : VRel ι (.bool b) (.bool b)
  | int (k : IntKind) (n : Int) : VRel ι (.int k n) (.int k n)
  | float (k : FloatKind) (b : Nat) : VRel ι (.float k b) (.float k b)
  | string (s : ByteArray) : VRel ι (.string s) (.string s)
  | ptrNil : VRel ι (.pointer none) (.pointer none)
  | ptr (a : Addr) (l : Loc) (h : ι a.block = some l) (hs : a.spot = none) : VRel ι (.pointer (some a)) (.pointer (some ⟨l.blk, l.sh + a.off, none⟩))
  | slcNil (n c : Nat) : VRel ι (.slice none n c) (.slice none n c)
  | slc (a : Addr) (l : Loc) (o n c : Nat) (h : ι a.block = some l) (hs : a.spot = none) (ho : o = l.sh + a.off ∨ (n = 0 ∧ c = 0 ∧ l.ex = 0)) :
      VRel ι (.slice (some a) n c) (.slice (some ⟨l.blk, o, none⟩) n (c + l.ex))
  | mapNil : VRel ι (.map none) (.map none)
  | map (r b : Nat) (sg : Nat → Nat) (h : ι r = some ⟨b, 0, 0, sg⟩) : VRel ι (.map (some r)) (.map (some b))
  | func (f g : Fn) (xs ys us vs : Array Value) (hf : FnRel ι f g) (h1 : xs.size = ys.size) (h2 : ∀ i (h : i < xs.size) (h' : i < ys.size), VRel ι xs[i] ys[i])
      (h3 : us.size = vs.size) (h4 : ∀ i (h : i < us.size) (h' : i < vs.size), VRel ι us[i] vs[i]) : VRel ι (.func f xs us) (.func g ys vs)
  | nilFunc : VRel ι .nilFunc .nilFunc
  | iface (t : TypeId) (v w : Value) (h : VRel ι v w) : VRel ι (.iface t v) (.iface t w)
  | nilIface : VRel ι .nilIface .nilIface
  | agg (xs ys : Array Value) (h1 : xs.size = ys.size) (h2 : ∀ i (h : i < xs.size) (h' : i < ys.size), VRel ι xs[i] ys[i]) : VRel ι (.agg xs) (.agg ys)
  | tuple (xs ys : Array Value) (h1 : xs.size = ys.size) (h2 : ∀ i (h : i < xs.size) (h' : i < ys.size), VRel ι xs[i] ys[i]) : VRel ι (.tuple xs) (.tuple ys)
  | unk (c : Nat) (m : Int) (h : unkOk c m) : VRel ι (.chan (some c)) (.int .i64 m)
  | top (c : Value) : VRel ι poison c

theorem FnRel.mono {ι κ : Inj} (hle : ι.le κ) {f g : Fn} (h : FnRel ι f g) : FnRel κ f g := by
  rcases h with h | ⟨l, b, h1, h2, h3⟩
  · exact .inl h
  · exact .inr ⟨l, b, h1, h2, hle _ _ h3⟩

theorem VRel.mono {ι κ : Inj} (hle : ι.le κ) {v w : Value} (h : VRel ι v w) : VRel κ v w := by
  induction h with
  | bool b => exact .bool b
  | int k n => exact .int k n
  | float k n => exact .float k n
  | string s => exact .string s
  | ptrNil => exact .ptrNil
  | ptr a l h hs => exact .ptr a l (hle _ _ h) hs
  | slcNil n c => exact .slcNil n c
  | slc a l o n c h hs ho => exact .slc a l o n c (hle _ _ h) hs ho
  | mapNil => exact .mapNil
  | map r b sg h => exact .map r b sg (hle _ _ h)
  | func f g xs ys us vs hf h1 _ h3 _ ih2 ih4 => exact .func f g xs ys us vs (hf.mono hle) h1 ih2 h3 ih4
  | nilFunc => exact .nilFunc
  | iface t v w _ ih => exact .iface t v w ih
  | nilIface => exact .nilIface
  | agg xs ys h1 _ ih => exact .agg xs ys h1 ih
  | tuple xs ys h1 _ ih => exact .tuple xs ys h1 ih
  | unk c m h => exact .unk c m h
  | top c => exact .top c

/-- Rows of values, one by one. -/
def VRels (ι : Inj) (xs ys : List Value) : Prop := xs.length = ys.length ∧ ∀ (i : Nat) (h : i < xs.length) (h' : i < ys.length), VRel ι xs[i] ys[i]
theorem VRels.mono {ι κ : Inj} (hle : ι.le κ) {xs ys : List Value} (h : VRels ι xs ys) : VRels κ xs ys := ⟨h.1, fun i a b => (h.2 i a b).mono hle⟩
theorem VRels.nil (ι : Inj) : VRels ι [] [] := ⟨rfl, fun i h => by simp at h⟩
theorem VRels.cons {ι : Inj} {x y : Value} {xs ys : List Value} (h : VRel ι x y) (hs : VRels ι xs ys) : VRels ι (x :: xs) (y :: ys) := by
  refine ⟨by simp [hs.1], fun i a b => ?_⟩
  cases i with
  | zero => exact h
  | succ i => exact hs.2 i (by simpa using a) (by simpa using b)
theorem VRels.cons_inv {ι : Inj} {x : Value} {xs ys : List Value} (h : VRels ι (x :: xs) ys) : ∃ y ys', ys = y :: ys' ∧ VRel ι x y ∧ VRels ι xs ys' := by
  cases ys with
  | nil => have := h.1; simp at this
  | cons y ys' =>
    refine ⟨y, ys', rfl, h.2 0 (by simp) (by simp), by simpa using h.1, fun i a b => ?_⟩
    exact h.2 (i + 1) (by simpa using a) (by simpa using b)
theorem VRels.nil_inv {ι : Inj} {ys : List Value} (h : VRels ι [] ys) : ys = [] := by
  cases ys with
  | nil => rfl
  | cons y ys => have := h.1; simp at this
theorem VRels.append {ι : Inj} : ∀ {xs ys us vs : List Value}, VRels ι xs ys → VRels ι us vs → VRels ι (xs ++ us) (ys ++ vs)
  | [], ys, us, vs, h, h' => by rw [h.nil_inv]; simpa using h'
  | x :: xs, ys, us, vs, h, h' => by
    obtain ⟨y, ys', rfl, h1, h2⟩ := h.cons_inv
    simpa using VRels.cons h1 (h2.append h')
theorem VRels.drop {ι : Inj} : ∀ (n : Nat) {xs ys : List Value}, VRels ι xs ys → VRels ι (xs.drop n) (ys.drop n)
  | 0, _, _, h => by simpa using h
  | n + 1, [], ys, h => by rw [h.nil_inv]; simpa using VRels.nil ι
  | n + 1, x :: xs, ys, h => by
    obtain ⟨y, ys', rfl, _, h2⟩ := h.cons_inv
    simpa using h2.drop n
theorem VRels.take {ι : Inj} : ∀ (n : Nat) {xs ys : List Value}, VRels ι xs ys → VRels ι (xs.take n) (ys.take n)
  | 0, _, _, _ => by simpa using VRels.nil ι
  | n + 1, [], ys, h => by rw [h.nil_inv]; simpa using VRels.nil ι
  | n + 1, x :: xs, ys, h => by
    obtain ⟨y, ys', rfl, h1, h2⟩ := h.cons_inv
    simpa using VRels.cons h1 (h2.take n)

theorem VRel.of_agg {ι : Inj} {xs ys : Array Value} (h : VRels ι xs.toList ys.toList) : VRel ι (.agg xs) (.agg ys) :=
  .agg xs ys (by simpa using h.1) fun i a b => by have := h.2 i (by simpa using a) (by simpa using b); rwa [Array.getElem_toList, Array.getElem_toList] at this
theorem VRel.of_tuple {ι : Inj} {xs ys : Array Value} (h : VRels ι xs.toList ys.toList) : VRel ι (.tuple xs) (.tuple ys) :=
  .tuple xs ys (by simpa using h.1) fun i a b => by have := h.2 i (by simpa using a) (by simpa using b); rwa [Array.getElem_toList, Array.getElem_toList] at this
theorem VRels.of_arr {ι : Inj} {xs ys : Array Value} (h1 : xs.size = ys.size) (h2 : ∀ i (h : i < xs.size) (h' : i < ys.size), VRel ι xs[i] ys[i]) : VRels ι xs.toList ys.toList :=
  ⟨by simpa using h1, fun i a b => by have := h2 i (by simpa using a) (by simpa using b); rwa [← Array.getElem_toList, ← Array.getElem_toList] at this⟩
theorem VRel.of_func {ι : Inj} {f g : Fn} {xs ys us vs : Array Value} (hf : FnRel ι f g) (h : VRels ι xs.toList ys.toList) (h' : VRels ι us.toList vs.toList) : VRel ι (.func f xs us) (.func g ys vs) :=
  .func f g xs ys us vs hf (by simpa using h.1) (fun i a b => by have := h.2 i (by simpa using a) (by simpa using b); rwa [Array.getElem_toList, Array.getElem_toList] at this) (by simpa using h'.1) (fun i a b => by have := h'.2 i (by simpa using a) (by simpa using b); rwa [Array.getElem_toList, Array.getElem_toList] at this)

theorem VRels.cells {ι : Inj} {v w : Value} (h : VRel ι v w) (hp : v ≠ poison) : VRels ι v.cells.toList w.cells.toList := by
  cases h <;> first
    | exact absurd rfl hp
    | (rename_i xs ys h1 h2; exact VRels.of_arr h1 h2)
    | (simp only [Value.cells]; refine VRels.cons ?_ (VRels.nil ι); constructor <;> assumption)

end Go.AM
namespace Go.AM

section
variable {α β : Type} {r z : β}
theorem vPointer_inv {v : Value} {k : Option Addr → β} (h : vPointer v k z = r) (hz : z ≠ r) : ∃ p, v = .pointer p ∧ k p = r := by
  cases v <;> first | exact absurd h hz | exact ⟨_, rfl, h⟩
theorem vInt_inv {v : Value} {k : IntKind → Int → β} (h : vInt v k z = r) (hz : z ≠ r) : ∃ a n, v = .int a n ∧ k a n = r := by
  cases v <;> first | exact absurd h hz | exact ⟨_, _, rfl, h⟩
theorem vBool_inv {v : Value} {k : Bool → β} (h : vBool v k z = r) (hz : z ≠ r) : ∃ b, v = .bool b ∧ k b = r := by
  cases v <;> first | exact absurd h hz | exact ⟨_, rfl, h⟩
theorem vString_inv {v : Value} {k : ByteArray → β} (h : vString v k z = r) (hz : z ≠ r) : ∃ s, v = .string s ∧ k s = r := by
  cases v <;> first | exact absurd h hz | exact ⟨_, rfl, h⟩
theorem vSlice_inv {v : Value} {k : Option Addr → Nat → Nat → β} (h : vSlice v k z = r) (hz : z ≠ r) : ∃ a n c, v = .slice a n c ∧ k a n c = r := by
  cases v <;> first | exact absurd h hz | exact ⟨_, _, _, rfl, h⟩
theorem vAgg_inv {v : Value} {k : Array Value → β} (h : vAgg v k z = r) (hz : z ≠ r) : ∃ a, v = .agg a ∧ k a = r := by
  cases v <;> first | exact absurd h hz | exact ⟨_, rfl, h⟩
theorem vTuple_inv {v : Value} {k : Array Value → β} (h : vTuple v k z = r) (hz : z ≠ r) : ∃ a, v = .tuple a ∧ k a = r := by
  cases v <;> first | exact absurd h hz | exact ⟨_, rfl, h⟩
theorem vFunc_inv {v : Value} {k : Fn → Array Value → Array Value → β} (h : vFunc v k z = r) (hz : z ≠ r) : ∃ f a b, v = .func f a b ∧ k f a b = r := by
  cases v <;> first | exact absurd h hz | exact ⟨_, _, _, rfl, h⟩
theorem vIface_inv {v : Value} {k : TypeId → Value → β} (h : vIface v k z = r) (hz : z ≠ r) : ∃ t x, v = .iface t x ∧ k t x = r := by
  cases v <;> first | exact absurd h hz | exact ⟨_, _, rfl, h⟩
theorem oK_inv {o : Option α} {k : α → β} (h : oK o k z = r) (hz : z ≠ r) : ∃ a, o = some a ∧ k a = r := by
  cases o <;> first | exact absurd h hz | exact ⟨_, rfl, h⟩
theorem oK_none {o : Option α} {k : α → β} (h : oK o k z = r) (hk : ∀ a, k a ≠ r) : o = none ∧ z = r := by
  cases o <;> first | exact ⟨rfl, h⟩ | exact absurd h (hk _)
theorem natK_inv {n : Int} {k : Nat → β} (h : natK n k z = r) (hz : z ≠ r) : ∃ m : Nat, n = (m : Int) ∧ k m = r := by
  cases n with
  | ofNat m => exact ⟨m, rfl, h⟩
  | negSucc m => exact absurd h hz
theorem ble_true {a b : Nat} : Nat.ble a b = true ↔ a ≤ b := by simp
theorem leK_eq (a b : Nat) (x y : β) : leK a b x y = if a ≤ b then x else y := by
  unfold leK
  by_cases h : a ≤ b
  · rw [if_pos h, ble_true.2 h]; rfl
  · rw [if_neg h]
    have : Nat.ble a b = false := by rw [Bool.eq_false_iff]; intro hh; exact h (ble_true.1 hh)
    rw [this]; rfl
theorem eqK_eq (a b : Nat) (x y : β) : eqK a b x y = if a = b then x else y := by
  unfold eqK
  by_cases h : a = b
  · rw [if_pos h, h, Nat.beq_refl]; rfl
  · rw [if_neg h]
    have : Nat.beq a b = false := by rw [Bool.eq_false_iff]; intro hh; exact h (Nat.eq_of_beq_eq_true hh)
    rw [this]; rfl
theorem leK_inv {a b : Nat} {x : β} (h : leK a b x z = r) (hz : z ≠ r) : a ≤ b ∧ x = r := by
  rw [leK_eq] at h; split at h
  · exact ⟨by assumption, h⟩
  · exact absurd h hz
theorem eqK_inv {a b : Nat} {x : β} (h : eqK a b x z = r) (hz : z ≠ r) : a = b ∧ x = r := by
  rw [eqK_eq] at h; split at h
  · exact ⟨by assumption, h⟩
  · exact absurd h hz
theorem cond_inv {b : Bool} {x : β} (h : cond b x z = r) (hz : z ≠ r) : b = true ∧ x = r := by
  cases b
  · exact absurd h hz
  · exact ⟨rfl, h⟩
theorem ncond_inv {b : Bool} {x : β} (h : cond b z x = r) (hz : z ≠ r) : b = false ∧ x = r := by
  cases b
  · exact ⟨rfl, h⟩
  · exact absurd h hz
@[simp] theorem lenX_eq : ∀ l : List α, lenX l = l.length
  | [] => rfl
  | x :: xs => by show Nat.succ (lenX xs) = _; rw [lenX_eq xs]; rfl
@[simp] theorem appX_eq (m : List α) : ∀ l : List α, appX l m = l ++ m
  | [] => rfl
  | x :: xs => by show x :: appX xs m = _; rw [appX_eq m xs]; rfl
@[simp] theorem dropX_eq : ∀ (n : Nat) (l : List α), dropX n l = l.drop n
  | 0, l => rfl
  | n + 1, [] => rfl
  | n + 1, x :: xs => by show dropX n xs = _; rw [dropX_eq n xs]; rfl
theorem takeX_eq : ∀ (n : Nat) (l : List α), takeX n l = if n ≤ l.length then some (l.take n) else none
  | 0, l => by rw [if_pos (Nat.zero_le _)]; rfl
  | n + 1, [] => rfl
  | n + 1, x :: xs => by
    show Option.rec (motive := fun _ => Option (List α)) none (fun r => some (x :: r)) (takeX n xs) = _
    rw [takeX_eq n xs]
    by_cases h : n ≤ xs.length
    · rw [if_pos h, if_pos (by simpa using h)]; rfl
    · rw [if_neg h, if_neg (by simpa using h)]
theorem one_inv {l : List α} {k : α → β} (h : one l k z = r) (hz : z ≠ r) : ∃ x, l = [x] ∧ k x = r := by
  cases l with
  | nil => exact absurd h hz
  | cons x xs =>
    cases xs with
    | nil => exact ⟨x, rfl, h⟩
    | cons y ys => exact absurd h hz
theorem cutK_inv {l : List α} {off n : Nat} {k : List α → β} (h : cutK l off n k z = r) (hz : z ≠ r) : n ≤ (l.drop off).length ∧ k ((l.drop off).take n) = r := by
  unfold cutK at h
  rw [dropX_eq, takeX_eq] at h
  split at h
  · exact ⟨by assumption, h⟩
  · exact absurd h hz
theorem putsK_eq : ∀ (l : List α) (n : Nat) (vs : List α) (k : List α → β) (z : β),
    putsK l n vs k z = if n + vs.length ≤ l.length then k (l.take n ++ (vs ++ l.drop (n + vs.length))) else if vs = [] then k l else z
  | [], n, [], k, z => by
    by_cases h : n = 0
    · subst h; rfl
    · rw [if_neg (by simpa using h), if_pos rfl]; rfl
  | [], n, v :: vs, k, z => by rw [if_neg (by simp), if_neg (by simp)]; rfl
  | y :: ys, 0, [], k, z => by rw [if_pos (by simp)]; rfl
  | y :: ys, 0, v :: vs, k, z => by
    show putsK ys 0 vs (fun l' => k (v :: l')) z = _
    rw [putsK_eq ys 0 vs]
    by_cases h : vs.length ≤ ys.length
    · have h1 : 0 + vs.length ≤ ys.length := by omega
      have h2 : 0 + (v :: vs).length ≤ (y :: ys).length := by simp only [List.length_cons]; omega
      rw [if_pos h1, if_pos h2]
      simp
    · have h1 : ¬ 0 + vs.length ≤ ys.length := by omega
      have h2 : ¬ 0 + (v :: vs).length ≤ (y :: ys).length := by simp only [List.length_cons]; omega
      have h3 : vs ≠ [] := by intro e; subst e; simp at h
      rw [if_neg h1, if_neg h2, if_neg h3, if_neg (by simp)]
  | y :: ys, n + 1, vs, k, z => by
    show putsK ys n vs (fun l' => k (y :: l')) z = _
    rw [putsK_eq ys n vs]
    by_cases h : n + vs.length ≤ ys.length
    · have h2 : n + 1 + vs.length ≤ (y :: ys).length := by simp only [List.length_cons]; omega
      rw [if_pos h, if_pos h2]
      rw [show n + 1 + vs.length = (n + vs.length) + 1 by omega]
      simp
    · have h2 : ¬ n + 1 + vs.length ≤ (y :: ys).length := by simp only [List.length_cons]; omega
      rw [if_neg h, if_neg h2]
theorem putsK_inv {l : List α} {n : Nat} {vs : List α} {k : List α → β} (h : putsK l n vs k z = r) (hz : z ≠ r) :
    (n + vs.length ≤ l.length ∧ k (l.take n ++ (vs ++ l.drop (n + vs.length))) = r) ∨ (vs = [] ∧ k l = r) := by
  rw [putsK_eq] at h
  split at h
  · exact .inl ⟨by assumption, h⟩
  · split at h
    · exact .inr ⟨by assumption, h⟩
    · exact absurd h hz
theorem cellsAt_inv {st : St} {a : Addr} {k : List Value → TypeId → Nat × Nat → Bool → β} (h : st.cellsAt a k z = r) (hz : z ≠ r) :
    a.spot = none ∧ ∃ cs elem fz gr, st.h.get a.block = some (.cells cs elem fz gr) ∧ k cs elem fz gr = r := by
  unfold St.cellsAt at h
  obtain ⟨h1, h2⟩ := oK_none h (fun _ => hz)
  refine ⟨h1, ?_⟩
  unfold cellsK at h2
  obtain ⟨o, ho, h3⟩ := oK_inv h2 hz
  cases o <;> first | exact absurd h3 hz | exact ⟨_, _, _, _, ho, h3⟩
theorem load_inv {st : St} {a : Addr} {n : Nat} {k : List Value → β} (h : st.load a n k z = r) (hz : z ≠ r) :
    a.spot = none ∧ ∃ cs elem fz gr, st.h.get a.block = some (.cells cs elem fz gr) ∧ n ≤ (cs.drop a.off).length ∧ k ((cs.drop a.off).take n) = r := by
  obtain ⟨h1, cs, e, fz, gr, h2, h3⟩ := cellsAt_inv h hz
  obtain ⟨h4, h5⟩ := cutK_inv h3 hz
  exact ⟨h1, cs, e, fz, gr, h2, h4, h5⟩
theorem setO_eq (st : St) (id : Nat) (o : AObj) (k : St → β) : st.setO id o k = k ⟨st.h.set id o, st.nx⟩ := by
  unfold St.setO
  rw [PM.putF_eq, PM.fin_eq]
theorem forceN_eq (n : Nat) (k : Nat → β) : forceN n k = k n := by unfold forceN; rw [Nat.beq_refl]; rfl
theorem newK_eq (st : St) (o : AObj) (k : Nat → St → β) : st.newK o k = k st.nx ⟨st.h.set st.nx o, st.nx + 1⟩ := by
  unfold St.newK
  rw [forceN_eq, PM.putF_eq, PM.fin_eq]
theorem forceI_eq (n : Int) (k : Int → β) : forceI n k = k n := by
  cases n with
  | ofNat m => exact forceN_eq m (fun m => k (.ofNat m))
  | negSucc m => exact forceN_eq m (fun m => k (.negSucc m))
theorem intV_eq (a : IntKind) (n : Int) (c : Value → β) : intV a n c = c (.int a n) := forceI_eq _ _
theorem store_inv {st : St} {a : Addr} {vs : List Value} {k : St → β} (h : st.store a vs k z = r) (hz : z ≠ r) :
    a.spot = none ∧ ∃ cs elem fz gr, st.h.get a.block = some (.cells cs elem fz gr) ∧ fz.2 ≤ fz.1 ∧
      ((a.off + vs.length ≤ cs.length ∧ k ⟨st.h.set a.block (.cells (cs.take a.off ++ (vs ++ cs.drop (a.off + vs.length))) elem fz gr), st.nx⟩ = r) ∨
       (vs = [] ∧ k ⟨st.h.set a.block (.cells cs elem fz gr), st.nx⟩ = r)) := by
  obtain ⟨h1, cs, e, fz, gr, h2, h3⟩ := cellsAt_inv h hz
  obtain ⟨h4, h5⟩ := leK_inv h3 hz
  refine ⟨h1, cs, e, fz, gr, h2, h4, ?_⟩
  rcases putsK_inv h5 hz with ⟨ha, hb⟩ | ⟨ha, hb⟩
  · left; refine ⟨ha, ?_⟩; rw [setO_eq] at hb; exact hb
  · right; refine ⟨ha, ?_⟩; rw [setO_eq] at hb; exact hb
end

end Go.AM
namespace Go.AM

/-- The cells of an abstract object as they lie in a world. -/
structure CellsOk (P : Program) (ι : Inj) (w : World) (cs : List Value) (elem : TypeId) (fz : Nat × Nat) (gr : Bool) (l : Loc) (C : Array Value) (fz' : Nat × Nat) : Prop where
  there : w.heap[l.blk]? = some (.cells C elem fz')
  room : l.sh + cs.length + l.ex * P.cellsOf elem ≤ C.size
  cell : ∀ (i : Nat) (h : i < cs.length), ∃ c, C[l.sh + i]? = some c ∧ VRel ι cs[i] c
  warm : fz.2 ≤ fz.1 → ∀ i, l.sh ≤ i → i < l.sh + cs.length + l.ex * P.cellsOf elem → ¬(fz'.1 ≤ i ∧ i < fz'.2)
  plain : gr = false → l.ex = 0 ∧ l.sh = 0 ∧ C.size = cs.length

/-- Temporaries of a loop over a function's values. -/
noncomputable def tmpOf (t : PM Value) (n : Nat) : Value := Option.rec (motive := fun _ => Value) (.chan (some 0)) (fun v => v) (t.get n)

def JumpRel : Option XExit → Option Code → Prop
  | none, none => True
  | some (.exit i), some (.exit j) => i = j
  | some .ret, some .ret => True
  | _, _ => False

/-- Stamps of a map's entries: those below the clock are apart and below the clock's, and those from the clock on go on by one. -/
structure SgOk (sg : Nat → Nat) (clock : Nat) : Prop where
  inj : ∀ s t, s < clock → t < clock → sg s = sg t → s = t
  lt : ∀ s, s < clock → sg s < sg clock
  up : ∀ j, sg (clock + j) = sg clock + j

/-- A map's entries. -/
structure MapRel (ι : Inj) (sg : Nat → Nat) (es : List MapEntry) (clock : Nat) (C : List MapEntry) (clock' : Nat) : Prop where
  clk : clock' = sg clock
  sgs : SgOk sg clock
  born : ∀ e ∈ es, e.born < clock
  keys : es.Pairwise (fun a b => a.key ≠ b.key)
  borns : es.Pairwise (fun a b => a.born ≠ b.born)
  same : ∃ l : List MapEntry, l.Perm es ∧ l.length = C.length ∧ ∀ (i : Nat) (h : i < l.length) (h' : i < C.length), VRel ι l[i].key C[i].key ∧ VRel ι l[i].val C[i].val ∧ C[i].born = sg l[i].born
theorem MapRel.mono {ι κ : Inj} {sg : Nat → Nat} {es : List MapEntry} {clock : Nat} {C : List MapEntry} {clock' : Nat} (hle : ι.le κ) (h : MapRel ι sg es clock C clock') : MapRel κ sg es clock C clock' :=
  ⟨h.clk, h.sgs, h.born, h.keys, h.borns, let ⟨l, h1, h2, h3⟩ := h.same; ⟨l, h1, h2, fun i a b => ⟨(h3 i a b).1.mono hle, (h3 i a b).2.1.mono hle, (h3 i a b).2.2⟩⟩⟩

/-- What a translation of code must meet: given from outside, so that this text needs no more of it. -/
structure Ctx where
  P : Program
  /-- That abstract code is a translation of code, in a function. -/
  ok : FuncId → Code → XCode → Prop
  ng : Nat
  /-- Functions without a Go body: abi.NoEscape, bytealg.IndexByteString. -/
  noesc : FuncId → Bool
  ibs : FuncId → Bool
  noescOk : ∀ f, noesc f = true → ∀ x w, (callFunc f #[x]).run P w = .ok (.value x) w
  ibsOk : ∀ f, ibs f = true → ∀ s c w, (callFunc f #[.string s, .int .u8 c]).run P w = .ok (.value (goInt (match (List.range s.size).find? (fun i => s[i]! == c.toNat.toUInt8) with | some i => (i : Int) | none => -1))) w
  /-- Types of keys, kinds of maps' keys. -/
  keys : TypeId → Option KS
  keysOk : ∀ k ks, keys k = some ks → Maps.Keyed P k ∧ ∀ v, ks.ok v = true → ∃ l, keyOf P k v = some l
  /-- bytealg.CountString. -/
  cntf : FuncId → Bool
  cntOk : ∀ f, cntf f = true → ∀ s c w, (callFunc f #[.string s, .int .u8 c]).run P w = .ok (.value (goInt (s.data.toList.countP (fun b => b == c.toNat.toUInt8) : Nat))) w
  /-- bytealg.IndexString, and the global bytealg.MaxLen. -/
  idxf : FuncId → Bool
  mlg : Nat
  mlgOk : mlg < ng
  idxOk : ∀ f, idxf f = true → ∀ (s b : ByteArray) (m : Int) w, (load ⟨mlg, 0, none⟩).run P w = .ok (.int .i64 m) w → 2 ≤ b.size → (b.size : Int) ≤ m → s.size ≤ 1000000 →
    (callFunc f #[.string s, .string b]).run P w = .ok (.value (goInt (match subX b.data.toList s.data.toList with | some i => (i : Int) | none => -1))) w
  /-- Structs and arrays of so many plain cells, that are compared cell by cell. -/
  eqs : TypeId → Option Nat
  eqsOk : ∀ t n, eqs t = some n → P.eqGuardType P.depth t = false ∧ ∀ xs ys b w, xs.size = n → ys.size = n → eqFlat xs.toList ys.toList = some b → (Op.equalIn 10000 t (.agg xs) (.agg ys)).run P w = .ok b w

variable (X : Ctx)

/-- An abstract object as it lies in a world. -/
def OMatch (ι : Inj) (w : World) (o : AObj) (l : Loc) : Prop :=
  match o with
  | .cells cs elem fz gr => ∃ C fz', CellsOk X.P ι w cs elem fz gr l C fz'
  | .map es clock => l.sh = 0 ∧ l.ex = 0 ∧ ∃ C clock', w.heap[l.blk]? = some (.map C clock') ∧ MapRel ι l.sg es clock C.toList clock'
  | .siter s pos => l.sh = 0 ∧ l.ex = 0 ∧ w.heap[l.blk]? = some (.stringIter s pos)
  | .miter m since seen stepped => l.sh = 0 ∧ l.ex = 0 ∧ ∃ m' since' seen' last', w.heap[l.blk]? = some (.mapIter m' since' seen' last') ∧
      (m = none ∧ m' = none ∨ ∃ r b sg, m = some r ∧ m' = some b ∧ ι r = some ⟨b, 0, 0, sg⟩ ∧ since' = sg since ∧ seen'.toList = seen.map sg ∧ last' = sg stepped)
  | .loop s pend fn t ps asg body d => l.sh = 0 ∧ l.ex = 0 ∧ ∃ L : Loop, w.heap[l.blk]? = some (.loop L) ∧ L.state = s ∧ JumpRel pend L.pending ∧ L.fn = fn ∧
      (∀ n, VRel ι (tmpOf t n) (L.tmps.getD n undef)) ∧ L.params.toList = ps ∧ X.ok fn L.assign asg ∧ X.ok fn L.body body ∧ ι d = some ⟨L.defers, 0, 0, id⟩ ∧
      (∃ F, X.P.funcs[fn]? = some F ∧ L.tmps.size = F.ntmps) ∧ ∀ t ∈ ps, t < L.tmps.size
  | .defd calls => l.sh = 0 ∧ l.ex = 0 ∧ ((calls = some [] ∧ w.heap[l.blk]? = some (.deferred (some []))) ∨ (calls = none ∧ w.heap[l.blk]? = some (.deferred none)))
  | .dead => True

/-- An object that is never written. -/
def AObj.froz : AObj → Prop
  | .cells _ _ fz gr => gr = false ∧ fz.1 < fz.2
  | _ => False

/-- An abstract heap stands for a world. -/
structure WRel (ι : Inj) (st : St) (w : World) : Prop where
  objs : ∀ id o, st.h.get id = some o → o ≠ .dead → ∃ l, ι id = some l ∧ OMatch X ι w o l
  inj : ∀ i j o p l m, st.h.get i = some o → o ≠ .dead → st.h.get j = some p → p ≠ .dead → ι i = some l → ι j = some m → l.blk = m.blk → i = j
  fresh : ∀ id, st.nx ≤ id → ι id = none ∧ st.h.get id = none
  bnd : ∀ id l, ι id = some l → l.blk < w.heap.size
  glob : ∀ g, g < X.ng → ι g = some ⟨g, 0, 0, gsg⟩
  globs : X.ng ≤ st.nx
  prot : ∀ i l o, ι i = some l → l.sg = gsg → st.h.get i = some o → o ≠ .dead → o.froz

/-- Nothing was said to the outside. -/
def SameOut (w w' : World) : Prop := w'.os = w.os ∧ w'.output = w.output

/-- What is kept of a world that an abstract state does not speak of. -/
structure Keeps (ι κ : Inj) (w w' : World) : Prop where
  le : ι.le κ
  size : w.heap.size ≤ w'.heap.size
  kept : ∀ b, b < w.heap.size → (∀ id l, ι id = some l → l.sg ≠ gsg → l.blk ≠ b) → w'.heap[b]? = w.heap[b]?
  new : ∀ id l, κ id = some l → ι id = some l ∨ w.heap.size ≤ l.blk ∨ ∃ j m, ι j = some m ∧ m.sg ≠ gsg ∧ m.blk = l.blk
  so : SameOut w w'

theorem Keeps.refl (ι : Inj) (w : World) : Keeps ι ι w w := ⟨.refl ι, Nat.le_refl _, fun _ _ _ => rfl, fun _ _ h => .inl h, ⟨rfl, rfl⟩⟩
theorem Keeps.trans {ι κ μ : Inj} {w w' w'' : World} (h : Keeps ι κ w w') (h' : Keeps κ μ w' w'') : Keeps ι μ w w'' := by
  refine ⟨h.le.trans h'.le, Nat.le_trans h.size h'.size, fun b hb hi => ?_, fun id l hl => ?_, ⟨h'.so.1.trans h.so.1, h'.so.2.trans h.so.2⟩⟩
  · rw [h'.kept b (Nat.lt_of_lt_of_le hb h.size) ?_, h.kept b hb hi]
    intro id l hl hs e
    rcases h.new id l hl with hn | hn | ⟨j, m, hj, hs', hm⟩
    · exact hi id l hn hs e
    · omega
    · exact hi j m hj hs' (by omega)
  · rcases h'.new id l hl with hn | hn | ⟨j, m, hj, hs, hm⟩
    · exact h.new id l hn
    · exact .inr (.inl (Nat.le_trans h.size hn))
    · rcases h.new j m hj with h1 | h1 | ⟨j', m', h1, h2, h3⟩
      · exact .inr (.inr ⟨j, m, h1, hs, hm⟩)
      · exact .inr (.inl (by omega))
      · exact .inr (.inr ⟨j', m', h1, h2, by omega⟩)

theorem CellsOk.mono {P : Program} {ι κ : Inj} {w w' : World} {cs : List Value} {elem : TypeId} {fz : Nat × Nat} {gr : Bool} {l : Loc} {C : Array Value} {fz' : Nat × Nat}
    (h : CellsOk P ι w cs elem fz gr l C fz') (hle : ι.le κ) (e : w'.heap[l.blk]? = w.heap[l.blk]?) : CellsOk P κ w' cs elem fz gr l C fz' :=
  ⟨by rw [e]; exact h.there, h.room, fun i hi => let ⟨c, h1, h2⟩ := h.cell i hi; ⟨c, h1, h2.mono hle⟩, h.warm, h.plain⟩

theorem OMatch.mono {ι κ : Inj} {w w' : World} {o : AObj} {l : Loc} (h : OMatch X ι w o l) (hle : ι.le κ) (e : w'.heap[l.blk]? = w.heap[l.blk]?) : OMatch X κ w' o l := by
  cases o with
  | cells cs elem fz gr => obtain ⟨C, fz', hc⟩ := h; exact ⟨C, fz', hc.mono hle e⟩
  | map es clock =>
    obtain ⟨h0, h0', C, c', h1, h2⟩ := h
    exact ⟨h0, h0', C, c', by rw [e]; exact h1, h2.mono hle⟩
  | siter s pos => obtain ⟨h0, h0', h1⟩ := h; exact ⟨h0, h0', by rw [e]; exact h1⟩
  | miter m since seen stepped =>
    obtain ⟨h0, h0', m', s', n', t', h1, h2⟩ := h
    refine ⟨h0, h0', m', s', n', t', by rw [e]; exact h1, ?_⟩
    rcases h2 with h2 | ⟨r, b, sg, h3, h4, h5, h6⟩
    · exact .inl h2
    · exact .inr ⟨r, b, sg, h3, h4, hle _ _ h5, h6⟩
  | loop s pend fn t ps asg body d =>
    obtain ⟨h0, h0', L, h1, h2, h3, h4, h5, h6, h7, h8, h9, h10⟩ := h
    exact ⟨h0, h0', L, by rw [e]; exact h1, h2, h3, h4, fun n => (h5 n).mono hle, h6, h7, h8, hle _ _ h9, h10⟩
  | defd calls =>
    obtain ⟨h0, h0', h1⟩ := h
    refine ⟨h0, h0', ?_⟩
    rw [e]; exact h1
  | dead => trivial

/-- A world that differs in what was drawn alone. -/
theorem WRel.same_heap {ι : Inj} {st : St} {w w' : World} (h : WRel X ι st w) (e : w'.heap = w.heap) : WRel X ι st w' := by
  refine ⟨fun id o ho hd => ?_, h.inj, h.fresh, fun id l hl => by rw [e]; exact h.bnd id l hl, h.glob, h.globs, h.prot⟩
  obtain ⟨l, hl, hm⟩ := h.objs id o ho hd
  exact ⟨l, hl, OMatch.mono X hm (.refl ι) (by rw [e])⟩
theorem Keeps.same_heap (ι : Inj) {w w' : World} (e : w'.heap = w.heap) (so : SameOut w w' := by exact ⟨rfl, rfl⟩) : Keeps ι ι w w' :=
  ⟨.refl ι, by rw [e]; exact Nat.le_refl _, fun _ _ _ => by rw [e], fun _ _ h => .inl h, so⟩

def extI (ι : Inj) (id : Nat) (l : Loc) : Inj := fun i => if i = id then some l else ι i

/-- A new block, and a new abstract object for it. -/
theorem WRel.alloc {ι : Inj} {st : St} {w : World} (h : WRel X ι st w) (o : AObj) (O : Obj) (ex : Nat)
    (hm : ∀ κ w', ι.le κ → κ st.nx = some ⟨w.heap.size, 0, ex, id⟩ → w'.heap[w.heap.size]? = some O → OMatch X κ w' o ⟨w.heap.size, 0, ex, id⟩) (w' : World) (hw : w'.heap = w.heap.push O) (so : SameOut w w' := by exact ⟨rfl, rfl⟩) :
    ∃ κ, WRel X κ ⟨st.h.set st.nx o, st.nx + 1⟩ w' ∧ Keeps ι κ w w' ∧ κ st.nx = some ⟨w.heap.size, 0, ex, id⟩ ∧ κ = extI ι st.nx ⟨w.heap.size, 0, ex, id⟩ := by
  refine ⟨fun i => if i = st.nx then some ⟨w.heap.size, 0, ex, id⟩ else ι i, ?_, ?_, if_pos rfl, rfl⟩
  · have hle : ι.le (fun i => if i = st.nx then some ⟨w.heap.size, 0, ex, id⟩ else ι i) := by
      intro i l hl
      show (if i = st.nx then _ else ι i) = _
      rw [if_neg]; exact hl
      intro e; subst e; rw [(h.fresh _ (Nat.le_refl _)).1] at hl; cases hl
    refine ⟨fun id p hp hd => ?_, fun i j p q l m hi hdi hj hdj hli hlj e => ?_, fun id hid => ?_, fun id l hl => ?_, fun g hg => ?_, Nat.le_succ_of_le h.globs, fun i l p hl hs hp hd => ?_⟩
    · rw [PM.get_set] at hp
      by_cases e : id = st.nx
      · rw [if_pos e] at hp
        cases hp
        subst e
        exact ⟨_, if_pos rfl, hm _ _ hle (if_pos rfl) (by rw [hw]; simp)⟩
      · rw [if_neg e] at hp
        obtain ⟨l, hl, ho⟩ := h.objs id p hp hd
        refine ⟨l, hle _ _ hl, OMatch.mono X ho hle ?_⟩
        have := h.bnd id l hl
        rw [hw, Array.getElem?_push, if_neg (by omega)]
    · rw [PM.get_set] at hi hj
      by_cases ei : i = st.nx <;> by_cases ej : j = st.nx
      · rw [ei, ej]
      · exfalso
        simp only [if_neg ej] at hlj
        simp only [if_pos ei] at hli
        have := h.bnd j m hlj
        cases hli; simp only at e; omega
      · exfalso
        simp only [if_neg ei] at hli
        simp only [if_pos ej] at hlj
        have := h.bnd i l hli
        cases hlj; simp only at e; omega
      · simp only [if_neg ei] at hli hi
        simp only [if_neg ej] at hlj hj
        exact h.inj i j p q l m hi hdi hj hdj hli hlj e
    · have hid' : st.nx + 1 ≤ id := hid
      have := h.fresh id (by omega)
      refine ⟨?_, ?_⟩
      · show (if id = st.nx then _ else ι id) = _
        rw [if_neg (by omega)]; exact this.1
      · rw [PM.get_set, if_neg (by omega)]; exact this.2
    · rw [hw, Array.size_push]
      by_cases e : id = st.nx
      · simp only [if_pos e] at hl; cases hl; simp
      · simp only [if_neg e] at hl; have := h.bnd id l hl; omega
    · exact hle _ _ (h.glob g hg)
    · rw [PM.get_set] at hp
      by_cases e : i = st.nx
      · simp only [if_pos e] at hl; cases hl; exact absurd hs id_gsg
      · simp only [if_neg e] at hl hp; exact h.prot i l p hl hs hp hd
  · refine ⟨?_, by rw [hw]; simp, fun b hb _ => by rw [hw, Array.getElem?_push, if_neg (by omega)], fun id l hl => ?_, so⟩
    · intro i l hl
      show (if i = st.nx then _ else ι i) = _
      rw [if_neg]; exact hl
      intro e; subst e; rw [(h.fresh _ (Nat.le_refl _)).1] at hl; cases hl
    · by_cases e : id = st.nx
      · simp only [if_pos e] at hl; cases hl; exact .inr (.inl (Nat.le_refl _))
      · simp only [if_neg e] at hl; exact .inl hl

/-- An abstract object and its block are turned. -/
theorem WRel.turn {ι : Inj} {st : St} {w : World} (h : WRel X ι st w) {id : Nat} {l : Loc} {o₀ : AObj} (h₀ : st.h.get id = some o₀) (hd₀ : o₀ ≠ .dead) (hnf : ¬ o₀.froz) (hl : ι id = some l) (o : AObj) (O : Obj)
    (w' : World) (hw : w'.heap = w.heap.setIfInBounds l.blk O) (hm : o ≠ .dead → w'.heap[l.blk]? = some O → OMatch X ι w' o l) (so : SameOut w w' := by exact ⟨rfl, rfl⟩) :
    WRel X ι ⟨st.h.set id o, st.nx⟩ w' ∧ Keeps ι ι w w' := by
  have hb := h.bnd id l hl
  have hsg : l.sg ≠ gsg := fun e => hnf (h.prot id l o₀ hl e h₀ hd₀)
  refine ⟨⟨fun j p hp hd => ?_, fun i j p q a b hi hdi hj hdj hli hlj e => ?_, fun j hj => ?_, fun j a ha => ?_, h.glob, h.globs, fun j a p ha hs hp hd => ?_⟩, ?_⟩
  · rw [PM.get_set] at hp
    by_cases e : j = id
    · rw [if_pos e] at hp
      cases hp; subst e
      exact ⟨l, hl, hm hd (by rw [hw]; simp [hb])⟩
    · rw [if_neg e] at hp
      obtain ⟨m, hm', ho⟩ := h.objs j p hp hd
      refine ⟨m, hm', OMatch.mono X ho (.refl ι) ?_⟩
      have hne : m.blk ≠ l.blk := fun eb => e (h.inj j id p o₀ m l hp hd h₀ hd₀ hm' hl eb)
      rw [hw, Array.getElem?_setIfInBounds_ne (Ne.symm hne)]
  · rw [PM.get_set] at hi hj
    have gi : ∃ p', st.h.get i = some p' ∧ p' ≠ .dead := by
      by_cases e : i = id
      · subst e; exact ⟨o₀, h₀, hd₀⟩
      · rw [if_neg e] at hi; exact ⟨p, hi, hdi⟩
    have gj : ∃ p', st.h.get j = some p' ∧ p' ≠ .dead := by
      by_cases e : j = id
      · subst e; exact ⟨o₀, h₀, hd₀⟩
      · rw [if_neg e] at hj; exact ⟨q, hj, hdj⟩
    obtain ⟨p', hp1, hp2⟩ := gi
    obtain ⟨q', hq1, hq2⟩ := gj
    exact h.inj i j p' q' a b hp1 hp2 hq1 hq2 hli hlj e
  · have := h.fresh j hj
    refine ⟨this.1, ?_⟩
    rw [PM.get_set, if_neg]; exact this.2
    intro e; subst e; rw [this.2] at h₀; cases h₀
  · rw [hw]; simpa using h.bnd j a ha
  · rw [PM.get_set] at hp
    by_cases e : j = id
    · subst e; rw [hl] at ha; cases ha; exact absurd hs hsg
    · rw [if_neg e] at hp; exact h.prot j a p ha hs hp hd
  · refine ⟨.refl ι, by rw [hw]; simp, fun b _ hi => ?_, fun _ _ hh => .inl hh, so⟩
    rw [hw, Array.getElem?_setIfInBounds_ne (hi id l hl hsg)]

end Go.AM
namespace Go.AM

mutual
/-- No address stands in a value. -/
def vpure : Value → Bool
  | .bool _ | .int _ _ | .float _ _ | .string _ | .pointer none | .slice none _ _ | .map none | .nilFunc | .nilIface => true
  | .func (.func _) x y => vpureA x && vpureA y
  | .iface _ v => vpure v
  | .agg a | .tuple a => vpureA a
  | _ => false
def vpureA : Array Value → Bool
  | ⟨a⟩ => vpureL a
def vpureL : List Value → Bool
  | [] => true
  | a :: as => vpure a && vpureL as
end

mutual
theorem VRel.pure (ι : Inj) : ∀ v : Value, vpure v = true → VRel ι v v
  | .bool b, _ => .bool b
  | .int k n, _ => .int k n
  | .float k n, _ => .float k n
  | .complex _ _ _, h => by simp [vpure] at h
  | .string s, _ => .string s
  | .pointer none, _ => .ptrNil
  | .pointer (some _), h => by simp [vpure] at h
  | .slice none n c, _ => .slcNil n c
  | .slice (some _) _ _, h => by simp [vpure] at h
  | .map none, _ => .mapNil
  | .map (some _), h => by simp [vpure] at h
  | .chan _, h => by simp [vpure] at h
  | .func (.func f) x y, h => by
    simp only [vpure, Bool.and_eq_true] at h
    exact VRel.of_func (.inl ⟨rfl, by simp⟩) (VRels.pureA ι x h.1) (VRels.pureA ι y h.2)
  | .func (.method _) _ _, h => by simp [vpure] at h
  | .func (.methodOf _ _) _ _, h => by simp [vpure] at h
  | .func (.via _ _ _ _) _ _, h => by simp [vpure] at h
  | .func (.yield _) _ _, h => by simp [vpure] at h
  | .nilFunc, _ => .nilFunc
  | .iface t v, h => .iface t v v (VRel.pure ι v (by simpa [vpure] using h))
  | .nilIface, _ => .nilIface
  | .agg a, h => VRel.of_agg (VRels.pureA ι a (by simpa [vpure] using h))
  | .tuple a, h => VRel.of_tuple (VRels.pureA ι a (by simpa [vpure] using h))
theorem VRels.pureA (ι : Inj) : ∀ v : Array Value, vpureA v = true → VRels ι v.toList v.toList
  | ⟨a⟩, h => VRels.pureL ι a (by simpa [vpureA] using h)
theorem VRels.pureL (ι : Inj) : ∀ v : List Value, vpureL v = true → VRels ι v v
  | [], _ => VRels.nil ι
  | a :: as, h => by
    simp only [vpureL, Bool.and_eq_true] at h
    exact VRels.cons (VRel.pure ι a h.1) (VRels.pureL ι as h.2)
end

theorem VRel.undef (ι : Inj) : VRel ι undef undef := VRel.pure ι _ rfl

/-- Operands that a translation may have. -/
def opdOk (ng : Nat) : Operand → Bool
  | .tmp _ => true
  | .const v => vpure v
  | .global g => Nat.ble (Nat.succ g) ng
  | .func _ => true

def DRel (ι : Inj) (d e : Deferred) : Prop :=
  VRels ι d.args.toList e.args.toList ∧
  match d.target, e.target with
  | .fn f c, .fn g c' => FnRel ι f g ∧ VRels ι c.toList c'.toList
  | .collected r, .collected b => ι r = some ⟨b, 0, 0, id⟩
  | _, _ => False
def DRels (ι : Inj) : List Deferred → List Deferred → Prop
  | [], [] => True
  | d :: ds, e :: es => DRel ι d e ∧ DRels ι ds es
  | _, _ => False
theorem DRel.mono {ι κ : Inj} (hle : ι.le κ) {d e : Deferred} (h : DRel ι d e) : DRel κ d e := by
  obtain ⟨h1, h2⟩ := h
  refine ⟨h1.mono hle, ?_⟩
  cases hd : d.target <;> cases he : e.target <;> simp only [hd, he] at h2 ⊢
  · exact ⟨h2.1.mono hle, h2.2.mono hle⟩
  · exact hle _ _ h2
theorem DRels.mono {ι κ : Inj} (hle : ι.le κ) : ∀ {ds es : List Deferred}, DRels ι ds es → DRels κ ds es
  | [], [], _ => trivial
  | _ :: _, _ :: _, h => ⟨h.1.mono hle, DRels.mono hle h.2⟩
  | [], _ :: _, h => h.elim
  | _ :: _, [], h => h.elim

/-- An abstract frame stands for the model's. -/
structure FRel (ι : Inj) (fr : AFr) (a : Act) (nt : Nat) : Prop where
  tmp : ∀ t, VRel ι (fr.tmp t) (a.tmps.getD t undef)
  size : a.tmps.size = nt
  df : DRels ι fr.df a.defers
theorem FRel.mono {ι κ : Inj} (hle : ι.le κ) {fr : AFr} {a : Act} {nt : Nat} (h : FRel ι fr a nt) : FRel κ fr a nt :=
  ⟨fun t => (h.tmp t).mono hle, h.size, h.df.mono hle⟩

variable {X : Ctx}

theorem FRel.ev {ι : Inj} {fr : AFr} {a : Act} {nt : Nat} {st : St} {w : World} (h : FRel ι fr a nt) (hw : WRel X ι st w) {x : Operand} (hx : opdOk X.ng x = true) : VRel ι (fr.ev x) (a.eval x) := by
  cases x with
  | tmp t => exact h.tmp t
  | const v => exact VRel.pure ι v hx
  | global g =>
    have hg : g < X.ng := ble_true.1 hx
    have := VRel.ptr (ι := ι) ⟨g, 0, none⟩ ⟨g, 0, 0, gsg⟩ (hw.glob g hg) rfl
    show VRel ι (.pointer (some ⟨g, 0, none⟩)) (.pointer (some ⟨g, 0, none⟩))
    simpa using this
  | func f => exact VRel.of_func (.inl ⟨rfl, by simp⟩) (VRels.nil ι) (VRels.nil ι)

theorem FRel.put {ι : Inj} {fr : AFr} {a : Act} {nt : Nat} (h : FRel ι fr a nt) {d : Option Tmp} (hd : ∀ t, d = some t → t < nt) {v v' : Value} (hv : VRel ι v v') : FRel ι (fr.put d v) (a.put d v') nt := by
  cases d with
  | none => exact h
  | some d =>
    refine ⟨fun t => ?_, by simp [Act.put, h.size], by rw [(put_fields fr (some d) v).1]; exact h.df⟩
    rw [tmp_put]
    have hlt : d < a.tmps.size := by rw [h.size]; exact hd d rfl
    simp only [Act.put, Option.some.injEq]
    by_cases e : d = t
    · subst e; rw [if_pos rfl]; simp [Array.getD, hlt]; exact hv
    · rw [if_neg e]
      have := h.tmp t
      simp only [Array.getD_eq_getD_getElem?] at this ⊢
      rw [Array.getElem?_setIfInBounds_ne e]; exact this

/-- The outcome of an operation that hands on a value, or nothing. -/
def NextOk (κ : Inj) (v : Value) (n : Next) : Prop := (∃ v', n = .value v' ∧ VRel κ v v') ∨ (n = .skip ∧ v = undef)

/-- An operation's run stands for its evaluation. -/
def Sim (X : Ctx) (ι : Inj) (w : World) (v : Value) (st' : St) (s : Sem Next) : Prop :=
  ∃ κ n w', s.run X.P w = .ok n w' ∧ NextOk κ v n ∧ WRel X κ st' w' ∧ Keeps ι κ w w'

/-- The same, where nothing is written. -/
def SimR (X : Ctx) (ι : Inj) (w : World) (v : Value) (st st' : St) (s : Sem Next) : Prop :=
  st' = st ∧ WRel X ι st w ∧ ∃ v', s.run X.P w = .ok (.value v') w ∧ VRel ι v v'
theorem SimR.same {ι : Inj} {w : World} {v v' : Value} {st : St} {s : Sem Next} (hw : WRel X ι st w) (hr : s.run X.P w = .ok (.value v') w) (hv : VRel ι v v') : SimR X ι w v st st s :=
  ⟨rfl, hw, v', hr, hv⟩
theorem SimR.sim {ι : Inj} {w : World} {v : Value} {st st' : St} {s : Sem Next} (h : SimR X ι w v st st' s) : Sim X ι w v st' s := by
  obtain ⟨rfl, hw, v', hr, hv⟩ := h
  exact ⟨ι, _, w, hr, .inl ⟨v', rfl, hv⟩, hw, .refl ι w⟩

/-- The same, where a new block is made and nothing else is done. -/
def SimA (X : Ctx) (ι : Inj) (w : World) (v : Value) (st st' : St) (s : Sem Next) : Prop :=
  ∃ o O ex v' w', st' = ⟨st.h.set st.nx o, st.nx + 1⟩ ∧ o ≠ .dead ∧ s.run X.P w = .ok (.value v') w' ∧ w'.heap = w.heap.push O ∧
    VRel (extI ι st.nx ⟨w.heap.size, 0, ex, id⟩) v v' ∧ WRel X (extI ι st.nx ⟨w.heap.size, 0, ex, id⟩) st' w' ∧ Keeps ι (extI ι st.nx ⟨w.heap.size, 0, ex, id⟩) w w'
theorem SimA.sim {ι : Inj} {w : World} {v : Value} {st st' : St} {s : Sem Next} (h : SimA X ι w v st st' s) : Sim X ι w v st' s := by
  obtain ⟨o, O, ex, v', w', _, _, hr, _, hv, hw, hk⟩ := h
  exact ⟨_, _, w', hr, .inl ⟨v', rfl, hv⟩, hw, hk⟩

theorem Sim.same {ι : Inj} {w : World} {v v' : Value} {st : St} {s : Sem Next} (hw : WRel X ι st w) (hr : s.run X.P w = .ok (.value v') w) (hv : VRel ι v v') : Sim X ι w v st s :=
  ⟨ι, _, w, hr, .inl ⟨v', rfl, hv⟩, hw, .refl ι w⟩

section
variable {ι : Inj} {fr fr' : AFr} {a : Act} {nt : Nat} {st st' : St} {w : World} {o : Oper} {v : Value} {call : CallT}

theorem sim_mv {x : Operand} (hx : opdOk X.ng x = true) (ho : o.op = .move x ∨ o.op = .assign x) (hf : FRel ι fr a nt) (hw : WRel X ι st w) (h : op_mv x call fr st = .ok v fr' st') :
    fr' = fr ∧ SimR X ι w v st st' (execOp a.eval o) := by
  cases h
  refine ⟨rfl, SimR.same (v' := a.eval x) hw ?_ (hf.ev hw hx)⟩
  unfold execOp
  rcases ho with ho | ho <;> rw [ho] <;> rfl

theorem sim_pick {c x y : Operand} (hc : opdOk X.ng c = true) (hx : opdOk X.ng x = true) (hy : opdOk X.ng y = true) (ho : o.op = .pick c x y) (hf : FRel ι fr a nt) (hw : WRel X ι st w) (h : op_pick c x y call fr st = .ok v fr' st') :
    fr' = fr ∧ SimR X ι w v st st' (execOp a.eval o) := by
  obtain ⟨t, ht, h⟩ := vBool_inv h (by simp)
  cases h
  have hc' := hf.ev hw hc
  rw [ht] at hc'
  generalize hcv : a.eval c = cv at hc'
  cases hc'
  refine ⟨rfl, SimR.same (v' := if t then a.eval x else a.eval y) hw ?_ ?_⟩
  · unfold execOp; rw [ho]; simp [hcv, asBool]
  · cases t
    · exact hf.ev hw hy
    · exact hf.ev hw hx
end

end Go.AM
namespace Go.AM
variable {X : Ctx}

theorem cell_of {w : World} {b o : Nat} {C : Array Value} {e : TypeId} {fz : Nat × Nat} (h : w.heap[b]? = some (.cells C e fz)) : w.cell? ⟨b, o, none⟩ = C[o]? := by
  simp [World.cell?, h]
theorem frozen_of {w : World} {b o : Nat} {C : Array Value} {e : TypeId} {fz : Nat × Nat} (h : w.heap[b]? = some (.cells C e fz)) : w.frozen? ⟨b, o, none⟩ = (decide (fz.1 ≤ o) && decide (o < fz.2)) := by
  obtain ⟨lo, hi⟩ := fz
  simp [World.frozen?, h]

/-- What lies in a row of cells, from a place on. -/
theorem CellsOk.row {P : Program} {ι : Inj} {w : World} {cs : List Value} {elem : TypeId} {fz : Nat × Nat} {gr : Bool} {l : Loc} {C : Array Value} {fz' : Nat × Nat}
    (h : CellsOk P ι w cs elem fz gr l C fz') (off n : Nat) (hn : n ≤ (cs.drop off).length) : VRels ι ((cs.drop off).take n) ((C.toList.drop (l.sh + off)).take n) := by
  have hlen : (cs.drop off).length = cs.length - off := by simp
  have hroom := h.room
  refine ⟨by simp; omega, fun i a b => ?_⟩
  simp only [List.length_take, List.length_drop] at a b
  obtain ⟨c, h1, h2⟩ := h.cell (off + i) (by omega)
  have hi : l.sh + (off + i) < C.size := (Array.getElem?_eq_some_iff.1 h1).1
  rw [Array.getElem?_eq_getElem hi] at h1
  cases h1
  simp only [List.getElem_take, List.getElem_drop, Array.getElem_toList]
  have e : l.sh + off + i = l.sh + (off + i) := by omega
  simp only [e]
  exact h2

/-- A load of some cells. -/
theorem run_cells {P : Program} {w : World} {b o n : Nat} {C : Array Value} {e : TypeId} {fz : Nat × Nat} (h : w.heap[b]? = some (.cells C e fz)) (hn : o + n ≤ C.size) :
    (loadCells ⟨b, o, none⟩ n).run P w = .ok ((C.toList.drop o).take n).toArray w := by
  have hl : ((C.toList.drop o).take n).length = n := by simp; omega
  have := run_loadCells_list (P := P) w ⟨b, o, none⟩ ((C.toList.drop o).take n) (fun j v hj => by
    have hjn : j < n := by
      have := (List.getElem?_eq_some_iff.1 hj).1
      omega
    have e1 : (Addr.add ⟨b, o, none⟩ j) = ⟨b, o + j, none⟩ := by unfold Addr.add; split <;> simp_all
    rw [e1, cell_of h]
    rw [List.getElem?_take, if_pos hjn, List.getElem?_drop] at hj
    simpa using hj)
  rwa [hl] at this

/-- A store of some cells. -/
theorem run_stores {P : Program} {b o : Nat} {e : TypeId} {fz : Nat × Nat} : ∀ (vs : List Value) (i : Nat) (C : Array Value) (w : World), w.heap[b]? = some (.cells C e fz) → o + i + vs.length ≤ C.size →
    (∀ v ∈ vs, v.oneCell' = true) → (∀ j, o + i ≤ j → j < o + i + vs.length → ¬(fz.1 ≤ j ∧ j < fz.2)) →
    ∃ w', (storeCells ⟨b, o, none⟩ vs i).run P w = .ok () w' ∧
      w'.heap = w.heap.setIfInBounds b (.cells (C.toList.take (o + i) ++ (vs ++ C.toList.drop (o + i + vs.length))).toArray e fz) ∧ SameOut w w'
  | [], i, C, w, h, hn, _, _ => by
    refine ⟨w, rfl, ?_, ⟨rfl, rfl⟩⟩
    have : (C.toList.take (o + i) ++ ([] ++ C.toList.drop (o + i + ([] : List Value).length))).toArray = C := by simp
    rw [this]
    apply Array.ext_getElem?
    intro j
    by_cases ej : b = j
    · subst ej
      have := (Array.getElem?_eq_some_iff.1 h).1
      rw [Array.getElem?_setIfInBounds]; simp [this]; exact (Array.getElem?_eq_some_iff.1 h).2
    · rw [Array.getElem?_setIfInBounds_ne ej]
  | v :: vs, i, C, w, h, hn, h1, hf => by
    simp only [List.length_cons] at hn hf
    have e1 : (Addr.add ⟨b, o, none⟩ i) = ⟨b, o + i, none⟩ := by unfold Addr.add; split <;> simp_all
    have hlt : o + i < C.size := by omega
    have hc : w.cell? ⟨b, o + i, none⟩ = some C[o + i] := by rw [cell_of h, Array.getElem?_eq_getElem hlt]
    have hfz : w.frozen? ⟨b, o + i, none⟩ = false := by
      rw [frozen_of h]
      have := hf (o + i) (by omega) (by omega)
      simp only [Bool.and_eq_false_iff, decide_eq_false_iff_not]
      omega
    have hs : (store ⟨b, o + i, none⟩ v).run P w = .ok () (w.setCell ⟨b, o + i, none⟩ v) := by
      rw [run_store P w _ v _ (h1 v (by simp)), hc]; simp [hfz]
    have hb := (Array.getElem?_eq_some_iff.1 h).1
    have hh : (w.setCell ⟨b, o + i, none⟩ v).heap = w.heap.setIfInBounds b (.cells (C.setIfInBounds (o + i) v) e fz) := by
      simp only [World.setCell]
      apply Array.ext_getElem?
      intro j
      rw [Array.getElem?_modify]
      by_cases ej : b = j
      · subst ej; rw [if_pos rfl, h, Array.getElem?_setIfInBounds]; simp [hb]
      · rw [if_neg ej, Array.getElem?_setIfInBounds_ne ej]
    have h' : (w.setCell ⟨b, o + i, none⟩ v).heap[b]? = some (.cells (C.setIfInBounds (o + i) v) e fz) := by rw [hh]; simp [hb]
    obtain ⟨w', hr, hw', so⟩ := run_stores (P := P) (o := o) vs (i + 1) (C.setIfInBounds (o + i) v) (w.setCell ⟨b, o + i, none⟩ v) h' (by simp; omega) (fun x hx => h1 x (by simp [hx])) (fun j a c => hf j (by omega) (by omega))
    refine ⟨w', ?_, ?_, so⟩
    · unfold storeCells
      rw [e1, Sem.run_bind, hs]
      exact hr
    · rw [hw', hh]
      rw [Array.setIfInBounds_setIfInBounds]
      congr 3
      have hs1 : (C.setIfInBounds (o + i) v).toList = C.toList.set (o + i) v := by simp
      rw [hs1]
      have hl : o + i < C.toList.length := by simpa using hlt
      have t1 : (C.toList.set (o + i) v).take (o + (i + 1)) = C.toList.take (o + i) ++ [v] := by
        rw [show o + (i + 1) = (o + i) + 1 by omega, List.take_succ_eq_append_getElem (by simpa using hlt), List.take_set_of_le (Nat.le_refl _)]
        simp
      have t2 : (C.toList.set (o + i) v).drop (o + (i + 1) + vs.length) = C.toList.drop (o + i + (v :: vs).length) := by
        rw [List.drop_set_of_lt (by omega)]
        congr 1
        simp only [List.length_cons]; omega
      rw [t1, t2]
      simp

section
variable {ι : Inj} {fr fr' : AFr} {a : Act} {nt : Nat} {st st' : St} {w : World} {o : Oper} {v : Value} {call : CallT}

def aggD : TypeDesc → Bool
  | .struct _ | .array _ _ => true
  | _ => false

theorem isAgg_run {P : Program} {t : TypeId} {d : TypeDesc} (h : P.underlying t = some d) (w : World) : (isAgg t).run P w = .ok (aggD d) w := by
  unfold isAgg
  rw [Sem.run_bind, run_underlying h]
  cases d <;> rfl

theorem sizeOf_run {P : Program} {t : TypeId} {i : TypeInfo} (h : P.info? t = some i) (w : World) : (sizeOf t).run P w = .ok i.size w := by
  simp [sizeOf, typeInfo, h]

theorem sim_load1 {x : Operand} {t : TypeId} {d : TypeDesc} (hx : opdOk X.ng x = true) (ho : o.op = .load t x) (hd : X.P.underlying t = some d) (hda : aggD d = false)
    (hf : FRel ι fr a nt) (hw : WRel X ι st w) (h : op_load1 x call fr st = .ok v fr' st') :
    fr' = fr ∧ SimR X ι w v st st' (execOp a.eval o) := by
  obtain ⟨p, hp, h⟩ := vPointer_inv h (by simp)
  obtain ⟨ad, rfl, h⟩ := oK_inv h (by simp)
  obtain ⟨hs, cs, elem, fz, gr, hg, hn, h⟩ := load_inv h (by simp)
  obtain ⟨v1, hv1, h⟩ := one_inv h (by simp)
  cases h
  obtain ⟨l, hl, C, fz', hc⟩ := hw.objs _ _ hg (by simp)
  have hx' := hf.ev hw hx
  rw [hp] at hx'
  generalize hxv : a.eval x = xv at hx'
  cases hx' with
  | ptr _ l' hl' hs' =>
    rw [hl] at hl'; cases hl'
    have hlen : ad.off < cs.length := by simp at hn; omega
    have hrow := hc.row ad.off 1 hn
    rw [hv1] at hrow
    obtain ⟨y, ys, hy, hvy, _⟩ := hrow.cons_inv
    have hroom := hc.room
    have hys : C[l.sh + ad.off]? = some y := by
      have := congrArg (fun z => z[0]?) hy
      simpa using this
    refine ⟨rfl, SimR.same (v' := y) hw ?_ hvy⟩
    unfold execOp
    rw [ho]
    simp only [hxv, Instr.loadAt, Instr.sureAddr, loadVar, Sem.run_bind, Sem.run_pure, Result.andThen, isAgg_run hd, hda, Bool.false_eq_true, if_false, run_load]
    rw [cell_of hc.there, hys]

theorem sim_loadn {x : Operand} {t : TypeId} {d : TypeDesc} {i : TypeInfo} (hx : opdOk X.ng x = true) (ho : o.op = .load t x) (hd : X.P.underlying t = some d) (hda : aggD d = true)
    (hi : X.P.info? t = some i) (hf : FRel ι fr a nt) (hw : WRel X ι st w) (h : op_loadn i.size x call fr st = .ok v fr' st') :
    fr' = fr ∧ SimR X ι w v st st' (execOp a.eval o) := by
  obtain ⟨p, hp, h⟩ := vPointer_inv h (by simp)
  obtain ⟨ad, rfl, h⟩ := oK_inv h (by simp)
  obtain ⟨hs, cs, elem, fz, gr, hg, hn, h⟩ := load_inv h (by simp)
  cases h
  obtain ⟨l, hl, C, fz', hc⟩ := hw.objs _ _ hg (by simp)
  have hx' := hf.ev hw hx
  rw [hp] at hx'
  generalize hxv : a.eval x = xv at hx'
  cases hx' with
  | ptr _ l' hl' hs' =>
    rw [hl] at hl'; cases hl'
    have hrow := hc.row ad.off i.size hn
    have hroom := hc.room
    simp only [List.length_drop] at hn
    by_cases hz : i.size = 0
    · refine ⟨rfl, SimR.same (v' := .agg #[]) hw ?_ ?_⟩
      · unfold execOp
        rw [ho]
        simp only [hxv, Instr.loadAt, Instr.sureAddr, loadVar, Sem.run_bind, Sem.run_pure, Result.andThen, isAgg_run hd, hda, if_true, sizeOf_run hi, hz]
        rfl
      · rw [hz]; exact VRel.of_agg (by simpa using VRels.nil ι)
    refine ⟨rfl, SimR.same (v' := .agg ((C.toList.drop (l.sh + ad.off)).take i.size).toArray) hw ?_ (VRel.of_agg (by simpa using hrow))⟩
    unfold execOp
    rw [ho]
    simp only [hxv, Instr.loadAt, Instr.sureAddr, loadVar, Sem.run_bind, Sem.run_pure, Result.andThen, isAgg_run hd, hda, if_true, sizeOf_run hi]
    rw [run_cells hc.there (by omega)]
end

end Go.AM
namespace Go.AM
variable {X : Ctx}

theorem splice_get {α : Type} (l vs : List α) (n i : Nat) (h : n + vs.length ≤ l.length) :
    (l.take n ++ (vs ++ l.drop (n + vs.length)))[i]? = if i < n then l[i]? else if i < n + vs.length then vs[i - n]? else l[i]? := by
  by_cases h1 : i < n
  · rw [if_pos h1, List.getElem?_append_left (by simp; omega), List.getElem?_take, if_pos h1]
  · rw [if_neg h1, List.getElem?_append_right (by simp; omega)]
    have e : i - (l.take n).length = i - n := by simp; omega
    rw [e]
    by_cases h2 : i < n + vs.length
    · rw [if_pos h2, List.getElem?_append_left (by omega)]
    · rw [if_neg h2, List.getElem?_append_right (by omega), List.getElem?_drop]
      congr 1; omega

theorem CellsOk.store {P : Program} {ι : Inj} {w w' : World} {cs : List Value} {elem : TypeId} {fz : Nat × Nat} {gr : Bool} {l : Loc} {C : Array Value} {fz' : Nat × Nat}
    (h : CellsOk P ι w cs elem fz gr l C fz') {off : Nat} {vs vs' : List Value} (hle : off + vs.length ≤ cs.length) (hv : VRels ι vs vs')
    (hw : w'.heap[l.blk]? = some (.cells (C.toList.take (l.sh + off) ++ (vs' ++ C.toList.drop (l.sh + off + vs'.length))).toArray elem fz')) :
    CellsOk P ι w' (cs.take off ++ (vs ++ cs.drop (off + vs.length))) elem fz gr l (C.toList.take (l.sh + off) ++ (vs' ++ C.toList.drop (l.sh + off + vs'.length))).toArray fz' := by
  have hlen := hv.1
  have hroom := h.room
  have hr1 : l.sh + cs.length ≤ C.size := by
    have := Nat.le_add_right (l.sh + cs.length) (l.ex * P.cellsOf elem); omega
  have hlen' : (cs.take off ++ (vs ++ cs.drop (off + vs.length))).length = cs.length := by simp; omega
  have hsz : ((C.toList.take (l.sh + off) ++ (vs' ++ C.toList.drop (l.sh + off + vs'.length))).toArray).size = C.size := by simp; omega
  refine ⟨hw, by rw [hlen', hsz]; exact hroom, fun i hi => ?_, fun hf j => by rw [hlen']; exact h.warm hf j, fun hg => by rw [hlen', hsz]; exact h.plain hg⟩
  have hi' : i < cs.length := by omega
  have e1 := splice_get cs vs off i hle
  have e2 := splice_get C.toList vs' (l.sh + off) (l.sh + i) (by simp; omega)
  rw [List.getElem?_eq_getElem hi] at e1
  simp only [List.getElem?_toArray]
  rw [e2]
  obtain ⟨c, h1, h2⟩ := h.cell i hi'
  by_cases c1 : i < off
  · rw [if_pos c1, List.getElem?_eq_getElem hi'] at e1
    rw [if_pos (by omega)]
    refine ⟨c, by simpa using h1, ?_⟩
    rw [Option.some.inj e1]; exact h2
  · by_cases c2 : i < off + vs.length
    · rw [if_neg c1, if_pos c2, List.getElem?_eq_getElem (by omega)] at e1
      rw [if_neg (by omega), if_pos (by omega)]
      have e3 : l.sh + i - (l.sh + off) = i - off := by omega
      rw [e3, List.getElem?_eq_getElem (by omega)]
      refine ⟨_, rfl, ?_⟩
      rw [Option.some.inj e1]
      exact hv.2 (i - off) (by omega) (by omega)
    · rw [if_neg c1, if_neg c2, List.getElem?_eq_getElem hi'] at e1
      rw [if_neg (by omega), if_neg (by omega)]
      refine ⟨c, by simpa using h1, ?_⟩
      rw [Option.some.inj e1]; exact h2

theorem allOk_one : ∀ {vs : List Value}, allOk vs = true → ∀ v ∈ vs, cellOk v = true
  | [], _, v, hv => by simp at hv
  | x :: xs, h, v, hv => by
    have h' : cond (cellOk x) (allOk xs) false = true := h
    obtain ⟨h1, h2⟩ := cond_inv h' (by simp)
    rcases List.mem_cons.1 hv with rfl | hv
    · exact h1
    · exact allOk_one h2 v hv

theorem one_of_rel {ι : Inj} {v c : Value} (h : VRel ι v c) (hv : cellOk v = true) : c.oneCell' = true := by
  cases h <;> first | rfl | (simp [cellOk, poison] at hv)

theorem ones_of_rel {ι : Inj} : ∀ {vs cs : List Value}, VRels ι vs cs → allOk vs = true → ∀ c ∈ cs, c.oneCell' = true
  | [], cs, h, _, c, hc => by rw [h.nil_inv] at hc; simp at hc
  | v :: vs, cs, h, ha, c, hc => by
    obtain ⟨y, ys, rfl, h1, h2⟩ := h.cons_inv
    have ha' : cond (cellOk v) (allOk vs) false = true := ha
    obtain ⟨a1, a2⟩ := cond_inv ha' (by simp)
    rcases List.mem_cons.1 hc with rfl | hc
    · exact one_of_rel h1 a1
    · exact ones_of_rel h2 a2 c hc

/-- A store into an abstract object's cells. -/
theorem WRel.store {ι : Inj} {st : St} {w : World} (hw : WRel X ι st w) {id off : Nat} {cs : List Value} {elem : TypeId} {fz : Nat × Nat} {gr : Bool} {l : Loc}
    (hg : st.h.get id = some (.cells cs elem fz gr)) (hl : ι id = some l) (hfz : fz.2 ≤ fz.1) {vs vs' : List Value} (hle : off + vs.length ≤ cs.length) (hv : VRels ι vs vs') (hok : allOk vs = true) :
    ∃ w', (storeCells ⟨l.blk, l.sh + off, none⟩ vs').run X.P w = .ok () w' ∧ WRel X ι ⟨st.h.set id (.cells (cs.take off ++ (vs ++ cs.drop (off + vs.length))) elem fz gr), st.nx⟩ w' ∧ Keeps ι ι w w' := by
  obtain ⟨l', hl', C, fz', hc⟩ := hw.objs _ _ hg (by simp)
  rw [hl] at hl'; cases hl'
  have hroom := hc.room
  have hlen := hv.1
  have hr1 : l.sh + cs.length ≤ C.size := by
    have := Nat.le_add_right (l.sh + cs.length) (l.ex * X.P.cellsOf elem); omega
  obtain ⟨w', hr, hh, so⟩ := run_stores (P := X.P) (o := l.sh + off) vs' 0 C w hc.there (by omega) (ones_of_rel hv hok) (fun j h1 h2 => hc.warm hfz j (by omega) (by
    have := Nat.le_add_right (l.sh + cs.length) (l.ex * X.P.cellsOf elem); omega))
  simp only [Nat.add_zero] at hh
  obtain ⟨t1, t2⟩ := WRel.turn X hw hg (by simp) (fun hf => by have := hf.2; omega) hl (.cells (cs.take off ++ (vs ++ cs.drop (off + vs.length))) elem fz gr) _ w' hh (fun _ ht => ⟨_, fz', hc.store hle hv ht⟩) so
  exact ⟨w', hr, t1, t2⟩

theorem WRel.set_same {ι : Inj} {st : St} {w : World} (hw : WRel X ι st w) {id : Nat} {o : AObj} (hg : st.h.get id = some o) : WRel X ι ⟨st.h.set id o, st.nx⟩ w := by
  have e : ∀ j, (st.h.set id o).get j = st.h.get j := by
    intro j; rw [PM.get_set]; split
    · subst_vars; exact hg.symm
    · rfl
  exact ⟨fun j p hp hd => hw.objs j p (by rw [← e]; exact hp) hd, fun i j p q l m hi h1 hj h2 => hw.inj i j p q l m (by rw [← e]; exact hi) h1 (by rw [← e]; exact hj) h2,
    fun j hj => ⟨(hw.fresh j hj).1, by rw [e]; exact (hw.fresh j hj).2⟩, hw.bnd, hw.glob, hw.globs, fun j l p hl hs hp hd => hw.prot j l p hl hs (by rw [← e]; exact hp) hd⟩

theorem cells_ne_poison {v : Value} (h : allOk v.cells.toList = true) : v ≠ poison := by
  intro e; subst e; simp [poison, Value.cells] at h
  have h' : cond (cellOk (.chan (some 0))) true false = true := h
  simp [cellOk] at h'

section
variable {ι : Inj} {fr fr' : AFr} {a : Act} {nt : Nat} {st st' : St} {w : World} {o : Oper} {v : Value} {call : CallT}

theorem sim_store {x y : Operand} {t : TypeId} {i : TypeInfo} (hx : opdOk X.ng x = true) (hy : opdOk X.ng y = true) (ho : o.op = .store t x y) (hi : X.P.info? t = some i)
    (hf : FRel ι fr a nt) (hw : WRel X ι st w) (h : op_store i.size x y call fr st = .ok v fr' st') :
    fr' = fr ∧ Sim X ι w v st' (execOp a.eval o) := by
  obtain ⟨p, hp, h⟩ := vPointer_inv h (by simp)
  obtain ⟨ad, rfl, h⟩ := oK_inv h (by simp)
  obtain ⟨hn, h⟩ := eqK_inv h (by simp)
  obtain ⟨hok, h⟩ := cond_inv h (by simp)
  obtain ⟨hs, cs, elem, fz, gr, hg, hfz, h⟩ := store_inv h (by simp)
  rw [lenX_eq] at hn
  obtain ⟨l, hl, hm⟩ := hw.objs _ _ hg (by simp)
  have hx' := hf.ev hw hx
  rw [hp] at hx'
  generalize hxv : a.eval x = xv at hx'
  cases hx' with
  | ptr _ l' hl' hs' =>
    rw [hl] at hl'; cases hl'
    have hyv := hf.ev hw hy
    have hyc := VRels.cells hyv (cells_ne_poison hok)
    have hsz : (a.eval y).cells.size = i.size := by have := hyc.1; simp [cellsL] at this hn; omega
    have hrun : ∀ w', (storeCells ⟨l.blk, l.sh + ad.off, none⟩ (a.eval y).cells.toList).run X.P w = .ok () w' → (execOp a.eval o).run X.P w = .ok .skip w' := by
      intro w' hr
      unfold execOp
      rw [ho]
      simp only [hxv, Instr.storeAt, Instr.sureAddr, storeVar, Sem.run_bind, Sem.run_pure, Result.andThen, sizeOf_run hi]
      rw [if_neg (by simp [hsz])]
      simp [hr]
    rcases h with ⟨hle, h⟩ | ⟨he, h⟩
    · cases h
      obtain ⟨w', hr, h1, h2⟩ := hw.store hg hl hfz hle hyc hok
      exact ⟨rfl, ι, .skip, w', hrun w' hr, .inr ⟨rfl, rfl⟩, h1, h2⟩
    · cases h
      have : (a.eval y).cells.toList = [] := by
        have := hyc.1
        rw [show (fr.ev y).cells.toList = [] from he] at this
        exact List.eq_nil_of_length_eq_zero this.symm
      refine ⟨rfl, ι, .skip, w, hrun w ?_, .inr ⟨rfl, rfl⟩, hw.set_same hg, .refl ι w⟩
      rw [this]; rfl

/-- New memory for an abstract object of known capacity. -/
theorem WRel.newCells {cs cs' : List Value} (hw : WRel X ι st w) (elem : TypeId) (hv : VRels ι cs cs') (w' : World) (hh : w'.heap = w.heap.push (.cells cs'.toArray elem)) (so : SameOut w w' := by exact ⟨rfl, rfl⟩) :
    ∃ κ, WRel X κ ⟨st.h.set st.nx (.cells cs elem (0, 0) false), st.nx + 1⟩ w' ∧ Keeps ι κ w w' ∧ κ st.nx = some ⟨w.heap.size, 0, 0, id⟩ ∧ κ = extI ι st.nx ⟨w.heap.size, 0, 0, id⟩ := by
  refine WRel.alloc X hw _ _ 0 (fun κ w'' hle _ ht => ?_) w' hh so
  refine ⟨cs'.toArray, (0, 0), ⟨ht, by simp [hv.1], fun i hi => ?_, fun _ j _ _ => by simp, fun _ => ⟨rfl, rfl, by simp [hv.1]⟩⟩⟩
  have hi' : i < cs'.length := by rw [← hv.1]; exact hi
  exact ⟨cs'[i], by simp [hi'], (hv.2 i hi hi').mono hle⟩

theorem zeroValue_run {P : Program} {t : TypeId} {i : TypeInfo} {z : Value} (h : P.info? t = some i) (hz : i.zero = some z) (w : World) : (zeroValue t).run P w = .ok z w := by
  simp [zeroValue, typeInfo, h, hz]

theorem sim_alloc {t : TypeId} {i : TypeInfo} {z : Value} (ho : o.op = .alloc t) (hi : X.P.info? t = some i) (hz : i.zero = some z) (hp : vpureL z.cells.toList = true)
    (hw : WRel X ι st w) (h : op_alloc z.cells.toList t call fr st = .ok v fr' st') :
    fr' = fr ∧ SimA X ι w v st st' (execOp a.eval o) := by
  unfold op_alloc at h
  rw [newK_eq] at h
  cases h
  obtain ⟨κ, h1, h2, h3, hκ⟩ := hw.newCells t (VRels.pureL ι _ hp) { w with heap := w.heap.push (.cells z.cells t) } (by simp)
  rw [hκ] at h1 h2 h3
  refine ⟨rfl, _, _, _, .pointer (some ⟨w.heap.size, 0, none⟩), _, rfl, by simp, ?_, rfl, ?_, h1, h2⟩
  · unfold execOp; rw [ho]; simp [Instr.alloc, zeroValue_run hi hz, newVar, newRow, Result.andThen]
  · have := VRel.ptr (ι := extI ι st.nx ⟨w.heap.size, 0, 0, id⟩) ⟨st.nx, 0, none⟩ ⟨w.heap.size, 0, 0, id⟩ h3 rfl
    simpa using this

theorem sim_box {t : TypeId} {x : Operand} (hx : opdOk X.ng x = true) (ho : o.op = .box t x) (hf : FRel ι fr a nt) (hw : WRel X ι st w) (h : op_box t x call fr st = .ok v fr' st') :
    fr' = fr ∧ SimA X ι w v st st' (execOp a.eval o) := by
  obtain ⟨hp, h⟩ := ncond_inv h (by simp)
  rw [newK_eq] at h
  cases h
  have hne : fr.ev x ≠ poison := by intro e; rw [e] at hp; simp [isPoison, poison] at hp
  obtain ⟨κ, h1, h2, h3, hκ⟩ := hw.newCells t (VRels.cells (hf.ev hw hx) hne) { w with heap := w.heap.push (.cells (a.eval x).cells t) } (by simp)
  rw [hκ] at h1 h2 h3
  refine ⟨rfl, _, _, _, .pointer (some ⟨w.heap.size, 0, none⟩), _, rfl, by simp, ?_, rfl, ?_, h1, h2⟩
  · unfold execOp; rw [ho]; simp [Instr.box, newVar, newRow, Result.andThen]
  · have := VRel.ptr (ι := extI ι st.nx ⟨w.heap.size, 0, 0, id⟩) ⟨st.nx, 0, none⟩ ⟨w.heap.size, 0, 0, id⟩ h3 rfl
    simpa using this
end

end Go.AM
namespace Go.AM
variable {X : Ctx}

theorem evBin_inv {op : BinOp} {x y : Value} {c : Value → OR} {r : OR} (h : evBin op x y c = r) (hr : OR.no ≠ r) :
    (∃ k a k' b, x = .int k a ∧ y = .int k' b ∧ evIntBin op k a k' b c = r) ∨ (∃ s t, x = .string s ∧ y = .string t ∧ binStr op s t c = r) := by
  cases x with
  | int k a =>
    cases y with
    | int k' b => exact .inl ⟨k, a, k', b, rfl, rfl, h⟩
    | _ => exact absurd h hr
  | string s =>
    cases y with
    | string t => exact .inr ⟨s, t, rfl, rfl, h⟩
    | _ => exact absurd h hr
  | _ => exact absurd h hr

theorem kindEq_eq {a b : IntKind} (h : kindEq a b = true) : a = b := by
  cases a <;> cases b <;> first | rfl | (exact absurd h (by decide))

theorem bits_land (k : IntKind) (m n : Nat) : (BitVec.ofInt k.bits (m : Int) &&& BitVec.ofInt k.bits (n : Int)).toNat = Nat.land (m % 2 ^ k.bits) (n % 2 ^ k.bits) := by
  rw [BitVec.ofInt_natCast, BitVec.ofInt_natCast, BitVec.toNat_and]; simp
theorem bits_lor (k : IntKind) (m n : Nat) : (BitVec.ofInt k.bits (m : Int) ||| BitVec.ofInt k.bits (n : Int)).toNat = Nat.lor (m % 2 ^ k.bits) (n % 2 ^ k.bits) := by
  rw [BitVec.ofInt_natCast, BitVec.ofInt_natCast, BitVec.toNat_or]; simp
theorem bits_xor (k : IntKind) (m n : Nat) : (BitVec.ofInt k.bits (m : Int) ^^^ BitVec.ofInt k.bits (n : Int)).toNat = Nat.xor (m % 2 ^ k.bits) (n % 2 ^ k.bits) := by
  rw [BitVec.ofInt_natCast, BitVec.ofInt_natCast, BitVec.toNat_xor]; simp

theorem bits2_eq (f : Nat → Nat → Nat) (g : Int) (k : IntKind) (a b : Int) (c : Value → OR) (hg : ∀ m n : Nat, a = m → b = n → g = k.wrap (f (m % 2 ^ k.bits) (n % 2 ^ k.bits) : Nat)) :
    bits2 f g k a b c = c (.int k g) := by
  unfold bits2
  cases a with
  | ofNat m =>
    cases b with
    | ofNat n =>
      show intV k (wrapX k (.ofNat (f (Nat.mod m (2 ^ k.bits)) (Nat.mod n (2 ^ k.bits))))) c = _
      rw [intV_eq, wrapX_eq, hg m n rfl rfl]; rfl
    | negSucc n => exact intV_eq _ _ _
  | negSucc m => exact intV_eq _ _ _

/-- What an operator on numbers gives. -/
def intRes (op : BinOp) (k : IntKind) (a b : Int) : Option Value :=
  match op with
  | .add => some (.int k (k.wrap (a + b)))
  | .sub => some (.int k (k.wrap (a - b)))
  | .mul => some (.int k (k.wrap (a * b)))
  | .quo => if b = 0 then none else some (.int k (k.wrap (a.tdiv b)))
  | .rem => if b = 0 then none else some (.int k (a.tmod b))
  | .and => some (.int k (k.wrap (BitVec.ofInt k.bits a &&& BitVec.ofInt k.bits b).toNat))
  | .or => some (.int k (k.wrap (BitVec.ofInt k.bits a ||| BitVec.ofInt k.bits b).toNat))
  | .xor => some (.int k (k.wrap (BitVec.ofInt k.bits a ^^^ BitVec.ofInt k.bits b).toNat))
  | .andNot => some (.int k (k.wrap (BitVec.ofInt k.bits a &&& ~~~(BitVec.ofInt k.bits b)).toNat))
  | .eql => some (.bool (a == b))
  | .neq => some (.bool (a != b))
  | .lss => some (.bool (decide (a < b)))
  | .leq => some (.bool (decide (a ≤ b)))
  | .gtr => some (.bool (decide (b < a)))
  | .geq => some (.bool (decide (b ≤ a)))
  | _ => none

theorem binInt_eq (op : BinOp) (k : IntKind) (a b : Int) (c : Value → OR) : binInt op k a b c = match intRes op k a b with | some v => c v | none => .no := by
  cases op <;> simp only [binInt, bi_add, bi_sub, bi_mul, bi_quo, bi_rem, bi_and, bi_or, bi_xor, bi_andNot, bi_eql, bi_neq, bi_lss, bi_leq, bi_gtr, bi_geq, bi_no, intRes]
  · rw [intV_eq, wrapX_eq, addX_eq]
  · rw [intV_eq, wrapX_eq, addX_eq, negX_eq]; rfl
  · rw [intV_eq, wrapX_eq, mulX_eq]
  · rw [eqX_eq]
    by_cases h : b = 0
    · subst h; rfl
    · rw [if_neg h, show (b == 0) = false by simpa using h]
      cases a with
      | ofNat m =>
        cases b with
        | ofNat n =>
          show intV k (wrapX k (.ofNat (m / n))) c = c (.int k (k.wrap ((m : Int).tdiv (n : Int))))
          rw [intV_eq, wrapX_eq]; rfl
        | negSucc n => exact intV_eq _ _ _
      | negSucc m => exact intV_eq _ _ _
  · rw [eqX_eq]
    by_cases h : b = 0
    · subst h; rfl
    · rw [if_neg h, show (b == 0) = false by simpa using h]
      cases a with
      | ofNat m =>
        cases b with
        | ofNat n => exact intV_eq k (Int.ofNat (m % n)) c
        | negSucc n => exact intV_eq k ((Int.ofNat m).tmod (Int.negSucc n)) c
      | negSucc m => exact intV_eq k ((Int.negSucc m).tmod b) c
  · exact bits2_eq _ _ _ _ _ _ (fun m n ha hb => by subst ha hb; rw [bits_land])
  · exact bits2_eq _ _ _ _ _ _ (fun m n ha hb => by subst ha hb; rw [bits_lor])
  · exact bits2_eq _ _ _ _ _ _ (fun m n ha hb => by subst ha hb; rw [bits_xor])
  · exact intV_eq _ _ _
  · rw [eqX_eq]
  · rw [eqX_eq]; rfl
  · rw [leX_eq]; congr 2; rw [Bool.eq_iff_iff]; simp
  · rw [leX_eq]
  · rw [leX_eq]; congr 2; rw [Bool.eq_iff_iff]; simp
  · rw [leX_eq]

theorem shlX_eq (k : IntKind) (a : Int) (n : Nat) : shlX k a n = k.wrap (a * 2 ^ (min n k.bits)) := by
  unfold shlX
  rw [wrapX_eq, mulX_eq]
  congr 2
theorem shrX_eq (k : IntKind) (a : Int) (n : Nat) : shrX k a n = a.fdiv (2 ^ (min n k.bits)) := by
  unfold shrX
  cases a with
  | ofNat m =>
    show ((m / 2 ^ (min n k.bits) : Nat) : Int) = Int.fdiv (m : Int) _
    rw [Int.fdiv_eq_ediv_of_nonneg _ (Int.pow_nonneg (by decide))]
    push_cast; rfl
  | negSucc m => rfl

section
variable {ι : Inj} {fr fr' : AFr} {a : Act} {nt : Nat} {st st' : St} {w : World} {o : Oper} {v : Value} {call : CallT}

theorem ok_inj {v v' : Value} {fr fr' : AFr} {st st' : St} (h : OR.ok v fr st = OR.ok v' fr' st') : v = v' ∧ fr = fr' ∧ st = st' := by cases h; exact ⟨rfl, rfl, rfl⟩

theorem eqGuard_int (P : Program) (w : World) (op : BinOp) (t : TypeId) (x y : Operand) (k k' : IntKind) (m n : Int) : (eqGuard op t x y (.int k m) (.int k' n)).run P w = .ok () w := by
  cases op <;> simp [eqGuard]
theorem eqGuard_str (P : Program) (w : World) (op : BinOp) (t : TypeId) (x y : Operand) (s u : ByteArray) : (eqGuard op t x y (.string s) (.string u)).run P w = .ok () w := by
  cases op <;> simp [eqGuard]

theorem run_binInt (P : Program) (w : World) (op : BinOp) (t : TypeId) (k : IntKind) (m n : Int) {v : Value} (hs : op ≠ .shl) (hs' : op ≠ .shr) (h : intRes op k m n = some v) : (binOp op t (.int k m) (.int k n)).run P w = .ok v w := by
  cases op <;> simp only [intRes] at h <;> first
    | (exact absurd rfl hs) | (exact absurd rfl hs')
    | (cases h; simp [binOp, Op.intArith, Op.intBits, Op.intCmp]; done)
    | (split at h
       · cases h
       · cases h; rename_i hb; simp [binOp, Op.intDiv, hb])
    | (simp at h)

theorem toList_eq (x y : ByteArray) : (x.toList == y.toList) = (x.data.toList == y.data.toList) := by
  rw [Lib.toList_data, Lib.toList_data]

theorem evIntBin_inv {op : BinOp} {k k' : IntKind} {m n : Int} {c : Value → OR} {r : OR} (h : evIntBin op k m k' n c = r) (hr : OR.no ≠ r) :
    ∃ v, c v = r ∧ ∀ (P : Program) (w : World) (t : TypeId), (binOp op t (.int k m) (.int k' n)).run P w = .ok v w := by
  by_cases h1 : op = .shl
  · subst h1
    obtain ⟨b, hb, h⟩ := natK_inv h hr
    rw [intV_eq, shlX_eq] at h
    exact ⟨_, h, fun P w t => by subst hb; simp [binOp, Op.shift, show ¬ ((b : Int) < 0) by omega]⟩
  · by_cases h2 : op = .shr
    · subst h2
      obtain ⟨b, hb, h⟩ := natK_inv h hr
      rw [intV_eq, shrX_eq] at h
      exact ⟨_, h, fun P w t => by subst hb; simp [binOp, Op.shift, show ¬ ((b : Int) < 0) by omega]⟩
    · have h' : cond (kindEq k k') (binInt op k m n c) .no = r := by
        rw [← h]; cases op <;> first | rfl | (exact absurd rfl h1) | (exact absurd rfl h2)
      obtain ⟨hk, h3⟩ := cond_inv h' hr
      have := kindEq_eq hk
      subst this
      rw [binInt_eq] at h3
      cases hi : intRes op k m n with
      | none => rw [hi] at h3; exact absurd h3 hr
      | some v => rw [hi] at h3; exact ⟨v, h3, fun P w t => run_binInt P w op t k m n h1 h2 hi⟩

theorem sim_bin {op : BinOp} {t yt : TypeId} {x y : Operand} (hx : opdOk X.ng x = true) (hy : opdOk X.ng y = true) (ho : o.op = .binOp op t x y yt) (hf : FRel ι fr a nt) (hw : WRel X ι st w)
    (h : op_bin op x y call fr st = .ok v fr' st') : fr' = fr ∧ SimR X ι w v st st' (execOp a.eval o) := by
  have hx' := hf.ev hw hx
  have hy' := hf.ev hw hy
  unfold op_bin at h
  rcases evBin_inv h (by simp) with ⟨k, m, k', n, ex, ey, h⟩ | ⟨s, u, ex, ey, h⟩
  · rw [ex] at hx'; rw [ey] at hy'
    generalize hxv : a.eval x = xv at hx'
    generalize hyv : a.eval y = yv at hy'
    cases hx'; cases hy'
    obtain ⟨v1, hv1, hrun⟩ := evIntBin_inv h (by simp)
    obtain ⟨e1, e2, e3⟩ := ok_inj hv1
    subst e1 e2 e3
    refine ⟨rfl, SimR.same (v' := v1) hw ?_ ?_⟩
    · unfold execOp; rw [ho]; simp [hxv, hyv, eqGuard_int, hrun, Result.andThen]
    · have : vpure v1 = true := by
        clear hrun hv1 hf hw hx hy ex ey hxv hyv ho
        rw [show evIntBin op k m k' n (fun v => OR.ok v fr st) = (match op with
          | .shl => natK n (fun b => intV k (shlX k m b) (fun v => OR.ok v fr st)) .no
          | .shr => natK n (fun b => intV k (shrX k m b) (fun v => OR.ok v fr st)) .no
          | op => cond (kindEq k k') (binInt op k m n (fun v => OR.ok v fr st)) .no) by cases op <;> rfl] at h
        split at h
        · obtain ⟨b, _, h⟩ := natK_inv h (by simp); rw [intV_eq] at h; cases h; rfl
        · obtain ⟨b, _, h⟩ := natK_inv h (by simp); rw [intV_eq] at h; cases h; rfl
        · obtain ⟨_, h⟩ := cond_inv h (by simp)
          rw [binInt_eq] at h
          split at h
          · rename_i v2 hv2
            cases h
            unfold intRes at hv2
            split at hv2 <;> first | (cases hv2; rfl) | (split at hv2 <;> first | (cases hv2; done) | (cases hv2; rfl)) | (cases hv2)
          · cases h
      exact VRel.pure ι v1 this
  · rw [ex] at hx'; rw [ey] at hy'
    generalize hxv : a.eval x = xv at hx'
    generalize hyv : a.eval y = yv at hy'
    cases hx'; cases hy'
    unfold binStr at h
    split at h
    · obtain ⟨hle, h⟩ := leK_inv h (by simp)
      cases h
      simp only [lenX_eq] at hle
      refine ⟨rfl, SimR.same (v' := .string (s ++ u)) hw ?_ ?_⟩
      · unfold execOp; rw [ho]
        have hsz : ¬ (((s.size + u.size : Nat) : Int) > IntKind.i64.max) := by
          have h1 : s.size = s.data.toList.length := (Array.length_toList (xs := s.data)).symm
          have h2 : u.size = u.data.toList.length := (Array.length_toList (xs := u.data)).symm
          have h3 : IntKind.i64.max = 9223372036854775807 := by decide
          have h4 : s.data.toList.length + u.data.toList.length ≤ 1099511627776 := hle
          rw [h3, h1, h2]; omega
        simp only [hxv, hyv, Sem.run_bind, eqGuard_str, Result.andThen, binOp, Op.stringOp]
        rw [if_neg hsz]; rfl
      · have : (⟨⟨appX s.data.toList u.data.toList⟩⟩ : ByteArray) = s ++ u := by
          rw [appX_eq]
          apply ByteArray.ext
          simp [ByteArray.data_append]
        rw [this]; exact .string _
    · cases h
      refine ⟨rfl, SimR.same (v' := .bool (s.data.toList == u.data.toList)) hw ?_ (.bool _)⟩
      unfold execOp; rw [ho]
      simp only [hxv, hyv, Sem.run_bind, eqGuard_str, Result.andThen, binOp, Op.stringOp, toList_eq]; rfl
    · cases h
      refine ⟨rfl, SimR.same (v' := .bool (!(s.data.toList == u.data.toList))) hw ?_ (.bool _)⟩
      unfold execOp; rw [ho]
      simp only [hxv, hyv, Sem.run_bind, eqGuard_str, Result.andThen, binOp, Op.stringOp, toList_eq]; rfl
    · cases h

end
end Go.AM
namespace Go.AM
variable {X : Ctx}

theorem add_eq (b o n : Nat) : Addr.add ⟨b, o, none⟩ n = ⟨b, o + n, none⟩ := by unfold Addr.add; split <;> simp_all
theorem add_block (a : Addr) (n : Nat) : (a.add n).block = a.block := by unfold Addr.add; split <;> rfl
theorem add_spot (a : Addr) (n : Nat) (h : a.spot = none) : (a.add n).spot = none := by unfold Addr.add; split <;> simp_all
theorem add_off (a : Addr) (n : Nat) : (a.add n).off = a.off + n := by unfold Addr.add; split <;> simp_all

theorem VRel.ptr_add {ι : Inj} {a : Addr} {l : Loc} (h : ι a.block = some l) (hs : a.spot = none) (n : Nat) : VRel ι (.pointer (some (a.add n))) (.pointer (some (Addr.add ⟨l.blk, l.sh + a.off, none⟩ n))) := by
  have := VRel.ptr (ι := ι) (a.add n) l (by rw [add_block]; exact h) (add_spot a n hs)
  rw [add_off] at this
  rw [add_eq, show l.sh + a.off + n = l.sh + (a.off + n) by omega]
  exact this

theorem bnat {n : Nat} : (0 : Int) ≤ (n : Int) := by omega

section
variable {ι : Inj} {fr fr' : AFr} {a : Act} {nt : Nat} {st st' : St} {w : World} {o : Oper} {v : Value} {call : CallT}

theorem sim_faddr {s : TypeId} {x : Operand} {f : Nat} {fields : Array Field} {fd : Field} {i : TypeInfo} (hx : opdOk X.ng x = true) (ho : o.op = .fieldAddr s x f) (hu : X.P.underlying s = some (.struct fields)) (hfd : fields[f]? = some fd)
    (hi : X.P.info? fd.type = some i) (hz : i.size ≠ 0) (hf : FRel ι fr a nt) (hw : WRel X ι st w) (h : op_faddr fd.offset x call fr st = .ok v fr' st') :
    fr' = fr ∧ SimR X ι w v st st' (execOp a.eval o) := by
  obtain ⟨p, hp, h⟩ := vPointer_inv h (by simp)
  obtain ⟨ad, rfl, h⟩ := oK_inv h (by simp)
  cases h
  have hx' := hf.ev hw hx
  rw [hp] at hx'
  generalize hxv : a.eval x = xv at hx'
  cases hx' with
  | ptr _ l hl hs =>
    refine ⟨rfl, SimR.same (v' := .pointer (some (Addr.add ⟨l.blk, l.sh + ad.off, none⟩ fd.offset))) hw ?_ (VRel.ptr_add hl hs _)⟩
    unfold execOp; rw [ho]
    simp [hxv, Instr.fieldAt, run_underlying hu, hfd, Instr.sureAddr, fieldPlace, sizeOf_run hi, hz, Result.andThen]

theorem sim_iaA {t e : TypeId} {x i : Operand} {n : Nat} {ie : TypeInfo} (hx : opdOk X.ng x = true) (hi' : opdOk X.ng i = true) (ho : o.op = .indexAddr t x i) (hu : X.P.underlying t = some (.array n e)) (hi : X.P.info? e = some ie)
    (hf : FRel ι fr a nt) (hw : WRel X ι st w) (h : op_iaA n ie.size x i call fr st = .ok v fr' st') :
    fr' = fr ∧ SimR X ι w v st st' (execOp a.eval o) := by
  obtain ⟨p, hp, h⟩ := vPointer_inv h (by simp)
  obtain ⟨ad, rfl, h⟩ := oK_inv h (by simp)
  obtain ⟨k, m, hm, h⟩ := vInt_inv h (by simp)
  obtain ⟨j, rfl, h⟩ := natK_inv h (by simp)
  obtain ⟨hj, h⟩ := leK_inv h (by simp)
  cases h
  have hx' := hf.ev hw hx
  rw [hp] at hx'
  generalize hxv : a.eval x = xv at hx'
  have hiv := hf.ev hw hi'
  rw [hm] at hiv
  generalize hivv : a.eval i = iv at hiv
  cases hiv
  cases hx' with
  | ptr _ l hl hs =>
    refine ⟨rfl, SimR.same (v' := .pointer (some (Addr.add ⟨l.blk, l.sh + ad.off, none⟩ (j * ie.size)))) hw ?_ (VRel.ptr_add hl hs _)⟩
    unfold execOp; rw [ho]
    have hj' : j < n := by omega
    simp [hxv, hivv, Instr.indexAt, asIntOf, run_underlying hu, Instr.sureAddr, sizeOf_run hi, Result.andThen, hj']

theorem sim_iaS {t e : TypeId} {x i : Operand} {ie : TypeInfo} (hx : opdOk X.ng x = true) (hi' : opdOk X.ng i = true) (ho : o.op = .indexAddr t x i) (hu : X.P.underlying t = some (.slice e)) (hi : X.P.info? e = some ie)
    (hf : FRel ι fr a nt) (hw : WRel X ι st w) (h : op_iaS ie.size x i call fr st = .ok v fr' st') :
    fr' = fr ∧ SimR X ι w v st st' (execOp a.eval o) := by
  obtain ⟨b, len, cap, hp, h⟩ := vSlice_inv h (by simp)
  obtain ⟨ad, rfl, h⟩ := oK_inv h (by simp)
  obtain ⟨k, m, hm, h⟩ := vInt_inv h (by simp)
  obtain ⟨j, rfl, h⟩ := natK_inv h (by simp)
  obtain ⟨hj, h⟩ := leK_inv h (by simp)
  cases h
  have hx' := hf.ev hw hx
  rw [hp] at hx'
  generalize hxv : a.eval x = xv at hx'
  have hiv := hf.ev hw hi'
  rw [hm] at hiv
  generalize hivv : a.eval i = iv at hiv
  cases hiv
  cases hx' with
  | slc _ l off _ _ hl hs hoff =>
    have hoff' : off = l.sh + ad.off := by rcases hoff with h | ⟨h, _⟩ <;> omega
    subst hoff'
    refine ⟨rfl, SimR.same (v' := .pointer (some (Addr.add ⟨l.blk, l.sh + ad.off, none⟩ (j * ie.size)))) hw ?_ (VRel.ptr_add hl hs _)⟩
    unfold execOp; rw [ho]
    have hj' : j < len := by omega
    simp [hxv, hivv, Instr.indexAt, asIntOf, run_underlying hu, sizeOf_run hi, Result.andThen, hj']

theorem sim_cint {s t : TypeId} {k : IntKind} {sd : TypeDesc} {x : Operand} (hx : opdOk X.ng x = true) (ho : o.op = .convert s t x) (hs : X.P.underlying s = some sd) (ht : X.P.underlying t = some (.int k))
    (hf : FRel ι fr a nt) (hw : WRel X ι st w) (h : op_cint k x call fr st = .ok v fr' st') :
    fr' = fr ∧ SimR X ι w v st st' (execOp a.eval o) := by
  obtain ⟨k', n, hp, h⟩ := vInt_inv h (by simp)
  rw [intV_eq, wrapX_eq] at h
  cases h
  have hx' := hf.ev hw hx
  rw [hp] at hx'
  generalize hxv : a.eval x = xv at hx'
  cases hx'
  refine ⟨rfl, SimR.same (v' := .int k (k.wrap n)) hw ?_ (.int _ _)⟩
  unfold execOp; rw [ho]
  simp [hxv, convert, run_underlying hs, run_underlying ht, Result.andThen, Conv.intToInt]

theorem sim_cid {s t : TypeId} {sd : TypeDesc} {x : Operand} (hx : opdOk X.ng x = true) (ho : o.op = .convert s t x) (hs : X.P.underlying s = some sd) (ht : X.P.underlying t = some .string)
    (hf : FRel ι fr a nt) (hw : WRel X ι st w) (h : op_cid x call fr st = .ok v fr' st') :
    fr' = fr ∧ SimR X ι w v st st' (execOp a.eval o) := by
  obtain ⟨s', hp, h⟩ := vString_inv h (by simp)
  cases h
  have hx' := hf.ev hw hx
  rw [hp] at hx'
  generalize hxv : a.eval x = xv at hx'
  cases hx'
  refine ⟨rfl, SimR.same (v' := .string s') hw ?_ (.string _)⟩
  unfold execOp; rw [ho]
  simp [hxv, convert, run_underlying hs, run_underlying ht, Result.andThen]

theorem sim_mkif {t : TypeId} {d : TypeDesc} {x : Operand} (hx : opdOk X.ng x = true) (ho : o.op = .makeInterface t x) (ht : X.P.underlying t = some d) (hd : ∀ ms, d ≠ .interface ms)
    (hf : FRel ι fr a nt) (hw : WRel X ι st w) (h : op_mkif t x call fr st = .ok v fr' st') :
    fr' = fr ∧ SimR X ι w v st st' (execOp a.eval o) := by
  cases h
  refine ⟨rfl, SimR.same (v' := .iface t (a.eval x)) hw ?_ (.iface _ _ _ (hf.ev hw hx))⟩
  unfold execOp; rw [ho]
  simp only [Instr.makeInterface, Sem.run_bind, run_underlying ht, Result.andThen]
  cases d <;> first | rfl | (exact absurd rfl (hd _))

theorem evs_eq (fr : AFr) : ∀ xs : List Operand, evs fr xs = xs.map fr.ev
  | [] => rfl
  | x :: xs => by show fr.ev x :: evs fr xs = _; rw [evs_eq fr xs]; rfl

theorem evs_rel (hf : FRel ι fr a nt) (hw : WRel X ι st w) : ∀ xs : List Operand, (∀ x ∈ xs, opdOk X.ng x = true) → VRels ι (evs fr xs) (xs.map a.eval)
  | [], _ => VRels.nil ι
  | x :: xs, h => VRels.cons (hf.ev hw (h x (by simp))) (evs_rel hf hw xs (fun y hy => h y (by simp [hy])))

theorem sim_mkfn {f : FuncId} {first capt : Array Operand} (h1 : ∀ x ∈ first.toList, opdOk X.ng x = true) (h2 : ∀ x ∈ capt.toList, opdOk X.ng x = true) (ho : o.op = .makeFunc (.func f) first capt)
    (hf : FRel ι fr a nt) (hw : WRel X ι st w) (h : op_mkfn (.func f) first.toList capt.toList call fr st = .ok v fr' st') :
    fr' = fr ∧ SimR X ι w v st st' (execOp a.eval o) := by
  cases h
  refine ⟨rfl, SimR.same (v' := .func (.func f) (first.map a.eval) (capt.map a.eval)) hw ?_ (VRel.of_func (.inl ⟨rfl, by simp⟩) ?_ ?_)⟩
  · unfold execOp; rw [ho]; simp [Instr.makeFunc]
  · simpa using evs_rel hf hw first.toList h1
  · simpa using evs_rel hf hw capt.toList h2

theorem sim_extr {x : Operand} {i : Nat} (hx : opdOk X.ng x = true) (ho : o.op = .extract x i) (hf : FRel ι fr a nt) (hw : WRel X ι st w) (h : op_extr x i call fr st = .ok v fr' st') :
    fr' = fr ∧ SimR X ι w v st st' (execOp a.eval o) := by
  obtain ⟨vs, hp, h⟩ := vTuple_inv h (by simp)
  obtain ⟨hn, h⟩ := cutK_inv h (by simp)
  obtain ⟨y, hy, h⟩ := one_inv h (by simp)
  cases h
  have hx' := hf.ev hw hx
  rw [hp] at hx'
  generalize hxv : a.eval x = xv at hx'
  cases hx' with
  | tuple _ ys h1 h2 =>
    have hlen : i < vs.size := by simp at hn; omega
    have hi : vs[i] = v := by
      have := congrArg (fun l => l[0]?) hy
      simpa [hlen] using this
    refine ⟨rfl, SimR.same (v' := ys[i]'(by omega)) hw ?_ ?_⟩
    · unfold execOp; rw [ho]
      simp [hxv, Instr.extract, show i < ys.size by omega]
    · rw [← hi]; exact h2 i hlen (by omega)

theorem sim_lenC {t d : TypeId} {x : Operand} {n : Nat} (ho : o.op = .call { callee := .builtin .len, args := #[x], argTypes := #[t] }) (hu : X.P.underlying t = some (.array n d)) (hw : WRel X ι st w)
    (h : op_lenC n call fr st = .ok v fr' st') : fr' = fr ∧ SimR X ι w v st st' (execOp a.eval o) := by
  cases h
  refine ⟨rfl, SimR.same (v' := .int .i64 (.ofNat n)) hw ?_ (.int _ _)⟩
  unfold execOp; rw [ho]
  simp [resolve, invoke, builtin, Builtin.len_, run_underlying hu, Result.andThen, goInt]

theorem sim_lenCp {t u d : TypeId} {x : Operand} {n : Nat} (ho : o.op = .call { callee := .builtin .len, args := #[x], argTypes := #[t] }) (hu : X.P.underlying t = some (.pointer u)) (hu' : X.P.underlying u = some (.array n d)) (hw : WRel X ι st w)
    (h : op_lenC n call fr st = .ok v fr' st') : fr' = fr ∧ SimR X ι w v st st' (execOp a.eval o) := by
  cases h
  refine ⟨rfl, SimR.same (v' := .int .i64 (.ofNat n)) hw ?_ (.int _ _)⟩
  unfold execOp; rw [ho]
  simp [resolve, invoke, builtin, Builtin.len_, run_underlying hu, run_underlying hu', Result.andThen, goInt]

theorem sim_lenS {t e : TypeId} {x : Operand} (hx : opdOk X.ng x = true) (ho : o.op = .call { callee := .builtin .len, args := #[x], argTypes := #[t] }) (hu : X.P.underlying t = some (.slice e))
    (hf : FRel ι fr a nt) (hw : WRel X ι st w) (h : op_lenS x call fr st = .ok v fr' st') : fr' = fr ∧ SimR X ι w v st st' (execOp a.eval o) := by
  obtain ⟨b, n, c, hp, h⟩ := vSlice_inv h (by simp)
  cases h
  have hx' := hf.ev hw hx
  rw [hp] at hx'
  generalize hxv : a.eval x = xv at hx'
  refine ⟨rfl, SimR.same (v' := .int .i64 (.ofNat n)) hw ?_ (.int _ _)⟩
  unfold execOp; rw [ho]
  cases hx' <;> simp [hxv, resolve, invoke, builtin, Builtin.len_, run_underlying hu, Result.andThen, goInt]

theorem sim_lenT {t : TypeId} {x : Operand} (hx : opdOk X.ng x = true) (ho : o.op = .call { callee := .builtin .len, args := #[x], argTypes := #[t] }) (hu : X.P.underlying t = some .string)
    (hf : FRel ι fr a nt) (hw : WRel X ι st w) (h : op_lenT x call fr st = .ok v fr' st') : fr' = fr ∧ SimR X ι w v st st' (execOp a.eval o) := by
  obtain ⟨s, hp, h⟩ := vString_inv h (by simp)
  rw [forceN_eq, lenX_eq] at h
  cases h
  have hx' := hf.ev hw hx
  rw [hp] at hx'
  generalize hxv : a.eval x = xv at hx'
  cases hx'
  have e : Int.ofNat s.data.toList.length = (s.size : Int) := by rw [Array.length_toList]; rfl
  rw [e]
  refine ⟨rfl, SimR.same (v' := .int .i64 s.size) hw ?_ (.int _ _)⟩
  unfold execOp; rw [ho]
  simp [hxv, resolve, invoke, builtin, Builtin.len_, run_underlying hu, Result.andThen, goInt]

end

end Go.AM
namespace Go.AM
variable {X : Ctx}

theorem part_sim {P : Program} {ι : Inj} {t : TypeId} {d : TypeDesc} {i : TypeInfo} {off : Nat} {cs cs' : Array Value} {v : Value} (hd : P.underlying t = some d) (hi : P.info? t = some i)
    (hr : VRels ι cs.toList cs'.toList) (h : partL off i.size (aggD d) cs.toList = some v) (w : World) : ∃ v', (part t cs' off).run P w = .ok v' w ∧ VRel ι v v' := by
  unfold partL at h
  obtain ⟨hn, h⟩ := cutK_inv h (by simp)
  have hr' := (hr.drop off).take i.size
  cases hg : aggD d with
  | true =>
    rw [hg] at h
    cases h
    refine ⟨.agg (cs'.extract off (off + i.size)), ?_, VRel.of_agg ?_⟩
    · simp only [part, Sem.run_bind, isAgg_run hd, hg, Result.andThen, if_true, sizeOf_run hi, Sem.run_pure]
    · have e : (cs'.extract off (off + i.size)).toList = (cs'.toList.drop off).take i.size := by
        rw [Array.toList_extract, List.extract_eq_take_drop]; congr 1; omega
      rw [e]; simpa using hr'
  | false =>
    rw [hg] at h
    obtain ⟨y, hy, h⟩ := one_inv h (by simp)
    cases h
    rw [hy] at hr'
    obtain ⟨z, zs, hz, hv, hzs⟩ := hr'.cons_inv
    have e : cs'[off]? = some z := by
      have := congrArg (fun l => l[0]?) hz
      simp only [List.getElem?_take, List.getElem?_drop, List.getElem?_cons_zero, Nat.add_zero] at this
      split at this
      · simpa using this
      · cases this
    refine ⟨z, ?_, hv⟩
    simp only [part, Sem.run_bind, isAgg_run hd, hg, Result.andThen, Bool.false_eq_true, if_false, e, Sem.run_pure]

theorem splice_fold (off : Nat) : ∀ (vs : List Value) (k : Nat) (C : Array Value), off + k + vs.length ≤ C.size →
    (vs.zipIdx k).foldl (fun cs (p : Value × Nat) => cs.setIfInBounds (off + p.2) p.1) C = (C.toList.take (off + k) ++ (vs ++ C.toList.drop (off + k + vs.length))).toArray
  | [], k, C, _ => by simp
  | v :: vs, k, C, h => by
    simp only [List.length_cons] at h
    have hl : off + k < C.toList.length := by simp; omega
    rw [List.zipIdx_cons, List.foldl_cons, splice_fold off vs (k + 1) _ (by simp; omega)]
    have hs1 : (C.setIfInBounds (off + k) v).toList = C.toList.set (off + k) v := by simp
    rw [hs1]
    have t1 : (C.toList.set (off + k) v).take (off + (k + 1)) = C.toList.take (off + k) ++ [v] := by
      rw [show off + (k + 1) = (off + k) + 1 by omega, List.take_succ_eq_append_getElem (by simpa using hl), List.take_set_of_le (Nat.le_refl _)]
      simp
    have t2 : (C.toList.set (off + k) v).drop (off + (k + 1) + vs.length) = C.toList.drop (off + k + (v :: vs).length) := by
      rw [List.drop_set_of_lt (by omega)]
      congr 1
      simp only [List.length_cons]; omega
    rw [t1, t2]
    simp

theorem VRels.splice {ι : Inj} {cs cs' vs vs' : List Value} (h : VRels ι cs cs') (hv : VRels ι vs vs') (n : Nat) :
    VRels ι (cs.take n ++ (vs ++ cs.drop (n + vs.length))) (cs'.take n ++ (vs' ++ cs'.drop (n + vs'.length))) := by
  rw [hv.1]
  exact (h.take n).append (hv.append (h.drop _))

section
variable {ι : Inj} {fr fr' : AFr} {a : Act} {nt : Nat} {st st' : St} {w : World} {o : Oper} {v : Value} {call : CallT}

theorem fill_sim (place : Nat → Option (Nat × Nat)) (hf : FRel ι fr a nt) (hw : WRel X ι st w) {c : List Value → OR} {r : OR} (hr : OR.no ≠ r) :
    ∀ (parts : List (Nat × Operand)) (ps : List (Nat × Nat × Operand)), ps = parts.map (fun p => (((place p.1).getD (0, 0)).1, ((place p.1).getD (0, 0)).2, p.2)) → (∀ p ∈ parts, (place p.1).isSome ∧ opdOk X.ng p.2 = true) →
    ∀ (cs : List Value) (cs' : Array Value), VRels ι cs cs'.toList → fillK fr ps cs c = r →
      ∃ out out', Instr.fill place cs' (parts.map fun p => (p.1, a.eval p.2)) = some out' ∧ VRels ι out out'.toList ∧ c out = r
  | [], _, rfl, _, cs, cs', hcs, h => ⟨cs, cs', rfl, hcs, h⟩
  | (i, x) :: parts, _, rfl, hok, cs, cs', hcs, h => by
    obtain ⟨hsome, hx⟩ := hok (i, x) (by simp)
    obtain ⟨⟨off, sz⟩, hpl⟩ := Option.isSome_iff_exists.1 hsome
    simp only [List.map_cons, hpl, Option.getD_some] at h
    obtain ⟨hnp, h⟩ := ncond_inv h hr
    obtain ⟨hsz, h⟩ := eqK_inv h hr
    obtain ⟨hle, h⟩ := leK_inv h hr
    simp only [lenX_eq] at hsz hle
    have hle' : off + sz ≤ cs.length := hle
    have hne : fr.ev x ≠ poison := by intro e; rw [e] at hnp; simp [isPoison, poison] at hnp
    have hcx := VRels.cells (hf.ev hw hx) hne
    have hs' : (cellsL (fr.ev x)).length = sz := hsz
    have hlen : (a.eval x).cells.size = sz := by have := hcx.1; simp at this; rw [← this]; simpa [cellsL] using hs'
    have hlc : cs'.size = cs.length := by have := hcs.1; simp at this; omega
    have h2 : fillK fr (parts.map (fun p => (((place p.1).getD (0, 0)).1, ((place p.1).getD (0, 0)).2, p.2))) (cs.take off ++ (cellsL (fr.ev x) ++ cs.drop (off + (cellsL (fr.ev x)).length))) c = r := by
      rcases putsK_inv h hr with ⟨_, h⟩ | ⟨he, h⟩
      · exact h
      · rw [he]; simp; exact h
    obtain ⟨out, out', h3, h4, h5⟩ := fill_sim place hf hw hr parts _ rfl (fun p hp => hok p (by simp [hp])) _ ((a.eval x).cells.zipIdx.foldl (fun cs (p : Value × Nat) => cs.setIfInBounds (off + p.2) p.1) cs') (by
      rw [← Array.foldl_toList, Array.toList_zipIdx, splice_fold off _ 0 cs' (by simp; omega)]
      have := hcs.splice hcx off
      simpa [cellsL] using this) h2
    refine ⟨out, out', ?_, h4, h5⟩
    simp only [List.map_cons, Instr.fill, hpl]
    rw [if_neg (by simp; omega)]
    exact h3

theorem sim_fld {t : TypeId} {x : Operand} {f : Nat} {fields : Array Field} {fd : Field} {d : TypeDesc} {i : TypeInfo} (hx : opdOk X.ng x = true) (ho : o.op = .field t x f) (hu : X.P.underlying t = some (.struct fields)) (hfd : fields[f]? = some fd)
    (hd : X.P.underlying fd.type = some d) (hi : X.P.info? fd.type = some i) (hf : FRel ι fr a nt) (hw : WRel X ι st w) (h : op_fld fd.offset i.size (aggD d) x call fr st = .ok v fr' st') :
    fr' = fr ∧ SimR X ι w v st st' (execOp a.eval o) := by
  obtain ⟨cs, hp, h⟩ := vAgg_inv h (by simp)
  obtain ⟨v1, hv1, h⟩ := oK_inv h (by simp)
  cases h
  have hx' := hf.ev hw hx
  rw [hp] at hx'
  generalize hxv : a.eval x = xv at hx'
  cases hx' with
  | agg _ ys h1 h2 =>
    obtain ⟨v', hr, hv⟩ := part_sim hd hi (VRels.of_arr h1 h2) hv1 w
    refine ⟨rfl, SimR.same (v' := v') hw ?_ hv⟩
    unfold execOp; rw [ho]
    simp [hxv, Instr.field, run_underlying hu, hfd, asAgg, hr, Result.andThen]

theorem sim_ixa {t e : TypeId} {x i : Operand} {n : Nat} {d : TypeDesc} {ie : TypeInfo} (hx : opdOk X.ng x = true) (hi' : opdOk X.ng i = true) (ho : o.op = .index t x i) (hu : X.P.underlying t = some (.array n e))
    (hd : X.P.underlying e = some d) (hi : X.P.info? e = some ie) (hf : FRel ι fr a nt) (hw : WRel X ι st w) (h : op_ixa n ie.size (aggD d) x i call fr st = .ok v fr' st') :
    fr' = fr ∧ SimR X ι w v st st' (execOp a.eval o) := by
  obtain ⟨cs, hp, h⟩ := vAgg_inv h (by simp)
  obtain ⟨k, m, hm, h⟩ := vInt_inv h (by simp)
  obtain ⟨j, rfl, h⟩ := natK_inv h (by simp)
  obtain ⟨hj, h⟩ := leK_inv h (by simp)
  obtain ⟨v1, hv1, h⟩ := oK_inv h (by simp)
  cases h
  have hx' := hf.ev hw hx
  rw [hp] at hx'
  generalize hxv : a.eval x = xv at hx'
  have hiv := hf.ev hw hi'
  rw [hm] at hiv
  generalize hivv : a.eval i = iv at hiv
  cases hiv
  cases hx' with
  | agg _ ys h1 h2 =>
    obtain ⟨v', hr, hv⟩ := part_sim hd hi (VRels.of_arr h1 h2) hv1 w
    refine ⟨rfl, SimR.same (v' := v') hw ?_ hv⟩
    unfold execOp; rw [ho]
    have hj' : j < n := by omega
    have hr' : (part e ys (j * ie.size)).run X.P w = .ok v' w := hr
    simp [hxv, hivv, Instr.index, asIntOf, run_underlying hu, sizeOf_run hi, hr', hj', Result.andThen]

theorem sim_ixs {t : TypeId} {x i : Operand} (hx : opdOk X.ng x = true) (hi' : opdOk X.ng i = true) (ho : o.op = .index t x i) (hu : X.P.underlying t = some .string)
    (hf : FRel ι fr a nt) (hw : WRel X ι st w) (h : op_ixs x i call fr st = .ok v fr' st') :
    fr' = fr ∧ SimR X ι w v st st' (execOp a.eval o) := by
  obtain ⟨s, hp, h⟩ := vString_inv h (by simp)
  obtain ⟨k, m, hm, h⟩ := vInt_inv h (by simp)
  obtain ⟨j, rfl, h⟩ := natK_inv h (by simp)
  obtain ⟨hn, h⟩ := cutK_inv h (by simp)
  obtain ⟨b, hb, h⟩ := one_inv h (by simp)
  cases h
  have hx' := hf.ev hw hx
  rw [hp] at hx'
  generalize hxv : a.eval x = xv at hx'
  have hiv := hf.ev hw hi'
  rw [hm] at hiv
  generalize hivv : a.eval i = iv at hiv
  cases hiv; cases hx'
  have hlt : j < s.data.size := by rw [List.length_drop, Array.length_toList] at hn; omega
  have hb' : s[j]? = some b := by
    have := congrArg (fun l => l[0]?) hb
    simp only [List.getElem?_take, List.getElem?_drop, List.getElem?_cons_zero, Nat.add_zero] at this
    rw [if_pos (by omega)] at this
    have h1 : s.data[j]? = some b := by simpa using this
    rw [Array.getElem?_eq_getElem hlt] at h1
    have hlt' : j < s.size := hlt
    rw [getElem?_pos s j hlt']
    exact h1
  refine ⟨rfl, SimR.same (v' := .int .u8 b.toNat) hw ?_ (.int _ _)⟩
  unfold execOp; rw [ho]
  simp [hxv, hivv, Instr.index, asIntOf, run_underlying hu, hb', Result.andThen]

theorem sim_tas {x : Operand} {xt t : TypeId} {d : TypeDesc} {i : TypeInfo} {z : Value} {ok : Bool} (hx : opdOk X.ng x = true) (ho : o.op = .typeAssert x xt t ok) (hd : X.P.underlying t = some d) (hdi : ∀ ms, d ≠ .interface ms)
    (hi : X.P.info? t = some i) (hz : i.zero = some z) (hp : vpure z = true) (hf : FRel ι fr a nt) (hw : WRel X ι st w) (h : op_tas t z ok x call fr st = .ok v fr' st') :
    fr' = fr ∧ SimR X ι w v st st' (execOp a.eval o) := by
  have hx' := hf.ev hw hx
  generalize hxv : a.eval x = xv at hx'
  unfold op_tas at h
  generalize hv : fr.ev x = fv at h hx'
  have hzf : VRel ι (.tuple #[z, .bool false]) (.tuple #[z, .bool false]) := VRel.of_tuple (VRels.cons (VRel.pure ι z hp) (VRels.cons (.bool _) (VRels.nil ι)))
  cases fv with
  | iface u y =>
    have h9 : eqK u t (OR.ok (cond ok (.tuple #[y, .bool true]) y) fr st) (cond ok (OR.ok (.tuple #[z, .bool false]) fr st) OR.no) = OR.ok v fr' st' := h
    cases hx' with
    | iface _ _ y' hy =>
      rw [eqK_eq] at h9
      clear h
      split at h9
      · rename_i e; subst e
        cases h9
        refine ⟨rfl, SimR.same (v' := if ok then .tuple #[y', .bool true] else y') hw ?_ ?_⟩
        · unfold execOp; rw [ho]
          simp only [hxv, Instr.typeAssert, Sem.run_bind, run_underlying hd, Result.andThen]
          cases d <;> first | (exact absurd rfl (hdi _)) | (simp)
        · cases ok
          · exact hy
          · exact VRel.of_tuple (VRels.cons hy (VRels.cons (.bool _) (VRels.nil ι)))
      · rename_i e
        obtain ⟨hok, h9⟩ := cond_inv h9 (by simp)
        cases h9
        refine ⟨rfl, SimR.same (v' := .tuple #[z, .bool false]) hw ?_ hzf⟩
        unfold execOp; rw [ho]
        simp only [hxv, Instr.typeAssert, Sem.run_bind, run_underlying hd, Result.andThen]
        cases d <;> first | (exact absurd rfl (hdi _)) | (simp [e, hok, zeroValue_run hi hz, Result.andThen])
  | nilIface =>
    have h : cond ok (OR.ok (.tuple #[z, .bool false]) fr st) OR.no = OR.ok v fr' st' := h
    obtain ⟨hok, h⟩ := cond_inv h (by simp)
    cases h
    cases hx'
    refine ⟨rfl, SimR.same (v' := .tuple #[z, .bool false]) hw ?_ hzf⟩
    unfold execOp; rw [ho]
    simp only [hxv, Instr.typeAssert, Sem.run_bind, run_underlying hd, Result.andThen]
    cases d <;> first | (exact absurd rfl (hdi _)) | (simp [hok, zeroValue_run hi hz, Result.andThen])
  | _ => exact absurd h (by simp [vIface])

end
end Go.AM
namespace Go.AM
variable {X : Ctx}

theorem mapM_run {α β : Type} (P : Program) (w : World) (f : α → Sem β) (g : α → β) : ∀ (l : List α), (∀ x ∈ l, (f x).run P w = .ok (g x) w) → (l.mapM f).run P w = .ok (l.map g) w
  | [], _ => by simp
  | x :: xs, h => by
    rw [List.mapM_cons]
    simp [h x (by simp), mapM_run P w f g xs (fun y hy => h y (by simp [hy])), Result.andThen]

section
variable {ι : Inj} {fr fr' : AFr} {a : Act} {nt : Nat} {st st' : St} {w : World} {o : Oper} {v : Value} {call : CallT}

theorem sim_buildS {t : TypeId} {parts : Array (Nat × Operand)} {fields : Array Field} {i : TypeInfo} {z : Value} {ps : List (Nat × Nat × Operand)} (ho : o.op = .build t parts) (hu : X.P.underlying t = some (.struct fields))
    (hi : X.P.info? t = some i) (hz : i.zero = some z) (hp : vpureL z.cells.toList = true) (hfs : ∀ f ∈ fields.toList, (X.P.info? f.type).isSome)
    (hps : ps = parts.toList.map (fun p => ((((fields.map fun f => (f.offset, X.P.cellsOf f.type))[p.1]?).getD (0, 0)).1, (((fields.map fun f => (f.offset, X.P.cellsOf f.type))[p.1]?).getD (0, 0)).2, p.2)))
    (hok : ∀ p ∈ parts.toList, ((fields.map fun f => (f.offset, X.P.cellsOf f.type))[p.1]?).isSome ∧ opdOk X.ng p.2 = true) (hf : FRel ι fr a nt) (hw : WRel X ι st w)
    (h : op_build z.cells.toList ps call fr st = .ok v fr' st') : fr' = fr ∧ SimR X ι w v st st' (execOp a.eval o) := by
  obtain ⟨out, out', h1, h2, h3⟩ := fill_sim (fun j => (fields.map fun f => (f.offset, X.P.cellsOf f.type))[j]?) hf hw (by simp) parts.toList ps hps hok z.cells.toList z.cells (VRels.pureL ι _ hp) h
  cases h3
  refine ⟨rfl, SimR.same (v' := .agg out') hw ?_ (VRel.of_agg h2)⟩
  unfold execOp; rw [ho]
  have hm : (fields.mapM fun f => do pure (f.offset, ← sizeOf f.type) : Sem (Array (Nat × Nat))).run X.P w = .ok (fields.map fun f => (f.offset, X.P.cellsOf f.type)) w := by
    rw [Array.mapM_eq_mapM_toList]
    rw [Sem.run_map, mapM_run X.P w _ (fun f : Field => (f.offset, X.P.cellsOf f.type)) fields.toList (fun f hfm => by
      obtain ⟨fi, hfi⟩ := Option.isSome_iff_exists.1 (hfs f hfm)
      simp [sizeOf_run hfi, Result.andThen, Program.cellsOf, hfi])]
    simp only [Result.andThen]
    congr 1
    apply Array.ext'; simp
  simp only [Instr.build, Sem.run_bind, zeroValue_run hi hz, Result.andThen, run_underlying hu, hm]
  have h1' : Instr.fill (fun x => (Array.map (fun f : Field => (f.offset, X.P.cellsOf f.type)) fields)[x]?) z.cells (parts.map fun x => (x.1, a.eval x.2)).toList = some out' := by
    rw [← h1]; simp
  rw [h1']; rfl

theorem sim_buildA {t e : TypeId} {n : Nat} {parts : Array (Nat × Operand)} {i ie : TypeInfo} {z : Value} {ps : List (Nat × Nat × Operand)} (ho : o.op = .build t parts) (hu : X.P.underlying t = some (.array n e))
    (hi : X.P.info? t = some i) (hz : i.zero = some z) (hp : vpureL z.cells.toList = true) (hie : X.P.info? e = some ie)
    (hps : ps = parts.toList.map (fun p => (p.1 * ie.size, ie.size, p.2))) (hok : ∀ p ∈ parts.toList, opdOk X.ng p.2 = true) (hf : FRel ι fr a nt) (hw : WRel X ι st w)
    (h : op_build z.cells.toList ps call fr st = .ok v fr' st') : fr' = fr ∧ SimR X ι w v st st' (execOp a.eval o) := by
  obtain ⟨out, out', h1, h2, h3⟩ := fill_sim (fun j => some (j * ie.size, ie.size)) hf hw (by simp) parts.toList ps (by rw [hps]; simp) (fun p hp => ⟨by simp, hok p hp⟩) z.cells.toList z.cells (VRels.pureL ι _ hp) h
  cases h3
  refine ⟨rfl, SimR.same (v' := .agg out') hw ?_ (VRel.of_agg h2)⟩
  unfold execOp; rw [ho]
  simp only [Instr.build, Sem.run_bind, zeroValue_run hi hz, Result.andThen, run_underlying hu, sizeOf_run hie]
  have h1' : Instr.fill (fun i => some (i * ie.size, ie.size)) z.cells (parts.map fun x => (x.1, a.eval x.2)).toList = some out' := by
    rw [← h1]; simp
  rw [h1']; rfl

theorem sim_bslice {t e : TypeId} {len : Nat} {parts : Array (Nat × Operand)} {ie : TypeInfo} {z : Value} {zs : List Value} {ps : List (Nat × Nat × Operand)} (ho : o.op = .buildSlice t len parts) (hu : X.P.underlying t = some (.slice e))
    (hie : X.P.info? e = some ie) (hz : ie.zero = some z) (hlim : len * ie.size ≤ 2 ^ 24) (hzs : zs = (List.range (len * ie.size)).map (fun j => (if len * ie.size = 0 then (#[] : Array Value) else z.cells)[j % (if len * ie.size = 0 then (#[] : Array Value) else z.cells).size]!))
    (hp : vpureL zs = true) (hps : ps = parts.toList.map (fun p => (p.1 * ie.size, ie.size, p.2))) (hok : ∀ p ∈ parts.toList, opdOk X.ng p.2 = true) (hf : FRel ι fr a nt) (hw : WRel X ι st w)
    (h : op_bslice e len zs ps call fr st = .ok v fr' st') : fr' = fr ∧ SimA X ι w v st st' (execOp a.eval o) := by
  obtain ⟨out, out', h1, h2, h3⟩ := fill_sim (fun j => some (j * ie.size, ie.size)) hf hw (by simp) parts.toList ps (by rw [hps]; simp) (fun p hp => ⟨by simp, hok p hp⟩) zs zs.toArray (by simpa using VRels.pureL ι _ hp) h
  rw [newK_eq] at h3
  cases h3
  obtain ⟨κ, k1, k2, k3, hκ⟩ := hw.newCells e h2 { w with heap := w.heap.push (.cells out' e) } (by simp)
  rw [hκ] at k1 k2 k3
  refine ⟨rfl, _, _, _, .slice (some ⟨w.heap.size, 0, none⟩) len len, _, rfl, by simp, ?_, rfl, ?_, k1, k2⟩
  · unfold execOp; rw [ho]
    simp only [Instr.buildSlice, Sem.run_bind, Result.andThen, run_underlying hu, sizeOf_run hie]
    rw [if_neg (by omega)]
    have h1' : Instr.fill (fun i => some (i * ie.size, ie.size)) ((Array.range (len * ie.size)).map ((if len * ie.size = 0 then (#[] : Array Value) else z.cells)[· % (if len * ie.size = 0 then (#[] : Array Value) else z.cells).size]!)) (parts.map fun x => (x.1, a.eval x.2)).toList = some out' := by
      rw [← h1]
      congr 1
      · rw [hzs]; apply Array.ext'; simp
      · simp
    by_cases h0 : len * ie.size = 0
    · simp only [h0, if_true] at h1' ⊢
      simp only [Sem.run_pure, Result.andThen, Sem.run_bind, h1', newRow, run_newObj]
    · simp only [h0, if_false] at h1' ⊢
      simp only [Sem.run_pure, Sem.run_bind, zeroValue_run hie hz, Result.andThen, h1', newRow, run_newObj]
  · have := VRel.slc (ι := extI ι st.nx ⟨w.heap.size, 0, 0, id⟩) ⟨st.nx, 0, none⟩ ⟨w.heap.size, 0, 0, id⟩ 0 len len k3 rfl (.inl rfl)
    simpa using this

theorem copies_eq (z : List Value) : ∀ (n : Nat), z ≠ [] → copies z n = (List.range (n * z.length)).map (fun j => z.toArray[j % z.toArray.size]!)
  | 0, _ => by simp only [Nat.zero_mul, List.range_zero, List.map_nil]; rfl
  | n + 1, hz => by
    show appX z (copies z n) = _
    rw [appX_eq, copies_eq z n hz]
    have hpos : 0 < z.length := List.length_pos_iff.2 hz
    rw [Nat.succ_mul, Nat.add_comm, List.range_add, List.map_append, List.map_map]
    congr 1
    · apply List.ext_getElem?
      intro j
      by_cases hj : j < z.length
      · simp [hj, Nat.mod_eq_of_lt hj]
      · simp [hj]
    · apply List.map_congr_left
      intro j _
      simp

theorem sim_mksl {t e : TypeId} {l c : Operand} {ie : TypeInfo} {z : Value} (hl : opdOk X.ng l = true) (hc : opdOk X.ng c = true) (ho : o.op = .makeSlice t l c) (hu : X.P.underlying t = some (.slice e)) (hie : X.P.info? e = some ie)
    (hz : ie.zero = some z) (hsz : z.cells.toList.length = ie.size) (hne : ie.size ≠ 0) (hp : vpureL z.cells.toList = true) (hf : FRel ι fr a nt) (hw : WRel X ι st w)
    (h : op_mksl e ie.bytes z.cells.toList l c call fr st = .ok v fr' st') : fr' = fr ∧ SimA X ι w v st st' (execOp a.eval o) := by
  obtain ⟨k, ln0, hlv, g1⟩ := vInt_inv h (by simp)
  obtain ⟨k', cn0, hcv, g2⟩ := vInt_inv g1 (by simp)
  obtain ⟨ln, e1, g3⟩ := natK_inv g2 (by simp)
  obtain ⟨cn, e2, g4⟩ := natK_inv g3 (by simp)
  clear h g1 g2 g3
  subst e1 e2
  obtain ⟨hle, g5⟩ := leK_inv g4 (by simp)
  obtain ⟨hb, g6⟩ := leK_inv g5 (by simp)
  rw [newK_eq] at g6
  cases g6
  have hl' := hf.ev hw hl
  rw [hlv] at hl'
  generalize hle1 : a.eval l = lv at hl'
  have hc' := hf.ev hw hc
  rw [hcv] at hc'
  generalize hce1 : a.eval c = cv at hc'
  cases hl'; cases hc'
  have hzne : z.cells.toList ≠ [] := by intro e; rw [e] at hsz; simp at hsz; omega
  have hcp := copies_eq z.cells.toList cn hzne
  have hpure : VRels ι (copies z.cells.toList cn) (copies z.cells.toList cn) := by
    have : ∀ n, VRels ι (copies z.cells.toList n) (copies z.cells.toList n) := by
      intro n
      induction n with
      | zero => exact VRels.nil ι
      | succ n ih => show VRels ι (appX _ _) (appX _ _); rw [appX_eq]; exact (VRels.pureL ι _ hp).append ih
    exact this cn
  obtain ⟨κ, k1, k2, k3, hκ⟩ := hw.newCells e hpure { w with heap := w.heap.push (.cells (copies z.cells.toList cn).toArray e) } (by simp)
  rw [hκ] at k1 k2 k3
  refine ⟨rfl, _, _, _, .slice (some ⟨w.heap.size, 0, none⟩) ln cn, _, rfl, by simp, ?_, rfl, ?_, k1, k2⟩
  · have hb' : cn * (ie.bytes + 1) ≤ 1099511627776 := hb
    have hcn : cn ≤ 1099511627776 := Nat.le_trans (Nat.le_mul_of_pos_right cn (by omega)) hb'
    have hcb : ie.bytes * cn ≤ 1099511627776 := by
      have : ie.bytes * cn ≤ cn * (ie.bytes + 1) := by rw [Nat.mul_comm]; exact Nat.mul_le_mul_left _ (by omega)
      omega
    have wl : IntKind.i64.wrap (ln : Int) = ln := by rw [← wrapX_eq]; simp only [wrapX]; rw [wS_eq _ _ _ (by decide)]; rw [if_neg] <;> omega
    have wc : IntKind.i64.wrap (cn : Int) = cn := by rw [← wrapX_eq]; simp only [wrapX]; rw [wS_eq _ _ _ (by decide)]; rw [if_neg] <;> omega
    unfold execOp; rw [ho]
    have hbi : ¬ ((ie.bytes : Int) * (cn : Int) > 2 ^ 48) := by
      have : ((ie.bytes * cn : Nat) : Int) ≤ 1099511627776 := by omega
      rw [Int.natCast_mul] at this
      omega
    have hg : (decide ((cn : Int) < 0) || decide ((ie.bytes : Int) * (cn : Int) > 2 ^ 48) || decide ((ln : Int) < 0) || decide ((ln : Int) > (cn : Int))) = false := by
      simp only [Bool.or_eq_false_iff, decide_eq_false_iff_not]
      omega
    have hcell : (Array.range (cn * ie.size)).map (z.cells[· % z.cells.size]!) = (copies z.cells.toList cn).toArray := by
      rw [hcp]; apply Array.ext'; simp [hsz]
    have hn0 : ¬ (cn * ie.size = 0) ∨ cn * ie.size = 0 := by omega
    simp only [Instr.makeSlice, Sem.run_bind, Result.andThen, run_underlying hu, hle1, hce1, asInt, asIntOf, Sem.run_pure, typeInfo, run_program, hie, wl, wc, hg, Bool.false_eq_true, if_false, run_askRoom, sizeOf_run hie, Int.toNat_natCast]
    by_cases h0 : cn * ie.size = 0
    · have hc0 : cn = 0 := by rcases Nat.mul_eq_zero.1 h0 with h | h; exact h; exact absurd h hne
      subst hc0
      have e0 : copies z.cells.toList 0 = [] := rfl
      simp [Result.andThen, newRow, e0]
      congr 2
      apply Array.ext'; simp
    · rw [if_neg h0]
      simp only [Sem.run_bind, zeroValue_run hie hz, Result.andThen, Sem.run_pure, hcell, newRow, run_newObj]
  · have := VRel.slc (ι := extI ι st.nx ⟨w.heap.size, 0, 0, id⟩) ⟨st.nx, 0, none⟩ ⟨w.heap.size, 0, 0, id⟩ 0 ln cn k3 rfl (.inl rfl)
    simpa using this

end
end Go.AM
namespace Go.AM
variable {X : Ctx}

section
variable {ι : Inj} {fr fr' : AFr} {a : Act} {nt : Nat} {st st' : St} {w : World} {o : Oper} {v : Value} {call : CallT}

theorem sim_un {op : UnOp} {t : TypeId} {x : Operand} (hx : opdOk X.ng x = true) (ho : o.op = .unOp op t x) (hf : FRel ι fr a nt) (hw : WRel X ι st w) (h : op_un op x call fr st = .ok v fr' st') :
    fr' = fr ∧ SimR X ι w v st st' (execOp a.eval o) := by
  have hx' := hf.ev hw hx
  generalize hxv : a.eval x = xv at hx'
  unfold op_un at h
  cases op with
  | neg =>
    obtain ⟨k, n, hp, g⟩ := vInt_inv h (by simp)
    rw [intV_eq, wrapX_eq, negX_eq] at g
    rw [hp] at hx'
    cases hx'
    cases g
    refine ⟨rfl, SimR.same (v' := .int k (k.wrap (-n))) hw ?_ (.int _ _)⟩
    unfold execOp; rw [ho]; simp [hxv, Op.unary, Op.intArith]
  | xor =>
    obtain ⟨k, n, hp, g⟩ := vInt_inv h (by simp)
    rw [intV_eq] at g
    rw [hp] at hx'
    cases hx'
    cases g
    refine ⟨rfl, SimR.same (v' := .int k _) hw ?_ (.int _ _)⟩
    unfold execOp; rw [ho]; simp [hxv, Op.unary, Op.intBits]
  | not =>
    obtain ⟨b, hp, g⟩ := vBool_inv h (by simp)
    rw [hp] at hx'
    cases hx'
    cases g
    refine ⟨rfl, SimR.same (v' := .bool (!b)) hw ?_ (.bool _)⟩
    unfold execOp; rw [ho]; simp [hxv, Op.unary]
  | _ => cases h

theorem sim_nilck {x : Operand} (hx : opdOk X.ng x = true) (ho : o.op = .nilCheck x) (hf : FRel ι fr a nt) (hw : WRel X ι st w) (h : op_nilck x call fr st = .ok v fr' st') :
    fr' = fr ∧ SimR X ι w v st st' (execOp a.eval o) := by
  have hx' := hf.ev hw hx
  generalize hxv : a.eval x = xv at hx'
  unfold op_nilck at h
  generalize hfv : fr.ev x = fv at h hx'
  cases fv with
  | pointer p =>
    cases p with
    | none => cases h
    | some ad =>
      have h : OR.ok (.pointer (some ad)) fr st = .ok v fr' st' := h
      cases h
      cases hx' with
      | ptr _ l hl hs =>
        refine ⟨rfl, SimR.same (v' := .pointer (some ⟨l.blk, l.sh + ad.off, none⟩)) hw ?_ (.ptr _ _ hl hs)⟩
        unfold execOp; rw [ho]; simp [hxv]
  | func f x1 x2 =>
    cases f with
    | func g =>
      have h : OR.ok (.func (.func g) x1 x2) fr st = .ok v fr' st' := h
      cases h
      cases hx' with
      | func _ g' _ ys _ vs hfn h1 h2 h3 h4 =>
        rcases hfn with ⟨rfl, _⟩ | ⟨l, b, e, _⟩
        · refine ⟨rfl, SimR.same (v' := .func (.func g) ys vs) hw ?_ (.func _ _ _ _ _ _ (.inl ⟨rfl, by simp⟩) h1 h2 h3 h4)⟩
          unfold execOp; rw [ho]; simp [hxv]
        · cases e
    | _ => cases h
  | _ => cases h

theorem maxInts_sim (k : IntKind) (hf : FRel ι fr a nt) (hw : WRel X ι st w) : ∀ (xs : List Operand) (m r : Int), (∀ x ∈ xs, opdOk X.ng x = true) → maxInts k fr xs m = some r →
    ((xs.map a.eval).foldlM Builtin.max2 (.int k m)).run X.P w = .ok (.int k r) w
  | [], m, r, _, h => by cases h; simp
  | x :: xs, m, r, hok, h => by
    obtain ⟨k', y, hy, h1⟩ := vInt_inv h (by simp)
    obtain ⟨hk, h2⟩ := cond_inv h1 (by simp)
    have hk' := kindEq_eq hk
    have hx' := hf.ev hw (hok x (by simp))
    rw [hy] at hx'
    generalize hxv : a.eval x = xv at hx'
    cases hx'
    have ih := maxInts_sim k hf hw xs _ r (fun z hz => hok z (by simp [hz])) h2
    simp only [List.map_cons, List.foldlM_cons, Sem.run_bind, hxv, Builtin.max2, Sem.run_pure, Result.andThen]
    have e : (if y > m then y else m) = cond (leX y m) m y := by
      rw [leX_eq]
      by_cases c : y ≤ m
      · rw [if_neg (by omega)]; simp [c]
      · rw [if_pos (by omega)]; simp [c]
    rw [e]; exact ih

theorem minInts_sim (k : IntKind) (hf : FRel ι fr a nt) (hw : WRel X ι st w) : ∀ (xs : List Operand) (m r : Int), (∀ x ∈ xs, opdOk X.ng x = true) → minInts k fr xs m = some r →
    ((xs.map a.eval).foldlM Builtin.min2 (.int k m)).run X.P w = .ok (.int k r) w
  | [], m, r, _, h => by cases h; simp
  | x :: xs, m, r, hok, h => by
    obtain ⟨k', y, hy, h1⟩ := vInt_inv h (by simp)
    obtain ⟨hk, h2⟩ := cond_inv h1 (by simp)
    have hk' := kindEq_eq hk
    have hx' := hf.ev hw (hok x (by simp))
    rw [hy] at hx'
    generalize hxv : a.eval x = xv at hx'
    cases hx'
    have ih := minInts_sim k hf hw xs _ r (fun z hz => hok z (by simp [hz])) h2
    simp only [List.map_cons, List.foldlM_cons, Sem.run_bind, hxv, Builtin.min2, Sem.run_pure, Result.andThen]
    have e : (if y < m then y else m) = cond (leX m y) m y := by
      rw [leX_eq]
      by_cases c : m ≤ y
      · rw [if_neg (by omega)]; simp [c]
      · rw [if_pos (by omega)]; simp [c]
    rw [e]; exact ih

theorem sim_mx {x : Operand} {xs : List Operand} {ts : Array TypeId} (hok : ∀ y ∈ x :: xs, opdOk X.ng y = true) (ho : o.op = .call { callee := .builtin .max, args := (x :: xs).toArray, argTypes := ts }) (hf : FRel ι fr a nt) (hw : WRel X ι st w)
    (h : op_mx x xs call fr st = .ok v fr' st') : fr' = fr ∧ SimR X ι w v st st' (execOp a.eval o) := by
  obtain ⟨k, n, hp, h1⟩ := vInt_inv h (by simp)
  obtain ⟨m, hm, h2⟩ := oK_inv h1 (by simp)
  rw [intV_eq] at h2
  have hx' := hf.ev hw (hok x (by simp))
  rw [hp] at hx'
  generalize hxv : a.eval x = xv at hx'
  cases hx'
  cases h2
  have hr := maxInts_sim k hf hw xs n m (fun y hy => hok y (by simp [hy])) hm
  refine ⟨rfl, SimR.same (v' := .int k m) hw ?_ (.int _ _)⟩
  unfold execOp; rw [ho]
  simp [hxv, resolve, invoke, builtin, Builtin.max_, hr, Result.andThen]

theorem sim_mn {x : Operand} {xs : List Operand} {ts : Array TypeId} (hok : ∀ y ∈ x :: xs, opdOk X.ng y = true) (ho : o.op = .call { callee := .builtin .min, args := (x :: xs).toArray, argTypes := ts }) (hf : FRel ι fr a nt) (hw : WRel X ι st w)
    (h : op_mn x xs call fr st = .ok v fr' st') : fr' = fr ∧ SimR X ι w v st st' (execOp a.eval o) := by
  obtain ⟨k, n, hp, h1⟩ := vInt_inv h (by simp)
  obtain ⟨m, hm, h2⟩ := oK_inv h1 (by simp)
  rw [intV_eq] at h2
  have hx' := hf.ev hw (hok x (by simp))
  rw [hp] at hx'
  generalize hxv : a.eval x = xv at hx'
  cases hx'
  cases h2
  have hr := minInts_sim k hf hw xs n m (fun y hy => hok y (by simp [hy])) hm
  refine ⟨rfl, SimR.same (v' := .int k m) hw ?_ (.int _ _)⟩
  unfold execOp; rw [ho]
  simp [hxv, resolve, invoke, builtin, Builtin.min_, hr, Result.andThen]

/-- A bound of a slice expression. -/
theorem bound_sim (hf : FRel ι fr a nt) (hw : WRel X ι st w) {x : Option Operand} (hx : ∀ y, x = some y → opdOk X.ng y = true) {d y : Nat} {k : Nat → OR} {r : OR} (h : boundK fr x d y k = r) (hr : OR.no ≠ r) :
    ∃ n, k n = r ∧ ((x = none ∧ n = d) ∨ (∃ z kk, x = some z ∧ a.eval z = .int kk (n : Int) ∧ n ≤ y)) := by
  cases x with
  | none => exact ⟨d, h, .inl ⟨rfl, rfl⟩⟩
  | some z =>
    obtain ⟨kk, m, hp, h1⟩ := vInt_inv (h : vInt (fr.ev z) _ _ = r) hr
    obtain ⟨n, e, h2⟩ := natK_inv h1 hr
    obtain ⟨hle, h3⟩ := leK_inv h2 hr
    have hz := hf.ev hw (hx z rfl)
    rw [hp] at hz
    generalize hzv : a.eval z = zv at hz
    cases hz
    exact ⟨n, h3, .inr ⟨z, kk, rfl, by rw [hzv, e], hle⟩⟩

end
end Go.AM
namespace Go.AM
variable {X : Ctx}

theorem sliceBound_run (P : Program) (w : World) (kk : IntKind) (n y : Nat) (c : BoundsCode) (h : n ≤ y) : (Instr.sliceBound (.int kk (n : Int)) y c).run P w = .ok n w := by
  have : (n : Int) ≤ (y : Int) := by omega
  simp [Instr.sliceBound, asIntOf, h]

/-- A bound as the model reads it. -/
def BoundIs (v : Option Value) (d y n : Nat) : Prop := (v = none ∧ n = d) ∨ ∃ kk, v = some (.int kk (n : Int)) ∧ n ≤ y

theorem sliceBounds_run (P : Program) (w : World) (is : Bool) (len cap l h m : Nat) (lo hi mx : Option Value) (hm : BoundIs mx cap cap m) (hh : BoundIs hi len m h) (hl : BoundIs lo 0 h l) (hx : mx ≠ none → hi ≠ none) :
    (Instr.sliceBounds is len cap lo hi mx).run P w = .ok (l, h, m) w := by
  unfold Instr.sliceBounds
  rcases hm with ⟨rfl, rfl⟩ | ⟨km, rfl, hm⟩
  · clear hx
    rcases hh with ⟨rfl, rfl⟩ | ⟨kh, rfl, hh⟩ <;> rcases hl with ⟨rfl, rfl⟩ | ⟨kl, rfl, hl⟩ <;> simp [sliceBound_run, Result.andThen, *]
  · rcases hh with ⟨rfl, rfl⟩ | ⟨kh, rfl, hh⟩
    · exact absurd rfl (hx (by simp))
    · clear hx
      rcases hl with ⟨rfl, rfl⟩ | ⟨kl, rfl, hl⟩ <;> simp [sliceBound_run, Result.andThen, *]

section
variable {ι : Inj} {fr fr' : AFr} {a : Act} {nt : Nat} {st st' : St} {w : World} {o : Oper} {v : Value} {call : CallT}

theorem boundIs_of {x : Option Operand} {d y n : Nat} (h : (x = none ∧ n = d) ∨ (∃ z kk, x = some z ∧ a.eval z = .int kk (n : Int) ∧ n ≤ y)) : BoundIs (x.map a.eval) d y n := by
  rcases h with ⟨rfl, rfl⟩ | ⟨z, kk, rfl, h1, h2⟩
  · exact .inl ⟨rfl, rfl⟩
  · exact .inr ⟨kk, by simp [h1], h2⟩

theorem extract_str (s : ByteArray) (l h : Nat) (_hl : l ≤ h) (_hh : h ≤ s.data.toList.length) : (⟨⟨(s.data.toList.drop l).take (h - l)⟩⟩ : ByteArray) = s.extract l h := by
  apply ByteArray.ext
  rw [ByteArray.data_extract]
  apply Array.ext'
  rw [Array.toList_extract, List.extract_eq_take_drop]

theorem bound_le {x : Option Operand} {d y n : Nat} (h : (x = none ∧ n = d) ∨ (∃ z kk, x = some z ∧ a.eval z = .int kk (n : Int) ∧ n ≤ y)) (hd : d ≤ y) : n ≤ y := by
  rcases h with ⟨_, rfl⟩ | ⟨_, _, _, _, h⟩ <;> omega

theorem sim_slstr {t : TypeId} {x : Operand} {lo hi : Option Operand} (hx : opdOk X.ng x = true) (h1 : ∀ y, lo = some y → opdOk X.ng y = true) (h2 : ∀ y, hi = some y → opdOk X.ng y = true) (ho : o.op = .slice t x lo hi none)
    (hu : X.P.underlying t = some .string) (hf : FRel ι fr a nt) (hw : WRel X ι st w) (h : op_slstr x lo hi call fr st = .ok v fr' st') : fr' = fr ∧ SimR X ι w v st st' (execOp a.eval o) := by
  obtain ⟨s, hp, g1⟩ := vString_inv h (by simp)
  obtain ⟨hn, g2, b1⟩ := bound_sim hf hw h2 g1 (by simp)
  obtain ⟨ln, g3, b2⟩ := bound_sim hf hw h1 g2 (by simp)
  obtain ⟨hc, g4⟩ := cutK_inv g3 (by simp)
  cases g4
  rw [lenX_eq] at b1
  have hhl : hn ≤ s.data.toList.length := bound_le b1 (Nat.le_refl _)
  have hll : ln ≤ hn := bound_le b2 (Nat.zero_le _)
  have hx' := hf.ev hw hx
  rw [hp] at hx'
  generalize hxv : a.eval x = xv at hx'
  cases hx'
  refine ⟨rfl, SimR.same (v' := .string (s.extract ln hn)) hw ?_ ?_⟩
  · unfold execOp; rw [ho]
    have hsz : s.data.toList.length = s.size := by rw [Array.length_toList]; rfl
    rw [hsz] at b1
    have hb := sliceBounds_run X.P w false s.size s.size ln hn s.size (lo.map a.eval) (hi.map a.eval) none (.inl ⟨rfl, rfl⟩) (boundIs_of b1) (boundIs_of b2) (by simp)
    simp [hxv, Instr.sliceAt, Instr.slice, run_underlying hu, Result.andThen, hb]
  · have e := extract_str s ln hn hll hhl
    have : (Nat.sub hn ln) = hn - ln := rfl
    rw [this, e]; exact .string _

theorem sim_slarr {t e : TypeId} {n : Nat} {x : Operand} {lo hi mx : Option Operand} {ie : TypeInfo} (hx : opdOk X.ng x = true) (h1 : ∀ y, lo = some y → opdOk X.ng y = true) (h2 : ∀ y, hi = some y → opdOk X.ng y = true) (h3 : ∀ y, mx = some y → opdOk X.ng y = true)
    (hmx : mx ≠ none → hi ≠ none) (ho : o.op = .slice t x lo hi mx) (hu : X.P.underlying t = some (.array n e)) (hie : X.P.info? e = some ie) (hf : FRel ι fr a nt) (hw : WRel X ι st w)
    (h : op_slarr n ie.size x lo hi mx call fr st = .ok v fr' st') : fr' = fr ∧ SimR X ι w v st st' (execOp a.eval o) := by
  obtain ⟨p, hp, g1⟩ := vPointer_inv h (by simp)
  obtain ⟨ad, e1, g2⟩ := oK_inv g1 (by simp)
  subst e1
  obtain ⟨hs, cs, elem, fz, gr, hg, g3⟩ := cellsAt_inv g2 (by simp)
  obtain ⟨hgr, g4⟩ := ncond_inv g3 (by simp)
  obtain ⟨m, g5, b0⟩ := bound_sim hf hw h3 g4 (by simp)
  obtain ⟨hn, g6, b1⟩ := bound_sim hf hw h2 g5 (by simp)
  obtain ⟨ln, g7, b2⟩ := bound_sim hf hw h1 g6 (by simp)
  cases g7
  subst hgr
  obtain ⟨l, hl, C, fz', hc⟩ := hw.objs _ _ hg (by simp)
  have hx' := hf.ev hw hx
  rw [hp] at hx'
  generalize hxv : a.eval x = xv at hx'
  cases hx' with
  | ptr _ l' hl' hs' =>
    rw [hl] at hl'; cases hl'
    have hpl := hc.plain rfl
    refine ⟨rfl, SimR.same (v' := .slice (some (if m = ln then ⟨l.blk, l.sh + ad.off, none⟩ else Addr.add ⟨l.blk, l.sh + ad.off, none⟩ (ln * ie.size))) (hn - ln) (m - ln)) hw ?_ ?_⟩
    · unfold execOp; rw [ho]
      have hb := sliceBounds_run X.P w false n n ln hn m (lo.map a.eval) (hi.map a.eval) (mx.map a.eval) (boundIs_of b0) (boundIs_of b1) (boundIs_of b2) (by simpa using hmx)
      simp [hxv, Instr.sliceAt, Instr.sureAddr, run_underlying hu, Result.andThen, hb, sizeOf_run hie]
    · rw [eqK_eq]
      by_cases c : m = ln
      · rw [if_pos c, if_pos c]
        have := VRel.slc (ι := ι) ad l (l.sh + ad.off) (Nat.sub hn ln) (Nat.sub m ln) hl hs (.inl rfl)
        rw [hpl.1] at this; exact this
      · rw [if_neg c, if_neg c, add_eq]
        have := VRel.slc (ι := ι) (ad.add (Nat.mul ln ie.size)) l (l.sh + (ad.add (Nat.mul ln ie.size)).off) (Nat.sub hn ln) (Nat.sub m ln) (by rw [add_block]; exact hl) (add_spot _ _ hs) (.inl rfl)
        rw [hpl.1, add_off, ← Nat.add_assoc] at this; exact this

theorem sim_slsl {t e : TypeId} {x : Operand} {lo hi mx : Option Operand} {ie : TypeInfo} (hx : opdOk X.ng x = true) (h1 : ∀ y, lo = some y → opdOk X.ng y = true) (h2 : ∀ y, hi = some y → opdOk X.ng y = true) (h3 : ∀ y, mx = some y → opdOk X.ng y = true)
    (hmx : mx ≠ none → hi ≠ none) (ho : o.op = .slice t x lo hi mx) (hu : X.P.underlying t = some (.slice e)) (hie : X.P.info? e = some ie) (hf : FRel ι fr a nt) (hw : WRel X ι st w)
    (h : op_slsl ie.size x lo hi mx call fr st = .ok v fr' st') : fr' = fr ∧ SimR X ι w v st st' (execOp a.eval o) := by
  obtain ⟨b, len, cap, hp, g1⟩ := vSlice_inv h (by simp)
  have hx' := hf.ev hw hx
  rw [hp] at hx'
  generalize hxv : a.eval x = xv at hx'
  cases b with
  | none =>
    have g1 : boundK fr mx cap cap (fun m => boundK fr hi len m fun h => boundK fr lo 0 h fun l => .ok (.slice none (Nat.sub h l) (Nat.sub m l)) fr st) = OR.ok v fr' st' := g1
    obtain ⟨m, g5, b0⟩ := bound_sim hf hw h3 g1 (by simp)
    obtain ⟨hn, g6, b1⟩ := bound_sim hf hw h2 g5 (by simp)
    obtain ⟨ln, g7, b2⟩ := bound_sim hf hw h1 g6 (by simp)
    cases g7
    cases hx'
    refine ⟨rfl, SimR.same (v' := .slice none (hn - ln) (m - ln)) hw ?_ (.slcNil _ _)⟩
    unfold execOp; rw [ho]
    have hb := sliceBounds_run X.P w true len cap ln hn m (lo.map a.eval) (hi.map a.eval) (mx.map a.eval) (boundIs_of b0) (boundIs_of b1) (boundIs_of b2) (by simpa using hmx)
    simp [hxv, Instr.sliceAt, Instr.slice, run_underlying hu, Result.andThen, hb, sizeOf_run hie]
  | some ad =>
    obtain ⟨hs, cs, elem, fz, gr, hg, g3⟩ := cellsAt_inv (g1 : St.cellsAt st ad _ _ = _) (by simp)
    obtain ⟨l, hl, C, fz', hc⟩ := hw.objs _ _ hg (by simp)
    cases hx' with
    | slc _ l' off _ _ hl' hs' hoff =>
      rw [hl] at hl'; cases hl'
      cases gr with
      | false =>
        have hpl := hc.plain rfl
        obtain ⟨m, g5, b0⟩ := bound_sim hf hw h3 (g3 : boundK fr mx cap cap _ = _) (by simp)
        obtain ⟨hn, g6, b1⟩ := bound_sim hf hw h2 g5 (by simp)
        obtain ⟨ln, g7, b2⟩ := bound_sim hf hw h1 g6 (by simp)
        cases g7
        have hmc : m ≤ cap := bound_le b0 (Nat.le_refl _)
        refine ⟨rfl, SimR.same (v' := .slice (some (if m = ln then ⟨l.blk, off, none⟩ else Addr.add ⟨l.blk, off, none⟩ (ln * ie.size))) (hn - ln) (m - ln)) hw ?_ ?_⟩
        · unfold execOp; rw [ho]
          have hb := sliceBounds_run X.P w true len cap ln hn m (lo.map a.eval) (hi.map a.eval) (mx.map a.eval) (boundIs_of b0) (boundIs_of b1) (boundIs_of b2) (by simpa using hmx)
          have hex : cap + l.ex = cap := by rw [hpl.1]; rfl
          rw [hex] at hxv
          simp only [hxv, Instr.sliceAt, Instr.slice, Sem.run_bind, run_underlying hu, Result.andThen, hb, sizeOf_run hie, Sem.run_pure]
          by_cases c : m = ln <;> simp [c]
        · rw [eqK_eq]
          by_cases c : m = ln
          · rw [if_pos c, if_pos c]
            have := VRel.slc (ι := ι) ad l off (Nat.sub hn ln) (Nat.sub m ln) hl hs (by
              rcases hoff with h | ⟨h1, h2, h3⟩
              · exact .inl h
              · right; subst h1 h2
                have e1 : Nat.sub m ln = m - ln := rfl
                have e2 : Nat.sub hn ln = hn - ln := rfl
                have hh : hn ≤ m := by
                  rcases b1 with ⟨_, e⟩ | ⟨_, _, _, _, e⟩ <;> omega
                refine ⟨by omega, by omega, h3⟩)
            rw [hpl.1] at this; exact this
          · rw [if_neg c, if_neg c, add_eq]
            have hoff' : off = l.sh + ad.off := by
              rcases hoff with h | ⟨h1, h2, h3⟩
              · exact h
              · exfalso; subst h1 h2
                have hh : hn ≤ m := by
                  rcases b1 with ⟨_, e⟩ | ⟨_, _, _, _, e⟩ <;> omega
                have hll : ln ≤ hn := bound_le b2 (Nat.zero_le _)
                omega
            subst hoff'
            have := VRel.slc (ι := ι) (ad.add (Nat.mul ln ie.size)) l (l.sh + (ad.add (Nat.mul ln ie.size)).off) (Nat.sub hn ln) (Nat.sub m ln) (by rw [add_block]; exact hl) (add_spot _ _ hs) (.inl rfl)
            rw [hpl.1, add_off, ← Nat.add_assoc] at this; exact this
      | true =>
        obtain ⟨hmn, g4⟩ := oK_none (g3 : oK mx (fun _ => OR.no) _ = OR.ok v fr' st') (fun _ => by simp)
        obtain ⟨hlc, g5⟩ := leK_inv g4 (by simp)
        obtain ⟨hn, g6, b1⟩ := bound_sim hf hw h2 g5 (by simp)
        obtain ⟨ln, g7, b2⟩ := bound_sim hf hw h1 g6 (by simp)
        cases g7
        subst hmn
        have hhl : hn ≤ len := bound_le b1 (Nat.le_refl _)
        have hll : ln ≤ hn := bound_le b2 (Nat.zero_le _)
        have b1' : (hi = none ∧ hn = len) ∨ (∃ z kk, hi = some z ∧ a.eval z = .int kk (hn : Int) ∧ hn ≤ cap + l.ex) := by
          rcases b1 with h | ⟨z, kk, h1, h2, h3⟩
          · exact .inl h
          · exact .inr ⟨z, kk, h1, h2, by omega⟩
        refine ⟨rfl, SimR.same (v' := .slice (some (if cap + l.ex = ln then ⟨l.blk, off, none⟩ else Addr.add ⟨l.blk, off, none⟩ (ln * ie.size))) (hn - ln) (cap + l.ex - ln)) hw ?_ ?_⟩
        · unfold execOp; rw [ho]
          have hb := sliceBounds_run X.P w true len (cap + l.ex) ln hn (cap + l.ex) (lo.map a.eval) (hi.map a.eval) none (.inl ⟨rfl, rfl⟩) (boundIs_of b1') (boundIs_of b2) (by simp)
          simp only [hxv, Instr.sliceAt, Instr.slice, Sem.run_bind, run_underlying hu, Result.andThen, Option.map_none, hb, sizeOf_run hie, Sem.run_pure]
          by_cases c : cap + l.ex = ln <;> simp [c]
        · have e1 : Nat.sub cap ln = cap - ln := rfl
          have e2 : cap + l.ex - ln = (cap - ln) + l.ex := by omega
          rw [e2]
          by_cases c : cap + l.ex = ln
          · rw [if_pos c]
            exact VRel.slc (ι := ι) (ad.add (Nat.mul ln ie.size)) l off (Nat.sub hn ln) (Nat.sub cap ln) (by rw [add_block]; exact hl) (add_spot _ _ hs) (.inr ⟨by show hn - ln = 0; omega, by show cap - ln = 0; omega, by omega⟩)
          · rw [if_neg c, add_eq]
            refine VRel.slc (ι := ι) (ad.add (Nat.mul ln ie.size)) l (off + ln * ie.size) (Nat.sub hn ln) (Nat.sub cap ln) (by rw [add_block]; exact hl) (add_spot _ _ hs) ?_
            rcases hoff with h | ⟨h1, h2, h3⟩
            · left; rw [add_off, h, Nat.add_assoc]; rfl
            · exfalso; omega

end
end Go.AM
namespace Go.AM
variable {X : Ctx}

theorem WRel.kill {ι : Inj} {st : St} {w : World} (h : WRel X ι st w) {id : Nat} {o₀ : AObj} (h₀ : st.h.get id = some o₀) : WRel X ι ⟨st.h.set id .dead, st.nx⟩ w := by
  have hid : id < st.nx := by
    rcases Nat.lt_or_ge id st.nx with c | c
    · exact c
    · rw [(h.fresh id c).2] at h₀; cases h₀
  refine ⟨fun j p hp hd => ?_, fun i j p q l m hi hdi hj hdj => ?_, fun j hj => ?_, h.bnd, h.glob, h.globs, fun j l p hl hs hp hd => ?_⟩
  · rw [PM.get_set] at hp
    split at hp
    · cases hp; exact absurd rfl hd
    · exact h.objs j p hp hd
  · rw [PM.get_set] at hi hj
    split at hi
    · cases hi; exact absurd rfl hdi
    · split at hj
      · cases hj; exact absurd rfl hdj
      · exact h.inj i j p q l m hi hdi hj hdj
  · have hj' : st.nx ≤ j := hj
    refine ⟨(h.fresh j hj').1, ?_⟩
    rw [PM.get_set, if_neg (by omega)]; exact (h.fresh j hj').2
  · rw [PM.get_set] at hp
    split at hp
    · cases hp; exact absurd rfl hd
    · exact h.prot j l p hl hs hp hd

/-- An abstract object is left, and another one takes its block. -/
theorem WRel.regrow {ι : Inj} {st : St} {w : World} (h : WRel X ι st w) {id : Nat} {l l' : Loc} {o₀ : AObj} (h₀ : st.h.get id = some o₀) (hd₀ : o₀ ≠ .dead) (hnf : ¬ o₀.froz) (hs' : l'.sg ≠ gsg) (hl : ι id = some l) (o : AObj) (hb' : l'.blk = l.blk) (O : Obj)
    (w' : World) (hw : w'.heap = w.heap.setIfInBounds l.blk O) (hm : ∀ κ : Inj, ι.le κ → w'.heap[l'.blk]? = some O → OMatch X κ w' o l') (so : SameOut w w' := by exact ⟨rfl, rfl⟩) :
    ∃ κ, WRel X κ ⟨(st.h.set id .dead).set st.nx o, st.nx + 1⟩ w' ∧ Keeps ι κ w w' ∧ κ st.nx = some l' := by
  have hb := h.bnd id l hl
  have hsg : l.sg ≠ gsg := fun e => hnf (h.prot id l o₀ hl e h₀ hd₀)
  have hid : id < st.nx := by
    rcases Nat.lt_or_ge id st.nx with c | c
    · exact c
    · rw [(h.fresh id c).2] at h₀; cases h₀
  have hle : ι.le (fun i => if i = st.nx then some l' else ι i) := by
    intro i m hm'
    show (if i = st.nx then _ else ι i) = _
    rw [if_neg]; exact hm'
    intro e; subst e; rw [(h.fresh _ (Nat.le_refl _)).1] at hm'; cases hm'
  refine ⟨fun i => if i = st.nx then some l' else ι i, ⟨fun j p hp hd => ?_, fun i j p q la lb hi hdi hj hdj hli hlj e => ?_, fun j hj => ?_, fun j la hla => ?_, fun g hg => hle _ _ (h.glob g hg), Nat.le_succ_of_le h.globs, fun j la p hla hs hp hd => ?_⟩, ⟨hle, by rw [hw]; simp, fun b _ hi => ?_, fun j la hla => ?_, so⟩, if_pos rfl⟩
  · rw [PM.get_set] at hp
    by_cases e : j = st.nx
    · rw [if_pos e] at hp; cases hp
      exact ⟨l', by simp [e], hm _ hle (by rw [hw, hb']; simp [hb])⟩
    · rw [if_neg e, PM.get_set] at hp
      split at hp
      · cases hp; exact absurd rfl hd
      · rename_i ne
        obtain ⟨m, hm', ho⟩ := h.objs j p hp hd
        refine ⟨m, hle _ _ hm', OMatch.mono X ho hle ?_⟩
        have hne : m.blk ≠ l.blk := fun eb => ne (h.inj j id p o₀ m l hp hd h₀ hd₀ hm' hl eb)
        rw [hw, Array.getElem?_setIfInBounds_ne (Ne.symm hne)]
  · have key : ∀ j p m, ((st.h.set id .dead).set st.nx o).get j = some p → p ≠ .dead → (if j = st.nx then some l' else ι j) = some m →
        (j = st.nx ∧ m = l') ∨ (j ≠ st.nx ∧ j ≠ id ∧ st.h.get j = some p ∧ ι j = some m) := by
      intro j p m hj hd hm'
      rw [PM.get_set] at hj
      by_cases c : j = st.nx
      · rw [if_pos c] at hm'; cases hm'; exact .inl ⟨c, rfl⟩
      · rw [if_neg c, PM.get_set] at hj
        rw [if_neg c] at hm'
        split at hj
        · cases hj; exact absurd rfl hd
        · rename_i ne; exact .inr ⟨c, ne, hj, hm'⟩
    rcases key i p la hi hdi hli with ⟨e1, rfl⟩ | ⟨n1, n2, g1, g2⟩ <;> rcases key j q lb hj hdj hlj with ⟨e2, rfl⟩ | ⟨m1, m2, f1, f2⟩
    · rw [e1, e2]
    · exact absurd (h.inj j id q o₀ lb l f1 hdj h₀ hd₀ f2 hl (by omega)) m2
    · exact absurd (h.inj i id p o₀ la l g1 hdi h₀ hd₀ g2 hl (by omega)) n2
    · exact h.inj i j p q la lb g1 hdi f1 hdj g2 f2 e
  · have hj' : st.nx + 1 ≤ j := hj
    have := h.fresh j (by omega)
    refine ⟨?_, ?_⟩
    · show (if j = st.nx then _ else ι j) = _
      rw [if_neg (by omega)]; exact this.1
    · rw [PM.get_set, if_neg (by omega), PM.get_set, if_neg (by omega)]; exact this.2
  · rw [hw]
    simp only [Array.size_setIfInBounds]
    by_cases e : j = st.nx
    · simp only [if_pos e] at hla; cases hla; omega
    · simp only [if_neg e] at hla; exact h.bnd j la hla
  · rw [PM.get_set] at hp
    by_cases e : j = st.nx
    · simp only [if_pos e] at hla; cases hla; exact absurd hs hs'
    · rw [if_neg e, PM.get_set] at hp
      simp only [if_neg e] at hla
      split at hp
      · cases hp; exact absurd rfl hd
      · exact h.prot j la p hla hs hp hd
  · rw [hw, Array.getElem?_setIfInBounds_ne (hi id l hl hsg)]
  · by_cases e : j = st.nx
    · simp only [if_pos e] at hla; cases hla; exact .inr (.inr ⟨id, l, hl, hsg, hb'.symm⟩)
    · simp only [if_neg e] at hla; exact .inl hla

theorem growBy_le (n B : Nat) (hB : n + (n + 768) / 4 ≤ B) : ∀ r c, c ≤ B → Builtin.growBy n r c ≤ B
  | 0, c, h => h
  | r + 1, c, h => by
    unfold Builtin.growBy
    split
    · exact h
    · rename_i hc
      exact growBy_le n B hB r _ (by omega)
theorem nextcap_le (n c : Nat) (h : c < n) : Builtin.nextslicecap n c ≤ 2 * n + 768 := by
  unfold Builtin.nextslicecap
  split
  · omega
  · split
    · omega
    · exact growBy_le n _ (by omega) 4 c (by omega)

theorem zeroCells_size (z : Array Value) (n : Nat) : (Builtin.zeroCells z n).size = n * z.size := by simp [Builtin.zeroCells]

/-- New memory of unknown capacity. -/
theorem WRel.newGrown {ι : Inj} {st : St} {w : World} {cs cs' : List Value} (hw : WRel X ι st w) (elem : TypeId) (hv : VRels ι cs cs') (rest : List Value) (ex : Nat) (hr : ex * X.P.cellsOf elem ≤ rest.length) (fz : Nat × Nat)
    (hfz : ∀ i, i < cs.length + rest.length → ¬ (fz.1 ≤ i ∧ i < fz.2)) (w' : World) (hh : w'.heap = w.heap.push (.cells (cs' ++ rest).toArray elem fz)) (so : SameOut w w' := by exact ⟨rfl, rfl⟩) :
    ∃ κ, WRel X κ ⟨st.h.set st.nx (.cells cs elem (0, 0) true), st.nx + 1⟩ w' ∧ Keeps ι κ w w' ∧ κ st.nx = some ⟨w.heap.size, 0, ex, id⟩ ∧ κ = extI ι st.nx ⟨w.heap.size, 0, ex, id⟩ := by
  refine WRel.alloc X hw _ _ ex (fun κ w'' hle _ ht => ?_) w' hh so
  refine ⟨(cs' ++ rest).toArray, fz, ⟨ht, by simp [hv.1]; omega, fun i hi => ?_, fun _ j _ hj => ?_, fun h => by cases h⟩⟩
  · have hi' : i < cs'.length := by rw [← hv.1]; exact hi
    refine ⟨cs'[i], ?_, (hv.2 i hi hi').mono hle⟩
    simp [List.getElem?_append_left hi', hi']
  · refine hfz j ?_
    have : 0 + cs.length + ex * X.P.cellsOf elem ≤ cs.length + rest.length := by omega
    exact Nat.lt_of_lt_of_le hj this

end Go.AM
namespace Go.AM
variable {X : Ctx}

/-- What is appended. -/
structure Src (P : Program) (w : World) (x : Value) (n size : Nat) (new : List Value) : Prop where
  len : (Builtin.lenOf x).run P w = .ok n w
  cells : ∀ tape drawn, (Builtin.firstCells size n x).run P { w with tape := tape, drawn := drawn } = .ok new.toArray { w with tape := tape, drawn := drawn }

section
variable {P : Program} {w : World} {tp xt elem : TypeId} {d : TypeDesc} {i : TypeInfo} {x : Value} {n len cap : Nat} {new : List Value}

theorem run_append_in {base : Option Addr} (hu : P.underlying tp = some (.slice elem)) (hx : P.underlying xt = some d) (hd : ∀ k, d ≠ .int k) (hi : P.info? elem = some i) (hs : Src P w x n i.size new) (hn : len + n ≤ cap) (ty : TypeId) (w' : World)
    (hst : ∀ a, base = some a → (storeCells (a.add (len * i.size)) new).run P w = .ok () w') (hno : base = none → w' = w) :
    (Builtin.append_ #[tp, xt] ty #[.slice base len cap, x]).run P w = .ok (.slice base (len + n) cap) w' := by
  have hzz : (d matches .int _) = false := by cases d <;> first | rfl | (exact absurd rfl (hd _))
  have hc := hs.cells w.tape w.drawn
  simp only [Builtin.append_, List.getElem?_toArray, List.getElem?_cons_zero, List.getElem?_cons_succ, Sem.run_bind, run_underlying hu, Result.andThen, sizeOf_run hi, run_underlying hx, Sem.run_pure, Bool.false_eq_true, if_false, hs.len, hn, if_true, Bool.not_false]
  rw [hc]
  cases base with
  | none => simp only [Sem.run_pure]; rw [hno rfl]
  | some a =>
    simp only [Result.andThen, Sem.run_bind, Sem.run_pure]
    rw [hst a rfl]

theorem run_append_new {base : Option Addr} {z : Value} {old : List Value} (hu : P.underlying tp = some (.slice elem)) (hx : P.underlying xt = some d) (hd : ∀ k, d ≠ .int k) (hi : P.info? elem = some i) (hz : i.zero = some z) (hs : Src P w x n i.size new)
    (hn : cap < len + n) (hb : (2 * (len + n) + 768) * (i.bytes + 1) ≤ 1099511627776) (ty : TypeId)
    (hold : ∀ tape drawn, (Builtin.firstCells i.size len (.slice base len cap)).run P { w with tape := tape, drawn := drawn } = .ok old.toArray { w with tape := tape, drawn := drawn }) :
    ∃ nc w', len + n ≤ nc ∧ (Builtin.append_ #[tp, xt] ty #[.slice base len cap, x]).run P w = .ok (.slice (some ⟨w.heap.size, 0, none⟩) (len + n) nc) w' ∧
      w'.heap = w.heap.push (.cells (old ++ new ++ (Builtin.zeroCells z.cells (nc - (len + n))).toList).toArray elem) ∧ SameOut w w' := by
  have hzz : (d matches .int _) = false := by cases d <;> first | rfl | (exact absurd rfl (hd _))
  have hcap := nextcap_le (len + n) cap hn
  have hmul : Builtin.nextslicecap (len + n) cap * i.bytes ≤ 1099511627776 := by
    have h1 : Builtin.nextslicecap (len + n) cap * i.bytes ≤ (2 * (len + n) + 768) * i.bytes := Nat.mul_le_mul_right _ hcap
    have h2 : (2 * (len + n) + 768) * i.bytes ≤ (2 * (len + n) + 768) * (i.bytes + 1) := Nat.mul_le_mul_left _ (by omega)
    omega
  have hneed : len + n ≤ 1099511627776 := by
    have : 2 * (len + n) + 768 ≤ (2 * (len + n) + 768) * (i.bytes + 1) := Nat.le_mul_of_pos_right _ (by omega)
    omega
  have hmax : ¬ (((len + n : Nat) : Int) > IntKind.i64.max ∧ ((false = true) ∨ i.bytes = 0)) := by
    have : IntKind.i64.max = 9223372036854775807 := by decide
    rw [this]; omega
  have hbig : ¬ (Builtin.nextslicecap (len + n) cap * i.bytes > 2 ^ 48) := by omega
  let q : Question := .appendCap (len + n) cap elem
  refine ⟨q.cut (w.tape w.drawn q), { w with drawn := w.drawn + 1, heap := w.heap.push (.cells (old ++ new ++ (Builtin.zeroCells z.cells (q.cut (w.tape w.drawn q) - (len + n))).toList).toArray elem) }, ?_, ?_, rfl, ⟨rfl, rfl⟩⟩
  · show len + n ≤ (len + n) + _; omega
  · have hc := hs.cells w.tape (w.drawn + 1)
    have ho := hold w.tape (w.drawn + 1)
    have hzr := zeroValue_run (P := P) hi hz { w with drawn := w.drawn + 1 }
    simp only [Builtin.append_, List.getElem?_toArray, List.getElem?_cons_zero, List.getElem?_cons_succ, Sem.run_bind, run_underlying hu, Result.andThen, sizeOf_run hi, run_underlying hx, Sem.run_pure, Bool.false_eq_true, if_false, hs.len, typeInfo, Bool.not_false]
    rw [if_neg (by omega)]
    simp only [Sem.run_bind, Sem.run_pure, run_program, Result.andThen, hi]
    rw [if_neg (by simpa using hmax)]
    simp only [Sem.run_bind, Sem.run_pure, run_program, Result.andThen, hi]
    rw [if_neg hbig]
    simp only [Sem.run_bind, Sem.run_pure, run_program, Result.andThen, hi, run_choose, Question.forced, Bool.false_eq_true, if_false, run_askRoom, if_true]
    rw [ho]
    simp only []
    rw [hc]
    simp only [Result.andThen, Sem.run_bind, hzr, Sem.run_pure, newRow, run_newObj]
    simp [q]
    congr 2
    apply Array.ext'; simp
end
end Go.AM
