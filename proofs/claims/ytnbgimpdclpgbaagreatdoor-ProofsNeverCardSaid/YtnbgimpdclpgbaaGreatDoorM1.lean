/- An abstract machine, and that its evaluations stand for runs of the model (part 1); no condition. -/
import Derived.Calls
import Derived.Laws.Cells
import Derived.Maps.Keyed
import Derived.Lib.Strings
import Derived.KernelRfl
import Derived.Laws.StructEq
import Derived.Recover
noncomputable section
set_option linter.all false
namespace Go.bA
universe u
def R{P:Prop}(h:P:=by omega):P:=h
def al{P:Prop}(h:P:=by decide):P:=h
theorem j{α:Sort u}{a:α}:a=a:=rfl
def av{P:Prop}(h:P:=by simp):P:=h
def lh{P:Prop}(h:P:=by assumption):P:=h
def eT{P:Prop}(h:P:=by exact⟨rfl,rfl⟩):P:=h
def dA{P:Prop}(h:P:=by simp;omega):P:=h
def rD{P:Prop}(h:P:=by exact⟨rfl,rfl,rfl⟩):P:=h
def mw{P:Prop}(h:P:=by exact(.inl rfl)):P:=h
def mx{P:Prop}(h:P:=by exact(fun _=>rfl)):P:=h
def sC{P:Prop}(h:P:=by exact(.inr rfl)):P:=h
def lR{P:Prop}(h:P:=by exact(.refl _ _)):P:=h
def dO{P:Prop}(h:P:=by exact(.refl _)):P:=h
def aC:=trivial
def dC{P:Prop}(h:P:=by exact⟨_,rfl⟩):P:=h
def br{P:Prop}(h:P:=by kernel_rfl):P:=h
def jN{P:Prop}(h:P:=by exact⟨_,rfl,rfl,fun _=>rfl⟩):P:=h
def r4{P:Prop}(h:P:=by exact⟨rfl,fun _=>rfl⟩):P:=h
def gj{P:Prop}(h:P:=by exact⟨_,rfl,rfl⟩):P:=h
def lD{P:Prop}(h:P:=by exact⟨_,rfl,rfl,.refl _⟩):P:=h
def MP{P:Prop}(h:P:=by decide +kernel):P:=h
def M0{P:Prop}(h:P:=by exact⟨_,_,rfl,rfl,_,_,rfl,rfl,rfl⟩):P:=h
def zK{P:Prop}(h:P:=by exact⟨rfl,by omega,by omega⟩):P:=h
def aw:=@if_neg
def aE:=@if_pos
def ck:=@decide_eq_true
def cq:=@decide_eq_false
def cC:=@Nat.le_trans
def cW:=@List.mem_map
def dt:=@Nat.le_refl
def dw:=@Nat.zero_le
def dN:=@List.getElem?_eq_some_iff
def eG:=@Nat.mod_lt
def e1:=@List.mem_cons
def e2:=@Nat.add_mul
def e5:=@List.mem_cons_of_mem
def fD:=@Nat.pow_succ
def fS:=@Nat.lt_or_ge
def fT:=@Nat.mul_comm
def g5:=@List.mem_cons_self
def hf:=@List.mem_append
def hg:=@List.mem_of_getElem?
def hh:=@List.mem_singleton
def hs:=@Array.length_toList
def hz:=@List.length_map
def hN:=@List.length_cons
def hO:=@of_decide_eq_true
def h8:=@Nat.pow_add
def h9:=@Nat.mul_assoc
def ia:=@Nat.mul_add
def il:=@List.all_eq_true
def iE:=@Nat.zero_add
def iF:=@List.length_take
def iG:=@List.take_of_length_le
def iQ:=@List.drop_zero
def jj:=@List.map_cons
def jk:=@Nat.zero_mul
def jF:=@Nat.min_eq_left
def jG:=@Nat.pow_le_pow_right
def jW:=@Nat.div_le_self
def kc:=@List.getElem_mem
def kd:=@List.take_succ_eq_append_getElem
def ky:=@Array.getElem_toList
def kz:=@List.length_append
def kO:=@Nat.beq_refl
def kP:=@List.pairwise_iff_getElem
def kQ:=@Nat.pos_of_ne_zero
def k7:=@List.length_drop
def k8:=@List.getElem_of_mem
def k9:=@Nat.le_succ
def la:=@Nat.two_pow_pos
def lI:=@Nat.mul_le_mul_right
def lJ:=@List.getElem_set_self
def me:=@List.take_set_of_le
def mf:=@Nat.lt_of_le_of_lt
def mg:=@List.length_eq_one_iff
def mh:=@List.drop_eq_nil_of_le
def mS:=@Nat.mod_eq_of_lt
def mT:=@Int.natCast_mul
def mU:=@List.getElem?_set_ne
def nq:=@List.getElem?_eq_getElem
def nr:=@List.eq_nil_of_length_eq_zero
def ns:=@List.pairwise_cons
def nt:=@Option.map_eq_some_iff
def nu:=@List.mem_append_left
def nv:=@Nat.pow_pos
def nw:=@Nat.mul_ne_zero
def n7:=@List.getElem?_take
def n8:=@Nat.mul_one
def n9:=@List.pairwise_map
def oa:=@List.getElem?_drop
def ob:=@List.take_append_drop
def oc:=@List.nodup_nil
def od:=@List.eq_nil_or_concat
def oe:=@List.concat_eq_append
def og:=@Nat.le_of_lt
def oh:=@List.length_reverse
def oX:=@Bool.eq_iff_iff
def oY:=@List.map_append
def oZ:=@Nat.add_zero
def o0:=@List.getElem?_set
def o1:=@List.take_length
def o2:=@List.length_pos_iff
def o3:=@beq_eq_false_iff_ne
def pY:=@Bool.false_eq_true
def pZ:=@List.map_map
def p0:=@List.ext_getElem?
def p1:=@Option.any_eq_true
def p2:=@Nat.not_lt_zero
def p3:=@List.drop_drop
def p4:=@List.mem_of_mem_take
def p5:=@Nat.div_eq_of_lt
def p6:=@Nat.div_add_mod
def p7:=@Nat.div_div_eq_div_mul
def p8:=@Int.mul_assoc
def q6:=@Nat.mul_le_mul_left
def q7:=@Nat.add_assoc
def q8:=@Option.bind_eq_some_iff
def q9:=@List.mem_filter
def ra:=@dif_pos
def rb:=@List.append_nil
def re:=@Nat.pow_mul
def rf:=@Int.sign_eq_one_of_pos
def rh:=@List.append_assoc
def ri:=@List.reverse_append
def sj:=@Nat.le_succ_of_le
def sk:=@List.getElem?_append_left
def sl:=@List.mem_flatMap
def sm:=@List.getElem?_eq_none
def sn:=@List.drop_length
def so:=@Rat.not_lt
def sq:=@List.getD_eq_getElem?_getD
def tu:=@Array.getElem?_eq_some_iff
def tv:=@Nat.add_comm
def tw:=@List.getElem_map
def tx:=@List.flatMap_cons
def tz:=@List.nodup_cons
def tA:=@Nat.mul_zero
def tB:=@Nat.le_div_iff_mul_le
def tC:=@Nat.div_one
def tD:=@Nat.sub_le
def tE:=@Int.sign_eq_zero_iff_zero
def tF:=@Int.natAbs_mul
def vm:=@Nat.eq_of_beq_eq_true
def vn:=@List.drop_eq_getElem_cons
def vo:=@Bool.eq_false_iff
def vp:=@Array.getElem?_eq_getElem
def vq:=@UInt8.toNat_inj
def vr:=@List.getElem?_map
def vs:=@List.getElem_inj
def vt:=@List.mem_iff_getElem?
def vu:=@List.getElem?_append_right
def vv:=@Nat.one_mul
def vw:=@Nat.lt_succ_self
def vx:=@List.map_eq_nil_iff
def vy:=@Nat.pow_lt_pow_iff_right
def vz:=@Nat.mul_pos
def vA:=@Nat.gcd_comm
def vB:=@Int.sign_eq_neg_one_of_neg
def vC:=@Nat.div_lt_of_lt_mul
def vD:=@Nat.le_of_not_lt
def vE:=@List.length_set
def vF:=@Rat.mul_nonneg
def xG:=@Bool.and_eq_true
def xH:=@Nat.lt_of_lt_of_le
def xI:=@List.map_toArray
def xJ:=@List.map_nil
def xK:=@Int.toNat_natCast
def xL:=@Nat.lt_trichotomy
def xM:=@List.length_replicate
def xN:=@List.drop_of_length_le
def xO:=@List.all_cons
def xP:=@BitVec.ofInt_natCast
def xQ:=@BitVec.toNat_ofNat
def xR:=@List.take_take
def xS:=@Nat.add_mul_div_left
def xT:=@Nat.div_lt_iff_lt_mul
def xU:=@List.mem_of_mem_drop
def xV:=@Nat.pow_zero
def xW:=@Int.sign_mul_natAbs
def xX:=@Int.neg_mul
def xY:=@Nat.pow_le_pow_left
def zY:=@List.drop_set_of_lt
def zZ:=@Option.isSome_iff_exists
def z0:=@List.getElem?_toArray
def z1:=@List.getElem?_cons_zero
def z2:=@List.mem_of_find?_eq_some
def z3:=@List.find?_some
def z4:=@List.filter_eq_self
def z5:=@List.ext_getElem
def z6:=@Bool.or_eq_true
def z7:=@eq_of_beq
def z8:=@List.drop_take
def z9:=@List.nodup_append
def Aa:=@Nat.add_eq
def Ab:=@Nat.mul_eq
def Ac:=@Nat.lt_succ_of_lt
def Ad:=@Nat.div_lt_self
def Ae:=@Nat.mod_add_div
def Af:=@Nat.mul_le_mul
def Ag:=@Nat.lt_of_mul_lt_mul_right
def Ah:=@Nat.eq_zero_or_pos
def Ai:=@Nat.div_pos
def Aj:=@Nat.gcd_dvd_left
def Ak:=@Rat.add_def'
def Al:=@Rat.zero_add
def Am:=@List.mem_reverse
def An:=@List.all_append
def Ao:=@Rat.mkRat_eq_div
def C0:=@Nat.ble_eq_true_of_le
def C1:=@Array.getElem?_push
def C2:=@Nat.succ_mul
def C3:=@List.getElem?_cons_succ
def C4:=@Bool.not_false
def C5:=@List.range_succ_eq_map
def C6:=@List.pairwise_append
def C7:=@List.filter_cons
def C8:=@Bool.or_eq_false_iff
def C9:=@List.perm_ext_iff_of_nodup
def Da:=@List.drop_left'
def Db:=@List.length_nil
def Dc:=@Nat.not_lt
def Dd:=@List.any_eq_false
def De:=@List.filter_sublist
def Df:=@List.exists_mem_of_ne_nil
def Dg:=@Nat.add_mul_mod_self_left
def Dh:=@List.getElem?_set_self
def Di:=@Nat.mod_one
def Dj:=@List.drop_set
def Dk:=@Nat.add_le_add_right
def Dl:=@Nat.mul_div_cancel_left
def Dm:=@Nat.gcd_one_right
def Dn:=@Rat.neg_num
def Dp:=@Rat.mkRat_self
def Dq:=@Rat.sub_eq_add_neg
def Dr:=@List.take_append_of_le_length
def Ds:=@List.reverse_reverse
def Dt:=@List.dropWhile_cons
def Du:=@Rat.add_assoc
def Dv:=@Rat.add_zero
def Dw:=@Rat.num_nonneg
def Dx:=@Bool.or_true
def Dy:=@Nat.ne_of_gt
def HP:=@Nat.mod_two_eq_zero_or_one
def HQ:=@Array.ext_getElem?
def HR:=@Array.getElem?_setIfInBounds_ne
def HS:=@List.map_congr_left
def HT:=@List.getElem_append_right
def HU:=@List.find?_cons
def HV:=@List.countP_cons
def HW:=@Nat.le_add_right
def HX:=@List.take_left'
def HY:=@UInt8.ofNat_toNat
def HZ:=@List.take_zero
def H0:=@List.mem_append_right
def H2:=@List.length_range
def H3:=@List.map_drop
def H4:=@List.pairwise_singleton
def H5:=@List.getElem?_replicate
def H6:=@Nat.div_mul_le_self
def H7:=@Nat.mul_lt_mul''
def H8:=@Nat.gcd_pos_of_pos_left
def H9:=@List.length_eq_zero_iff
def Ia:=@Nat.gcd_le_right
def Ib:=@List.isEmpty_eq_false_iff
def Ic:=@Int.natAbs_neg
def Ie:=@Int.natCast_pow
def Ig:=@List.reverse_eq_nil_iff
def Ih:=@UInt8.toNat_ofNat'
def Ii:=@Nat.gcd_zero_left
def Ij:=@Int.natAbs_pow
def Ik:=@Bool.and_false
def Il:=@Bool.and_true
def Im:=@Nat.shiftLeft_eq
def Io:=@UInt8.toNat_lt
def NV:=@Array.mapM_eq_mapM_toList
def NW:=@Nat.le_mul_of_pos_right
def NX:=@Int.eq_ofNat_of_zero_le
def NY:=@Nat.two_pow_add_eq_or_of_lt
def NZ:=@Nat.mul_lt_mul_of_pos_right
def N0:=@Nat.gcd_pos_of_pos_right
def N1:=@Array.toList_setIfInBounds
abbrev ac(α:Type u):=List α
abbrev be(α:Type u):=Option α
abbrev bi(α:Type u):=Array α
abbrev bv:=Value
abbrev ce:=Operand
abbrev ci:=UInt8
abbrev co:=TypeId
abbrev d7:=FuncId
abbrev f5:=World
abbrev f6:=IntKind
abbrev f7:=MapEntry
abbrev f8:=Program
abbrev f9:=ByteArray
abbrev gc:=TypeInfo
variable{n m:Nat}{α:Type u}{i:Nat}{l:ac α}
def a0(h:i<l.length):l[i]? =some l[i]:=nq h
def cO(a b:Bool):((a&&b)=true)=(a=true/\b=true):=xG a b
def dM(h:Nat.beq n m=true):n=m:=vm h
def eR{k:Nat}(h:n<m)(g:m<=k):n<k:=xH h g
def hA(k:Nat)(h:m<=n):m*k<=n*k:=lI k h
def lK(k:Nat)(h:m<=n):k*m<=k*n:=q6 k h
def gn{a b:Nat}(h:a<b):a%b=a:=mS h
def cn(n:Nat):n<=n:=dt n
def gp(h:i<l.length):l.drop i=l[i]::l.drop (i+1):=vn h
def dx(h:n<l.length):l[n]∈l:=kc h
def hP(h:Nat.ble n m=true):n<=m:=Nat.le_of_ble_eq_true h
inductive ao(α:Type)where
 |nil:ao α
 |node (l:ao α) (v:Option α) (r:ao α):ao α
namespace ao
variable{α β:Type}
def get(t:ao α):Nat->be α:=
 ao.rec (motive:=λ_=>Nat->be α) (λ_=>none)
  (λ_ v _ eD aU n=>Nat.rec (motive:=λ_=>be α) v (λm _=>Nat.rec (motive:=λ_=>be α) (eD<|Nat.div m 2) (λ_ _=>aU<|Nat.div m 2)<|Nat.mod m 2) n) t
def im(f:Nat):ao α->Nat->α->(ao α->β)->β:=
 Nat.rec (motive:=λ_=>ao α->Nat->α->(ao α->β)->β) (λt _ _ k=>k t)
  (λ_ g t n x k=>
   ao.rec (motive:=λ_=>β)
    (Nat.rec (motive:=λ_=>β) (k<|.node .nil (some x) .nil)
     (λm _=>Nat.rec (motive:=λ_=>β) (g .nil (Nat.div m 2) x λj=>k<|.node j none .nil) (λ_ _=>g .nil (Nat.div m 2) x λh=>k<|.node .nil none h)<|Nat.mod m 2) n)
    (λl v r _ _=>
     Nat.rec (motive:=λ_=>β) (k<|.node l (some x) r)
      (λm _=>Nat.rec (motive:=λ_=>β) (g l (Nat.div m 2) x λj=>k<|.node j v r) (λ_ _=>g r (Nat.div m 2) x λh=>k<|.node l v h)<|Nat.mod m 2) n) t) f
def set(t:ao α)(n:Nat)(x:α):ao α:=im (Nat.succ n) t n x id
def N2(v:be α)(r:ao α)(l:ao α):ao α:=
 ao.rec (motive:=λ_=>ao α) (.node .nil v r) (λa b c _ _=>.node (.node a b c) v r) l
def N3(l:ao α)(v:be α)(r:ao α):ao α:=
 ao.rec (motive:=λ_=>ao α) (.node l v .nil) (λa b c _ _=>.node l v<|.node a b c) r
def Dz(j:ao α->Nat->α->ao α)(l:ao α)(v:be α)(r:ao α)(m:Nat)(x:α):ao α:=
 Nat.rec (motive:=λ_=>ao α) (N2 v r<|j l (Nat.div m 2) x) (λ_ _=>N3 l v<|j r (Nat.div m 2) x)<|Nat.mod m 2
def DA(j:ao α->Nat->α->ao α)(l:ao α)(v:be α)(r:ao α)(n:Nat)(x:α):ao α:=
 Nat.rec (motive:=λ_=>ao α) (.node l (some x) r) (λm _=>Dz j l v r m x) n
def aal(j:ao α->Nat->α->ao α)(t:ao α)(n:Nat)(x:α):ao α:=
 ao.rec (motive:=λ_=>ao α) (DA j .nil none .nil n x) (λl v r _ _=>DA j l v r n x) t
def ke(f:Nat):ao α->Nat->α->ao α:=
 Nat.rec (motive:=λ_=>ao α->Nat->α->ao α) (λt _ _=>t) (λ_ g=>aal g) f
def fin(t:ao α)(k:ao α->β):β:=
 ao.rec (motive:=λ_=>β) (k .nil) (λa b c _ _=>k<|.node a b c) t
end ao
inductive p9 where
 |xZ
 |lL
 |Ip
 |DB
 |DC
 |ptr
 |agg (a8:List (Nat×Nat×Bool×p9))
inductive fr where
 |int (k:IntKind)
 |str
 |arr (k:IntKind) (n:Nat)
inductive tG where
 |look (cp:fr) (zero:Value) (ok:Bool) (m k:Operand)
 |eO (cp:fr) (m k v:Operand)
 |del (cp:fr) (m k:Operand)
 |vG (m:Operand)
 |tH (m:Operand)
 |vH (it:Operand)
 |aX (s c:Operand)
 |tI (neg:Bool) (n:Nat) (x y:Operand)
 |nx (it:Operand)
 |x0 (gt:Bool) (x y:Operand)
 |idxs (g:Nat) (s b:Operand)
 |DD (x:Operand)
 |DE (it:Operand)
 |DF (e:TypeId) (n:Operand)
 |Iq (x:Operand)
inductive c7 where
 |jl (x:Operand)
 |pick (c a b:Operand)
 |alloc (z:List Value) (elem:TypeId)
 |box (elem:TypeId) (x:Operand)
 |build (z:List Value) (a8:List (Nat×Nat×Operand))
 |qa (elem:TypeId) (len:Nat) (z:List Value) (a8:List (Nat×Nat×Operand))
 |h2 (a:Operand)
 |mi (n:Nat) (a:Operand)
 |store (n:Nat) (a x:Operand)
 |tJ (x:Operand)
 |N4 (name:String) (x1:List (Nat×FuncId)) (x:Operand)
 |bin (op:BinOp) (x y:Operand)
 |eqv (neg:Bool) (e:p9) (x y:Operand)
 |un (op:UnOp) (x:Operand)
 |tK (k:IntKind) (x:Operand)
 |x2 (x:Operand)
 |Ap (x:Operand)
 |vI (elem:TypeId) (x:Operand)
 |DG (t:TypeId) (x:Operand)
 |rj (fn:Fn) (first arE:List Operand)
 |o4
 |rk (elem:TypeId) (bytes:Nat) (z:List Value) (len cap:Operand)
 |sr (x:Operand) (bg af:Option Operand)
 |vJ (n b2:Nat) (x:Operand) (bg af gN:Option Operand)
 |ny (b2:Nat) (x:Operand) (bg af gN:Option Operand)
 |qb (off:Nat) (x:Operand)
 |o5 (off b2:Nat) (agg:Bool) (x:Operand)
 |rl (n b2:Nat) (x i:Operand)
 |h3 (b2:Nat) (x i:Operand)
 |tL (x i:Operand)
 |Ir (n b2:Nat) (agg:Bool) (x i:Operand)
 |DH (t:TypeId) (zero:Value) (ok:Bool) (x:Operand)
 |rm (x:Operand) (i:Nat)
 |call (f:Operand) (args:List Operand)
 |inv (x1:List (Nat×FuncId)) (x:Operand) (args:List Operand)
 |o6 (x:Operand)
 |vK (x:Operand)
 |Aq (n:Nat)
 |x3 (x:Operand)
 |app (elem:TypeId) (b2 bytes:Nat) (s x:Operand)
 |gN (x:Operand) (xs:List Operand)
 |Ar (x:Operand) (xs:List Operand)
 |ss (b2:Nat) (d s:Operand)
 |tM
 |o7 (f:Operand) (args:List Operand)
 |nz (x:Operand)
 |DI (x:Operand)
 |DJ (elem n:Nat) (x:Operand)
 |DK (x:Operand)
 |tN (elem:TypeId) (x n:Operand)
 |lb (s c:Operand)
 |kR (x:Operand)
 |ext (y:tG)
 |refuse
structure bm where
 d:be Tmp
 U:c7
 g:be (Tmp×Bool)
inductive cr where
 |dF
 |gq (ay:List Tmp)
 |read (back:Nat) (ay:List Tmp)
inductive dk where
 |skip
 |fU (ops:List bm)
 |qc (ops:List (bm×cr)) (cu:List Nat) (e3:List Tmp) (ms:List Nat)
 |seq (a b:dk)
 |cond (c:Operand) (a b:dk)
 |block (id:Nat) (b:dk)
 |loop (b:dk)
 |tO (f:Operand) (params:List Tmp) (assign body:dk)
 |exit (id:Nat)
 |scope (b:dk)
 |ret
 |refuse
inductive c1 where
 |norm
 |exit (id:Nat)
 |ret
 |aR (v:Value)
inductive gU where
 |tmp (t:Tmp)
 |cell (a:Tmp) (agg:Bool) (n:Nat)
structure cJ where
 aM:Nat
 res:ac gU
 body:dk
inductive bz where
 |cells (cs:List Value) (elem:TypeId) (bT:Nat×Nat) (aU:Bool)
 |map (es:List MapEntry) (clock:Nat)
 |Is (s:ByteArray) (pos:Nat)
 |mj (m:Option Nat) (since:Nat) (seen:List Nat) (arF:Nat)
 |loop (st:LoopState) (pending:Option c1) (fn:FuncId) (tmps:ao Value) (params:List Tmp) (assign body:dk) (defers:Nat)
 |jm (calls:Option (List Deferred))
 |dead
structure aj where
 h:ao bz
 ae:Nat
structure aJ where
 t:ao bv
 c4:ac Deferred
 aR:be bv
 cL:Bool
 b1:be Nat
def aJ.tmp(o:aJ)(n:Nat):bv:=
 Option.rec (motive:=λ_=>bv) (.chan<|some 0) (λv=>v)<|o.t.get n
def aJ.ar(o:aJ)(x:ce):bv:=
 Operand.rec (motive:=λ_=>bv) (λt=>o.tmp t) (λv=>v) (λg=>.pointer<|some ⟨g,0,none⟩) (λf=>.func (.func f) #[] #[]) x
def aJ.N5(t:ao bv)(c4:ac Deferred)(aR:be bv)(cL:Bool)(b1:be Nat):aJ:=
 ao.rec (motive:=λ_=>aJ) ⟨.nil,c4,aR,cL,b1⟩ (λa b c _ _=>⟨.node a b c,c4,aR,cL,b1⟩) t
def aJ.DA(d:Nat)(v:bv)(o:aJ):aJ:=
 aJ.rec (motive:=λ_=>aJ) (λt c4 aR cL b1=>aJ.N5 (ao.ke (Nat.succ d) t d v) c4 aR cL b1) o
def aJ.put(o:aJ)(d:be Tmp)(v:bv):aJ:=
 Option.rec (motive:=λ_=>aJ) o (λd=>aJ.DA d v o) d
inductive a1 where
 |ok (v:Value) (o:aJ) (st:aj)
 |aR (v:Value) (st:aj)
 |no
inductive dQ where
 |ret (v:Value) (st:aj) (aam:Bool)
 |aR (v:Value) (st:aj) (aam:Bool)
 |no
section lists
variable{α β:Type}
def DL(n:Nat):ac α->be (ac α):=
 Nat.rec (motive:=λ_=>ac α->be (ac α)) (λ_=>some [])
  (λ_ g l=>List.rec (motive:=λ_=>be<|ac α) none
   (λx xs _=>Option.rec (motive:=λ_=>be<|ac α) none (λr=>some<|x::r)<|g xs) l) n
def DM(n:Nat):ac α->ac α:=
 Nat.rec (motive:=λ_=>ac α->ac α) (λl=>l)
  (λ_ g l=>List.rec (motive:=λ_=>ac α) [] (λ_ xs _=>g xs) l) n
def o8(l:ac α):Nat->ac α->(ac α->β)->β->β:=
 List.rec (motive:=λ_=>Nat->ac α->(ac α->β)->β->β) (λ_ g k z=>List.rec (motive:=λ_=>β) (k []) (λ_ _ _=>z) g)
  (λy aQ j n g k z=>
   Nat.rec (motive:=λ_=>β)
    (List.rec (motive:=λ_=>β) (k<|y::aQ) (λv g _=>j 0 g (λh=>k<|v::h) z) g)
    (λm _=>j m g (λh=>k<|y::h) z) n) l
end lists
variable{β:Type}
def fK(n:Nat)(k:Nat->β):β:=cond (Nat.beq n n) (k n)<|k n
def N6(n:Int)(k:Int->β):β:=
 Int.rec (motive:=λ_=>β) (λm=>fK m λm=>k<|.ofNat m) (λm=>fK m λm=>k<|.negSucc m) n
def aj.ib(st:aj)(U:bz)(k:Nat->aj->β):β:=
 fK st.ae λn=>ao.fin (ao.ke (Nat.succ n) st.h n U) λh=>k n ⟨h,Nat.succ n⟩
def hB(v:bv):ac bv:=v.cells.toList
def su:bv->Bool
 |.chan (some _)=>true
 |_=>false
def ml:bv->Bool
 |.agg _|.tuple _|.chan (some _)=>false
 |_=>true
def gV(ad:ac bv):Bool:=List.rec (motive:=λ_=>Bool) true (λv _ r=>cond (ml v) r false) ad
mutual
def dm:bv->bv->Bool
 |.bool a,.bool b=>a==b
 |.int k a,.int h b=>decide (k=h)&&a==b
 |.float k a,.float h b=>decide (k=h)&&a==b
 |.complex k a c,.complex h b d=>decide (k=h)&&a==b&&c==d
 |.string a,.string b=>a.data.toList==b.data.toList
 |.pointer a,.pointer b=>a==b
 |.slice a l c,.slice b bp j=>a==b&&l==bp&&c==j
 |.map a,.map b=>a==b
 |.chan a,.chan b=>a==b
 |.func f x y,.func g u v=>decide (f=g)&&tP x u&&tP y v
 |.nilFunc,.nilFunc=>true
 |.iface t v,.iface u w=>t==u&&dm v w
 |.nilIface,.nilIface=>true
 |.agg a,.agg b=>tP a b
 |.tuple a,.tuple b=>tP a b
 |_,_=>false
def tP:bi bv->bi bv->Bool
 |⟨a⟩,⟨b⟩=>oi a b
def oi:ac bv->ac bv->Bool
 |[],[]=>true
 |a::as,b::bZ=>dm a b&&oi as bZ
 |_,_=>false
end
mutual
theorem oj:∀v:bv,dm v v=true
 |.bool a=>by simp[dm]
 |.int k a=>by simp[dm]
 |.float k a=>by simp[dm]
 |.complex k a c=>by simp[dm]
 |.string a=>by simp[dm]
 |.pointer a=>by simp[dm]
 |.slice a l c=>by simp[dm]
 |.map a=>by simp[dm]
 |.chan a=>by simp[dm]
 |.func f x y=>by simp[dm,DN x,DN y]
 |.nilFunc=>by simp[dm]
 |.iface t v=>by simp[dm,oj v]
 |.nilIface=>by simp[dm]
 |.agg a=>by simp[dm,DN a]
 |.tuple a=>by simp[dm,DN a]
theorem DN:∀v:bi bv,tP v v=true
 |⟨a⟩=>by simp[tP,N7 a]
theorem N7:∀v:ac bv,oi v v=true
 |[]=>by simp[oi]
 |a::as=>by simp[oi,oj a,N7 as]
end
mutual
theorem jH:∀v w:bv,dm v w=true->v=w
 |.bool a,w,h=>by cases w<;>simp_all [dm]
 |.int k a,w,h=>by cases w<;>simp_all [dm]
 |.float k a,w,h=>by cases w<;>simp_all [dm]
 |.complex k a c,w,h=>by cases w<;>simp_all [dm]
 |.string a,w,h=>by
  cases w<;>simp_all [dm];rename_i b;cases a;simp_all
 |.pointer a,w,h=>by cases w<;>simp_all [dm]
 |.slice a l c,w,h=>by cases w<;>simp_all [dm]
 |.map a,w,h=>by cases w<;>simp_all [dm]
 |.chan a,w,h=>by cases w<;>simp_all [dm]
 |.func f x y,w,h=>by
  cases w<;>simp[dm]at h;rename_i g u v;simp[h.1.1,DO x u h.1.2,DO y v h.2]
 |.nilFunc,w,h=>by cases w<;>simp_all [dm]
 |.iface t v,w,h=>by
  cases w<;>simp[dm]at h;rename_i u x;simp[h.1,jH v x h.2]
 |.nilIface,w,h=>by cases w<;>simp_all [dm]
 |.agg a,w,h=>by
  cases w<;>simp[dm]at h;rename_i b;simp[DO a b h]
 |.tuple a,w,h=>by
  cases w<;>simp[dm]at h;rename_i b;simp[DO a b h]
theorem DO:∀v w:bi bv,tP v w=true->v=w
 |⟨a⟩,⟨b⟩,h=>by simp[tP]at h;simp[As a b h]
theorem As:∀v w:ac bv,oi v w=true->v=w
 |[],[],_=>rfl
 |a::as,b::bZ,h=>by simp[oi]at h;simp[jH a b h.1,As as bZ h.2]
 |[],_::_,h=>by simp[oi]at h
 |_::_,[],h=>by simp[oi]at h
end
end Go.bA
namespace Go.bA
def tQ(n:Int)(j:Nat):Nat:=
 Int.rec (motive:=λ_=>Nat) (λm=>Nat.mod m j) (λm=>Nat.sub (Nat.sub j 1)<|Nat.mod m j) n
def x4(j:Nat)(n:Int):Int:=.ofNat<|tQ n j
def vL(j H:Nat)(n:Int):Int:=
 fK (tQ n j) λr=>cond (Nat.ble (Nat.succ r) H) (.ofNat r)<|.negSucc<|Nat.sub (Nat.sub j 1) r
def nA(k:f6)(n:Int):Int:=
 IntKind.rec (motive:=λ_=>Int->Int) (vL 256 128) (vL 65536 32768) (vL 4294967296 2147483648) (vL 18446744073709551616 9223372036854775808)
  (x4 256) (x4 65536) (x4 4294967296) (x4 18446744073709551616) k n
def N8(n:Int)(j:Nat)(h:0<j):(tQ n j:Int)=n%j:=by
 cases n with
 |ofNat m=>rfl
 |negSucc m=>
  show((j-1-m%j:Nat):Int)=_;rw[Int.negSucc_emod _ R];have:m%j<j:=eG _ h;omega
def rn(j:Nat)(n:Int)(h:0<j):x4 j n=n%j:=N8 n j h
theorem x5(j H:Nat)(n:Int)(h:0<j):vL j H n=if n%j>=H then n%j-j else n%j:=by
 have e:=N8 n j h;have aT:tQ n j<j:=by have:=Int.emod_lt_of_pos n (show(0:Int)<j by omega);omega
 unfold vL fK;rw[kO];rw[<-e];simp only[cond];by_cases c:tQ n j<H
 ·rw[C0 c];rw[aw R];rfl
 ·have:Nat.ble (Nat.succ<|tQ n j) H=false:=by
   rw[vo];intro g;exact c<|hP g
  grind
def kS(k:f6)(n:Int):nA k n=k.wrap n:=by
 cases k
 all_goals simp[nA,IntKind.wrap,IntKind.bits,IntKind.signed]
 ·rw[x5 256 128 n al];simp
 ·rw[x5 65536 32768 n al];simp
 ·rw[x5 4294967296 2147483648 n al];simp
 ·rw[x5 18446744073709551616 9223372036854775808 n al];simp
 ·rw[rn 256 n al];rfl
 ·rw[rn 65536 n al];rfl
 ·rw[rn 4294967296 n al];rfl
 ·rw[rn 18446744073709551616 n al];rfl
def vM(m n:Nat):Int:=cond (Nat.ble n m) (.ofNat<|Nat.sub m n)<|.negSucc<|Nat.sub (Nat.sub n m) 1
theorem At(m n:Nat):vM m n=(m:Int)-n:=by
 unfold vM;by_cases h:n<=m
 ·rw[C0 h];show((m-n:Nat):Int)=_;omega
 ·have:Nat.ble n m=false:=by rw[vo];intro g;exact h<|hP g
  grind
def Au(a b:Int):Int:=
 Int.rec (motive:=λ_=>Int)
  (λm=>Int.rec (motive:=λ_=>Int) (λn=>.ofNat<|Nat.add m n) (λn=>vM m<|Nat.succ n) b)
  (λm=>Int.rec (motive:=λ_=>Int) (λn=>vM n<|Nat.succ m) (λn=>.negSucc<|Nat.succ<|Nat.add m n) b) a
def N9(a b:Int):Au a b=a+b:=by
 cases a with
 |ofNat m=>
  cases b with
  |ofNat n=>rfl
  |negSucc n=>simp[Au,At];show m-((n+1:Nat):Int)=m+Int.negSucc n;omega
 |negSucc m=>
  cases b with
  |ofNat n=>simp[Au,At];show n-((m+1:Nat):Int)=Int.negSucc m+n;omega
  |negSucc n=>rfl
def DP(a:Int):Int:=
 Int.rec (motive:=λ_=>Int) (λm=>vM 0 m) (λm=>.ofNat<|Nat.succ m) a
def It(a:Int):DP a= -a:=by
 cases a with
 |ofNat m=>simp only[DP,At];show(0:Int)-m= -m;omega
 |negSucc m=>rfl
def x6(a b:Int):Int:=
 Int.rec (motive:=λ_=>Int)
  (λm=>Int.rec (motive:=λ_=>Int) (λn=>.ofNat<|Nat.mul m n) (λn=>vM 0<|Nat.mul m<|Nat.succ n) b)
  (λm=>Int.rec (motive:=λ_=>Int) (λn=>vM 0<|Nat.mul (Nat.succ m) n) (λn=>.ofNat<|Nat.mul (Nat.succ m)<|Nat.succ n) b) a
theorem Iu(a b:Int):x6 a b=a*b:=by
 cases a with
 |ofNat m=>
  cases b with
  |ofNat n=>rfl
  |negSucc n=>
   simp[x6,At]
   grind
 |negSucc m=>
  cases b with
  |ofNat n=>
   simp[x6,At]
   grind
  |negSucc n=>
   simp[x6]
   grind
def lM(a b:Int):Bool:=
 Int.rec (motive:=λ_=>Bool)
  (λm=>Int.rec (motive:=λ_=>Bool) (λn=>Nat.ble m n) (λ_=>false) b)
  (λm=>Int.rec (motive:=λ_=>Bool) (λ_=>true) (λn=>Nat.ble n m) b) a
def o9(a b:Int):lM a b=decide (a<=b):=by
 cases a with
 |ofNat m=>
  cases b with
  |ofNat n=>simp[lM];rw[oX];simp
  |negSucc n=>simp only[lM];simp;omega
 |negSucc m=>
  cases b with
  |ofNat n=>simp only[lM];simp;omega
  |negSucc n=>simp[lM];rw[oX];simp;omega
def rp(a b:Int):Bool:=
 Int.rec (motive:=λ_=>Bool)
  (λm=>Int.rec (motive:=λ_=>Bool) (λn=>Nat.beq m n) (λ_=>false) b)
  (λm=>Int.rec (motive:=λ_=>Bool) (λ_=>false) (λn=>Nat.beq n m) b) a
def Av(a b:Int):rp a b=(a==b):=by
 cases a with
 |ofNat m=>
  cases b with
  |ofNat n=>simp[rp];rw[oX];simp;omega
  |negSucc n=>simp only[rp];simp
 |negSucc m=>
  cases b with
  |ofNat n=>simp only[rp];simp
  |negSucc n=>simp[rp];rw[oX];simp;omega
section
variable{β:Type}
def jX(v:bv)(k:Bool->β)(z:β):β:=
 @Value.rec (λ_=>β) (λ_=>Unit) (λ_=>Unit) (λg=>k g) (λ_ _=>z) (λ_ _=>z) (λ_ _ _=>z) (λ_=>z) (λ_=>z) (λ_ _ _=>z) (λ_=>z) (λ_=>z) (λ_ _ _ _ _=>z) z (λ_ _ _=>z) z (λ_ _=>z) (λ_ _=>z) (λ_ _=>()) () (λ_ _ _ _=>()) v
def fL(v:bv)(k:f6->Int->β)(z:β):β:=
 @Value.rec (λ_=>β) (λ_=>Unit) (λ_=>Unit) (λ_=>z) (λh g=>k h g) (λ_ _=>z) (λ_ _ _=>z) (λ_=>z) (λ_=>z) (λ_ _ _=>z) (λ_=>z) (λ_=>z) (λ_ _ _ _ _=>z) z (λ_ _ _=>z) z (λ_ _=>z) (λ_ _=>z) (λ_ _=>()) () (λ_ _ _ _=>()) v
def hD(v:bv)(k:f9->β)(z:β):β:=
 @Value.rec (λ_=>β) (λ_=>Unit) (λ_=>Unit) (λ_=>z) (λ_ _=>z) (λ_ _=>z) (λ_ _ _=>z) (λg=>k g) (λ_=>z) (λ_ _ _=>z) (λ_=>z) (λ_=>z) (λ_ _ _ _ _=>z) z (λ_ _ _=>z) z (λ_ _=>z) (λ_ _=>z) (λ_ _=>()) () (λ_ _ _ _=>()) v
def hi(v:bv)(k:be Addr->β)(z:β):β:=
 @Value.rec (λ_=>β) (λ_=>Unit) (λ_=>Unit) (λ_=>z) (λ_ _=>z) (λ_ _=>z) (λ_ _ _=>z) (λ_=>z) (λg=>k g) (λ_ _ _=>z) (λ_=>z) (λ_=>z) (λ_ _ _ _ _=>z) z (λ_ _ _=>z) z (λ_ _=>z) (λ_ _=>z) (λ_ _=>()) () (λ_ _ _ _=>()) v
def hE(v:bv)(k:be Addr->Nat->Nat->β)(z:β):β:=
 @Value.rec (λ_=>β) (λ_=>Unit) (λ_=>Unit) (λ_=>z) (λ_ _=>z) (λ_ _=>z) (λ_ _ _=>z) (λ_=>z) (λ_=>z) (λj h g=>k j h g) (λ_=>z) (λ_=>z) (λ_ _ _ _ _=>z) z (λ_ _ _=>z) z (λ_ _=>z) (λ_ _=>z) (λ_ _=>()) () (λ_ _ _ _=>()) v
def x7(v:bv)(k:Fn->bi bv->bi bv->β)(z:β):β:=
 @Value.rec (λ_=>β) (λ_=>Unit) (λ_=>Unit) (λ_=>z) (λ_ _=>z) (λ_ _=>z) (λ_ _ _=>z) (λ_=>z) (λ_=>z) (λ_ _ _=>z) (λ_=>z) (λ_=>z) (λj h g _ _=>k j h g) z (λ_ _ _=>z) z (λ_ _=>z) (λ_ _=>z) (λ_ _=>()) () (λ_ _ _ _=>()) v
def x8(v:bv)(k:co->bv->β)(z:β):β:=
 @Value.rec (λ_=>β) (λ_=>Unit) (λ_=>Unit) (λ_=>z) (λ_ _=>z) (λ_ _=>z) (λ_ _ _=>z) (λ_=>z) (λ_=>z) (λ_ _ _=>z) (λ_=>z) (λ_=>z) (λ_ _ _ _ _=>z) z (λh g _=>k h g) z (λ_ _=>z) (λ_ _=>z) (λ_ _=>()) () (λ_ _ _ _=>()) v
def rq(v:bv)(k:bi bv->β)(z:β):β:=
 @Value.rec (λ_=>β) (λ_=>Unit) (λ_=>Unit) (λ_=>z) (λ_ _=>z) (λ_ _=>z) (λ_ _ _=>z) (λ_=>z) (λ_=>z) (λ_ _ _=>z) (λ_=>z) (λ_=>z) (λ_ _ _ _ _=>z) z (λ_ _ _=>z) z (λg _=>k g) (λ_ _=>z) (λ_ _=>()) () (λ_ _ _ _=>()) v
def qd(v:bv)(k:bi bv->β)(z:β):β:=
 @Value.rec (λ_=>β) (λ_=>Unit) (λ_=>Unit) (λ_=>z) (λ_ _=>z) (λ_ _=>z) (λ_ _ _=>z) (λ_=>z) (λ_=>z) (λ_ _ _=>z) (λ_=>z) (λ_=>z) (λ_ _ _ _ _=>z) z (λ_ _ _=>z) z (λ_ _=>z) (λg _=>k g) (λ_ _=>()) () (λ_ _ _ _=>()) v
def om(v:bv)(k:be Nat->β)(z:β):β:=
 @Value.rec (λ_=>β) (λ_=>Unit) (λ_=>Unit) (λ_=>z) (λ_ _=>z) (λ_ _=>z) (λ_ _ _=>z) (λ_=>z) (λ_=>z) (λ_ _ _=>z) (λg=>k g) (λ_=>z) (λ_ _ _ _ _=>z) z (λ_ _ _=>z) z (λ_ _=>z) (λ_ _=>z) (λ_ _=>()) () (λ_ _ _ _=>()) v
end
def rr{β:Type}(v:bv)(a z:β):β:=match v with|.chan none=>a|_=>z
def iR:bv:=.chan<|some 0
abbrev bM:=bv->ac bv->be bv->aj->dQ
section elim
variable{α β:Type}
def bn(U:be α)(k:α->β)(z:β):β:=Option.rec (motive:=λ_=>β) z k U
def ek(a b:Nat)(x y:β):β:=cond (Nat.ble a b) x y
def dz(a b:Nat)(x y:β):β:=cond (Nat.beq a b) x y
def ht(n:Int)(k:Nat->β)(z:β):β:=Int.rec (motive:=λ_=>β) k (λ_=>z) n
def du(l:ac α):Nat:=List.rec (motive:=λ_=>Nat) 0 (λ_ _ n=>Nat.succ n) l
def fe(l m:ac α):ac α:=List.rec (motive:=λ_=>ac α) m (λx _ r=>x::r) l
def hQ(l:ac α)(j n:Nat)(k:ac α->β)(z:β):β:=bn (DL n<|DM j l) k z
def one(l:ac α)(k:α->β)(z:β):β:=
 List.rec (motive:=λ_=>β) z (λx xs _=>List.rec (motive:=λ_=>β) (k x) (λ_ _ _=>z) xs) l
end elim
variable{β:Type}
def ic(k:f6)(n:Int)(c:bv->β):β:=N6 n λm=>c<|.int k m
def jI(a b:f6):Bool:=Nat.beq a.ctorIdx b.ctorIdx
def DQ(f:Nat->Nat->Nat)(g:Int)(k:f6)(a b:Int)(c:bv->a1):a1:=
 ht a (λm=>ht b (λn=>ic k (nA k<|.ofNat<|f (tQ (.ofNat m)<|2^k.bits)<|tQ (.ofNat n)<|2^k.bits) c)<|ic k g c)<|ic k g c
def Oa(k:f6)(a b:Int)(c:bv->a1):a1:=ic k (nA k<|Au a b) c
def Ob(k:f6)(a b:Int)(c:bv->a1):a1:=ic k (nA k<|Au a<|DP b) c
def Oc(k:f6)(a b:Int)(c:bv->a1):a1:=ic k (nA k<|x6 a b) c
def Od(k:f6)(a b:Int)(c:bv->a1):a1:=cond (rp b 0) .no<|ht a (λm=>ht b (λn=>ic k (nA k<|.ofNat<|Nat.div m n) c)<|ic k (k.wrap<|a.tdiv b) c)<|ic k (k.wrap<|a.tdiv b) c
def Oe(k:f6)(a b:Int)(c:bv->a1):a1:=cond (rp b 0) .no<|ht a (λm=>ht b (λn=>ic k (.ofNat<|Nat.mod m n) c)<|ic k (a.tmod b) c)<|ic k (a.tmod b) c
def aan(k:f6)(a b:Int)(c:bv->a1):a1:=DQ Nat.land (k.wrap (BitVec.ofInt k.bits a&&&BitVec.ofInt k.bits b).toNat) k a b c
def aao(k:f6)(a b:Int)(c:bv->a1):a1:=DQ Nat.lor (k.wrap (BitVec.ofInt k.bits a|||BitVec.ofInt k.bits b).toNat) k a b c
def aap(k:f6)(a b:Int)(c:bv->a1):a1:=DQ Nat.xor (k.wrap (BitVec.ofInt k.bits a^^^BitVec.ofInt k.bits b).toNat) k a b c
def aaq(k:f6)(a b:Int)(c:bv->a1):a1:=ic k (k.wrap (BitVec.ofInt k.bits a&&& ~~~(BitVec.ofInt k.bits b)).toNat) c
def Of(j:f6)(a b:Int)(c:bv->a1):a1:=c<|.bool<|rp a b
def Og(j:f6)(a b:Int)(c:bv->a1):a1:=c<|.bool<|!rp a b
def Oh(j:f6)(a b:Int)(c:bv->a1):a1:=c<|.bool<|!lM b a
def Oi(j:f6)(a b:Int)(c:bv->a1):a1:=c<|.bool<|lM a b
def Oj(j:f6)(a b:Int)(c:bv->a1):a1:=c<|.bool<|!lM a b
def Ol(j:f6)(a b:Int)(c:bv->a1):a1:=c<|.bool<|lM b a
def Iv(F:f6)(j D:Int)(E:bv->a1):a1:=.no
def Aw(op:BinOp)(k:f6)(a b:Int)(c:bv->a1):a1:=
 BinOp.rec (motive:=λ_=>f6->Int->Int->(bv->a1)->a1) Oa Ob Oc Od Oe aan aao aap Iv Iv aaq Of Og Oh Oi Oj Ol op k a b c
def Ax(op:BinOp)(x y:f9)(c:bv->a1):a1:=
 match op with
 |.add=>ek (Nat.add (du x.data.toList)<|du y.data.toList) (2^40) (c<|.string ⟨⟨fe x.data.toList y.data.toList⟩⟩) .no
 |.eql=>c (.bool<|x.data.toList==y.data.toList)
 |.neq=>c (.bool<|!(x.data.toList==y.data.toList))
 |_=>.no
def x9(k:f6)(a:Int)(n:Nat):Int:=nA k<|x6 a<|.ofNat<|Nat.pow 2<|min n k.bits
def vN(k:f6)(a:Int)(n:Nat):Int:=
 ht a (λm=>.ofNat<|Nat.div m<|Nat.pow 2<|min n k.bits)<|a.fdiv<|2^(min n k.bits)
def aar(j:BinOp)(k:f6)(a:Int)(D:f6)(b:Int)(c:bv->a1):a1:=ht b (λn=>ic k (x9 k a n) c) .no
def aas(j:BinOp)(k:f6)(a:Int)(D:f6)(b:Int)(c:bv->a1):a1:=ht b (λn=>ic k (vN k a n) c) .no
def mV(op:BinOp)(k:f6)(a:Int)(j:f6)(b:Int)(c:bv->a1):a1:=cond (jI k j) (Aw op k a b c) .no
def Ay(op:BinOp)(k:f6)(a:Int)(j:f6)(b:Int)(c:bv->a1):a1:=
 BinOp.rec (motive:=λ_=>BinOp->f6->Int->f6->Int->(bv->a1)->a1) mV mV mV mV mV mV mV mV aar aas mV mV mV mV mV mV mV op op k a j b c
def Az(op:BinOp)(x y:bv)(c:bv->a1):a1:=
 fL x (λk a=>fL y (λg b=>Ay op k a g b c) .no)
 (hD x (λa=>hD y (λb=>Ax op a b c) .no) .no)
def vO(D j:Nat)(agg:Bool)(cs:ac bv):be bv:=
 hQ cs D j (λg=>cond agg (some<|.agg ⟨g⟩)<|one g (λv=>some v) none) none
def ru:bv->bv->be Bool
 |.slice none _ _,.slice b _ _=>some b.isNone
 |.slice (some _) _ _,.slice none _ _=>some false
 |.chan none,.slice none _ _=>some false
 |_,_=>none
def Om:bv->bv->be Bool
 |.map none,.map b=>some b.isNone
 |.map (some _),.map none=>some false
 |_,_=>none
def Iw:bv->bv->be Bool
 |.nilFunc,.nilFunc=>some true
 |.nilFunc,.func _ _ _=>some false
 |.func _ _ _,.nilFunc=>some false
 |_,_=>none
def On:bv->bv->be Bool
 |.nilIface,.nilIface=>some true
 |.nilIface,.iface _ _=>some false
 |.iface _ _,.nilIface=>some false
 |_,_=>none
def vP:bv->bv->be Bool
 |.pointer none,.pointer b=>some b.isNone
 |.pointer (some _),.pointer none=>some false
 |.pointer (some a),.pointer (some b)=>if a.block=b.block/\a.spot=none/\b.spot=none then some (a.off==b.off)else none
 |_,_=>none
def AA:bv->bv->be Bool
 |.bool a,.bool b=>some (a==b)
 |.int k a,.int g b=>if k=g then some (a==b)else none
 |.string a,.string b=>some (a.data.toList==b.data.toList)
 |_,_=>none
def jY:Nat->p9->bv->bv->be Bool
 |_,.xZ,x,y=>AA x y
 |_,.lL,x,y=>ru x y
 |_,.Ip,x,y=>Om x y
 |_,.DB,x,y=>Iw x y
 |_,.DC,x,y=>On x y
 |_,.ptr,x,y=>vP x y
 |0,.agg _,_,_=>none
 |n+1,.agg a8,.agg xs,.agg aQ=>Oo n xs.toList aQ.toList a8
 |_,.agg _,_,_=>none
 where
 Oo (n:Nat) (xs aQ:ac bv):ac (Nat×Nat×Bool×p9)->be Bool
  |[]=>some true
  |(off,g,h,e)::rest=>
   match vO off g h xs,vO off g h aQ with
   |some x,some y=>
    match jY n e x y with
    |some true=>Oo n xs aQ rest
    |r=>r
   |_,_=>none
def ya(op:UnOp)(x:bv)(c:bv->a1):a1:=
 match op with
 |.neg=>fL x (λk n=>ic k (nA k<|DP n) c) .no
 |.xor=>fL x (λk n=>ic k (k.wrap (BitVec.ofInt k.bits (if k.signed then -1 else k.max)^^^BitVec.ofInt k.bits n).toNat) c) .no
 |.not=>jX x (λb=>c<|.bool<|!b) .no
 |_=>.no
def nB(o:aJ)(a8:ac (Nat×Nat×ce)):ac bv->(ac bv->a1)->a1:=
 List.rec (motive:=λ_=>ac bv->(ac bv->a1)->a1) (λcs c=>c cs)
  (λp _ h cs c=>
   (λv=>cond (su v) .no<|(λg=>dz (du g) p.2.1 (ek (Nat.add p.1 p.2.1) (du cs) (o8 cs p.1 g (λj=>h j c) .no) .no) .no)<|hB v)<|o.ar p.2.2) a8
def bytesOf(ad:ac bv):be (ac ci):=
 List.rec (motive:=λ_=>be<|ac ci) (some [])
  (λv _ r=>fL v (λk n=>cond (jI k .u8) (bn r (λbZ=>some<|UInt8.ofNat n.toNat::bZ) none) none) none) ad
def mW(bZ:ac ci):ac bv:=
 List.rec (motive:=λ_=>ac bv) [] (λb _ r=>Value.int .u8 (.ofNat b.toNat)::r) bZ
def ff(o:aJ)(x:be ce)(vQ y:Nat)(k:Nat->a1):a1:=
 bn x (λx=>fL (o.ar x) (λ_ n=>ht n (λn=>ek n y (k n) .no) .no) .no)<|k vQ
def yb(U:be bz)(k:ac bv->co->Nat×Nat->Bool->β)(z:β):β:=
 bn U (λU=>bz.rec (motive:=λ_=>β) k (λ_ _=>z) (λ_ _=>z) (λ_ _ _ _=>z) (λ_ _ _ _ _ _ _ _=>z) (λ_=>z) z U) z
def aj.fM(st:aj)(a:Addr)(k:ac bv->co->Nat×Nat->Bool->β)(z:β):β:=
 bn a.spot (λ_=>z)<|yb (st.h.get a.block) k z
def aj.load(st:aj)(a:Addr)(n:Nat)(k:ac bv->β)(z:β):β:=
 st.fM a (λcs _ _ _=>hQ cs a.off n k z) z
def aj.gO(st:aj)(id:Nat)(U:bz)(k:aj->β):β:=
 ao.fin (ao.ke (Nat.succ id) st.h id U) λh=>k ⟨h,st.ae⟩
def aj.store(st:aj)(a:Addr)(ad:ac bv)(k:aj->β)(z:β):β:=
 st.fM a (λcs elem bT aU=>ek bT.2 bT.1 (o8 cs a.off ad (λg=>st.gO a.block (.cells g elem bT aU) k) z) z) z
def jn(o:aJ)(st:aj)(elem:co)(j D:Nat)(base:be Addr)(len cap:Nat)(n:Nat)(new:ac bv):a1:=
 (λg=>
  ek (Nat.mul (Nat.add (Nat.mul 5 g) 1792)<|Nat.succ D) (2^50)
   (bn base
    (λa=>st.fM a (λcs el bT aU=>
     ek bT.2 bT.1 (ek len cap (ek (Nat.add a.off<|Nat.mul cap j) (du cs) (dz el elem
      (dz n 0 (.ok (.slice (some a) len cap) o st)
       (cond aU
        (hQ cs a.off (Nat.mul len j) (λhj=>st.gO a.block .dead λst=>st.ib (.cells (fe hj new) elem (0,0) true) λid st=>.ok (.slice (some ⟨id,0,none⟩) g g) o st) .no)
        (ek g cap
         (o8 cs (Nat.add a.off<|Nat.mul len j) new (λh=>st.gO a.block (.cells h el bT false) λst=>.ok (.slice (some a) g cap) o st) .no)
         (hQ cs a.off (Nat.mul len j) (λhj=>st.ib (.cells (fe hj new) elem (0,0) true) λid st=>.ok (.slice (some ⟨id,0,none⟩) g g) o st) .no))))
      .no) .no) .no) .no) .no)
    (dz len 0 (dz cap 0
     (dz n 0 (.ok (.slice none 0 0) o st)
      (st.ib (.cells new elem (0,0) true) λid st=>.ok (.slice (some ⟨id,0,none⟩) g g) o st))
     .no) .no))
   .no)<|Nat.add len n
def AB(k:f6)(o:aJ)(xs:ac ce):Int->be Int:=
 List.rec (motive:=λ_=>Int->be Int) (λm=>some m)
  (λx _ g m=>fL (o.ar x) (λh y=>cond (jI k h) (g<|cond (lM y m) m y) none) none) xs
def AD(k:f6)(o:aJ)(xs:ac ce):Int->be Int:=
 List.rec (motive:=λ_=>Int->be Int) (λm=>some m)
  (λx _ g m=>fL (o.ar x) (λh y=>cond (jI k h) (g<|cond (lM m y) m y) none) none) xs
def dJ(o:aJ)(xs:ac ce):ac bv:=
 List.rec (motive:=λ_=>ac bv) [] (λx _ r=>o.ar x::r) xs
def qe(z:ac bv)(n:Nat):ac bv:=
 Nat.rec (motive:=λ_=>ac bv) [] (λ_ r=>fe z r) n
def vR(k:f6)(n:Int):Bool:=lM k.min n&&lM n k.max
def fr.ok(cp:fr)(v:bv):Bool:=
 match cp with
 |.int k=>fL v (λg n=>jI k g&&vR k n) false
 |.str=>hD v (λs=>Nat.ble (du s.data.toList)<|2^40) false
 |.arr k n=>rq v (λxs=>Nat.beq (du xs.toList) n&&xs.toList.all λx=>fL x (λg m=>jI k g&&vR k m) false) false
def jo(U:be bz)(k:ac f7->Nat->β)(z:β):β:=
 bn U (λU=>bz.rec (motive:=λ_=>β) (λ_ _ _ _=>z) k (λ_ _=>z) (λ_ _ _ _=>z) (λ_ _ _ _ _ _ _ _=>z) (λ_=>z) z U) z
def AE(U:be bz)(k:be Nat->Nat->ac Nat->Nat->β)(z:β):β:=
 bn U (λU=>bz.rec (motive:=λ_=>β) (λ_ _ _ _=>z) (λ_ _=>z) (λ_ _=>z) k (λ_ _ _ _ _ _ _ _=>z) (λ_=>z) z U) z
def kT(cp:fr)(es:ac f7):Bool:=es.all λe=>cp.ok e.key
def hR(k:bv)(es:ac f7):be f7:=es.find? λe=>dm k e.key
def vS(k v:bv)(es:ac f7):ac f7:=es.map λe=>cond (dm k e.key) ⟨e.key,v,e.born⟩ e
def qf(k:bv)(es:ac f7):ac f7:=es.filter λe=> !dm k e.key
def Oq:bv->bv->be Bool
 |.int k a,.int g b=>if k=g then some (a==b)else none
 |_,_=>none
def DR:bv->bv->be Bool
 |.string a,.string b=>some (a.data.toList==b.data.toList)
 |_,_=>none
def Ot(i:Nat)(x y:bv):be Bool:=match i with
 |0=>DR x y
 |_=>Oq x y
def qg:Nat->ac bv->ac bv->be Bool
 |_,[],[]=>some true
 |i,x::xs,y::aQ=>bn (Ot i x y) (λb=>cond b (qg (i-1) xs aQ)<|bn (qg (i-1) xs aQ) (λ_=>some false) none) none
 |_,_,_=>none
def AF(n:Nat):bv->be Bool
 |.chan (some c)=>if c%2=0 then(if 2<=c/\n<=(c-2)/2 then some true else none)else(if 3<=c/\(c-3)/2<=n then some false else none)
 |_=>none
def Ou(n:Nat)(c:bv):Bool:=match AF n c with|some true=>true|_=>false
def tR:ac ci->ac ci->Bool
 |[],_=>true
 |a::as,b::bZ=>a==b&&tR as bZ
 |_::_,[]=>false
def pa(b:ac ci):ac ci->be Nat
 |[]=>if b.isEmpty then some 0 else none
 |x::xs=>if tR b (x::xs)then some 0 else(pa b xs).map (· +1)
def DS(l:ac Nat):be Nat:=l.getLast?
def Ix(o:aJ)(st:aj)(y:tG):a1:=
 match y with
 |.look cp z ok m k=>(λkey=>cond (cp.ok key)
  (om (o.ar m) (λr=>bn r (λid=>jo (st.h.get id) (λes _=>cond (kT cp es) (bn (hR key es) (λe=>.ok (cond ok (.tuple #[e.val,.bool true]) e.val) o st)<|.ok (cond ok (.tuple #[z,.bool false]) z) o st) .no) .no)
   (.ok (cond ok (.tuple #[z,.bool false]) z) o st)) .no) .no) (o.ar k)
 |.eO cp m k v=>(λkey=>cond (cp.ok key)
  (om (o.ar m) (λr=>bn r (λid=>jo (st.h.get id) (λes clock=>cond (kT cp es)
   (bn (hR key es) (λ_=>st.gO id (.map (vS key (o.ar v) es) clock) λst=>.ok undef o st)
    (st.gO id (.map (es++[⟨key,o.ar v,clock⟩])<|Nat.succ clock) λst=>.ok undef o st)) .no) .no) .no) .no) .no) (o.ar k)
 |.del cp m k=>(λkey=>cond (cp.ok key)
  (om (o.ar m) (λr=>bn r (λid=>jo (st.h.get id) (λes clock=>cond (kT cp es) (st.gO id (.map (qf key es) clock) λst=>.ok undef o st) .no) .no) .no) .no) .no) (o.ar k)
 |.vG m=>om (o.ar m) (λr=>bn r (λid=>jo (st.h.get id) (λes _=>fK (du es) λn=>.ok (.int .i64<|.ofNat n) o st) .no)<|.ok (.int .i64 0) o st) .no
 |.tH m=>om (o.ar m) (λr=>bn r (λid=>jo (st.h.get id) (λ_ clock=>st.ib (.mj (some id) clock [] clock) λid st=>.ok (.pointer<|some ⟨id,0,none⟩) o st) .no)
  (st.ib (.mj none 0 [] 0) λid st=>.ok (.pointer<|some ⟨id,0,none⟩) o st)) .no
 |.vH j=>hi (o.ar j) (λp=>bn p (λa=>bn a.spot (λ_=>.no) (dz a.off 0 (AE (st.h.get a.block) (λm _ A q=>
  bn m (λid=>bn (DS A) (λs=>jo (st.h.get id) (λes clock=>dz clock q (ek (Nat.succ s) clock (bn (es.find? λe=>Nat.beq e.born s) (λe=>.ok (.tuple #[e.key,e.val]) o st) .no) .no) .no) .no) .no) .no) .no) .no)) .no) .no
 |.aX s c=>hD (o.ar s) (λs=>fL (o.ar c) (λk c=>cond (jI k .u8) (ht c (λc=>.ok (.int .i64<|.ofNat<|s.data.toList.countP λb=>b==UInt8.ofNat c) o st) .no) .no) .no) .no
 |.tI neg n x y=>rq (o.ar x) (λxs=>rq (o.ar y) (λaQ=>dz (du xs.toList) (Nat.add (Nat.mod n 100)<|Nat.div n 100) (dz (du aQ.toList) (Nat.add (Nat.mod n 100)<|Nat.div n 100) (bn (qg (Nat.mod n 100) xs.toList aQ.toList) (λb=>.ok (.bool<|cond neg (!b) b) o st) .no) .no) .no) .no) .no
 |.nx _=>.no
 |.x0 gt x y=>fL (o.ar x) (λk n=>cond (jI k .i64) (ht n (λn=>bn (AF n<|o.ar y) (λb=>.ok (.bool<|cond gt (!b) b) o st) .no) .no) .no) .no
 |.idxs g s b=>hD (o.ar s) (λs=>hD (o.ar b) (λb=>yb (st.h.get g) (λcs _ _ aU=>cond aU .no (one cs (λc=>cond (Ou (du b.data.toList) c) (ek 2 (du b.data.toList) (ek (du s.data.toList) 1000000
  (.ok (.int .i64<|bn (pa b.data.toList s.data.toList) (λi=>.ofNat i)<|.negSucc 0) o st) .no) .no) .no) .no)) .no) .no) .no
 |.DD _=>.no
 |.DE _=>.no
 |.DF _ _=>.no
 |.Iq _=>.no
def rv(c:ci)(l:ac ci):be Nat:=
 List.rec (motive:=λ_=>be Nat) none (λb _ r=>cond (Nat.beq b.toNat c.toNat) (some 0)<|bn r (λi=>some<|Nat.succ i) none) l
def aat(x:ce)(j:bM)(o:aJ)(st:aj):a1:=
 .ok (o.ar x) o st
def aau(c:ce)(a:ce)(b:ce)(j:bM)(o:aJ)(st:aj):a1:=
 jX (o.ar c) (λt=>.ok (cond t (o.ar a)<|o.ar b) o st) .no
def yc(z:ac bv)(elem:co)(j:bM)(o:aJ)(st:aj):a1:=
 st.ib (.cells z elem (0,0) false) λid st=>.ok (.pointer<|some ⟨id,0,none⟩) o st
def Iy(elem:co)(x:ce)(j:bM)(o:aJ)(st:aj):a1:=
 (λv=>cond (su v) .no<|st.ib (.cells (hB v) elem (0,0) false) λid st=>.ok (.pointer<|some ⟨id,0,none⟩) o st)<|o.ar x
def aav(z:ac bv)(a8:ac (Nat×Nat×ce))(j:bM)(o:aJ)(st:aj):a1:=
 nB o a8 z λcs=>.ok (.agg ⟨cs⟩) o st
def AG(elem:co)(len:Nat)(z:ac bv)(a8:ac (Nat×Nat×ce))(j:bM)(o:aJ)(st:aj):a1:=
 nB o a8 z λcs=>st.ib (.cells cs elem (0,0) false) λid st=>.ok (.slice (some ⟨id,0,none⟩) len len) o st
def aaw(a:ce)(j:bM)(o:aJ)(st:aj):a1:=
 hi (o.ar a) (λp=>bn p (λa=>st.load a 1 (λg=>one g (λv=>.ok v o st) .no) .no) .no) .no
def aax(n:Nat)(a:ce)(j:bM)(o:aJ)(st:aj):a1:=
 hi (o.ar a) (λp=>bn p (λa=>st.load a n (λg=>.ok (.agg ⟨g⟩) o st) .no) .no) .no
def aay(n:Nat)(a:ce)(x:ce)(j:bM)(o:aJ)(st:aj):a1:=
 hi (o.ar a) (λp=>bn p (λa=>(λg=>dz (du g) n (cond (gV g) (st.store a g (λst=>.ok undef o st) .no) .no) .no)<|hB<|o.ar x) .no) .no
def Iz(x:ce)(j:bM)(o:aJ)(st:aj):a1:=
 hi (o.ar x) (λp=>bn p (λa=>.ok (.pointer<|some a) o st) .no)<|x7 (o.ar x) (λf a b=>match f with|.func g=>.ok (.func (.func g) a b) o st|_=>.no) .no
def aaz(E:String)(G:ac (Nat×d7))(I:ce)(j:bM)(D:aJ)(F:aj):a1:=
 .no
def aaA(op:BinOp)(x:ce)(y:ce)(j:bM)(o:aJ)(st:aj):a1:=
 Az op (o.ar x) (o.ar y) λv=>.ok v o st
def aaB(neg:Bool)(e:p9)(x:ce)(y:ce)(j:bM)(o:aJ)(st:aj):a1:=
 bn (jY 8 e (o.ar x)<|o.ar y) (λb=>.ok (.bool<|cond neg (!b) b) o st) .no
def aaC(op:UnOp)(x:ce)(j:bM)(o:aJ)(st:aj):a1:=
 ya op (o.ar x) λv=>.ok v o st
def aaD(k:f6)(x:ce)(j:bM)(o:aJ)(st:aj):a1:=
 fL (o.ar x) (λ_ n=>ic k (nA k n) λv=>.ok v o st) .no
def aaE(x:ce)(j:bM)(o:aJ)(st:aj):a1:=
 hD (o.ar x) (λs=>.ok (.string s) o st) .no
def IA(x:ce)(j:bM)(o:aJ)(st:aj):a1:=
 hE (o.ar x) (λa n _=>bn a (λa=>st.load a n (λg=>bn (bytesOf g) (λbZ=>.ok (.string ⟨⟨bZ⟩⟩) o st) .no) .no)<|.ok (.string ⟨⟨[]⟩⟩) o st) .no
def IB(elem:co)(x:ce)(j:bM)(o:aJ)(st:aj):a1:=
 hD (o.ar x) (λs=>(λn=>ek n (2^40) (st.ib (.cells (mW s.data.toList) elem (0,0) true) λid st=>.ok (.slice (some ⟨id,0,none⟩) n n) o st) .no)<|du s.data.toList) .no
def aaF(t:co)(x:ce)(j:bM)(o:aJ)(st:aj):a1:=
 .ok (.iface t<|o.ar x) o st
def aaG(fn:Fn)(first:ac ce)(j:ac ce)(D:bM)(o:aJ)(st:aj):a1:=
 .ok (.func fn ⟨dJ o first⟩ ⟨dJ o j⟩) o st
def vT(j:bM)(o:aJ)(st:aj):a1:=
 st.ib (.map [] 0) λid st=>.ok (.map<|some id) o st
def AH(elem:co)(j:Nat)(z:ac bv)(len:ce)(cap:ce)(D:bM)(o:aJ)(st:aj):a1:=
 fL (o.ar len) (λ_ l=>fL (o.ar cap) (λ_ c=>ht l (λl=>ht c (λc=>ek l c (ek (Nat.mul c<|Nat.succ j) (2^40) (st.ib (.cells (qe z c) elem (0,0) false) λid st=>.ok (.slice (some ⟨id,0,none⟩) l c) o st) .no) .no) .no) .no) .no) .no
def aaH(x:ce)(bg:be ce)(af:be ce)(j:bM)(o:aJ)(st:aj):a1:=
 hD (o.ar x) (λs=>(λn=>ff o af n n λh=>ff o bg 0 h λl=>hQ s.data.toList l (Nat.sub h l) (λbZ=>.ok (.string ⟨⟨bZ⟩⟩) o st) .no)<|du s.data.toList) .no
def sv(n:Nat)(j:Nat)(x:ce)(bg:be ce)(af:be ce)(gN:be ce)(D:bM)(o:aJ)(st:aj):a1:=
 hi (o.ar x) (λp=>bn p (λa=>st.fM a (λ_ _ _ aU=>cond aU .no<|ff o gN n n λm=>ff o af n m λh=>ff o bg 0 h λl=>.ok (.slice (some<|dz m l a<|a.add<|Nat.mul l j) (Nat.sub h l)<|Nat.sub m l) o st) .no) .no) .no
def Ov(j:Nat)(x:ce)(bg:be ce)(af:be ce)(gN:be ce)(D:bM)(o:aJ)(st:aj):a1:=
 hE (o.ar x) (λb len cap=>bn b (λa=>st.fM a (λ_ _ _ aU=>cond aU (bn gN (λ_=>.no)<|ek len cap (ff o af len len λh=>ff o bg 0 h λl=>.ok (.slice (some<|a.add<|Nat.mul l j) (Nat.sub h l)<|Nat.sub cap l) o st) .no)<|ff o gN cap cap λm=>ff o af len m λh=>ff o bg 0 h λl=>.ok (.slice (some<|dz m l a<|a.add<|Nat.mul l j) (Nat.sub h l)<|Nat.sub m l) o st) .no)<|ff o gN cap cap λm=>ff o af len m λh=>ff o bg 0 h λl=>.ok (.slice none (Nat.sub h l)<|Nat.sub m l) o st) .no
def aaI(j:Nat)(x:ce)(D:bM)(o:aJ)(st:aj):a1:=
 hi (o.ar x) (λp=>bn p (λa=>.ok (.pointer<|some<|a.add j) o st) .no) .no
def aaJ(D:Nat)(j:Nat)(agg:Bool)(x:ce)(E:bM)(o:aJ)(st:aj):a1:=
 rq (o.ar x) (λcs=>bn (vO D j agg cs.toList) (λv=>.ok v o st) .no) .no
def sw(n:Nat)(D:Nat)(x:ce)(i:ce)(E:bM)(o:aJ)(st:aj):a1:=
 hi (o.ar x) (λp=>bn p (λa=>fL (o.ar i) (λ_ J=>ht J (λJ=>ek (Nat.succ J) n (.ok (.pointer<|some<|a.add<|Nat.mul J D) o st) .no) .no) .no) .no) .no
def aaK(D:Nat)(x:ce)(i:ce)(E:bM)(o:aJ)(st:aj):a1:=
 hE (o.ar x) (λb len _=>bn b (λa=>fL (o.ar i) (λ_ J=>ht J (λJ=>ek (Nat.succ J) len (.ok (.pointer<|some<|a.add<|Nat.mul J D) o st) .no) .no) .no) .no) .no
def aaL(x:ce)(i:ce)(D:bM)(o:aJ)(st:aj):a1:=
 hD (o.ar x) (λs=>fL (o.ar i) (λ_ J=>ht J (λJ=>hQ s.data.toList J 1 (λbZ=>one bZ (λb=>.ok (.int .u8<|.ofNat b.toNat) o st) .no) .no) .no) .no) .no
def aaM(n:Nat)(D:Nat)(agg:Bool)(x:ce)(i:ce)(E:bM)(o:aJ)(st:aj):a1:=
 rq (o.ar x) (λcs=>fL (o.ar i) (λ_ J=>ht J (λJ=>ek (Nat.succ J) n (bn (vO (Nat.mul J D) D agg cs.toList) (λv=>.ok v o st) .no) .no) .no) .no) .no
def IC(t:co)(zero:bv)(ok:Bool)(x:ce)(j:bM)(o:aJ)(st:aj):a1:=
 x8 (o.ar x) (λu v=>dz u t (.ok (cond ok (.tuple #[v,.bool true]) v) o st)<|cond ok (.ok (.tuple #[zero,.bool false]) o st) .no) (match o.ar x with|.nilIface=>cond ok (.ok (.tuple #[zero,.bool false]) o st) .no|_=>.no)
def aaN(x:ce)(i:Nat)(j:bM)(o:aJ)(st:aj):a1:=
 qd (o.ar x) (λg=>hQ g.toList i 1 (λl=>one l (λv=>.ok v o st) .no) .no) .no
def aaO(f:ce)(args:ac ce)(call:bM)(o:aJ)(st:aj):a1:=
 dQ.rec (motive:=λ_=>a1) (λv st _=>.ok v o st) (λv st _=>.aR v st) .no<|call (o.ar f) (dJ o args) none st
def aaP(G:ac (Nat×d7))(I:ce)(j:ac ce)(D:bM)(E:aJ)(F:aj):a1:=
 .no
def ID(x:ce)(j:bM)(o:aJ)(st:aj):a1:=
 hE (o.ar x) (λ_ n _=>.ok (.int .i64<|.ofNat n) o st)<|rr (o.ar x) (.ok (.int .i64<|.ofNat 0) o st) .no
def aaQ(x:ce)(j:bM)(o:aJ)(st:aj):a1:=
 hD (o.ar x) (λs=>fK (du s.data.toList) λn=>.ok (.int .i64<|.ofNat n) o st) .no
def aaR(n:Nat)(j:bM)(o:aJ)(st:aj):a1:=
 .ok (.int .i64<|.ofNat n) o st
def aaS(F:ce)(j:bM)(D:aJ)(E:aj):a1:=
 .no
def Ow(elem:co)(j:Nat)(D:Nat)(s:ce)(x:ce)(E:bM)(o:aJ)(st:aj):a1:=
 hE (o.ar s) (λbase len cap=>hE (o.ar x) (λb n _=>bn b (λb=>st.load b (Nat.mul n j) (λnew=>cond (gV new) (jn o st elem j D base len cap n new) .no) .no)<|dz n 0 (jn o st elem j D base len cap 0 []) .no)<|rr (o.ar x) (jn o st elem j D base len cap 0 [])<|hD (o.ar x) (λs=>dz j 1 (jn o st elem j D base len cap (du s.data.toList)<|mW s.data.toList) .no) .no) .no
def aaT(x:ce)(xs:ac ce)(j:bM)(o:aJ)(st:aj):a1:=
 fL (o.ar x) (λk n=>bn (AB k o xs n) (λm=>ic k m λv=>.ok v o st) .no) .no
def aaU(x:ce)(xs:ac ce)(j:bM)(o:aJ)(st:aj):a1:=
 fL (o.ar x) (λk n=>bn (AD k o xs n) (λm=>ic k m λv=>.ok v o st) .no) .no
def Ox(j:Nat)(d:ce)(s:ce)(D:bM)(o:aJ)(st:aj):a1:=
 hE (o.ar d) (λa g _=>hE (o.ar s) (λb aK _=>bn a (λa=>bn b (λb=>(λn=>st.load b (Nat.mul n j) (λh=>cond (gV h) (st.store a h (λst=>.ok (.int .i64<|.ofNat n) o st) .no) .no) .no)<|ek aK g aK g)<|dz aK 0 (.ok (.int .i64 0) o st) .no)<|dz g 0 (.ok (.int .i64 0) o st) .no) .no) .no
def aaV(j:bM)(o:aJ)(st:aj):a1:=
 bn o.b1 (λ_=>.no)<|bn o.aR (λv=>cond o.cL (.ok .nilIface o st)<|.ok v ⟨o.t,o.c4,o.aR,true,o.b1⟩ st)<|.ok .nilIface o st
def aaW(f:ce)(args:ac ce)(j:bM)(o:aJ)(st:aj):a1:=
 bn o.b1 (λ_=>.no)<|x7 (o.ar f) (λfn first h=>match fn with|.func g=>.ok undef ⟨o.t,{target:=.fn (.func g) h,args:=⟨fe first.toList (dJ o args)⟩}::o.c4,o.aR,o.cL,o.b1⟩ st|_=>.no) .no
def aaX(x:ce)(j:bM)(o:aJ)(st:aj):a1:=
 x8 (o.ar x) (λt v=>.aR (.iface t v) st) .no
def IE(x:ce)(j:bM)(o:aJ)(st:aj):a1:=
 hi (o.ar x) (λp=>bn p (λa=>st.fM a (λcs _ _ _=>ek (Nat.succ a.off) (du cs) (.ok (.pointer<|some a) o st) .no) .no) .no) .no
def IF(elem:Nat)(n:Nat)(x:ce)(j:bM)(o:aJ)(st:aj):a1:=
 hi (o.ar x) (λp=>bn p (λa=>st.fM a (λcs el _ aU=>cond aU .no<|dz a.off 0 (dz el elem (dz (du cs) n (.ok (.pointer<|some a) o st) .no) .no) .no) .no) .no) .no
def IG(x:ce)(j:bM)(o:aJ)(st:aj):a1:=
 hE (o.ar x) (λb _ c=>bn b (λa=>dz c 0 .no<|.ok (.pointer<|some a) o st)<|.ok (.pointer none) o st) .no
def DT(elem:co)(x:ce)(n:ce)(j:bM)(o:aJ)(st:aj):a1:=
 hi (o.ar x) (λp=>fL (o.ar n) (λ_ n=>ht n (λn=>dz n 0 (.ok (.string ⟨⟨[]⟩⟩) o st)<|bn p (λa=>ek n (2^40) (st.fM a (λcs el bT aU=>ek bT.2 bT.1 (dz el elem (hQ cs a.off n (λg=>bn (bytesOf g) (λbZ=>st.gO a.block (.cells cs el (a.off,Nat.add a.off n) aU) λst=>.ok (.string ⟨⟨bZ⟩⟩) o st) .no) .no) .no) .no) .no) .no) .no) .no) .no) .no
def IH(s:ce)(c:ce)(j:bM)(o:aJ)(st:aj):a1:=
 hD (o.ar s) (λs=>fL (o.ar c) (λk c=>cond (jI k .u8) (ht c (λc=>.ok (.int .i64<|bn (rv (UInt8.ofNat c) s.data.toList) (λi=>.ofNat i)<|.negSucc 0) o st) .no) .no) .no) .no
def aaY(x:ce)(j:bM)(o:aJ)(st:aj):a1:=
 .ok (o.ar x) o st
def aaZ(y:tG)(j:bM)(o:aJ)(st:aj):a1:=
 Ix o st y
def aa0(j:bM)(D:aJ)(E:aj):a1:=
 .no
def bw(call:bM)(U:c7)(o:aJ)(st:aj):a1:=
 c7.rec (motive:=λ_=>bM->aJ->aj->a1) aat aau yc Iy aav AG aaw aax aay Iz aaz aaA aaB aaC aaD aaE IA IB aaF aaG vT AH aaH sv Ov aaI aaJ sw aaK aaL aaM IC aaN aaO aaP ID aaQ aaR aaS Ow aaT aaU Ox aaV aaW aaX IE IF IG DT IH aaY aaZ aa0 U call o st
inductive cH where
 |out (e:c1) (o:aJ) (st:aj)
 |no
def gW(o:aJ)(g:be (Tmp×Bool))(D j z:β):β:=
 bn g (λp=>jX (o.tmp p.1) (λb=>cond b (cond p.2 D j)<|cond p.2 j D)<|qd (o.tmp p.1) (λ_=>j) z) D
def c7.kU:c7->Bool
 |.call _ _|.inv _ _ _|.nz _=>true
 |_=>false
def fV(call:bM)(ops:ac bm):aJ->aj->cH:=
 List.rec (motive:=λ_=>aJ->aj->cH) (λo st=>.out .norm o st)
  (λx _ h o st=>
   gW o x.g
    (a1.rec (motive:=λ_=>cH) (λv o st=>h (o.put x.d v) st) (λv st=>cond x.U.kU (.out (.aR v) o st) .no) .no<|bw call x.U o st)
    (h (o.put x.d undef) st) .no) ops
def sameAt(call:bM)(U:c7)(o:aJ)(v:bv)(ae:Nat)(n:Nat):ac (ao bz)->Bool:=
 Nat.rec (motive:=λ_=>ac (ao bz)->Bool) (λ_=>true)
  (λ_ j g=>List.rec (motive:=λ_=>Bool) false
   (λh g _=>a1.rec (motive:=λ_=>Bool) (λbD _ _=>cond (dm v bD) (j g) false) (λ_ _=>false) false<|bw call U o ⟨h,ae⟩) g) n
def jq(t:ao bv)(ay:ac Tmp)(k:ao bv->β):β:=
 List.rec (motive:=λ_=>ao bv->β) (λm=>k m) (λx _ g m=>bn (t.get x) (λv=>ao.im (Nat.succ x) m x v g)<|g m) ay .nil
def pb(o:aJ)(ay:ac Tmp):aJ:=
 List.rec (motive:=λ_=>aJ->aJ) (λo=>o) (λt _ g o=>g<|o.put (some t) iR) ay o
def jJ(call:bM)(ms:ac Nat)(n:Nat)(ops:ac (bm×cr)):Nat->ac (ao bz)->aJ->aj->Bool:=
 List.rec (motive:=λ_=>Nat->ac (ao bz)->aJ->aj->Bool) (λ_ _ _ _=>true)
  (λx _ q p j o st=>
   cond (Nat.testBit (ms.getD p 0) n)
    (cr.rec (motive:=λ_=>Bool) (q (Nat.succ p) (st.h::j) (o.put x.1.d undef) st) (λ_=>q (Nat.succ p) j (o.put x.1.d undef) st) (λ_ _=>q (Nat.succ p) j (o.put x.1.d undef) st) x.2)
    (cr.rec (motive:=λ_=>Bool) false
     (λay=>jq o.t ay λt=>gW ⟨t,[],none,false,none⟩ x.1.g
      (a1.rec (motive:=λ_=>Bool) (λv _ ak=>q (Nat.succ p) j (o.put x.1.d v) ak) (λ_ _=>false) false<|bw call x.1.U ⟨t,[],none,false,none⟩ st)
      (q (Nat.succ p) j (o.put x.1.d undef) st) false)
     (λback ay=>jq o.t ay λt=>gW ⟨t,[],none,false,none⟩ x.1.g
      (a1.rec (motive:=λ_=>Bool) (λv _ _=>cond (sameAt call x.1.U ⟨t,[],none,false,none⟩ v st.ae (Nat.succ back) j) (q (Nat.succ p) j (o.put x.1.d v) st) false) (λ_ _=>false) false<|bw call x.1.U ⟨t,[],none,false,none⟩ st)
      (q (Nat.succ p) j (o.put x.1.d undef) st) false)
     x.2)) ops
abbrev sx:=ac (bm×cr)->ac (ao bz)->aJ->aj->Bool
def gX(call:bM)(D:sx)(ops:ac (bm×cr)):ac (ao bz)->aJ->aj->cH:=
 List.rec (motive:=λ_=>ac (ao bz)->aJ->aj->cH) (λ_ o st=>.out .norm o st)
  (λx xs q j o st=>
   cr.rec (motive:=λ_=>cH)
    (gW o x.1.g
     (a1.rec (motive:=λ_=>cH) (λv bs ak=>ek st.ae ak.ae (q (ak.h::j) (aJ.put ⟨o.t,bs.c4,bs.aR,bs.cL,bs.b1⟩ x.1.d v) ak) .no) (λv ak=>cond x.1.U.kU (cond (D xs (st.h::j) (o.put x.1.d undef) st) (.out (.aR v) o ak) .no) .no) .no<|bw call x.1.U o st)
     (q (st.h::j) (o.put x.1.d undef) st) .no)
    (λay=>jq o.t ay λt=>gW ⟨t,[],none,false,none⟩ x.1.g
     (a1.rec (motive:=λ_=>cH) (λv _ ak=>q j (o.put x.1.d v) ak) (λ_ _=>.no) .no<|bw call x.1.U ⟨t,[],none,false,none⟩ st)
     (q j (o.put x.1.d undef) st) .no)
    (λback ay=>jq o.t ay λt=>gW ⟨t,[],none,false,none⟩ x.1.g
     (a1.rec (motive:=λ_=>cH) (λv _ _=>cond (sameAt call x.1.U ⟨t,[],none,false,none⟩ v st.ae (Nat.succ back) j) (q j (o.put x.1.d v) st) .no) (λ_ _=>.no) .no<|bw call x.1.U ⟨t,[],none,false,none⟩ st)
     (q j (o.put x.1.d undef) st) .no)
    x.2) ops
def ry(call:bM)(ms:ac Nat)(len:Nat):sx:=λxs=>jJ call ms (Nat.sub len<|Nat.succ<|du xs) xs<|Nat.sub len<|du xs
def mm(U:be bz)(k:LoopState->be c1->d7->ao bv->ac Tmp->dk->dk->Nat->β)(z:β):β:=
 bn U (λU=>bz.rec (motive:=λ_=>β) (λ_ _ _ _=>z) (λ_ _=>z) (λ_ _=>z) (λ_ _ _ _=>z) k (λ_=>z) z U) z
def kf(r:cH)(k:aJ->aj->cH):cH:=
 cH.rec (motive:=λ_=>cH) (λe o st=>c1.rec (motive:=λ_=>cH) (k o st) (λi=>.out (.exit i) o st) (.out .ret o st) (λv=>.out (.aR v) o st) e) .no r
def pc(id:Nat)(r:cH):cH:=
 cH.rec (motive:=λ_=>cH) (λe o st=>c1.rec (motive:=λ_=>cH) (.out .norm o st) (λi=>dz i id (.out .norm o st)<|.out (.exit i) o st) (.out .ret o st) (λv=>.out (.aR v) o st) e) .no r
def AI(v:bv)(a b:cH):cH:=jX v (λt=>cond t a b) .no
def Oy(l:Nat)(bs:aJ)(r:dQ):cH:=
 dQ.rec (motive:=λ_=>cH)
  (λ_ st _=>mm (st.h.get l) (λs fW g t a8 a b d=>
   LoopState.rec (motive:=λ_=>cH)
    (st.gO l (.loop .exhausted fW g t a8 a b d) λst=>bn fW (λe=>.out e bs st)<|.out .norm bs st)
    .no
    (st.gO l (.loop .exhausted fW g t a8 a b d) λst=>bn fW (λe=>.out e bs st)<|.out .norm bs st)
    .no s) .no)
  (λv st _=>.out (.aR v) bs st) .no r
def AJ(call:bM)(fn:d7)(f:ce)(params:ac Tmp)(assign body:dk)(o:aJ)(st:aj):cH:=
 bn o.b1 (λ_=>.no)
  (st.ib (.jm<|some []) λr st=>
   st.ib (.loop .ready none fn o.t params assign body r) λl st=>
   Oy l ⟨o.t,{target:=.collected r,args:= #[]}::o.c4,o.aR,o.cL,o.b1⟩<|call (o.ar f) [.func (.yield l) #[] #[]] none st)
def cZ(call:bM)(bb:Nat)(fn:d7)(c:dk):aJ->aj->cH:=
 dk.rec (motive:=λ_=>aJ->aj->cH)
  (λo st=>.out .norm o st)
  (λops=>fV call ops)
  (λops _ B ms o st=>gX call (ry call ms<|du ops) ops [st.h] (pb o B) st)
  (λ_ _ j g o st=>kf (j o st) g)
  (λc _ _ j g o st=>AI (o.ar c) (j o st)<|g o st)
  (λid _ e o st=>pc id<|e o st)
  (λ_ e o st=>
   Nat.rec (motive:=λ_=>aJ->aj->cH) (λ_ _=>.no)
    (λ_ q o st=>kf (e o st) q) bb o st)
  (λf C A body _ _=>AJ call fn f C A body)
  (λid o st=>.out (.exit id) o st)
  (λ_ e=>e)
  (λo st=>.out .ret o st)
  (λ_ _=>.no) c
def ld(ad:ac bv):Nat->ao bv->ao bv:=
 List.rec (motive:=λ_=>Nat->ao bv->ao bv) (λ_ t=>t) (λv _ g i t=>ao.im (Nat.succ i) t i v λt=>g (Nat.succ i) t) ad
def oo(ay:ac Tmp):ac bv->ao bv->ao bv:=
 List.rec (motive:=λ_=>ac bv->ao bv->ao bv) (λ_ m=>m)
  (λt _ h g m=>List.rec (motive:=λ_=>ao bv) m (λv g _=>ao.im (Nat.succ t) m t v λm=>h g m) g) ay
def pd(o:aJ)(st:aj)(j:ac gU):be (ac bv):=
 List.rec (motive:=λ_=>be<|ac bv) (some [])
  (λr _ h=>bn h (λg=>
   gU.rec (motive:=λ_=>be<|ac bv) (λt=>some<|o.tmp t::g)
    (λa agg n=>hi (o.tmp a) (λp=>bn p (λca=>st.load ca n (λcs=>cond agg (some<|.agg ⟨cs⟩::g)<|one cs (λv=>some<|v::g) none) none) none) none) r) none) j
def jr(call:bM):ac Deferred->be bv->aj->be (be bv×aj)
 |[],m,st=>some (m,st)
 |{target:=.collected r,.. }::aN,m,st=>
  match st.h.get r with
  |some (.jm<|some [])=>st.gO r (.jm none) λst=>jr call aN m st
  |_=>none
 |{target:=.fn (.func g) q,args}::aN,m,st=>
  match call (.func (.func g) #[] q) args.toList m st with
  |.ret _ st j=>
   match m,j with
   |some _,true=>jr call aN none st
   |_,_=>jr call aN m st
  |.aR v st _=>
   match m with
   |none=>jr call aN (some v) st
   |some _=>none
  |.no=>none
 |_::_,_,_=>none
abbrev nC:=d7->ac bv->aj->be dQ
def fv(call:bM)(res:ac gU)(m:be bv)(o:aJ)(st:aj):dQ:=
 bn (jr call o.c4 m st)
  (λp=>bn p.1 (λv=>.aR v p.2 o.cL)
   (bn (pd o p.2 res) (λg=>one g (λv=>.ret v p.2 o.cL)<|.ret (.tuple ⟨g⟩) p.2 o.cL) .no)) .no
def ie(call:bM)(n:Nat)(f:d7)(aZ:cJ)(as:ac bv)(aR:be bv)(st:aj):dQ:=
 ek (du as) aZ.aM
  (cH.rec (motive:=λ_=>dQ)
   (λe o st=>c1.rec (motive:=λ_=>dQ) (fv call aZ.res none o st) (λ_=>.no) (fv call aZ.res none o st) (λv=>fv call aZ.res (some v) o st) e)
   .no<|cZ call n f aZ.body ⟨ld as 0 .nil,[],aR,false,none⟩ st) .no
def qh(l:Nat)(r:cH):dQ:=
 cH.rec (motive:=λ_=>dQ)
  (λe o st=>
   List.rec (motive:=λ_=>dQ)
    (c1.rec (motive:=λ_=>dQ)
     (mm (st.h.get l) (λ_ _ fn t a8 a b d=>st.gO l (.loop .ready none fn t a8 a b d) λst=>.ret (.bool true) st false) .no)
     (λi=>mm (st.h.get l) (λ_ _ fn t a8 a b d=>st.gO l (.loop .done (some<|.exit i) fn t a8 a b d) λst=>.ret (.bool false) st false) .no)
     (mm (st.h.get l) (λ_ _ fn t a8 a b d=>st.gO l (.loop .done (some .ret) fn t a8 a b d) λst=>.ret (.bool false) st false) .no)
     (λv=>.aR v st false) e)
    (λ_ _ _=>.no) o.c4)
  .no r
def yd(call:bM)(n:Nat)(l:Nat)(f:d7)(body:dk)(o:aJ)(st:aj):dQ:=
 mm (st.h.get l) (λs fW fn t a8 a b d=>
  LoopState.rec (motive:=λ_=>dQ)
   (st.gO l (.loop .busy fW fn t a8 a b d) λst=>qh l<|cZ call n f body o st)
   .no .no .no s) .no
def vU(call:bM)(n:Nat)(l:Nat)(args:ac bv)(st:aj):dQ:=
 mm (st.h.get l) (λ_ _ fn t a8 g body _=>
  dz (du args) (du a8)
   (cH.rec (motive:=λ_=>dQ)
    (λe o st=>c1.rec (motive:=λ_=>dQ) (yd call n l fn body o st) (λ_=>.no) .no (λ_=>.no) e) .no
    (cZ call n fn g ⟨oo a8 args t,[],none,false,some l⟩ st)) .no) .no
def b7(aI:ao cJ)(E:nC)(D:Nat):bM:=
 Nat.rec (motive:=λ_=>bM) (λ_ _ _ _=>.no)
  (λn g q args aR st=>
   x7 q (λfn first j=>
    Fn.rec (motive:=λ_=>dQ)
     (λf=>(λas=>bn aR (λ_=>bn (aI.get f) (λh=>ie g n f h as aR st) .no)<|bn (E f as st) (λr=>r)<|bn (aI.get f) (λh=>ie g n f h as aR st) .no)<|fe first.toList (fe args j.toList))
     (λ_=>.no) (λ_ _=>.no) (λ_ _ _ _=>.no)
     (λl=>List.rec (motive:=λ_=>dQ) (List.rec (motive:=λ_=>dQ) (bn aR (λ_=>.no)<|vU g n l args st) (λ_ _ _=>.no) j.toList) (λ_ _ _=>.no) first.toList)
     fn) .no) D
end Go.bA
namespace Go.bA
namespace ao
variable{α β:Type}
@[simp] theorem get_nil (n:Nat):(ao.nil:ao α).get n=none:=rfl
def DU(l r:ao α)(v:be α):(ao.node l v r).get 0=v:=rfl
def DV{β:Sort _}(m:Nat)(a b:β):Nat.rec (motive:=λ_=>β) a (λ_ _=>b) (Nat.mod m 2)=if m%2=0 then a else b:=by
 show Nat.rec (motive:=λ_=>β) a (λ_ _=>b) (m%2)=_;rcases HP m with h|h
 ·rw[h];rfl
 ·rw[h];rfl
def oq(l r:ao α)(v:be α)(m:Nat):(ao.node l v r).get (m+1)=if m%2=0 then l.get (m/2)else r.get (m/2):=
 DV m (l.get<|m/2)<|r.get<|m/2
def DW(f m:Nat)(x:α)(k:ao α->β):im (f+1) .nil (m+1) x k=if m%2=0 then im f .nil (m/2) x (λbp=>k<|.node bp none .nil)else im f .nil (m/2) x (λj=>k<|.node .nil none j):=DV m _ _
def DX(f m:Nat)(l r:ao α)(v:be α)(x:α)(k:ao α->β):im (f+1) (.node l v r) (m+1) x k=if m%2=0 then im f l (m/2) x (λbp=>k<|.node bp v r)else im f r (m/2) x (λj=>k<|.node l v j):=DV m _ _
theorem lN{α:Type}:∀(f:Nat) (β:Type) (t:ao α) (n:Nat) (x:α) (k:ao α->β),im f t n x k=k (im f t n x id)
 |0,_,_,_,_,_=>rfl
 |f+1,β,t,n,x,k=>by
  cases t with
  |nil=>
   cases n with
   |zero=>rfl
   |succ m=>
    rw[DW,DW];split
    ·rw[lN f _ .nil (m/2) x λbp=>k<|ao.node bp none ao.nil,lN f _ .nil (m/2) x λbp=>id<|ao.node bp none ao.nil];rfl
    ·rw[lN f _ .nil (m/2) x λg=>k<|ao.node ao.nil none g,lN f _ .nil (m/2) x λg=>id<|ao.node ao.nil none g];rfl
  |node l v r=>
   cases n with
   |zero=>rfl
   |succ m=>
    rw[DX,DX];split
    ·rw[lN f _ l (m/2) x λbp=>k<|ao.node bp v r,lN f _ l (m/2) x λbp=>id<|ao.node bp v r];rfl
    ·rw[lN f _ r (m/2) x λg=>k<|ao.node l v g,lN f _ r (m/2) x λg=>id<|ao.node l v g];rfl
def vV(t:ao α)(n:Nat)(x:α)(k:ao α->β):im (Nat.succ n) t n x k=k (t.set n x):=lN _ _ t n x k
def aa1(v:be α)(r l:ao α):N2 v r l= .node l v r:=by cases l<;>rfl
def aa2(v:be α)(l r:ao α):N3 l v r= .node l v r:=by cases r<;>rfl
def ot(t:ao α)(k:ao α->β):fin t k=k t:=by cases t<;>rfl
def Oz(j:ao α->Nat->α->ao α)(l r:ao α)(v:be α)(m:Nat)(x:α):
 Dz j l v r m x=if m%2=0 then .node (j l (m/2) x) v r else .node l v (j r (m/2) x):=by
 rw[<-aa1,<-aa2];exact DV m _ _
theorem DY:∀(f:Nat) (t:ao α) (n:Nat) (x:α),ke f t n x=im f t n x id
 |0,_,_,_=>rfl
 |f+1,t,n,x=>by
  cases t with
  |nil=>
   cases n with
   |zero=>rfl
   |succ m=>
    rw[DW];show Dz (ke f) .nil none .nil m x=_;rw[Oz,DY f];split
    ·rw[lN f _ .nil (m/2) x λbp=>id<|ao.node bp none ao.nil];rfl
    ·rw[lN f _ .nil (m/2) x λg=>id<|ao.node ao.nil none g];rfl
  |node l v r=>
   cases n with
   |zero=>rfl
   |succ m=>
    rw[DX];show Dz (ke f) l v r m x=_;rw[Oz,DY f,DY f];split
    ·rw[lN f _ l (m/2) x λbp=>id<|ao.node bp v r];rfl
    ·rw[lN f _ r (m/2) x λg=>id<|ao.node l v g];rfl
def tS(t:ao α)(n:Nat)(x:α):ke (Nat.succ n) t n x=t.set n x:=DY _ t n x
theorem DZ:∀(f:Nat) (t:ao α) (n:Nat) (x:α) (J:Nat),n<f->(im f t n x id).get J=if J=n then some x else t.get J
 |0,_,_,_,_,h=>by omega
 |f+1,t,n,x,J,h=>by
  cases t with
  |nil=>
   cases n with
   |zero=>
    cases J with
    |zero=>rfl
    |succ J=>show(ao.node .nil (some x) .nil:ao α).get (J+1)=_;rw[oq];simp
   |succ m=>
    have q:=λi=>DZ f (.nil:ao α) (m/2) x i R;rw[DW];split
    ·rename_i hm;rw[lN f _ .nil (m/2) x λB=>id<|ao.node B none ao.nil];show(ao.node _ none .nil:ao α).get J=_;cases J with
     |zero=>rw[DU];simp
     |succ J=>
      rw[oq];by_cases g:J%2=0
      ·rw[aE g,q];by_cases e:J=m
       ·subst e;simp
       ·rw[aw R,aw R];simp
      ·rw[aw g,aw R];simp
    ·rename_i hm;rw[lN f _ .nil (m/2) x λA=>id<|ao.node ao.nil none A];show(ao.node .nil none _:ao α).get J=_;cases J with
     |zero=>rw[DU];simp
     |succ J=>
      rw[oq];by_cases g:J%2=0
      ·rw[aE g,aw R];simp
      ·rw[aw g,q];by_cases e:J=m
       ·subst e;simp
       ·rw[aw R,aw R];simp
  |node l v r=>
   cases n with
   |zero=>
    cases J with
    |zero=>rfl
    |succ J=>show(ao.node l (some x) r:ao α).get (J+1)=_;rw[oq,oq,aw (by omega:¬(J+1=0))]
   |succ m=>
    rw[DX];split
    ·rename_i hm;have q:=λi=>DZ f l (m/2) x i R;rw[lN f _ l (m/2) x λB=>id<|ao.node B v r];show(ao.node _ v r:ao α).get J=_;cases J with
     |zero=>rfl
     |succ J=>
      rw[oq,oq]
      grind
    ·rename_i hm;have q:=λi=>DZ f r (m/2) x i R;rw[lN f _ r (m/2) x λA=>id<|ao.node l v A];show(ao.node l v _:ao α).get J=_;cases J with
     |zero=>rfl
     |succ J=>
      rw[oq,oq]
      grind
def ee(t:ao α)(n:Nat)(x:α)(J:Nat):(t.set n x).get J=if J=n then some x else t.get J:=
 DZ (n+1) t n x J R
@[simp] theorem mn (t:ao α) (n:Nat) (x:α):(t.set n x).get n=some x:=by rw[ee,aE j]
def fa(t:ao α){n J:Nat}(x:α)(h:J≠n):(t.set n x).get J=t.get J:=by rw[ee,aw h]
end ao
def II(o:aJ)(d:Tmp)(v:bv):o.put (some d) v=⟨o.t.set d v,o.c4,o.aR,o.cL,o.b1⟩:=by
 show aJ.N5 (ao.ke (Nat.succ d) o.t d v) o.c4 o.aR o.cL o.b1=_;rw[ao.tS];cases o.t.set d v<;>rfl
def qi(o:aJ)(d:be Tmp)(v:bv)(J:Nat):(o.put d v).tmp J=if d=some J then v else o.tmp J:=by
 cases d with
 |none=>simp[aJ.put]
 |some d=>
  rw[II];simp[aJ.tmp,ao.ee,Option.some.injEq];by_cases h:J=d
  ·subst h;simp
  ·rw[aw h,aw λe=>h e.symm]
def qj(o:aJ)(d:be Tmp)(v:bv):(o.put d v).c4=o.c4/\(o.put d v).aR=o.aR/\(o.put d v).cL=o.cL/\(o.put d v).b1=o.b1:=by
 cases d with
 |none=>simp[aJ.put]
 |some d=>rw[II];exact⟨j,j,j,j⟩
structure Loc where
 ct:Nat
 c5:Nat
 ex:Nat
 bu:Nat->Nat
def eH:Nat->Nat:=λ_=>0
def IJ:(id:Nat->Nat)≠eH:=λh=>by have:=congrFun h 1;simp[eH]at this
abbrev bF:=Nat->be Loc
def bF.le(ab aG:bF):Prop:=∀i l,ab i=some l->aG i=some l
def bF.le.refl(ab:bF):ab.le ab:=λ_ _ h=>h
def bF.le.trans{ab aG g:bF}(h:ab.le aG)(j:aG.le g):ab.le g:=λi l af=>j i l<|h i l af
def qk(ab:bF)(f g:Fn):Prop:=(f=g/\∀l,f≠.yield l)\/∃l b,f= .yield l/\g= .yield b/\ab l=some ⟨b,0,0,id⟩
def IK(c:Nat)(m:Int):Prop:=c=1\/(∃k:Nat,c=2*k+2/\(k:Int)<=m)\/∃k:Nat,c=2*k+3/\m<k
inductive bc(ab:bF):Value->Value->Prop
 |bool (b:Bool):bc ab (.bool b) (.bool b)
 |int (k:IntKind) (n:Int):bc ab (.int k n) (.int k n)
 |float (k:FloatKind) (b:Nat):bc ab (.float k b) (.float k b)
 |string (s:ByteArray):bc ab (.string s) (.string s)
 |kV:bc ab (.pointer none) (.pointer none)
 |ptr (a:Addr) (l:Loc) (h:ab a.block=some l) (cv:a.spot=none):bc ab (.pointer (some a)) (.pointer (some ⟨l.ct,l.c5+a.off,none⟩))
 |jZ (n c:Nat):bc ab (.slice none n c) (.slice none n c)
 |fg (a:Addr) (l:Loc) (U n c:Nat) (h:ab a.block=some l) (cv:a.spot=none) (OA:U=l.c5+a.off∨(n=0∧c=0∧l.ex=0)):
  bc ab (.slice (some a) n c) (.slice (some ⟨l.ct,U,none⟩) n (c+l.ex))
 |mo:bc ab (.map none) (.map none)
 |map (r b:Nat) (bu:Nat->Nat) (h:ab r=some ⟨b,0,0,bu⟩):bc ab (.map (some r)) (.map (some b))
 |func (f g:Fn) (xs aQ us ad:Array Value) (arG:qk ab f g) (aF:xs.size=aQ.size) (aL:∀i (h:i<xs.size) (tT:i<aQ.size),bc ab xs[i] aQ[i])
  (aa3:us.size=ad.size) (aa4:∀i (h:i<us.size) (tT:i<ad.size),bc ab us[i] ad[i]):bc ab (.func f xs us) (.func g aQ ad)
 |nilFunc:bc ab .nilFunc .nilFunc
 |iface (t:TypeId) (v w:Value) (h:bc ab v w):bc ab (.iface t v) (.iface t w)
 |nilIface:bc ab .nilIface .nilIface
 |agg (xs aQ:Array Value) (aF:xs.size=aQ.size) (aL:∀i (h:i<xs.size) (tT:i<aQ.size),bc ab xs[i] aQ[i]):bc ab (.agg xs) (.agg aQ)
 |tuple (xs aQ:Array Value) (aF:xs.size=aQ.size) (aL:∀i (h:i<xs.size) (tT:i<aQ.size),bc ab xs[i] aQ[i]):bc ab (.tuple xs) (.tuple aQ)
 |hF (c:Nat) (m:Int) (h:IK c m):bc ab (.chan (some c)) (.int .i64 m)
 |emp (p:Addr) (c:Nat):bc ab (.chan none) (.slice (some p) 0 c)
 |top (c:Value):bc ab iR c
variable{ab aG:bF}
def qk.mono(hle:ab.le aG){f g:Fn}(h:qk ab f g):qk aG f g:=by
 rcases h with h|⟨l,b,q,A,j⟩
 ·exact .inl h
 ·exact .inr ⟨l,b,q,A,hle _ _ j⟩
def bc.mono(hle:ab.le aG){v w:bv}(h:bc ab v w):bc aG v w:=by
 induction h with
 |bool b=>exact .bool b
 |int k n=>exact .int k n
 |float k n=>exact .float k n
 |string s=>exact .string s
 |kV=>exact .kV
 |ptr a l h A=>exact .ptr a l (hle _ _ h) A
 |jZ n c=>exact .jZ n c
 |fg a l U n c h A D=>exact .fg a l U n c (hle _ _ h) A D
 |mo=>exact .mo
 |map r b bu h=>exact .map r b bu (hle _ _ h)
 |func f g xs aQ G H B q _ C _ E F=>exact .func f g xs aQ G H (B.mono hle) q E C F
 |nilFunc=>exact .nilFunc
 |iface t v w _ j=>exact .iface t v w j
 |nilIface=>exact .nilIface
 |agg xs aQ q _ j=>exact .agg xs aQ q j
 |tuple xs aQ q _ j=>exact .tuple xs aQ q j
 |hF c m h=>exact .hF c m h
 |emp p c=>exact .emp p c
 |top c=>exact .top c
def bI(ab:bF)(xs aQ:ac bv):Prop:=xs.length=aQ.length/\∀(i:Nat) (h:i<xs.length) (g:i<aQ.length),bc ab xs[i] aQ[i]
variable{xs aQ:bi bv}
def bI.mono(hle:ab.le aG){xs aQ:ac bv}(h:bI ab xs aQ):bI aG xs aQ:=⟨h.1,λi a b=>(h.2 i a b).mono hle⟩
def bI.nil(ab:bF):bI ab [] []:=⟨j,λi h=>by simp at h⟩
def bI.cons{ab:bF}{x y:bv}{xs aQ:ac bv}(h:bc ab x y)(j:bI ab xs aQ):bI ab (x::xs) (y::aQ):=by
 refine⟨by simp[j.1],λi a b=>?_⟩;cases i with
 |zero=>exact h
 |succ i=>exact j.2 i (by simpa using a)<|by simpa using b
def bI.cons_inv{x:bv}{xs aQ:ac bv}(h:bI ab (x::xs) aQ):∃y g,aQ=y::g/\bc ab x y/\bI ab xs g:=by
 cases aQ with
 |nil=>have:=h.1;simp at this
 |cons y g=>
  refine⟨y,g,j,h.2 0 av av,by simpa using h.1,λi a b=>?_⟩;exact h.2 (i+1) (by simpa using a)<|by simpa using b
def bI.ql{aQ:ac bv}(h:bI ab [] aQ):aQ=[]:=by
 cases aQ with
 |nil=>rfl
 |cons y aQ=>have:=h.1;simp at this
def bI.append:∀{xs aQ us ad:ac bv},bI ab xs aQ->bI ab us ad->bI ab (xs++us) (aQ++ad)
 |[],aQ,us,ad,h,g=>by rw[h.ql];simpa using g
 |x::xs,aQ,us,ad,h,g=>by
  obtain⟨y,j,rfl,aF,aL⟩:=h.cons_inv;simpa using bI.cons aF (aL.append g)
def bI.drop:∀(n:Nat) {xs aQ:ac bv},bI ab xs aQ->bI ab (xs.drop n) (aQ.drop n)
 |0,_,_,h=>by simpa using h
 |n+1,[],aQ,h=>by rw[h.ql];simpa using bI.nil ab
 |n+1,x::xs,aQ,h=>by
  obtain⟨y,g,rfl,_,aL⟩:=h.cons_inv;simpa using aL.drop n
def bI.take:∀(n:Nat) {xs aQ:ac bv},bI ab xs aQ->bI ab (xs.take n) (aQ.take n)
 |0,_,_,_=>by simpa using bI.nil ab
 |n+1,[],aQ,h=>by rw[h.ql];simpa using bI.nil ab
 |n+1,x::xs,aQ,h=>by
  obtain⟨y,g,rfl,aF,aL⟩:=h.cons_inv;simpa using bI.cons aF (aL.take n)
def bc.rz(h:bI ab xs.toList aQ.toList):bc ab (.agg xs) (.agg aQ):=
 .agg xs aQ (by simpa using h.1) λi a b=>by have:=h.2 i R R;rwa [ky,ky]at this
def bc.qm(h:bI ab xs.toList aQ.toList):bc ab (.tuple xs) (.tuple aQ):=
 .tuple xs aQ (by simpa using h.1) λi a b=>by have:=h.2 i R R;rwa [ky,ky]at this
def bI.tU(aF:xs.size=aQ.size)(aL:∀i (h:i<xs.size) (g:i<aQ.size),bc ab xs[i] aQ[i]):bI ab xs.toList aQ.toList:=
 ⟨by simpa using aF,λi a b=>by have:=aL i R R;rwa [<-ky,<-ky]at this⟩
def bc.AK{f g:Fn}{us ad:bi bv}(D:qk ab f g)(h:bI ab xs.toList aQ.toList)(j:bI ab us.toList ad.toList):bc ab (.func f xs us) (.func g aQ ad):=
 .func f g xs aQ us ad D (by simpa using h.1) (λi a b=>by have:=h.2 i R R;rwa [ky,ky]at this) (by simpa using j.1) λi a b=>by have:=j.2 i R R;rwa [ky,ky]at this
theorem bI.cells{v w:bv}(h:bc ab v w)(hp:v≠iR):bI ab v.cells.toList w.cells.toList:=by
 cases h<;>first
  |exact absurd j hp
  |(rename_i xs aQ g q;exact bI.tU g q)
  |(refine bI.cons ?_ (bI.nil ab);constructor<;>assumption)
end Go.bA
namespace Go.bA
section
variable{α β:Type}{r z:β}
variable{v:bv}{x:β}{k:α->β}{a b:Nat}{l:ac α}{n:Nat}{U:be α}
def AL{k:be Addr->β}(h:hi v k z=r)(D:z≠r):∃p,v= .pointer p/\k p=r:=by
 cases v<;>first|exact absurd h D|exact⟨_,j,h⟩
def nD{k:f6->Int->β}(h:fL v k z=r)(D:z≠r):∃a n,v= .int a n/\k a n=r:=by
 cases v<;>first|exact absurd h D|exact⟨_,_,j,h⟩
def OB{k:Bool->β}(h:jX v k z=r)(D:z≠r):∃b,v= .bool b/\k b=r:=by
 cases v<;>first|exact absurd h D|exact⟨_,j,h⟩
def ye{k:f9->β}(h:hD v k z=r)(D:z≠r):∃s,v= .string s/\k s=r:=by
 cases v<;>first|exact absurd h D|exact⟨_,j,h⟩
def yf{k:be Addr->Nat->Nat->β}(h:hE v k z=r)(D:z≠r):∃a n c,v= .slice a n c/\k a n c=r:=by
 cases v<;>first|exact absurd h D|exact⟨_,_,_,j,h⟩
def AM{k:bi bv->β}(h:rq v k z=r)(D:z≠r):∃a,v= .agg a/\k a=r:=by
 cases v<;>first|exact absurd h D|exact⟨_,j,h⟩
def OC{k:bi bv->β}(h:qd v k z=r)(D:z≠r):∃a,v= .tuple a/\k a=r:=by
 cases v<;>first|exact absurd h D|exact⟨_,j,h⟩
def IL{k:Fn->bi bv->bi bv->β}(h:x7 v k z=r)(D:z≠r):∃f a b,v= .func f a b/\k f a b=r:=by
 cases v<;>first|exact absurd h D|exact⟨_,_,_,j,h⟩
def IM{k:co->bv->β}(h:x8 v k z=r)(D:z≠r):∃t x,v= .iface t x/\k t x=r:=by
 cases v<;>first|exact absurd h D|exact⟨_,_,j,h⟩
def hS(h:bn U k z=r)(D:z≠r):∃a,U=some a/\k a=r:=by
 cases U<;>first|exact absurd h D|exact⟨_,j,h⟩
def yg(h:bn U k z=r)(ax:∀a,k a≠r):U=none/\z=r:=by
 cases U<;>first|exact⟨j,h⟩|exact absurd h<|ax _
def pe{n:Int}{k:Nat->β}(h:ht n k z=r)(D:z≠r):∃m:Nat,n=(m:Int)/\k m=r:=by
 cases n with
 |ofNat m=>exact⟨m,j,h⟩
 |negSucc m=>exact absurd h D
def lf:Nat.ble a b=true↔a<=b:=av
theorem lg(a b:Nat)(x y:β):ek a b x y=if a<=b then x else y:=by
 unfold ek
 simp_all
theorem lO(a b:Nat)(x y:β):dz a b x y=if a=b then x else y:=by
 unfold dz
 simp_all
theorem iS(h:ek a b x z=r)(j:z≠r):a<=b/\x=r:=by
 rw[lg]at h;split at h
 ·exact⟨lh,h⟩
 ·exact absurd h j
theorem kg(h:dz a b x z=r)(j:z≠r):a=b/\x=r:=by
 rw[lO]at h;split at h
 ·exact⟨lh,h⟩
 ·exact absurd h j
def iT{b:Bool}(h:cond b x z=r)(D:z≠r):b=true/\x=r:=by
 cases b
 ·exact absurd h D
 ·exact⟨j,h⟩
def yh{b:Bool}(h:cond b z x=r)(D:z≠r):b=false/\x=r:=by
 cases b
 ·exact⟨j,h⟩
 ·exact absurd h D
@[simp] theorem eP:∀l:ac α,du l=l.length
 |[]=>rfl
 |x::xs=>by show Nat.succ (du xs)=_;rw[eP xs];rfl
@[simp] theorem qn (m:ac α):∀l:ac α,fe l m=l++m
 |[]=>rfl
 |x::xs=>by show x::fe xs m=_;rw[qn m xs];rfl
@[simp] theorem AN:∀(n:Nat) (l:ac α),DM n l=l.drop n
 |0,l=>rfl
 |n+1,[]=>rfl
 |n+1,x::xs=>by show DM n xs=_;rw[AN n xs];rfl
theorem AO:∀(n:Nat) (l:ac α),DL n l=if n<=l.length then some (l.take n)else none
 |0,l=>by rfl
 |n+1,[]=>rfl
 |n+1,x::xs=>by
  show Option.rec (motive:=λ_=>be<|ac α) none (λr=>some<|x::r) (DL n xs)=_;rw[AO n xs];by_cases h:n<=xs.length
  ·simp_all
  ·rw[aw h,aw<|by simpa using h]
def yi(h:one l k z=r)(D:z≠r):∃x,l=[x]/\k x=r:=by
 cases l with
 |nil=>exact absurd h D
 |cons x xs=>
  cases xs with
  |nil=>exact⟨x,j,h⟩
  |cons y aQ=>exact absurd h D
theorem rA{j:Nat}{k:ac α->β}(h:hQ l j n k z=r)(D:z≠r):n<=(l.drop j).length/\k ((l.drop j).take n)=r:=by
 unfold hQ at h;rw[AN,AO]at h;split at h
 ·exact⟨lh,h⟩
 ·exact absurd h D
theorem pf:∀(l:ac α) (n:Nat) (ad:ac α) (k:ac α->β) (z:β),
 o8 l n ad k z=if n+ad.length<=l.length then k (l.take n++(ad++l.drop (n+ad.length)))else if ad=[]then k l else z
 |[],n,[],k,z=>by
  by_cases h:n=0
  ·subst h;rfl
  ·rw[aw R];rfl
 |[],n,v::ad,k,z=>by rfl
 |y::aQ,0,[],k,z=>by rfl
 |y::aQ,0,v::ad,k,z=>by
  show o8 aQ 0 ad (λbp=>k<|v::bp) z=_;rw[pf aQ 0 ad]
  grind
 |y::aQ,n+1,ad,k,z=>by
  show o8 aQ n ad (λbp=>k<|y::bp) z=_;rw[pf aQ n ad]
  grind
theorem IN{ad:ac α}{k:ac α->β}(h:o8 l n ad k z=r)(j:z≠r):
 (n+ad.length<=l.length/\k (l.take n++(ad++l.drop (n+ad.length)))=r)\/(ad=[]/\k l=r):=by
 rw[pf]at h
 grind
def yj{st:aj}{a:Addr}{k:ac bv->co->Nat×Nat->Bool->β}(h:st.fM a k z=r)(j:z≠r):
 a.spot=none/\∃cs elem bT aU,st.h.get a.block=some (.cells cs elem bT aU)/\k cs elem bT aU=r:=by
 obtain⟨A,B⟩:=yg h λ_=>j;refine⟨A,?_⟩;obtain⟨U,q,g⟩:=hS B j;cases U<;>first|exact absurd g j|exact⟨_,_,_,_,q,g⟩
def D0{st:aj}{a:Addr}{k:ac bv->β}(h:st.load a n k z=r)(j:z≠r):
 a.spot=none/\∃cs elem bT aU,st.h.get a.block=some (.cells cs elem bT aU)/\n<=(cs.drop a.off).length/\k ((cs.drop a.off).take n)=r:=by
 obtain⟨B,cs,e,bT,aU,C,q⟩:=yj h j;obtain⟨g,A⟩:=rA q j;exact⟨B,cs,e,bT,aU,C,g,A⟩
def iH(st:aj)(id:Nat)(U:bz)(k:aj->β):st.gO id U k=k ⟨st.h.set id U,st.ae⟩:=by
 unfold aj.gO;rw[ao.tS,ao.ot]
def vW(n:Nat)(k:Nat->β):fK n k=k n:=by unfold fK;rw[kO];rfl
def gF(st:aj)(U:bz)(k:Nat->aj->β):st.ib U k=k st.ae ⟨st.h.set st.ae U,st.ae+1⟩:=by
 unfold aj.ib;rw[vW,ao.tS,ao.ot]
def aa5(n:Int)(k:Int->β):N6 n k=k n:=by
 cases n with
 |ofNat m=>exact vW m (λm=>k<|.ofNat m)
 |negSucc m=>exact vW m λm=>k<|.negSucc m
def iq(a:f6)(n:Int)(c:bv->β):ic a n c=c (.int a n):=aa5 _ _
def OD{st:aj}{a:Addr}{ad:ac bv}{k:aj->β}(h:st.store a ad k z=r)(j:z≠r):
 a.spot=none/\∃cs elem bT aU,st.h.get a.block=some (.cells cs elem bT aU)/\bT.2<=bT.1/\
  ((a.off+ad.length<=cs.length/\k ⟨st.h.set a.block<|.cells (cs.take a.off++(ad++cs.drop (a.off+ad.length))) elem bT aU,st.ae⟩=r)\/
   (ad=[]/\k ⟨st.h.set a.block<|.cells cs elem bT aU,st.ae⟩=r)):=by
 obtain⟨D,cs,e,bT,aU,E,B⟩:=yj h j;obtain⟨A,C⟩:=iS B j;refine⟨D,cs,e,bT,aU,E,A,?_⟩;rcases IN C j with⟨q,g⟩|⟨q,g⟩
 ·left;refine⟨q,?_⟩;rw[iH]at g;exact g
 ·right;refine⟨q,?_⟩;rw[iH]at g;exact g
end
structure mq(P:f8)(ab:bF)(w:f5)(cs:ac bv)(elem:co)(bT:Nat×Nat)(aU:Bool)(l:Loc)(C:bi bv)(fh:Nat×Nat):Prop where
 there:∃kA,w.heap[l.ct]? =some (.cells C kA fh)∧(bT.2<=bT.1∨aU=false->kA=elem)
 iU:l.c5+cs.length<=C.size
 room:bT.2<=bT.1∨aU=false->l.c5+cs.length+l.ex*P.cellsOf elem<=C.size
 cell:∀(i:Nat) (h:i<cs.length),∃c,C[l.c5+i]? =some c∧bc ab cs[i] c
 sy:bT.2<=bT.1->∀i,l.c5<=i->i<l.c5+cs.length+l.ex*P.cellsOf elem->¬(fh.1<=i∧i<fh.2)
 plain:aU=false->l.ex=0∧l.c5=0∧C.size=cs.length
variable{P:f8}{ab:bF}{w:f5}{cs:ac bv}{elem:co}{bT:Nat×Nat}{aU:Bool}{l:Loc}{fh:Nat×Nat}
def mq.ex{C:bi bv}(h:mq P ab w cs elem bT aU l C fh):∃g,w.heap[l.ct]? =some (.cells C g fh):=let⟨e,h,_⟩:=h.there;⟨e,h⟩
def mq.vX{C:bi bv}(h:mq P ab w cs elem bT aU l C fh)(g:bT.2<=bT.1\/aU=false):w.heap[l.ct]? =some (.cells C elem fh):=by
 obtain⟨e,j,q⟩:=h.there;rw[j,q g]
def yk(t:ao bv)(n:Nat):bv:=Option.rec (motive:=λ_=>bv) (.chan<|some 0) (λv=>v)<|t.get n
def D1:be c1->be Code->Prop
 |none,none=>True
 |some (.exit i),some (.exit J)=>i=J
 |some .ret,some .ret=>True
 |_,_=>False
structure IP(bu:Nat->Nat)(clock:Nat):Prop where
 inj:∀s t,s<clock->t<clock->bu s=bu t->s=t
 lt:∀s,s<clock->bu s<bu clock
 up:∀J,bu (clock+J)=bu clock+J
structure iI(ab:bF)(bu:Nat->Nat)(es:ac f7)(clock:Nat)(C:ac f7)(lP:Nat):Prop where
 iu:lP=bu clock
 mr:IP bu clock
 born:∀e∈es,e.born<clock
 keys:es.Pairwise (fun a b=>a.key≠b.key)
 js:es.Pairwise (fun a b=>a.born≠b.born)
 same:∃l:ac f7,l.Perm es∧l.length=C.length∧∀(i:Nat) (h:i<l.length) (tT:i<C.length),bc ab l[i].key C[i].key∧bc ab l[i].val C[i].val∧C[i].born=bu l[i].born
def iI.mono{aG:bF}{bu:Nat->Nat}{es:ac f7}{clock:Nat}{C:ac f7}{lP:Nat}(hle:ab.le aG)(h:iI ab bu es clock C lP):iI aG bu es clock C lP:=
 ⟨h.iu,h.mr,h.born,h.keys,h.js,let⟨l,j,q,g⟩:=h.same;⟨l,j,q,λi a b=>⟨(g i a b).1.mono hle,(g i a b).2.1.mono hle,(g i a b).2.2⟩⟩⟩
structure Ctx where
 P:f8
 ok:d7->Code->dk->Prop
 a3:Nat
 kR:d7->Bool
 lb:d7->Bool
 AP:∀f,kR f=true->∀x w,(callFunc f #[x]).run P w= .ok (.value x) w
 AQ:∀f,lb f=true->∀s c w,(callFunc f #[.string s,.int .u8 c]).run P w= .ok (.value (goInt (match(List.range s.size).find? (fun i=>s[i]! ==c.toNat.toUInt8)with|some i=>(i:Int)|none=> -1))) w
 keys:co->be fr
 rB:∀k cp,keys k=some cp->Maps.Keyed P k∧∀v,cp.ok v=true->∃l,keyOf P k v=some l
 pg:d7->Bool
 AR:∀f,pg f=true->∀s c w,(callFunc f #[.string s,.int .u8 c]).run P w= .ok (.value (goInt (s.data.toList.countP (fun b=>b==c.toNat.toUInt8):Nat))) w
 ph:d7->Bool
 lj:Nat
 AS:lj<a3
 AT:∀f,ph f=true->∀(s b:f9) (m:Int) w,(load ⟨lj,0,none⟩).run P w= .ok (.int .i64 m) w->2<=b.size->(b.size:Int)<=m->s.size<=1000000->
  (callFunc f #[.string s,.string b]).run P w= .ok (.value (goInt (match pa b.data.toList s.data.toList with|some i=>(i:Int)|none=> -1))) w
 eqs:co->be Nat
 vY:∀t n,eqs t=some n->P.eqGuardType P.depth t=false∧∀xs aQ b w,xs.size=n%100+n/100->aQ.size=n%100+n/100->qg (n%100) xs.toList aQ.toList=some b->(Op.equalIn 10000 t (.agg xs) (.agg aQ)).run P w= .ok b w
variable(X:Ctx)
def g6(ab:bF)(w:f5)(U:bz)(l:Loc):Prop:=
 match U with
 |.cells cs elem bT aU=>∃C fh,mq X.P ab w cs elem bT aU l C fh
 |.map es clock=>l.c5=0/\l.ex=0/\∃C lP,w.heap[l.ct]? =some (.map C lP)/\iI ab l.bu es clock C.toList lP
 |.Is s pos=>l.c5=0/\l.ex=0/\w.heap[l.ct]? =some (.stringIter s pos)
 |.mj m G E D=>l.c5=0/\l.ex=0/\∃g j A h,w.heap[l.ct]? =some (.mapIter g j A h)/\
  (m=none/\g=none\/∃r b bu,m=some r/\g=some b/\ab r=some ⟨b,0,0,bu⟩/\j=bu G/\A.toList=E.map bu/\h=bu D)
 |.loop s fW fn t a8 B body d=>l.c5=0/\l.ex=0/\∃L:Loop,w.heap[l.ct]? =some (.loop L)/\L.state=s/\D1 fW L.pending/\L.fn=fn/\
  (∀n,bc ab (yk t n)<|L.tmps.getD n undef)/\L.params.toList=a8/\X.ok fn L.assign B/\X.ok fn L.body body/\ab d=some ⟨L.defers,0,0,id⟩/\
  (∃F,X.P.funcs[fn]? =some F/\L.tmps.size=F.ntmps)/\∀t∈a8,t<L.tmps.size
 |.jm q=>l.c5=0/\l.ex=0/\((q=some []/\w.heap[l.ct]? =some (.deferred<|some []))\/(q=none/\w.heap[l.ct]? =some (.deferred none)))
 |.dead=>True
def bz.sz:bz->Prop
 |.cells _ _ bT _=>bT.1<bT.2
 |_=>False
structure bN(ab:bF)(st:aj)(w:f5):Prop where
 er:∀id U,st.h.get id=some U->U≠.dead->∃l,ab id=some l∧g6 X ab w U l
 inj:∀i J U p l m,st.h.get i=some U->U≠.dead->st.h.get J=some p->p≠.dead->ab i=some l->ab J=some m->(l.bu≠eH∨m.bu≠eH)->l.ct=m.ct->i=J
 fresh:∀id,st.ae<=id->ab id=none∧st.h.get id=none
 fw:∀id l,ab id=some l->l.ct<w.heap.size
 kh:∀g,g<X.a3->ab g=some ⟨g,0,0,eH⟩
 mu:X.a3<=st.ae
 j0:∀i l U,ab i=some l->l.bu=eH->st.h.get i=some U->U≠.dead->U.sz
def qo(w w':f5):Prop:=w'.os=w.os/\w'.output=w.output
structure dS(ab aG:bF)(w w':f5):Prop where
 le:ab.le aG
 size:w.heap.size<=w'.heap.size
 kept:∀b,b<w.heap.size->(∀id l,ab id=some l->l.bu≠eH->l.ct≠b)->w'.heap[b]? =w.heap[b]?
 new:∀id l,aG id=some l->ab id=some l∨w.heap.size<=l.ct∨∃J m,ab J=some m∧m.bu≠eH∧m.ct=l.ct
 fE:qo w w'
variable{w':f5}{aG:bF}
def dS.refl(ab:bF)(w:f5):dS ab ab w w:=⟨.refl ab,cn _,λ_ _ _=>j,λ_ _ h=>.inl h,eT⟩
theorem dS.trans{E:bF}{F:f5}(h:dS ab aG w w')(D:dS aG E w' F):dS ab E w F:=by
 refine⟨h.le.trans D.le,cC h.size D.size,λb C af=>?_,λid l B=>?_,⟨D.fE.1.trans h.fE.1,D.fE.2.trans h.fE.2⟩⟩
 ·rw[D.kept b (eR C h.size) ?_,h.kept b C af];intro id l B g e;rcases h.new id l B with ah|ah|⟨J,m,A,G,hm⟩
  ·exact af id l ah g e
  ·omega
  ·exact af J m A G R
 ·rcases D.new id l B with ah|ah|⟨J,m,A,g,hm⟩
  ·exact h.new id l ah
  ·exact .inr<|.inl<|cC h.size ah
  ·rcases h.new J m A with q|q|⟨I,K,q,L,H⟩
   ·exact .inr<|.inr ⟨J,m,q,g,hm⟩
   ·exact .inr<|.inl R
   ·grind
def mq.mono{C:bi bv}
 (h:mq P ab w cs elem bT aU l C fh) (hle:ab.le aG) (e:w'.heap[l.ct]? =w.heap[l.ct]?):mq P aG w' cs elem bT aU l C fh:=
 ⟨by rw[e];exact h.there,h.iU,h.room,λi af=>let⟨c,g,j⟩:=h.cell i af;⟨c,g,j.mono hle⟩,h.sy,h.plain⟩
def g6.mono{U:bz}(h:g6 X ab w U l)(hle:ab.le aG)(e:w'.heap[l.ct]? =w.heap[l.ct]?):g6 X aG w' U l:=by
 cases U with
 |cells cs elem bT aU=>obtain⟨C,fh,N⟩:=h;exact⟨C,fh,N.mono hle e⟩
 |map es clock=>
  obtain⟨g,q,C,G,j,A⟩:=h;exact⟨g,q,C,G,by rw[e];exact j,A.mono hle⟩
 |Is s pos=>obtain⟨g,q,j⟩:=h;exact⟨g,q,by rw[e];exact j⟩
 |mj m Y W V=>
  obtain⟨g,q,K,rC,H,M,j,A⟩:=h;refine⟨g,q,K,rC,H,M,by rw[e];exact j,?_⟩;rcases A with A|⟨r,b,bu,D,B,E,F⟩
  ·exact .inl A
  ·exact .inr ⟨r,b,bu,D,B,hle _ _ E,F⟩
 |loop s fW fn t a8 T body d=>
  obtain⟨g,q,L,j,A,D,B,E,F,I,O,Q,R⟩:=h;exact⟨g,q,L,by rw[e];exact j,A,D,B,λn=>(E n).mono hle,F,I,O,hle _ _ Q,R⟩
 |jm S=>
  obtain⟨g,q,j⟩:=h;refine⟨g,q,?_⟩;rw[e];exact j
 |dead=>trivial
def bN.tV{st:aj}(h:bN X ab st w)(e:w'.heap=w.heap):bN X ab st w':=by
 refine⟨λid U q j=>?_,h.inj,h.fresh,λid l g=>by rw[e];exact h.fw id l g,h.kh,h.mu,h.j0⟩;obtain⟨l,g,hm⟩:=h.er id U q j;exact⟨l,g,g6.mono X hm (.refl ab)<|by rw[e]⟩
def dS.tV(ab:bF)(e:w'.heap=w.heap)(fE:qo w w':=by exact eT):dS ab ab w w':=
 ⟨.refl ab,by rw[e];exact cn _,λ_ _ _=>by rw[e],λ_ _ h=>.inl h,fE⟩
def gr(ab:bF)(id:Nat)(l:Loc):bF:=λi=>if i=id then some l else ab i
theorem bN.alloc{st:aj}(h:bN X ab st w)(U:bz)(O:Obj)(ex:Nat)
 (hm:∀aG w',ab.le aG->aG st.ae=some ⟨w.heap.size,0,ex,id⟩->w'.heap[w.heap.size]? =some O->g6 X aG w' U ⟨w.heap.size,0,ex,id⟩) (w':f5) (I:w'.heap=w.heap.push O) (fE:qo w w':=by exact eT):
 ∃aG,bN X aG ⟨st.h.set st.ae U,st.ae+1⟩ w'/\dS ab aG w w'/\aG st.ae=some ⟨w.heap.size,0,ex,id⟩/\aG=gr ab st.ae ⟨w.heap.size,0,ex,id⟩:=by
 refine⟨λi=>if i=st.ae then some ⟨w.heap.size,0,ex,id⟩else ab i,?_,?_,aE j,j⟩
 ·have hle:ab.le (λi=>if i=st.ae then some ⟨w.heap.size,0,ex,id⟩else ab i):=by
   intro i l A;show(if i=st.ae then _ else ab i)=_;rw[aw];exact A;intro e;subst e;rw[(h.fresh _<|cn _).1]at A;cases A
  refine⟨λid p hp F=>?_,λi J p q l m af L G M B C E e=>?_,λid N=>?_,λid l A=>?_,λg E=>?_,sj h.mu,λi l p A H hp F=>?_⟩
  ·rw[ao.ee]at hp;by_cases e:id=st.ae
   ·grind
   ·rw[aw e]at hp;obtain⟨l,A,K⟩:=h.er id p hp F;refine⟨l,hle _ _ A,g6.mono X K hle ?_⟩;have:=h.fw id l A
    grind
  ·rw[ao.ee]at af G;by_cases kW:i=st.ae<;>by_cases D:J=st.ae
   ·rw[kW,D]
   ·exfalso;simp[aw D]at C;simp[aE kW]at B;have:=h.fw J m C;cases B;simp only at e;omega
   ·exfalso;simp[aw kW]at B;simp[aE D]at C;have:=h.fw i l B;cases C;simp only at e;omega
   ·simp[aw kW]at B af;simp[aw D]at C G;exact h.inj i J p q l m af L G M B C E e
  ·have Q:st.ae+1<=id:=N;have:=h.fresh id R;refine⟨?_,?_⟩
   ·grind
   ·rw[ao.ee,aw R];exact this.2
  ·rw[I,Array.size_push];by_cases e:id=st.ae
   ·simp[aE e]at A;cases A;simp
   ·simp[aw e]at A;have:=h.fw id l A;omega
  ·exact hle _ _<|h.kh g E
  ·rw[ao.ee]at hp;by_cases e:i=st.ae
   ·simp[aE e]at A;cases A;exact absurd H IJ
   ·simp[aw e]at A hp;exact h.j0 i l p A H hp F
 ·refine⟨?_,by rw[I];simp,λb S _=>by rw[I,C1,aw R],λid l A=>?_,fE⟩
  ·intro i l A;show(if i=st.ae then _ else ab i)=_;rw[aw];exact A;intro e;subst e;rw[(h.fresh _<|cn _).1]at A;cases A
  ·grind
theorem bN.yl{st:aj}(h:bN X ab st w){id:Nat}{nE:bz}(h₀:st.h.get id=some nE)(D:nE≠.dead)(G:¬nE.sz)(aD:ab id=some l)(U:bz)(O:Obj)
 (w':f5) (F:w'.heap=w.heap.setIfInBounds l.ct O) (hm:U≠.dead->w'.heap[l.ct]? =some O->g6 X ab w' U l) (fE:qo w w':=by exact eT):
 bN X ab ⟨st.h.set id U,st.ae⟩ w'/\dS ab ab w w':=by
 have ad:=h.fw id l aD;have W:l.bu≠eH:=λe=>G<|h.j0 id l nE aD e h₀ D;refine⟨⟨λJ p hp A=>?_,λi J p q a b af ah C ai R S H e=>?_,λJ C=>?_,λJ a B=>?_,h.kh,h.mu,λJ a p B I hp A=>?_⟩,?_⟩
 ·rw[ao.ee]at hp;by_cases e:J=id
  ·grind
  ·rw[aw e]at hp;obtain⟨m,E,M⟩:=h.er J p hp A;refine⟨m,E,g6.mono X M (.refl ab) ?_⟩;have aa:m.ct≠l.ct:=λV=>e<|h.inj J id p nE m l hp A h₀ D E aD (.inr W) V
   grind
 ·rw[ao.ee]at af C;have K:∃g,st.h.get i=some g/\g≠.dead:=by
   grind
  have L:∃g,st.h.get J=some g/\g≠.dead:=by
   grind
  obtain⟨g,a',T⟩:=K;obtain⟨Q,Y,Z⟩:=L;exact h.inj i J g Q a b a' T Y Z R S H e
 ·have:=h.fresh J C;refine⟨this.1,?_⟩;rw[ao.ee,aw];exact this.2
  grind
 ·rw[F];simpa using h.fw J a B
 ·rw[ao.ee]at hp;by_cases e:J=id
  ·grind
  ·rw[aw e]at hp;exact h.j0 J a p B I hp A
 ·refine⟨.refl ab,by rw[F];simp,λb _ af=>?_,λ_ _ N=>.inl N,fE⟩
  grind
end Go.bA
namespace Go.bA
mutual
def ki:bv->Bool
 |.bool _|.int _ _|.float _ _|.string _|.pointer none|.slice none _ _|.map none|.nilFunc|.nilIface=>true
 |.func (.func _) x y=>AU x&&AU y
 |.iface _ v=>ki v
 |.agg a|.tuple a=>AU a
 |_=>false
def AU:bi bv->Bool
 |⟨a⟩=>vZ a
def vZ:ac bv->Bool
 |[]=>true
 |a::as=>ki a&&vZ as
end
mutual
theorem bc.pure(ab:bF):∀v:bv,ki v=true->bc ab v v
 |.bool b,_=>.bool b
 |.int k n,_=>.int k n
 |.float k n,_=>.float k n
 |.complex _ _ _,h=>by simp[ki]at h
 |.string s,_=>.string s
 |.pointer none,_=>.kV
 |.pointer (some _),h=>by simp[ki]at h
 |.slice none n c,_=>.jZ n c
 |.slice (some _) _ _,h=>by simp[ki]at h
 |.map none,_=>.mo
 |.map (some _),h=>by simp[ki]at h
 |.chan _,h=>by simp[ki]at h
 |.func (.func f) x y,h=>by
  simp[ki,cO]at h;exact bc.AK (.inl ⟨j,av⟩) (bI.iV ab x h.1) (bI.iV ab y h.2)
 |.func (.method _) _ _,h=>by simp[ki]at h
 |.func (.methodOf _ _) _ _,h=>by simp[ki]at h
 |.func (.via _ _ _ _) _ _,h=>by simp[ki]at h
 |.func (.yield _) _ _,h=>by simp[ki]at h
 |.nilFunc,_=>.nilFunc
 |.iface t v,h=>.iface t v v (bc.pure ab v<|by simpa[ki]using h)
 |.nilIface,_=>.nilIface
 |.agg a,h=>bc.rz (bI.iV ab a<|by simpa[ki]using h)
 |.tuple a,h=>bc.qm<|bI.iV ab a<|by simpa[ki]using h
theorem bI.iV(ab:bF):∀v:bi bv,AU v=true->bI ab v.toList v.toList
 |⟨a⟩,h=>bI.v3 ab a<|by simpa[AU]using h
theorem bI.v3(ab:bF):∀v:ac bv,vZ v=true->bI ab v v
 |[],_=>bI.nil ab
 |a::as,h=>by
  simp[vZ,cO]at h;exact bI.cons (bc.pure ab a h.1)<|bI.v3 ab as h.2
end
theorem bc.undef(ab:bF):bc ab undef undef:=bc.pure ab _ j
def fX(a3:Nat):ce->Bool
 |.tmp _=>true
 |.const v=>ki v
 |.global g=>Nat.ble (Nat.succ g) a3
 |.func _=>true
def D2(ab:bF)(d e:Deferred):Prop:=
 bI ab d.args.toList e.args.toList/\
 match d.target,e.target with
 |.fn f c,.fn g h=>qk ab f g/\bI ab c.toList h.toList
 |.collected r,.collected b=>ab r=some ⟨b,0,0,id⟩
 |_,_=>False
variable{ab aG:bF}
def sA(ab:bF):ac Deferred->ac Deferred->Prop
 |[],[]=>True
 |d::aN,e::es=>D2 ab d e/\sA ab aN es
 |_,_=>False
def D2.mono(hle:ab.le aG){d e:Deferred}(h:D2 ab d e):D2 aG d e:=by
 obtain⟨q,g⟩:=h;refine⟨q.mono hle,?_⟩;cases j:d.target<;>cases A:e.target<;>simp[j,A]at g⊢
 ·exact⟨g.1.mono hle,g.2.mono hle⟩
 ·exact hle _ _ g
def sA.mono(hle:ab.le aG):∀{aN es:ac Deferred},sA ab aN es->sA aG aN es
 |[],[],_=>trivial
 |_::_,_::_,h=>⟨h.1.mono hle,sA.mono hle h.2⟩
 |[],_::_,h=>h.elim
 |_::_,[],h=>h.elim
structure eK(ab:bF)(o:aJ)(a:Act)(aM:Nat):Prop where
 tmp:∀t,bc ab (o.tmp t) (a.tmps.getD t undef)
 size:a.tmps.size=aM
 c4:sA ab o.c4 a.defers
def eK.mono(hle:ab.le aG){o:aJ}{a:Act}{aM:Nat}(h:eK ab o a aM):eK aG o a aM:=
 ⟨λt=>(h.tmp t).mono hle,h.size,h.c4.mono hle⟩
variable{X:Ctx}
variable{o:aJ}{a:Act}{aM:Nat}
def eK.ar{st:aj}{w:f5}(h:eK ab o a aM)(E:bN X ab st w){x:ce}(D:fX X.a3 x=true):bc ab (o.ar x) (a.eval x):=by
 cases x with
 |tmp t=>exact h.tmp t
 |const v=>exact bc.pure ab v D
 |global g=>
  have q:=lf.1 D;have:=bc.ptr ⟨g,0,none⟩ ⟨g,0,0,eH⟩ (E.kh g q) j;show bc ab (.pointer<|some ⟨g,0,none⟩) (.pointer<|some ⟨g,0,none⟩);simpa using this
 |func f=>exact bc.AK (.inl ⟨j,av⟩) (bI.nil ab)<|bI.nil ab
theorem eK.put(h:eK ab o a aM){d:be Tmp}(D:∀t,d=some t->t<aM){v bD:bv}(E:bc ab v bD):eK ab (o.put d v) (a.put d bD) aM:=by
 cases d with
 |none=>exact h
 |some d=>
  refine⟨λt=>?_,by simp[Act.put,h.size],by rw[(qj o (some d) v).1];exact h.c4⟩;rw[qi];have aT:d<a.tmps.size:=by rw[h.size];exact D d j
  simp[Act.put,Option.some.injEq];by_cases e:d=t
  ·simp_all
  ·rw[aw e];have:=h.tmp t
   simp_all
def IQ(aG:bF)(v:bv)(n:Next):Prop:=(∃bD,n= .value bD/\bc aG v bD)\/(n= .skip/\v=undef)
def mv(X:Ctx)(ab:bF)(w:f5)(v:bv)(ak:aj)(s:Sem Next):Prop:=
 ∃aG n w',s.run X.P w= .ok n w'/\IQ aG v n/\bN X aG ak w'/\dS ab aG w w'
def nF(X:Ctx)(ab:bF)(w:f5)(v:bv)(st ak:aj)(s:Sem Next):Prop:=
 ak=st/\bN X ab st w/\∃bD,s.run X.P w= .ok (.value bD) w/\bc ab v bD
variable{w:f5}{v:bv}{s:Sem Next}
def nF.same{bD:bv}{st:aj}(F:bN X ab st w)(D:s.run X.P w= .ok (.value bD) w)(E:bc ab v bD):nF X ab w v st st s:=
 ⟨j,F,bD,D,E⟩
def nF.ym{st ak:aj}(h:nF X ab w v st ak s):mv X ab w v ak s:=by
 obtain⟨rfl,A,bD,g,q⟩:=h;exact⟨ab,_,w,g,.inl ⟨bD,j,q⟩,A,.refl ab w⟩
def D3(X:Ctx)(ab:bF)(w:f5)(v:bv)(st ak:aj)(s:Sem Next):Prop:=
 ∃U O ex bD w',ak=⟨st.h.set st.ae U,st.ae+1⟩/\U≠.dead/\s.run X.P w= .ok (.value bD) w'/\w'.heap=w.heap.push O/\
  bc (gr ab st.ae ⟨w.heap.size,0,ex,id⟩) v bD/\bN X (gr ab st.ae ⟨w.heap.size,0,ex,id⟩) ak w'/\dS ab (gr ab st.ae ⟨w.heap.size,0,ex,id⟩) w w'
def D3.ym{st ak:aj}(h:D3 X ab w v st ak s):mv X ab w v ak s:=by
 obtain⟨U,O,ex,bD,w',_,_,g,_,q,B,A⟩:=h;exact⟨_,_,w',g,.inl ⟨bD,j,q⟩,B,A⟩
def mv.same{bD:bv}{st:aj}(F:bN X ab st w)(D:s.run X.P w= .ok (.value bD) w)(E:bc ab v bD):mv X ab w v st s:=
 ⟨ab,_,w,D,.inl ⟨bD,j,E⟩,F,.refl ab w⟩
end Go.bA
namespace Go.bA
variable{X:Ctx}
variable{w:f5}{bT:Nat×Nat}{b U:Nat}{e:co}{P:f8}
def cell_of{C:bi bv}(h:w.heap[b]? =some (.cells C e bT)):w.cell? ⟨b,U,none⟩=C[U]? :=by
 simp[World.cell?,h]
def aa6{C:bi bv}(h:w.heap[b]? =some (.cells C e bT)):w.frozen? ⟨b,U,none⟩=(decide (bT.1<=U)&&decide (U<bT.2)):=by
 simp[World.frozen?,h]
theorem mq.row{ab:bF}{cs:ac bv}{elem:co}{aU:Bool}{l:Loc}{C:bi bv}{fh:Nat×Nat}
 (h:mq P ab w cs elem bT aU l C fh) (j n:Nat) (ah:n<=(cs.drop j).length):bI ab ((cs.drop j).take n) ((C.toList.drop<|l.c5+j).take n):=by
 have B:(cs.drop j).length=cs.length-j:=av
 have g:=h.iU;refine⟨by simp;omega,λi a b=>?_⟩;simp at a b;obtain⟨c,q,A⟩:=h.cell (j+i) R
 grind
theorem OE{n:Nat}{C:bi bv}(h:w.heap[b]? =some (.cells C e bT))(ah:U+n<=C.size):
 (loadCells ⟨b,U,none⟩ n).run P w= .ok ((C.toList.drop U).take n).toArray w:=by
 have B:((C.toList.drop U).take n).length=n:=by simp;omega
 have:=run_loadCells_list (P:=P) w ⟨b,U,none⟩ ((C.toList.drop U).take n) (λJ v g=>by
  have q:J<n:=by
   grind
  have A:(Addr.add ⟨b,U,none⟩ J)=⟨b,U+J,none⟩:=by unfold Addr.add;split<;>simp_all
  rw[A,cell_of h];rw[n7,aE q]at g;simpa using g)
 rwa [B]at this
section
variable{ab:bF}{w:f5}
def mq.g7{cs:ac bv}{fh:Nat×Nat}{aU:Bool}{l:Loc}{C:bi bv}(aS:mq P ab w cs e bT aU l C fh){j m:Nat}(D:j=l.c5+U\/m=0)(ah:m<=(cs.drop U).length):
 bI ab ((cs.drop U).take m) ((C.toList.drop j).take m)/\∀w':f5,w'.heap=w.heap->(loadCells ⟨l.ct,j,none⟩ m).run P w'= .ok ((C.toList.drop j).take m).toArray w':=by
 by_cases g:m=0
 ·subst g;simp[loadCells,loadCellsFrom,bI.nil]
 ·obtain rfl:=D.resolve_right g;have:=aS.iU;have h:=ah;rw[k7]at h;exact⟨aS.row U m ah,λw' e=>OE (by rw[e];exact aS.ex.choose_spec) R⟩
theorem IS:∀{bQ:ac Int} {aQ:ac bv},bI ab (bQ.map<|Value.int .u8) aQ->aQ=bQ.map (Value.int .u8)
 |[],_,h=>h.ql
 |n::bQ,_,h=>by
  obtain⟨y,aQ,rfl,aF,aL⟩:=h.cons_inv;cases aF;rw[IS aL];rfl
end
theorem IT{P:f8}{b U:Nat}{e:co}{bT:Nat×Nat}:∀(ad:ac bv) (i:Nat) (C:bi bv) (w:f5),w.heap[b]? =some (.cells C e bT)->U+i+ad.length<=C.size->
 (∀v∈ad,v.oneCell'=true)->(∀J,U+i<=J->J<U+i+ad.length->¬(bT.1<=J/\J<bT.2))->
 ∃w',(storeCells ⟨b,U,none⟩ ad i).run P w= .ok () w'/\
  w'.heap=w.heap.setIfInBounds b (.cells (C.toList.take (U+i)++(ad++C.toList.drop (U+i+ad.length))).toArray e bT)/\qo w w'
 |[],i,C,w,h,ah,_,_=>by
  refine⟨w,j,?_,eT⟩;have:(C.toList.take (U+i)++([]++C.toList.drop (U+i+([]:ac bv).length))).toArray=C:=av
  apply HQ;intro J;by_cases M:b=J
  ·grind
  ·rw[HR M]
 |v::ad,i,C,w,h,ah,q,g=>by
  simp only[hN]at ah g;have D:(Addr.add ⟨b,U,none⟩ i)=⟨b,U+i,none⟩:=by unfold Addr.add;split<;>simp_all
  have aT:U+i<C.size:=R
  have I:w.cell? ⟨b,U+i,none⟩=some C[U+i]:=by rw[cell_of h,vp aT]
  have L:w.frozen? ⟨b,U+i,none⟩=false:=by
   rw[aa6 h]
   simp_all
  have E:(store ⟨b,U+i,none⟩ v).run P w= .ok () (w.setCell ⟨b,U+i,none⟩ v):=by
   rw[run_store P w _ v _<|q v av,I];simp[L]
  have Q:=(tu.1 h).1;have K:(w.setCell ⟨b,U+i,none⟩ v).heap=w.heap.setIfInBounds b (.cells (C.setIfInBounds (U+i) v) e bT):=by
   simp[World.setCell]
   grind
  have B:(w.setCell ⟨b,U+i,none⟩ v).heap[b]? =some (.cells (C.setIfInBounds (U+i) v) e bT):=by grind
  obtain⟨w',F,G,fE⟩:=IT (U:=U) ad (i+1) (C.setIfInBounds (U+i) v) (w.setCell ⟨b,U+i,none⟩ v) B dA (λx A=>q x<|by simp[A]) λJ a c=>g J R R;refine⟨w',?_,?_,fE⟩
  ·unfold storeCells;rw[D,Sem.run_bind,E];exact F
  ·rw[G,K];rw[Array.setIfInBounds_setIfInBounds];congr 3;have H:(C.setIfInBounds (U+i) v).toList=C.toList.set (U+i) v:=by simp
   rw[H];have N:(C.toList.set (U+i) v).take (U+(i+1))=C.toList.take (U+i)++[v]:=by
    rw[show U+(i+1)=(U+i)+1 by omega,kd<|by simpa using aT,me<|cn _];simp
   have O:(C.toList.set (U+i) v).drop (U+(i+1)+ad.length)=C.toList.drop (U+i+(v::ad).length):=by
    rw[zY R];congr 1;simp;omega
   rw[N,O];simp
section
variable{ab:bF}{o bs:aJ}{a:Act}{aM:Nat}{st ak:aj}{w:f5}{U:Oper}{v:bv}{call:bM}
variable{t:co}
def AV:TypeDesc->Bool
 |.struct _|.array _ _=>true
 |_=>false
def AW{d:TypeDesc}(h:P.underlying t=some d)(w:f5):(isAgg t).run P w= .ok (AV d) w:=by
 unfold isAgg;rw[Sem.run_bind,run_underlying h];cases d<;>rfl
def qp{i:gc}(h:P.info? t=some i)(w:f5):(sizeOf t).run P w= .ok i.size w:=by
 simp[sizeOf,typeInfo,h]
end
variable{ab:bF}{cs:ac bv}{elem:co}{aU:Bool}{l:Loc}{v:bv}
theorem IU{α:Type}(l ad:ac α)(n i:Nat)(h:n+ad.length<=l.length):
 (l.take n++(ad++l.drop (n+ad.length)))[i]? =if i<n then l[i]? else if i<n+ad.length then ad[i-n]? else l[i]? :=by
 grind
theorem mq.store{w':f5}{C:bi bv}{fh:Nat×Nat}
 (h:mq P ab w cs elem bT aU l C fh) {D:Nat} {ad g:ac bv} (hle:D+ad.length<=cs.length) (F:bI ab ad g)
 (O:w'.heap[l.ct]? =some (.cells (C.toList.take (l.c5+D)++(g++C.toList.drop (l.c5+D+g.length))).toArray elem fh)):
 mq P ab w' (cs.take D++(ad++cs.drop (D+ad.length))) elem bT aU l (C.toList.take (l.c5+D)++(g++C.toList.drop (l.c5+D+g.length))).toArray fh:=by
 have V:=F.1;have Q:=h.iU;have A:(cs.take D++(ad++cs.drop (D+ad.length))).length=cs.length:=by simp;omega
 have E:((C.toList.take (l.c5+D)++(g++C.toList.drop (l.c5+D+g.length))).toArray).size=C.size:=by simp;omega
 refine⟨⟨_,O,λ_=>j⟩,by rw[A,E];exact h.iU,λq=>by rw[A,E];exact h.room q,λi af=>?_,λH J=>by rw[A];exact h.sy H J,λG=>by rw[A,E];exact h.plain G⟩;have N:i<cs.length:=R
 have B:=IU cs ad D i hle;have L:=IU C.toList g (l.c5+D) (l.c5+i) dA;rw[a0 af]at B;simp;rw[L];obtain⟨c,S,T⟩:=h.cell i N;by_cases K:i<D
 ·grind
 ·by_cases M:i<D+ad.length
  ·rw[aw K,aE M,a0 R]at B;rw[aw R,aE R];have I:l.c5+i-(l.c5+D)=i-D:=by omega
   rw[I,a0 R];refine⟨_,j,?_⟩;rw[Option.some.inj B];exact F.2 (i-D) R R
  ·grind
def aa7{c:bv}(h:bc ab v c)(j:ml v=true):c.oneCell'=true:=by
 cases h<;>first|rfl|(simp[ml,iR]at j)
theorem IV{ab:bF}:∀{ad cs:ac bv},bI ab ad cs->gV ad=true->∀c∈cs,c.oneCell'=true
 |[],cs,h,_,c,aS=>by rw[h.ql]at aS;simp at aS
 |v::ad,cs,h,j,c,aS=>by
  obtain⟨y,aQ,rfl,aF,aL⟩:=h.cons_inv;have g:=j;obtain⟨A,q⟩:=iT g av;rcases e1.1 aS with rfl|aS
  ·exact aa7 aF A
  ·exact IV aL q c aS
def bN.store{st:aj}(I:bN X ab st w){id g:Nat}
 (F:st.h.get id=some (.cells cs elem bT aU)) (aD:ab id=some l) (E:bT.2<=bT.1) {ad A:ac bv} (hle:g+ad.length<=cs.length) (D:bI ab ad A) (M:gV ad=true):
 ∃w',(storeCells ⟨l.ct,l.c5+g,none⟩ A).run X.P w= .ok () w'/\bN X ab ⟨st.h.set id<|.cells (cs.take g++(ad++cs.drop (g+ad.length))) elem bT aU,st.ae⟩ w'/\dS ab ab w w':=by
 obtain⟨W,G,C,fh,q⟩:=I.er _ _ F av;rw[aD]at G;cases G;have Q:=q.room<|.inl E;have V:=D.1;obtain⟨w',K,L,fE⟩:=IT (U:=l.c5+g) A 0 C w (q.vX<|.inl E) R (IV D M) (λJ S T=>q.sy E J R (by
  omega))
 obtain⟨N,O⟩:=bN.yl X I F av (λB=>by have B:_<_:=B;omega) aD (.cells (cs.take g++(ad++cs.drop (g+ad.length))) elem bT aU) _ w' L (λ_ H=>⟨_,fh,q.store hle D H⟩) fE;exact⟨w',K,N,O⟩
def bN.IW{st:aj}(D:bN X ab st w){id:Nat}{U:bz}(E:st.h.get id=some U):bN X ab ⟨st.h.set id U,st.ae⟩ w:=by
 have e:∀J,(st.h.set id U).get J=st.h.get J:=by
  intro J;rw[ao.ee];split
  ·subst_vars;exact E.symm
  ·rfl
 exact⟨λJ p hp A=>D.er J p (by rw[<-e];exact hp) A,λi J p q l m af C g F=>D.inj i J p q l m (by rw[<-e];exact af) C (by rw[<-e];exact g) F,
  λJ g=>⟨(D.fresh J g).1,by rw[e];exact(D.fresh J g).2⟩,D.fw,D.kh,D.mu,λJ l p G B hp A=>D.j0 J l p G B (by rw[<-e];exact hp) A⟩
def aa8(h:gV v.cells.toList=true):v≠iR:=by
 intro e;subst e;have g:cond (ml<|.chan<|some 0) true false=true:=h;simp[ml]at g
section
variable{ab:bF}{o bs:aJ}{a:Act}{aM:Nat}{st ak:aj}{w:f5}{U:Oper}{v:bv}{call:bM}
def bN.aa9{E:ac bv}(F:bN X ab st w)(elem:co)(D:bI ab cs E)(w':f5)(cA:w'.heap=w.heap.push (.cells E.toArray elem))(fE:qo w w':=by exact eT):
 ∃aG,bN X aG ⟨st.h.set st.ae<|.cells cs elem (0,0) false,st.ae+1⟩ w'/\dS ab aG w w'/\aG st.ae=some ⟨w.heap.size,0,0,id⟩/\aG=gr ab st.ae ⟨w.heap.size,0,0,id⟩:=by
 refine bN.alloc X F _ _ 0 (λaG A hle _ g=>?_) w' cA fE;refine⟨E.toArray,(0,0),⟨⟨_,g,λ_=>j⟩,by simp[D.1],λ_=>by simp[D.1],λi af=>?_,λ_ J _ _=>av,λ_=>⟨j,j,by simp[D.1]⟩⟩⟩;have q:i<E.length:=by rw[<-D.1];exact af
 exact⟨E[i],av,(D.2 i af q).mono hle⟩
def AX{t:co}{i:gc}{z:bv}(h:P.info? t=some i)(j:i.zero=some z)(w:f5):(zeroValue t).run P w= .ok z w:=by
 simp[zeroValue,typeInfo,h,j]
end
def aba{op:BinOp}{x y:bv}{c:bv->a1}{r:a1}(h:Az op x y c=r)(D:a1.no≠r):
 (∃k a g b,x= .int k a/\y= .int g b/\Ay op k a g b c=r)\/(∃s t,x= .string s/\y= .string t/\Ax op s t c=r):=by
 cases x with
 |int k a=>
  cases y with
  |int g b=>exact .inl ⟨k,a,g,b,j,j,h⟩
  |_=>exact absurd h D
 |string s=>
  cases y with
  |string t=>exact .inr ⟨s,t,j,j,h⟩
  |_=>exact absurd h D
 |_=>exact absurd h D
def v5{a b:f6}(h:jI a b=true):a=b:=by
 cases a<;>cases b<;>first|rfl|(exact absurd h al)
def abb(k:f6)(m n:Nat):(BitVec.ofInt k.bits (m:Int)&&&BitVec.ofInt k.bits (n:Int)).toNat=Nat.land (m%2^k.bits) (n%2^k.bits):=by
 simp
def abc(k:f6)(m n:Nat):(BitVec.ofInt k.bits (m:Int)|||BitVec.ofInt k.bits (n:Int)).toNat=Nat.lor (m%2^k.bits) (n%2^k.bits):=by
 simp
def abd(k:f6)(m n:Nat):(BitVec.ofInt k.bits (m:Int)^^^BitVec.ofInt k.bits (n:Int)).toNat=Nat.xor (m%2^k.bits) (n%2^k.bits):=by
 simp
def IX(f:Nat->Nat->Nat)(g:Int)(k:f6)(a b:Int)(c:bv->a1)(D:∀m n:Nat,a=m->b=n->g=k.wrap (f (m%2^k.bits) (n%2^k.bits):Nat)):
 DQ f g k a b c=c (.int k g):=by
 cases a with
 |ofNat m=>
  cases b with
  |ofNat n=>
   show ic k (nA k<|.ofNat<|f (Nat.mod m<|2^k.bits)<|Nat.mod n<|2^k.bits) c=_;rw[iq,kS,D m n j j];rfl
  |negSucc n=>exact iq _ _ _
 |negSucc m=>exact iq _ _ _
def qq(op:BinOp)(k:f6)(a b:Int):be bv:=
 match op with
 |.add=>some (.int k<|k.wrap<|a+b)
 |.sub=>some (.int k<|k.wrap<|a-b)
 |.mul=>some (.int k<|k.wrap<|a*b)
 |.quo=>if b=0 then none else some (.int k<|k.wrap<|a.tdiv b)
 |.rem=>if b=0 then none else some (.int k<|a.tmod b)
 |.and=>some (.int k<|k.wrap (BitVec.ofInt k.bits a&&&BitVec.ofInt k.bits b).toNat)
 |.or=>some (.int k<|k.wrap (BitVec.ofInt k.bits a|||BitVec.ofInt k.bits b).toNat)
 |.xor=>some (.int k<|k.wrap (BitVec.ofInt k.bits a^^^BitVec.ofInt k.bits b).toNat)
 |.andNot=>some (.int k<|k.wrap (BitVec.ofInt k.bits a&&& ~~~(BitVec.ofInt k.bits b)).toNat)
 |.eql=>some (.bool<|a==b)
 |.neq=>some (.bool<|a != b)
 |.lss=>some (.bool<|decide (a<b))
 |.leq=>some (.bool<|decide (a<=b))
 |.gtr=>some (.bool<|decide (b<a))
 |.geq=>some (.bool<|decide (b<=a))
 |_=>none
def OF(op:BinOp)(k:f6)(a b:Int)(c:bv->a1):Aw op k a b c=match qq op k a b with|some v=>c v|none=>.no:=by
 cases op<;>simp only[Aw,Oa,Ob,Oc,Od,Oe,Of,Og,Oh,Oi,Oj,Ol,Iv,qq]
 ·rw[iq,kS,N9]
 ·rw[iq,kS,N9,It];rfl
 ·rw[iq,kS,Iu]
 ·rw[Av];by_cases h:b=0
  ·subst h;rfl
  ·rw[aw h,show(b==0)=false by simpa using h];cases a with
   |ofNat m=>
    cases b with
    |ofNat n=>
     show ic k (nA k<|.ofNat<|m/n) c=c (.int k (k.wrap<|(m:Int).tdiv n));rw[iq,kS];rfl
    |negSucc n=>exact iq _ _ _
   |negSucc m=>exact iq _ _ _
 ·rw[Av];by_cases h:b=0
  ·subst h;rfl
  ·rw[aw h,show(b==0)=false by simpa using h];cases a with
   |ofNat m=>
    cases b with
    |ofNat n=>exact iq k (Int.ofNat<|m%n) c
    |negSucc n=>exact iq k ((Int.ofNat m).tmod<|Int.negSucc n) c
   |negSucc m=>exact iq k ((Int.negSucc m).tmod b) c
 ·exact IX _ _ _ _ _ _ λm n g j=>by subst g j;rw[abb]
 ·exact IX _ _ _ _ _ _ λm n g j=>by subst g j;rw[abc]
 ·exact IX _ _ _ _ _ _ λm n g j=>by subst g j;rw[abd]
 ·exact iq _ _ _
 ·rw[Av]
 ·rw[Av];rfl
 ·rw[o9];congr 2;rw[oX];simp
 ·rw[o9]
 ·rw[o9];congr 2;rw[oX];simp
 ·rw[o9]
def abe(k:f6)(a:Int)(n:Nat):x9 k a n=k.wrap (a*2^(min n k.bits)):=by
 unfold x9;rw[kS,Iu];congr 2
theorem abf(k:f6)(a:Int)(n:Nat):vN k a n=a.fdiv (2^(min n k.bits)):=by
 cases a with
 |ofNat m=>
  show((m/2^(min n k.bits):Nat):Int)=Int.fdiv m _
  grind
 |negSucc m=>rfl
section
variable{ab:bF}{o bs:aJ}{a:Act}{aM:Nat}{st ak:aj}{w:f5}{U:Oper}{v:bv}{call:bM}
def AY{bD:bv}(h:a1.ok v o st=a1.ok bD bs ak):v=bD/\o=bs/\st=ak:=by cases h;exact rD
def abg(P:f8)(w:f5)(op:BinOp)(t:co)(x y:ce)(k g:f6)(m n:Int):(eqGuard op t x y (.int k m)<|.int g n).run P w= .ok () w:=by
 cases op<;>simp[eqGuard]
def IY(P:f8)(w:f5)(op:BinOp)(t:co)(x y:ce)(s u:f9):(eqGuard op t x y (.string s)<|.string u).run P w= .ok () w:=by
 cases op<;>simp[eqGuard]
def abh(P:f8)(w:f5)(op:BinOp)(t:co)(k:f6)(m n:Int)(D:op≠.shl)(E:op≠.shr)(h:qq op k m n=some v):(binOp op t (.int k m)<|.int k n).run P w= .ok v w:=by
 cases op<;>simp only[qq]at h<;>first
  |(exact absurd j D)|(exact absurd j E)
  |(cases h;simp[binOp,Op.intArith,Op.intBits,Op.intCmp])
  |(split at h
    ·cases h
    ·cases h;rename_i g;simp[binOp,Op.intDiv,g])
  |(simp at h)
def toList_eq(x y:f9):(x.toList==y.toList)=(x.data.toList==y.data.toList):=by
 rw[Lib.toList_data,Lib.toList_data]
def abi{op:BinOp}{k q:f6}{m n:Int}{c:bv->a1}{r:a1}(h:Ay op k m q n c=r)(D:a1.no≠r):
 ∃v,c v=r/\ki v=true/\∀(P:f8) (w:f5) (t:co),(binOp op t (.int k m)<|.int q n).run P w= .ok v w:=by
 by_cases A:op= .shl
 ·subst A;obtain⟨b,C,h⟩:=pe h D;rw[iq,abe]at h;exact⟨_,h,j,λP w t=>by subst C;simp[binOp,Op.shift,show¬((b:Int)<0) by omega]⟩
 ·by_cases B:op= .shr
  ·subst B;obtain⟨b,C,h⟩:=pe h D;rw[iq,abf]at h;exact⟨_,h,j,λP w t=>by subst C;simp[binOp,Op.shift,show¬((b:Int)<0) by omega]⟩
  ·have E:cond (jI k q) (Aw op k m n c) .no=r:=by
    rw[<-h];cases op<;>first|rfl|(exact absurd j A)|(exact absurd j B)
   obtain⟨F,g⟩:=iT E D;have:=v5 F;subst this;rw[OF]at g;cases af:qq op k m n with
   |none=>rw[af]at g;exact absurd g D
   |some v=>
    rw[af]at g;refine⟨v,g,?_,λP w t=>abh P w op t k m n A B af⟩;unfold qq at af;split at af<;>first|(cases af;rfl)|(split at af<;>cases af;rfl)|cases af
end
theorem add_eq(b U n:Nat):Addr.add ⟨b,U,none⟩ n=⟨b,U+n,none⟩:=by unfold Addr.add;split<;>simp_all
def AZ(a:Addr)(n:Nat):(a.add n).block=a.block:=by unfold Addr.add;split<;>rfl
theorem A0(a:Addr)(n:Nat)(h:a.spot=none):(a.add n).spot=none:=by unfold Addr.add;split<;>simp_all
theorem D4(a:Addr)(n:Nat):(a.add n).off=a.off+n:=by unfold Addr.add;split<;>simp_all
section
variable{ab:bF}{o bs:aJ}{a:Act}{aM:Nat}{st ak:aj}{w:f5}{U:Oper}{v:bv}{call:bM}
theorem tW(j:eK ab o a aM)(D:bN X ab st w):∀xs:ac ce,(∀x∈xs,fX X.a3 x=true)->bI ab (dJ o xs) (xs.map a.eval)
 |[],_=>bI.nil ab
 |x::xs,h=>bI.cons (j.ar D<|h x av)<|tW j D xs λy g=>h y<|by simp[g]
end
theorem OG{t:co}{d:TypeDesc}{i:gc}{j:Nat}{cs D:bi bv}(E:P.underlying t=some d)(af:P.info? t=some i)
 (F:bI ab cs.toList D.toList) (h:vO j i.size (AV d) cs.toList=some v) (w:f5):∃bD,(part t D j).run P w= .ok bD w/\bc ab v bD:=by
 obtain⟨ah,h⟩:=rA h av;have q:=(F.drop j).take i.size;cases g:AV d with
 |true=>
  rw[g]at h;cases h;refine⟨.agg<|D.extract j<|j+i.size,?_,bc.rz ?_⟩
  ·simp[part,Sem.run_bind,AW E,g,Result.andThen,if_true,qp af,Sem.run_pure]
  ·simp_all
 |false=>
  rw[g]at h;obtain⟨y,B,h⟩:=yi h av;cases h;rw[B]at q;obtain⟨z,G,A,C,H⟩:=q.cons_inv;have e:D[j]? =some z:=by
   have:=congrArg (λl=>l[0]?) A
   grind
  refine⟨z,?_,C⟩;simp[part,Sem.run_bind,AW E,g,Result.andThen,pY,if_false,e,Sem.run_pure]
theorem OH(j:Nat):∀(ad:ac bv) (k:Nat) (C:bi bv),j+k+ad.length<=C.size->
 (ad.zipIdx k).foldl (λcs (p:bv×Nat)=>cs.setIfInBounds (j+p.2) p.1) C=(C.toList.take (j+k)++(ad++C.toList.drop (j+k+ad.length))).toArray
 |[],k,C,_=>by simp
 |v::ad,k,C,h=>by
  simp at h;have aD:j+k<C.toList.length:=by simp;omega
  rw[List.zipIdx_cons,List.foldl_cons,OH j ad (k+1) _ dA];have g:(C.setIfInBounds (j+k) v).toList=C.toList.set (j+k) v:=av
  rw[g];have q:(C.toList.set (j+k) v).take (j+(k+1))=C.toList.take (j+k)++[v]:=by
   rw[show j+(k+1)=(j+k)+1 by omega,kd<|by simpa using aD,me<|cn _];simp
  have A:(C.toList.set (j+k) v).drop (j+(k+1)+ad.length)=C.toList.drop (j+k+(v::ad).length):=by
   rw[zY R];congr 1;simp;omega
  rw[q,A];simp
def bI.abj{j ad D:ac bv}(h:bI ab cs j)(E:bI ab ad D)(n:Nat):
 bI ab (cs.take n++(ad++cs.drop (n+ad.length))) (j.take n++(D++j.drop (n+D.length))):=by
 rw[E.1];exact(h.take n).append<|E.append<|h.drop _
section
variable{ab:bF}{o bs:aJ}{a:Act}{aM:Nat}{st ak:aj}{w:f5}{U:Oper}{v:bv}{call:bM}
theorem D5(E:Nat->be (Nat×Nat))(G:eK ab o a aM)(M:bN X ab st w){c:ac bv->a1}{r:a1}(F:a1.no≠r):
 ∀(parts:ac (Nat×ce)) (a8:ac (Nat×Nat×ce)),a8=parts.map (λp=>(((E p.1).getD (0,0)).1,((E p.1).getD (0,0)).2,p.2))->(∀p∈parts,(E p.1).isSome/\fX X.a3 p.2=true)->
 ∀(cs:ac bv) (D:bi bv),bI ab cs D.toList->nB o a8 cs c=r->
  ∃out A,Instr.fill E D (parts.map λp=>(p.1,a.eval p.2))=some A/\bI ab out A.toList/\c out=r
 |[],_,rfl,_,cs,D,q,h=>⟨cs,D,j,q,h⟩
 |(i,x)::parts,_,rfl,C,cs,D,q,h=>by
  obtain⟨R,N⟩:=C (i,x) av;obtain⟨⟨g,H⟩,K⟩:=zZ.1 R;simp[jj,K]at h;obtain⟨L,h⟩:=yh h F;obtain⟨I,h⟩:=kg h F;obtain⟨hle,h⟩:=iS h F;simp at I hle;have Z:g+H<=cs.length:=hle;have S:o.ar x≠iR:=by intro e;rw[e]at L;simp[su,iR]at L
  have B:=bI.cells (G.ar M N) S;have V:=I;have a':(a.eval x).cells.size=H:=by have:=B.1;simp at this;rw[<-this];simpa[hB]using V
  have aa:D.size=cs.length:=by have:=q.1;simp at this;omega
  have W:nB o (parts.map λp=>(((E p.1).getD (0,0)).1,((E p.1).getD (0,0)).2,p.2)) (cs.take g++(hB (o.ar x)++cs.drop (g+(hB<|o.ar x).length))) c=r:=by
   rcases IN h F with⟨_,h⟩|⟨Y,h⟩
   ·exact h
   ·rw[Y];simp;exact h
  obtain⟨out,A,Q,O,T⟩:=D5 E G M F parts _ j (λp hp=>C p<|by simp[hp]) _ ((a.eval x).cells.zipIdx.foldl (λcs (p:bv×Nat)=>cs.setIfInBounds (g+p.2) p.1) D) (by
   rw[<-Array.foldl_toList,Array.toList_zipIdx,OH g _ 0 D dA];have:=q.abj B g;simpa[hB]using this) W
  refine⟨out,A,?_,O,T⟩;simp only[jj,Instr.fill,K];rw[aw dA];exact Q
theorem abk{x:ce}{kB t:co}{d:TypeDesc}{i:gc}{z:bv}{ok:Bool}(M:fX X.a3 x=true)(F:U.op= .typeAssert x kB t ok)(E:X.P.underlying t=some d)(I:∀ms,d≠.interface ms)
 (af:X.P.info? t=some i) (G:i.zero=some z) (hp:ki z=true) (N:eK ab o a aM) (D:bN X ab st w) (h:IC t z ok x call o st= .ok v bs ak):
 bs=o/\nF X ab w v st ak (execOp a.eval U):=by
 have q:=N.ar D M;generalize K:a.eval x=O at q;unfold IC at h;generalize Q:o.ar x=L at h q;have B:bc ab (.tuple #[z,.bool false]) (.tuple #[z,.bool false]):=bc.qm<|bI.cons (bc.pure ab z hp)<|bI.cons (.bool _)<|bI.nil ab;cases L with
 |iface u y=>
  have g:dz u t (a1.ok (cond ok (.tuple #[y,.bool true]) y) o st) (cond ok (a1.ok (.tuple #[z,.bool false]) o st) a1.no)=a1.ok v bs ak:=h;cases q with
  |iface _ _ C H=>
   rw[lO]at g;split at g
   ·rename_i e;cases g;refine⟨j,nF.same (bD:=if ok then .tuple #[C,.bool true]else C) D ?_ ?_⟩
    ·unfold execOp;rw[F];simp[Instr.typeAssert,Sem.run_bind,run_underlying E]
     simp_all
    ·cases ok
     ·exact H
     ·exact bc.qm<|bI.cons H<|bI.cons (.bool _)<|bI.nil ab
   ·rename_i e;obtain⟨A,g⟩:=iT g av;cases g;refine⟨j,nF.same D ?_ B⟩;unfold execOp;rw[F];simp[K,Instr.typeAssert,Sem.run_bind,run_underlying E];cases d<;>first|(exact absurd j<|I _)|(simp[e,A,AX af G,Result.andThen])
 |nilIface=>
  obtain⟨A,h⟩:=iT h av;cases h;cases q;refine⟨j,nF.same D ?_ B⟩;unfold execOp;rw[F];simp[K,Instr.typeAssert,Sem.run_bind,run_underlying E];cases d<;>first|(exact absurd j<|I _)|(simp[A,AX af G])
 |_=>exact absurd h<|by simp[x8]
end
theorem OI{α β:Type}(P:f8)(w:f5)(f:α->Sem β)(g:α->β):∀(l:ac α),(∀x∈l,(f x).run P w= .ok (g x) w)->(l.mapM f).run P w= .ok (l.map g) w
 |[],_=>by simp
 |x::xs,h=>by
  simp[h x av,OI P w f g xs λy j=>h y<|by simp[j]]
section
variable{ab:bF}{o bs:aJ}{a:Act}{aM:Nat}{st ak:aj}{w:f5}{U:Oper}{v:bv}{call:bM}
theorem OJ(z:ac bv):∀(n:Nat),z≠[]->qe z n=(List.range<|n*z.length).map (λJ=>z.toArray[J%z.toArray.size]!)
 |0,_=>by simp;rfl
 |n+1,g=>by
  show fe z (qe z n)=_;rw[qn,OJ z n g];rw[C2,tv,List.range_add,oY,pZ];congr 1
  ·apply p0;intro J;by_cases ba:J<z.length
   ·simp[ba,gn ba]
   ·simp[ba]
  ·apply HS;intro J _;simp
end
section
variable{ab:bF}{o bs:aJ}{a:Act}{aM:Nat}{st ak:aj}{w:f5}{U:Oper}{v:bv}{call:bM}
theorem OK(k:f6)(j:eK ab o a aM)(D:bN X ab st w):∀(xs:ac ce) (m r:Int),(∀x∈xs,fX X.a3 x=true)->AB k o xs m=some r->
 ((xs.map a.eval).foldlM Builtin.max2<|.int k m).run X.P w= .ok (.int k r) w
 |[],m,r,_,h=>by cases h;simp
 |x::xs,m,r,q,h=>by
  obtain⟨H,y,B,aF⟩:=nD h av;obtain⟨I,E⟩:=iT aF av;have g:=j.ar D<|q x av;rw[B]at g;generalize F:a.eval x=G at g;cases g;have C:=OK k j D xs _ r (λz A=>q z<|by simp[A]) E;simp[jj,List.foldlM_cons,F,Builtin.max2];have e:(if y>m then y else m)=cond (lM y m) m y:=by
   rw[o9]
   grind
  rw[e];exact C
theorem OL(k:f6)(j:eK ab o a aM)(D:bN X ab st w):∀(xs:ac ce) (m r:Int),(∀x∈xs,fX X.a3 x=true)->AD k o xs m=some r->
 ((xs.map a.eval).foldlM Builtin.min2<|.int k m).run X.P w= .ok (.int k r) w
 |[],m,r,_,h=>by cases h;simp
 |x::xs,m,r,q,h=>by
  obtain⟨H,y,B,aF⟩:=nD h av;obtain⟨I,E⟩:=iT aF av;have g:=j.ar D<|q x av;rw[B]at g;generalize F:a.eval x=G at g;cases g;have C:=OL k j D xs _ r (λz A=>q z<|by simp[A]) E;simp[jj,List.foldlM_cons,F,Builtin.min2];have e:(if y<m then y else m)=cond (lM m y) m y:=by
   rw[o9]
   grind
  rw[e];exact C
theorem ou(F:eK ab o a aM)(G:bN X ab st w){x:be ce}(E:∀y,x=some y->fX X.a3 y=true){d y:Nat}{k:Nat->a1}{r:a1}(h:ff o x d y k=r)(D:a1.no≠r):
 ∃n,k n=r/\((x=none/\n=d)\/(∃z bG,x=some z/\a.eval z= .int bG (n:Int)/\n<=y)):=by
 cases x with
 |none=>exact⟨d,h,.inl eT⟩
 |some z=>
  obtain⟨bG,m,hp,q⟩:=nD h D;obtain⟨n,e,A⟩:=pe q D;obtain⟨hle,C⟩:=iS A D;have g:=F.ar G<|E z j;rw[hp]at g;generalize B:a.eval z=tX at g;cases g
  grind
end
def OM(P:f8)(w:f5)(bG:f6)(n y:Nat)(c:BoundsCode)(h:n<=y):(Instr.sliceBound (.int bG (n:Int)) y c).run P w= .ok n w:=by
 simp[Instr.sliceBound,asIntOf,h]
def D6(v:be bv)(d y n:Nat):Prop:=(v=none/\n=d)\/∃bG,v=some (.int bG (n:Int))/\n<=y
theorem A1(P:f8)(w:f5)(E:Bool)(len cap l h m:Nat)(bg af gN:be bv)(hm:D6 gN cap cap m)(cA:D6 af len m h)(aD:D6 bg 0 h l)(D:gN≠none->af≠none):
 (Instr.sliceBounds E len cap bg af gN).run P w= .ok (l,h,m) w:=by
 unfold Instr.sliceBounds;rcases hm with⟨rfl,rfl⟩|⟨A,rfl,hm⟩
 ·clear D;rcases cA with⟨rfl,rfl⟩|⟨q,rfl,cA⟩<;>rcases aD with⟨rfl,rfl⟩|⟨g,rfl,aD⟩<;>simp[OM, *]
 ·rcases cA with⟨rfl,rfl⟩|⟨q,rfl,cA⟩
  ·exact absurd j<|D av
  ·clear D;rcases aD with⟨rfl,rfl⟩|⟨g,rfl,aD⟩<;>simp[OM, *]
section
variable{ab:bF}{o bs:aJ}{a:Act}{aM:Nat}{st ak:aj}{w:f5}{U:Oper}{v:bv}{call:bM}
variable{x:be ce}{d y n:Nat}
def ov(h:(x=none/\n=d)\/(∃z bG,x=some z/\a.eval z= .int bG (n:Int)/\n<=y)):D6 (x.map a.eval) d y n:=by
 rcases h with⟨rfl,rfl⟩|⟨z,bG,rfl,g,j⟩
 ·exact .inl eT
 ·exact .inr ⟨bG,by simp[g],j⟩
theorem abl(s:f9)(l h:Nat)(D:l<=h)(j:h<=s.data.toList.length):(⟨⟨(s.data.toList.drop l).take<|h-l⟩⟩:f9)=s.extract l h:=by
 apply ByteArray.ext;rw[ByteArray.data_extract]
 grind
theorem ON(h:(x=none/\n=d)\/(∃z bG,x=some z/\a.eval z= .int bG (n:Int)/\n<=y))(j:d<=y):n<=y:=by
 grind
theorem abm{t:co}{x:ce}{bg af gN:be ce}{c6:gc}(a':fX X.a3 x=true)(aF:∀y,bg=some y->fX X.a3 y=true)(aL:∀y,af=some y->fX X.a3 y=true)(F:∀y,gN=some y->fX X.a3 y=true)
 (S:gN≠none->af≠none) (M:U.op= .slice t x bg af gN) (N:X.P.underlying t=some (.slice e)) (Q:X.P.info? e=some c6) (E:eK ab o a aM) (D:bN X ab st w)
 (h:Ov c6.size x bg af gN call o st= .ok v bs ak):bs=o/\nF X ab w v st ak (execOp a.eval U):=by
 obtain⟨b,len,cap,hp,K⟩:=yf h av;have I:=E.ar D a';rw[hp]at I;generalize L:a.eval x=aq at I;cases b with
 |none=>
  have K:ff o gN cap cap (λm=>ff o af len m λh=>ff o bg 0 h λl=>.ok (.slice none (Nat.sub h l)<|Nat.sub m l) o st)=a1.ok v bs ak:=K;obtain⟨m,cX,O⟩:=ou E D F K av;obtain⟨ah,et,H⟩:=ou E D aL cX av;obtain⟨cV,fs,q⟩:=ou E D aF et av;cases fs;cases I;refine⟨j,nF.same D ?_ (.jZ _ _)⟩;unfold execOp;rw[M];have A:=A1 X.P w true len cap cV ah m (bg.map a.eval) (af.map a.eval) (gN.map a.eval) (ov O) (ov H) (ov q) (by simpa using S);simp[L,Instr.sliceAt,Instr.slice,run_underlying N,A,qp Q]
 |some ca=>
  obtain⟨G,cs,elem,bT,aU,ae,a2⟩:=yj K av;obtain⟨l,B,C,fh,an⟩:=D.er _ _ ae av;cases I with
  |fg _ ax g _ _ T au Y=>
   rw[B]at T;cases T;cases aU with
   |false=>
    have W:=an.plain j;obtain⟨m,cX,O⟩:=ou E D F a2 av;obtain⟨ah,et,H⟩:=ou E D aL cX av;obtain⟨cV,fs,q⟩:=ou E D aF et av;cases fs;refine⟨j,nF.same (bD:=.slice (some (if m=cV then⟨l.ct,g,none⟩else Addr.add ⟨l.ct,g,none⟩ (cV*c6.size))) (ah-cV)<|m-cV) D ?_ ?_⟩
    ·unfold execOp;rw[M];have A:=A1 X.P w true len cap cV ah m (bg.map a.eval) (af.map a.eval) (gN.map a.eval) (ov O) (ov H) (ov q) (by simpa using S);have ao:cap+l.ex=cap:=by omega
     rw[ao]at L;simp[L,Instr.sliceAt,Instr.slice,Sem.run_bind,run_underlying N,Result.andThen,A,qp Q];by_cases c:m=cV<;>simp[c]
    ·rw[lO];by_cases c:m=cV
     ·rw[aE c,aE c];have:=bc.fg ca l g (Nat.sub ah cV) (Nat.sub m cV) B G (by
       rcases Y with h|⟨aF,aL,F⟩
       ·exact .inl h
       ·right;have aa:Nat.sub m cV=m-cV:=rfl;have V:Nat.sub ah cV=ah-cV:=rfl;refine⟨R,R,F⟩)
      rw[W.1]at this;exact this
     ·rw[aw c,aw c,add_eq];have Z:g=l.c5+ca.off:=by
       grind
      subst Z;have:=bc.fg (ca.add<|Nat.mul cV c6.size) l (l.c5+(ca.add<|Nat.mul cV c6.size).off) (Nat.sub ah cV) (Nat.sub m cV) (by rw[AZ];exact B) (A0 _ _ G) mw;rw[W.1,D4,<-q7]at this;exact this
   |true=>
    obtain⟨aj,cD⟩:=yg a2 λ_=>av;obtain⟨ay,cX⟩:=iS cD av;obtain⟨ah,et,H⟩:=ou E D aL cX av;obtain⟨cV,fs,q⟩:=ou E D aF et av;cases fs;subst aj;have ai:(af=none/\ah=len)\/(∃z bG,af=some z/\a.eval z= .int bG (ah:Int)/\ah<=cap+l.ex):=by
     grind
    refine⟨j,nF.same (bD:=.slice (some (if cap+l.ex=cV then⟨l.ct,g,none⟩else Addr.add ⟨l.ct,g,none⟩ (cV*c6.size))) (ah-cV)<|cap+l.ex-cV) D ?_ ?_⟩
    ·unfold execOp;rw[M];have A:=A1 X.P w true len (cap+l.ex) cV ah (cap+l.ex) (bg.map a.eval) (af.map a.eval) none (.inl eT) (ov ai) (ov q) av;simp[L,Instr.sliceAt,Instr.slice,Sem.run_bind,run_underlying N,Result.andThen,Option.map_none,A,qp Q];by_cases c:cap+l.ex=cV<;>simp[c]
    ·have aa:Nat.sub cap cV=cap-cV:=rfl;have V:cap+l.ex-cV=(cap-cV)+l.ex:=by omega
     rw[V];by_cases c:cap+l.ex=cV
     ·rw[aE c];exact bc.fg (ca.add<|Nat.mul cV c6.size) l g (Nat.sub ah cV) (Nat.sub cap cV) (by rw[AZ];exact B) (A0 _ _ G)<|.inr ⟨by show ah-cV=0;omega,R⟩
     ·rw[aw c,add_eq];refine bc.fg (ca.add<|Nat.mul cV c6.size) l (g+cV*c6.size) (Nat.sub ah cV) (Nat.sub cap cV) (by rw[AZ];exact B) (A0 _ _ G) ?_;rcases Y with h|⟨aF,aL,F⟩
      ·left;rw[D4,h,q7];rfl
      ·omega
end
variable{nE:bz}
def bN.kill{st:aj}(h:bN X ab st w){id:Nat}(h₀:st.h.get id=some nE):bN X ab ⟨st.h.set id .dead,st.ae⟩ w:=by
 have G:id<st.ae:=by
  rcases fS id st.ae with c|c
  ·exact c
  ·rw[(h.fresh id c).2]at h₀;cases h₀
 refine⟨λJ p hp A=>?_,λi J p q l m af B g C=>?_,λJ g=>?_,h.fw,h.kh,h.mu,λJ l p F E hp A=>?_⟩
 ·rw[ao.ee]at hp;split at hp
  ·cases hp;exact absurd j A
  ·exact h.er J p hp A
 ·rw[ao.ee]at af g;split at af
  ·cases af;exact absurd j B
  ·split at g
   ·cases g;exact absurd j C
   ·exact h.inj i J p q l m af B g C
 ·have D:st.ae<=J:=g;refine⟨(h.fresh J D).1,?_⟩;rw[ao.ee,aw R];exact(h.fresh J D).2
 ·rw[ao.ee]at hp;split at hp
  ·cases hp;exact absurd j A
  ·exact h.j0 J l p F E hp A
theorem bN.abn{st:aj}(h:bN X ab st w){id:Nat}{bp:Loc}(h₀:st.h.get id=some nE)(F:nE≠.dead)(Y:¬nE.sz)(an:bp.bu≠eH)(aD:ab id=some l)(U:bz)(au:bp.ct=l.ct)(O:Obj)
 (w':f5) (T:w'.heap=w.heap.setIfInBounds l.ct O) (hm:∀aG:bF,ab.le aG->w'.heap[bp.ct]? =some O->g6 X aG w' U bp) (fE:qo w w':=by exact eT):
 ∃aG,bN X aG ⟨(st.h.set id .dead).set st.ae U,st.ae+1⟩ w'/\dS ab aG w w'/\aG st.ae=some bp:=by
 have ar:=h.fw id l aD;have K:l.bu≠eH:=λe=>Y<|h.j0 id l nE aD e h₀ F;have ay:id<st.ae:=by
  rcases fS id st.ae with c|c
  ·exact c
  ·rw[(h.fresh id c).2]at h₀;cases h₀
 have hle:ab.le (λi=>if i=st.ae then some bp else ab i):=by
  intro i m C;show(if i=st.ae then _ else ab i)=_;rw[aw];exact C;intro e;subst e;rw[(h.fresh _<|cn _).1]at C;cases C
 refine⟨λi=>if i=st.ae then some bp else ab i,⟨λJ p hp B=>?_,λi J p q A L af H D I ad ah G e=>?_,λJ D=>?_,λJ A E=>?_,λg G=>hle _ _<|h.kh g G,sj h.mu,λJ A p E W hp B=>?_⟩,⟨hle,by rw[T];simp,λb _ af=>?_,λJ A E=>?_,fE⟩,aE j⟩
 ·rw[ao.ee]at hp;by_cases e:J=st.ae
  ·grind
  ·rw[aw e,ao.ee]at hp;split at hp
   ·cases hp;exact absurd j B
   ·rename_i ne;obtain⟨m,C,Z⟩:=h.er J p hp B;refine⟨m,hle _ _ C,g6.mono X Z hle ?_⟩;have al:m.ct≠l.ct:=λai=>ne<|h.inj J id p nE m l hp B h₀ F C aD (.inr K) ai
    grind
 ·have key:∀J p m,((st.h.set id .dead).set st.ae U).get J=some p->p≠.dead->(if J=st.ae then some bp else ab J)=some m->
   (J=st.ae/\m=bp)\/(J≠st.ae/\J≠id/\st.h.get J=some p/\ab J=some m):=by
   intro J p m D B C;rw[ao.ee]at D;by_cases c:J=st.ae
   ·grind
   ·rw[ao.ee]at D
    grind
  rcases key i p A af H ad with⟨V,rfl⟩|⟨av,hk,S,M⟩<;>rcases key J q L D I ah with⟨a',rfl⟩|⟨aq,aa,N,Q⟩
  ·rw[V,a']
  ·exact absurd (h.inj J id q nE L l N I h₀ F Q aD (.inr K) R) aa
  ·exact absurd (h.inj i id p nE A l S H h₀ F M aD (.inr K) R) hk
  ·exact h.inj i J p q A L S H N I M Q G e
 ·have ax:st.ae+1<=J:=D;have:=h.fresh J R;refine⟨?_,?_⟩
  ·grind
  ·rw[ao.ee,aw R,ao.ee,aw R];exact this.2
 ·rw[T];simp;by_cases e:J=st.ae
  ·grind
  ·simp[aw e]at E;exact h.fw J A E
 ·rw[ao.ee]at hp;by_cases e:J=st.ae
  ·grind
  ·rw[aw e,ao.ee]at hp;simp[aw e]at E;split at hp
   ·cases hp;exact absurd j B
   ·exact h.j0 J A p E W hp B
 ·grind
 ·grind
theorem OO(n B:Nat)(j:n+(n+768)/4<=B):∀r c,c<=B->Builtin.growBy n r c<=B
 |0,c,h=>h
 |r+1,c,h=>by
  unfold Builtin.growBy;split
  ·exact h
  ·rename_i aS;exact OO n B j r _ R
def abo(n c:Nat)(h:c<n):Builtin.nextslicecap n c<=n+n/4+448:=by
 unfold Builtin.nextslicecap;split
 ·omega
 ·split
  ·omega
  ·exact OO n _ R 4 c R
def IZ(z:bi bv)(n:Nat):(Builtin.zeroCells z n).size=n*z.size:=by simp[Builtin.zeroCells]
theorem bN.D7{st:aj}{D:ac bv}(F:bN X ab st w)(elem:co)(E:bI ab cs D)(rest:ac bv)(ex:Nat)(I:ex*X.P.cellsOf elem<=rest.length)(bT:Nat×Nat)
 (G:∀i,i<cs.length+rest.length->¬(bT.1<=i/\i<bT.2)) (w':f5) (cA:w'.heap=w.heap.push (.cells (D++rest).toArray elem bT)) (fE:qo w w':=by exact eT):
 ∃aG,bN X aG ⟨st.h.set st.ae<|.cells cs elem (0,0) true,st.ae+1⟩ w'/\dS ab aG w w'/\aG st.ae=some ⟨w.heap.size,0,ex,id⟩/\aG=gr ab st.ae ⟨w.heap.size,0,ex,id⟩:=by
 refine bN.alloc X F _ _ ex (λaG B hle _ q=>?_) w' cA fE;refine⟨(D++rest).toArray,bT,⟨⟨_,q,λ_=>j⟩,by simp[E.1],λ_=>by simp[E.1];omega,λi af=>?_,λ_ J _ A=>?_,λh=>by cases h⟩⟩
 ·have g:i<D.length:=by rw[<-E.1];exact af
  refine⟨D[i],?_,(E.2 i af g).mono hle⟩;simp[sk g]
 ·refine G J ?_
  grind
structure Src(P:f8)(w:f5)(x:bv)(n size:Nat)(new:ac bv):Prop where
 len:(Builtin.lenOf x).run P w= .ok n w
 cells:∀tape drawn,(Builtin.firstCells size n x).run P {w with tape:=tape,drawn:=drawn}= .ok new.toArray {w with tape:=tape,drawn:=drawn}
section
variable{P:f8}{w:f5}{kX kB elem:co}{d:TypeDesc}{i:gc}{x:bv}{n len cap:Nat}{new:ac bv}
theorem D8{base:be Addr}(G:P.underlying kX=some (.slice elem))(E:P.underlying kB=some d)(I:∀k,d≠.int k)(af:P.info? elem=some i)(D:Src P w x n i.size new)(ah:len+n<=cap)(ty:co)(w':f5)
 (M:∀a,base=some a->(storeCells (a.add<|len*i.size) new).run P w= .ok () w') (F:base=none->w'=w):
 (Builtin.append_ #[kX,kB] ty #[.slice base len cap,x]).run P w= .ok (.slice base (len+n) cap) w':=by
 have aS:=D.cells w.tape w.drawn;simp[Builtin.append_,z0,z1,C3,Sem.run_bind,run_underlying G,Result.andThen,qp af,run_underlying E,Sem.run_pure,pY,if_false,D.len,ah,if_true,C4];rw[aS];cases base with
 |none=>simp;rw[F j]
 |some a=>
  simp_all
theorem I0{base:be Addr}{z:bv}{hj:ac bv}(I:P.underlying kX=some (.slice elem))(E:P.underlying kB=some d)(M:∀k,d≠.int k)(af:P.info? elem=some i)(F:i.zero=some z)(D:Src P w x n i.size new)
 (ah:cap<len+n) (aA:(5*(len+n)+1792)*(i.bytes+1)<=1125899906842624) (ty:co)
 (hold:∀tape drawn,(Builtin.firstCells i.size len<|.slice base len cap).run P {w with tape:=tape,drawn:=drawn}= .ok hj.toArray {w with tape:=tape,drawn:=drawn}):
 ∃g w',len+n<=g/\(Builtin.append_ #[kX,kB] ty #[.slice base len cap,x]).run P w= .ok (.slice (some ⟨w.heap.size,0,none⟩) (len+n) g) w'/\
  w'.heap=w.heap.push (.cells (hj++new++(Builtin.zeroCells z.cells<|g-(len+n)).toList).toArray elem)/\qo w w':=by
 have H:=abo (len+n) cap ah;have L:Builtin.nextslicecap (len+n) cap*i.bytes<=281474976710656:=by
  have aF:4*Builtin.nextslicecap (len+n) cap*i.bytes<=(5*(len+n)+1792)*i.bytes:=hA _ R
  grind
 have K:len+n<=1125899906842624:=by
  grind
 have A:¬(((len+n:Nat):Int)>IntKind.i64.max/\((false=true)\/i.bytes=0)):=by
  have:IntKind.i64.max=9223372036854775807:=al
  omega
 have h:¬(Builtin.nextslicecap (len+n) cap*i.bytes>2^48):=R
 let q:Question:=.appendCap (len+n) cap elem
 refine⟨q.cut<|w.tape w.drawn q,{w with drawn:=w.drawn+1,heap:=w.heap.push<|.cells (hj++new++(Builtin.zeroCells z.cells<|q.cut (w.tape w.drawn q)-(len+n)).toList).toArray elem},?_,?_,j,eT⟩
 ·show len+n<=(len+n)+_;omega
 ·have G:=D.cells w.tape<|w.drawn+1;have C:=hold w.tape<|w.drawn+1;have B:=AX af F {w with drawn:=w.drawn+1};simp only[Builtin.append_,z0,z1,C3,Sem.run_bind,run_underlying I,Result.andThen,qp af,run_underlying E,Sem.run_pure,pY,if_false,D.len,typeInfo,C4];rw[aw R];simp only[Sem.run_bind,Sem.run_pure,run_program,Result.andThen,af];rw[aw<|by simpa using A];simp only[Sem.run_bind,Sem.run_pure,run_program,Result.andThen,af];rw[aw h];simp only[Sem.run_bind,Sem.run_pure,run_program,Result.andThen,af,run_choose,Question.forced,pY,if_false,run_askRoom,if_true];rw[C];simp only[];rw[G];simp only[Sem.run_bind,B,newRow,run_newObj];simp[q];congr 2;simp
end
section
variable{ab:bF}{o bs:aJ}{a:Act}{aM:Nat}{st ak:aj}{w:f5}{U:Oper}{v:bv}{call:bM}
def abp{kX kB:co}{s x:ce}{bD:bv}{w':f5}(j:U.op= .call {callee:=.builtin .append,args:= #[s,x],argTypes:= #[kX,kB]})
 (g:(Builtin.append_ #[kX,kB] U.type #[a.eval s,a.eval x]).run X.P w= .ok bD w'):(execOp a.eval U).run X.P w= .ok (.value bD) w':=by
 unfold execOp;rw[j];simp[resolve,xI,jj,xJ,Sem.run_bind,Sem.run_pure,Result.andThen,invoke,builtin,g]
def D9{kX kB:co}{d:TypeDesc}{i:gc}{z:bv}{s x:ce}{base:be Addr}{len cap n:Nat}{new E:ac bv}
 (M:U.op= .call {callee:=.builtin .append,args:= #[s,x],argTypes:= #[kX,kB]}) (Q:X.P.underlying kX=some (.slice elem)) (I:X.P.underlying kB=some d) (L:∀k,d≠.int k) (af:X.P.info? elem=some i) (ar:i.zero=some z)
 (aB:z.cells.size=i.size) (G:bN X ab st w) (aC:bc ab (.slice base len cap) (a.eval s)) (H:Src X.P w (a.eval x) n i.size E) (S:bI ab new E) (Z:new.length=n*i.size) (aO:gV new=true)
 (h:jn o st elem i.size i.bytes base len cap n new= .ok v bs ak):bs=o/\mv X ab w v ak (execOp a.eval U):=by
 obtain⟨aA,g⟩:=iS h av;have ax:(5*(len+n)+1792)*(i.bytes+1)<=1125899906842624:=aA;have T:X.P.cellsOf elem=i.size:=by simp[Program.cellsOf,af]
 have aY:E.length=n*i.size:=by rw[<-S.1];exact Z
 generalize ba:a.eval s=bu at aC;have D:= @abp X a w U kX kB s x;rw[ba]at D;cases base with
 |none=>
  obtain⟨bt,cE⟩:=kg (g:dz len 0 _ _=_) av;obtain⟨bo,K⟩:=kg cE av;subst bt bo;cases aC;rw[lO]at K;split at K
  ·rename_i ai;subst ai;cases K;refine⟨j,mv.same (bD:=.slice none 0 0) G ?_ (.jZ _ _)⟩;exact D M<|D8 Q I L af H R U.type w (λa h=>by cases h) mx
  ·rename_i ai;rw[gF]at K;cases K;obtain⟨q,w',aS,A,F,fE⟩:=I0 (base:=none) (len:=0) (cap:=0) (hj:=[]) Q I L af ar H R ax U.type λ_ _=>j;obtain⟨aG,bH,B,N,_⟩:=G.D7 elem S (Builtin.zeroCells z.cells<|q-(0+n)).toList (q-(0+n)) (by
    rw[hs,IZ,aB,T];exact cn _) (0,0) (λi _=>av) w' (by rw[F];simp) fE
   refine⟨j,aG,.value _,w',D M A,.inl ⟨_,j,?_⟩,bH,B⟩;have:=bc.fg (ab:=aG) ⟨st.ae,0,none⟩ ⟨w.heap.size,0,q-(0+n),id⟩ 0 (0+n) (0+n) N j mw;rw[show 0+n+(q-(0+n))=q by omega]at this;exact this
 |some ca=>
  obtain⟨aK,cs,el,bT,aU,an,cE⟩:=yj (g:aj.fM st ca _ _=_) av;obtain⟨ah,K⟩:=iS cE av;obtain⟨bm,a2⟩:=iS K av;obtain⟨aD,cD⟩:=iS a2 av;obtain⟨br,cX⟩:=kg cD av;rw[eP]at aD;have bw:ca.off+cap*i.size<=cs.length:=aD;subst br;obtain⟨l,a',C,fh,O⟩:=G.er _ _ an av;have a4:=O.room<|.inl ah;rw[T]at a4;cases aC with
  |fg _ bB Y _ _ aP bz ay=>
   rw[a']at aP;cases aP;have bA:len*i.size<=cap*i.size:=hA _ bm;rw[lO]at cX;split at cX
   ·rename_i ai;subst ai;cases cX;have aZ:E=[]:=by
     have:E.length=0:=by rw[aY];simp
     exact nr this
    refine⟨j,mv.same (bD:=.slice (some ⟨l.ct,Y,none⟩) (len+0)<|cap+l.ex) G ?_ (.fg _ _ _ _ _ a' aK ay)⟩;refine D M (D8 Q I L af H R U.type w (λa h=>?_) λh=>by cases h);rw[aZ];rfl
   ·rename_i ai;have az:∀(bH:len+n<=cap+l.ex),Y=l.c5+ca.off:=by
     intro bH;rcases ay with h|⟨au,V,bx⟩
     ·exact h
     ·omega
    obtain⟨aT,bn⟩:=O.g7 (U:=ca.off) (m:=len*i.size) (ay.imp_right λe=>by rw[e.1,jk]) dA;have hold:∀aV aR,(Builtin.firstCells i.size len<|.slice (some ⟨l.ct,Y,none⟩) len<|cap+l.ex).run X.P {w with tape:=aV,drawn:=aR}= .ok ((C.toList.drop Y).take<|len*i.size).toArray {w with tape:=aV,drawn:=aR}:=λ_ _=>bn _ j;cases aU with
    |true=>
     obtain⟨bq,et⟩:=rA (cX:hQ cs ca.off _ _ _=_) av;rw[iH,gF,qn]at et;cases et;by_cases W:len+n<=cap+l.ex
     ·have ao:=az W;subst ao;have aF:n*i.size+len*i.size<=(cap+l.ex)*i.size:=by rw[<-e2];exact hA _ R
      rw[e2]at aF;obtain⟨w',A,F,fE⟩:=IT (P:=X.P) (U:=l.c5+ca.off+len*i.size) E 0 C w (O.vX<|.inl ah) R (IV S aO) (λJ au V=>O.sy ah J R<|by rw[T];omega);simp only[oZ]at F;have aq:=D M (D8 (base:=some ⟨l.ct,l.c5+ca.off,none⟩) Q I L af H W U.type w' (λa h=>by cases h;rw[add_eq];exact A) λh=>by cases h);obtain⟨aG,bH,B,N⟩:=bN.abn (X:=X) G an av (λaJ=>by have aJ:_<_:=aJ;omega) IJ a' (.cells ((cs.drop ca.off).take (len*i.size)++new) el (0,0) true) (bp:=⟨l.ct,l.c5+ca.off,cap+l.ex-(len+n),id⟩) j _ w' F (λaG hle b'=>by
       have aI:(C.toList.take (l.c5+ca.off+len*i.size)++(E++C.toList.drop (l.c5+ca.off+len*i.size+E.length))).length=C.size:=by simp;omega
       have aa:((cs.drop ca.off).take<|len*i.size).length=len*i.size:=by simp;omega
       have aL:(cap+l.ex-(len+n))*i.size=(cap*i.size+l.ex*i.size)-(len*i.size+n*i.size):=by rw[Nat.sub_mul,e2,e2]
       refine⟨_,fh,⟨⟨_,b',λ_=>j⟩,?_,λ_=>?_,λJ bj=>?_,λ_ J au V=>?_,λh=>by cases h⟩⟩
       ·rw[List.size_toArray,aI,kz,aa,Z];simp only;omega
       ·rw[List.size_toArray,aI,T,kz,aa,Z];simp only;rw[aL];omega
       ·simp only[z0];rw[kz,aa,Z]at bj;rw[IU C.toList E (l.c5+ca.off+len*i.size) (l.c5+ca.off+J) dA];by_cases c:J<len*i.size
        ·rw[aE R];obtain⟨a5,a6,bg⟩:=O.cell (ca.off+J) R;refine⟨a5,by rw[<-a6];simp[q7],?_⟩;rw[List.getElem_append_left R];simp only[List.getElem_take,List.getElem_drop];exact bg.mono hle
        ·rw[aw R,aE R];rw[show l.c5+ca.off+J-(l.c5+ca.off+len*i.size)=J-len*i.size by omega];rw[a0 R];refine⟨_,j,?_⟩;rw[HT R];simp only[aa];exact(S.2 _ R R).mono hle
       ·refine O.sy ah J ?_ ?_
        ·simp only at au;omega
        ·rw[T]at V⊢;rw[kz,aa,Z]at V;simp only at V;rw[aL]at V;omega) fE
      refine⟨j,aG,.value _,w',aq,.inl ⟨_,j,?_⟩,bH,B⟩;have:=bc.fg (ab:=aG) ⟨st.ae,0,none⟩ ⟨l.ct,l.c5+ca.off,cap+l.ex-(len+n),id⟩ (l.c5+ca.off) (len+n) (len+n) N j mw;rw[show len+n+(cap+l.ex-(len+n))=cap+l.ex by omega]at this;exact this
     ·obtain⟨q,w',aS,A,F,fE⟩:=I0 (base:=some ⟨l.ct,Y,none⟩) (len:=len) (cap:=cap+l.ex) Q I L af ar H R ax U.type hold;have bk:=G.kill an;obtain⟨aG,bH,B,N,_⟩:=bk.D7 el (aT.append S) (Builtin.zeroCells z.cells<|q-(len+n)).toList (q-(len+n)) (by
       rw[hs,IZ,aB,T];exact cn _) (0,0) (λi _=>av) w' (by rw[F]) fE
      refine⟨j,aG,.value _,w',D M A,.inl ⟨_,j,?_⟩,bH,B⟩;have:=bc.fg (ab:=aG) ⟨st.ae,0,none⟩ ⟨w.heap.size,0,q-(len+n),id⟩ 0 (len+n) (len+n) N j mw;rw[show len+n+(q-(len+n))=q by omega]at this;exact this
    |false=>
     have bl:=O.plain j;have aN:cap+l.ex=cap:=by rw[bl.1];rfl
     rw[aN]at D hold az;have cX:ek (len+n) cap (o8 cs (Nat.add ca.off<|Nat.mul len i.size) new (λbf=>st.gO ca.block (.cells bf el bT false) λst=>a1.ok (.slice (some ca) (len+n) cap) o st) .no)
      (hQ cs ca.off (Nat.mul len i.size) (λhj=>st.ib (.cells (fe hj new) el (0,0) true) λid st=>.ok (.slice (some ⟨id,0,none⟩) (len+n)<|len+n) o st) .no)=a1.ok v bs ak:=cX
     rw[lg]at cX;split at cX
     ·rename_i W;have ao:=az W;subst ao;have aF:n*i.size+len*i.size<=cap*i.size:=by rw[<-e2];exact hA _ R
      have aW:ca.off+len*i.size+new.length<=cs.length:=by rw[Z];omega
      have et:st.gO ca.block (.cells (cs.take (ca.off+len*i.size)++(new++cs.drop (ca.off+len*i.size+new.length))) el bT false) (λst=>a1.ok (.slice (some ca) (len+n) cap) o st)=a1.ok v bs ak:=by
       rcases IN cX av with⟨_,et⟩|⟨bh,et⟩
       ·exact et
       ·rw[bh];simp;exact et
      rw[iH]at et;cases et;obtain⟨w',A,bH,B⟩:=G.store an a' ah aW S aO;have aq:=D M (D8 (base:=some ⟨l.ct,l.c5+ca.off,none⟩) Q I L af H W U.type w' (λa h=>by cases h;rw[add_eq,q7];exact A) λh=>by cases h);refine⟨j,ab,.value _,w',aq,.inl ⟨_,j,?_⟩,bH,B⟩;have:=bc.fg (ab:=ab) ca l (l.c5+ca.off) (len+n) cap a' aK mw;rw[aN]at this;exact this
     ·rename_i W;obtain⟨bq,et⟩:=rA cX av;rw[gF,qn]at et;cases et;obtain⟨q,w',aS,A,F,fE⟩:=I0 (base:=some ⟨l.ct,Y,none⟩) (len:=len) (cap:=cap) Q I L af ar H R ax U.type hold;obtain⟨aG,bH,B,N,_⟩:=G.D7 el (aT.append S) (Builtin.zeroCells z.cells<|q-(len+n)).toList (q-(len+n)) (by
       rw[hs,IZ,aB,T];exact cn _) (0,0) (λi _=>av) w' (by rw[F]) fE
      refine⟨j,aG,.value _,w',D M A,.inl ⟨_,j,?_⟩,bH,B⟩;have:=bc.fg (ab:=aG) ⟨st.ae,0,none⟩ ⟨w.heap.size,0,q-(len+n),id⟩ 0 (len+n) (len+n) N j mw;rw[show len+n+(q-(len+n))=q by omega]at this;exact this
end
theorem A2:∀bZ:ac ci,mW bZ=bZ.map λb=>Value.int .u8 (b.toNat:Int)
 |[]=>rfl
 |b::bZ=>by show _::mW bZ=_;rw[A2 bZ];rfl
theorem OP:∀bZ:ac ci,gV (mW bZ)=true
 |[]=>rfl
 |_::bZ=>OP bZ
theorem I1(ab:bF):∀bZ:ac ci,bI ab (mW bZ) (mW bZ)
 |[]=>bI.nil ab
 |_::bZ=>bI.cons (.int _ _)<|I1 ab bZ
theorem I2:∀{ad:ac bv} {bZ:ac ci},bytesOf ad=some bZ->∃bQ:ac Int,ad=bQ.map (Value.int .u8)/\bZ=bQ.map (λn=>UInt8.ofNat n.toNat)
 |[],bZ,h=>by cases h;exact⟨[],j,j⟩
 |v::ad,bZ,h=>by
  obtain⟨k,n,e,cE⟩:=nD h av;obtain⟨C,q⟩:=iT cE av;obtain⟨r,A,a2⟩:=hS q av;cases a2;obtain⟨bQ,g,B⟩:=I2 A;have:=v5 C;subst this;exact⟨n::bQ,by simp[e,g],by simp[B]⟩
section
variable{ab:bF}{o bs:aJ}{a:Act}{aM:Nat}{st ak:aj}{w:f5}{U:Oper}{v:bv}{call:bM}
theorem abq(P:f8)(w:f5)(s:f9)(size:Nat):Src P w (.string s) s.data.toList.length size (mW s.data.toList):=by
 have h:=(hs (xs:=s.data)).symm;refine⟨by rfl,λj g=>?_⟩;simp[Builtin.firstCells,Sem.run_pure];congr 1;apply Array.ext';have:(s.extract 0 s.data.toList.length).data=s.data:=by
  simp_all
 rw[A2];simp
theorem abr{kX kB:co}{d:TypeDesc}{i:gc}{z:bv}{s x:ce}(S:fX X.a3 s=true)(Y:fX X.a3 x=true)(I:U.op= .call {callee:=.builtin .append,args:= #[s,x],argTypes:= #[kX,kB]})
 (K:X.P.underlying kX=some (.slice elem)) (F:X.P.underlying kB=some d) (H:∀k,d≠.int k) (af:X.P.info? elem=some i) (G:i.zero=some z) (L:z.cells.size=i.size)
 (M:eK ab o a aM) (B:bN X ab st w) (h:Ow elem i.size i.bytes s x call o st= .ok v bs ak):bs=o/\mv X ab w v ak (execOp a.eval U):=by
 obtain⟨base,len,cap,ae,g⟩:=yf h av;have E:=M.ar B S;rw[ae]at E;have q:=M.ar B Y;generalize an:o.ar x=O at g q;cases O with
 |slice b n c=>
  cases b with
  |none=>
   obtain⟨a',A⟩:=kg g av;subst a';generalize D:a.eval x=j1 at q;cases q;refine D9 I K F H af G L B E ?_ (bI.nil ab) av j A;rw[D];exact⟨j,λ_ _=>j⟩
  |some b=>
   obtain⟨ai,cs,el,bT,aU,R,ah,A⟩:=D0 g av;obtain⟨T,a2⟩:=iT A av;obtain⟨l,aD,C,fh,aS⟩:=B.er _ _ R av;generalize D:a.eval x=j1 at q;cases q with
   |fg _ bp ao _ _ N aj Z=>
    rw[aD]at N;cases N;obtain⟨ad,aa⟩:=aS.g7 (Z.imp_right λe=>show n*i.size=0 by rw[e.1,jk]) ah;exact D9 I K F H af G L B E (by rw[D];exact⟨j,λ_ _=>aa _ j⟩) ad (by grind) T a2
 |string W=>
  obtain⟨V,A⟩:=kg g av;rw[eP]at A;generalize D:a.eval x=j1 at q;cases q;refine D9 I K F H af G L B E ?_ (I1 ab _) ?_ (OP _) A
  ·rw[D];exact abq X.P w W i.size
  ·rw[A2,hz,V,n8]
 |chan p=>
  cases p with
  |none=>
   have Q:∀(k:be Addr->Nat->Nat->a1) z,hE (.chan none) k z=z:=λ_ _=>j;have iW:∀a z:a1,rr (.chan none) a z=a:=λ_ _=>j;simp[Q,iW]at g;have A:=g;generalize D:a.eval x=j1 at q;cases q;refine D9 I K F H af G L B E ?_ (bI.nil ab) av j A;rw[D];refine⟨j,λtape drawn=>?_⟩;simp[Builtin.firstCells];simp[loadCells,loadCellsFrom]
  |some _=>exact absurd g (by simp[hE,hD,rr])
 |_=>exact absurd g<|by simp[hE,hD,rr]
end
section
variable{ab:bF}{o bs:aJ}{a:Act}{aM:Nat}{st ak:aj}{w:f5}{U:Oper}{v:bv}{call:bM}
theorem abt{kX kB:co}{i:gc}{d s:ce}(ae:fX X.a3 d=true)(a':fX X.a3 s=true)(au:U.op= .call {callee:=.builtin .copy,args:= #[d,s],argTypes:= #[kX,kB]})
 (L:X.P.underlying kX=some (.slice elem)) (af:X.P.info? elem=some i) (Q:eK ab o a aM) (q:bN X ab st w) (h:Ox i.size d s call o st= .ok v bs ak):
 bs=o/\mv X ab w v ak (execOp a.eval U):=by
 obtain⟨aA,g,aa,ai,cE⟩:=yf h av;obtain⟨W,aK,jt,aB,K⟩:=yf cE av;have D:=Q.ar q ae;rw[ai]at D;have F:=Q.ar q a';rw[aB]at F;have A:∀{bD:bv} {w':f5},(Builtin.copy_ #[kX,kB] U.type #[a.eval d,a.eval s]).run X.P w= .ok bD w'->(execOp a.eval U).run X.P w= .ok (.value bD) w':=by
  intro bD w' E;unfold execOp;rw[au];simp[resolve,xI,jj,xJ,Sem.run_bind,Sem.run_pure,Result.andThen,invoke,builtin,E]
 generalize aZ:a.eval d=aL at D A;generalize a0:a.eval s=aH at F A;cases aA with
 |none=>
  obtain⟨bX,a2⟩:=kg K av;subst bX;cases a2;cases D;refine⟨j,mv.same q (A ?_)<|.int _ _⟩;cases F<;>simp[Builtin.copy_,run_underlying L,Builtin.lenOf,qp af,Builtin.firstCells,loadCells,loadCellsFrom,goInt]
 |some ca=>
  cases W with
  |none=>
   obtain⟨bX,a2⟩:=kg K av;subst bX;cases a2;cases F;refine⟨j,mv.same q (A ?_)<|.int _ _⟩;cases D;simp[Builtin.copy_,run_underlying L,Builtin.lenOf,qp af,Builtin.firstCells,goInt,storeCells]
  |some R=>
   have a2:st.load R (Nat.mul (ek aK g aK g) i.size) (λad=>cond (gV ad) (st.store ca ad (λst=>a1.ok (.int .i64<|.ofNat<|ek aK g aK g) o st) .no) .no) .no=a1.ok v bs ak:=K;rw[show ek aK g aK g=Nat.min aK g by rw[lg];show _=min aK g;rw[Nat.min_def]]at a2;rw[show Nat.mul (Nat.min aK g) i.size=Nat.min aK g*i.size from rfl]at a2;obtain⟨aO,cs,el,bT,aU,Z,ah,cD⟩:=D0 a2 av;obtain⟨aw,cX⟩:=iT cD av;obtain⟨aW,aJ,aE,aC,aF,H,aq,et⟩:=OD cX av;obtain⟨l,aD,C,fh,aS⟩:=q.er _ _ Z av;obtain⟨G,V,aY⟩:=q.er _ _ H av;cases F with
   |fg _ bp B _ _ S aR ay=>
    rw[aD]at S;cases S;cases D with
    |fg _ aP I _ _ O aN aI=>
     rw[V]at O;cases O;have aj:aK=0\/g=0->Nat.min aK g=0:=by grind
     obtain⟨T,az⟩:=aS.g7 (ay.imp_right λe=>show Nat.min aK g*i.size=0 by rw[aj<|.inl e.1,jk]) ah;have ao:(Builtin.firstCells i.size (Nat.min aK g)<|.slice (some ⟨l.ct,B,none⟩) aK<|jt+l.ex).run X.P w= .ok ((C.toList.drop B).take<|Nat.min aK g*i.size).toArray w:=az w j;have M:∀w',(storeCells ⟨G.ct,I,none⟩<|(C.toList.drop B).take<|Nat.min aK g*i.size).run X.P w= .ok () w'->
      (Builtin.copy_ #[kX,kB] U.type #[.slice (some ⟨G.ct,I,none⟩) g (aa+G.ex),.slice (some ⟨l.ct,B,none⟩) aK<|jt+l.ex]).run X.P w= .ok (.int .i64 (Nat.min aK g:Nat)) w':=by
      intro w' E;simp[Builtin.copy_,z0,z1,C3,Sem.run_bind,run_underlying L,Result.andThen,qp af,Builtin.lenOf,Sem.run_pure];rw[ao];simp[E,goInt]
     rcases et with⟨hle,fs⟩|⟨he,fs⟩
     ·cases fs;by_cases Y:(cs.drop R.off).take (Nat.min aK g*i.size)=[]
      ·have N:(C.toList.drop B).take (Nat.min aK g*i.size)=[]:=by
        grind
       refine⟨j,ab,.value _,w,A (M w<|by rw[N];rfl),.inl ⟨_,j,.int _ _⟩,?_,.refl ab w⟩;have:=q.IW H;rw[Y];simpa using this
      ·have an:I=G.c5+ca.off:=by
        grind
       subst an;obtain⟨w',E,bH,ax⟩:=q.store H V aq hle T aw;exact⟨j,ab,.value _,w',A<|M w' E,.inl ⟨_,j,.int _ _⟩,bH,ax⟩
     ·cases fs;have N:(C.toList.drop B).take (Nat.min aK g*i.size)=[]:=by
       have:=T.1;rw[he]at this;exact nr this.symm
      exact⟨j,ab,.value _,w,A (M w<|by rw[N];rfl),.inl ⟨_,j,.int _ _⟩,q.IW H,.refl ab w⟩
theorem OQ(P:f8)(w:f5)(f:bv->f9->Sem (ForInStep f9))(j:∀n s,f (.int .u8 n) s=pure (.yield<|s.push<|UInt8.ofNat n.toNat)):∀(bQ:ac Int) (s:f9),
 (forIn (bQ.map<|Value.int .u8).toArray s f:Sem f9).run P w= .ok ⟨⟨s.data.toList++bQ.map λn=>UInt8.ofNat n.toNat⟩⟩ w
 |[],s=>by simp
 |n::bQ,s=>by
  simp[jj,j];have:=OQ P w f j bQ (s.push<|UInt8.ofNat n.toNat)
  simp_all
end
def OR(P:f8)(e:co)(D j n:Nat)(E:P.cellsOf e≠0)(bX:j%P.cellsOf e=0)(ah:j/P.cellsOf e+n<=D):liesAt P P.depth e D j e n=true:=by
 have g:P.depth=(2*(P.types.size+Made.depth)+1)+1:=rfl;rw[g];have h:sameLayout P (2*(P.types.size+Made.depth)+1+1) e e=true:=by simp[sameLayout]
 have q:rowAt P (sameLayout P P.depth · e) P.depth e D j n=true:=by
  rw[g];simp only[rowAt];rw[aw E];simp[bX,ah,h]
 simp only[liesAt];rw[q];rfl
theorem OS(c:ci):∀(l:ac ci),rv c l=(List.range l.length).find? (λi=>l[i]! ==c)
 |[]=>rfl
 |b::bZ=>by
  show cond (Nat.beq b.toNat c.toNat) (some 0) (bn (rv c bZ) (λi=>some<|Nat.succ i) none)=_;rw[hN,C5,HU];by_cases aA:b=c
  ·subst aA;simp
  ·have aF:Nat.beq b.toNat c.toNat=false:=by
    rw[vo];intro h;exact aA<|vq.1<|dM h
   have g:((b::bZ)[0]! ==c)=false:=by grind
   rw[aF,g,List.find?_map,OS c bZ];have:((λi=>(b::bZ)[i]! ==c)∘Nat.succ)=(λi=>bZ[i]! ==c):=by grind
   rw[this];cases(List.range bZ.length).find? (λi=>bZ[i]! ==c)<;>rfl
section
variable{ab:bF}{o bs:aJ}{a:Act}{aM:Nat}{st ak:aj}{w:f5}{U:Oper}{v:bv}{call:bM}
def Ea{f:d7}{args:bi ce}{ay:bi co}(j:U.op= .call {callee:=.value<|.func f,args:=args,argTypes:=ay}):
 (execOp a.eval U).run X.P w=(callFunc f<|args.map a.eval).run X.P w:=by
 unfold execOp;rw[j];simp[resolve,Act.eval,Deferred.ofValue,invoke]
def abu(ay:bi co)(t:co)(n c:Nat):Builtin.unsafeSliceData_ ay t #[.slice none n c]=pure (.pointer none):=rfl
def abv(ay:bi co)(t:co)(b:Addr)(n c:Nat)(aS:c≠0):Builtin.unsafeSliceData_ ay t #[.slice (some b) n c]=pure (.pointer<|some b):=by
 have:Builtin.unsafeSliceData_ ay t #[.slice (some b) n c]=(if c≠0 then pure (.pointer<|some b)else do
  if(<-viewAt b.block).isSome then pure (.pointer<|some b)
  else pure (.pointer<|some ⟨<-newObj (.view b<|<-elemOf t),0,none⟩)):=rfl
 rw[this,aE aS]
def Eb{C:bi bv}(h:w.heap[b]? =some (.cells C e bT)):w.shape? b=some (e,C.size):=by simp[World.shape?,h]
def OT(P:f8){ca:Addr}{C:bi bv}(h:w.heap[ca.block]? =some (.cells C e bT)):(Conv.seenAt ca).run P w= .ok ca w:=by
 simp[Conv.seenAt,viewAt,Eb h]
end
section
variable{ab:bF}{o bs:aJ}{a:Act}{aM:Nat}{st ak:aj}{w:f5}{U:Oper}{v:bv}{call:bM}
theorem OU(P:f8)(w:f5)(b:Nat)(C:bi bv)(e:co)(bT:Nat×Nat)(h:w.heap[b]? =some (.cells C e bT)):∀(bQ:ac Int) (U:Nat) (j:f9),(C.toList.drop U).take bQ.length=bQ.map (Value.int .u8)->
 (loadBytes ⟨b,U,none⟩ j bQ.length).run P w= .ok ⟨⟨j.data.toList++bQ.map λn=>UInt8.ofNat n.toNat⟩⟩ w
 |[],U,j,_=>by simp[loadBytes]
 |n::bQ,U,j,aS=>by
  have g:C[U]? =some (.int .u8 n):=by
   have:=congrArg (λl=>l[0]?) aS;simpa using this
  have aT:U<C.toList.length:=by
   grind
  have q:(C.toList.drop<|U+1).take bQ.length=bQ.map (Value.int .u8):=by
   rw[gp aT]at aS
   grind
  simp[hN,loadBytes,Sem.run_bind,run_load,cell_of h,g,Result.andThen,add_eq];rw[OU P w b C e bT h bQ (U+1) _ q]
  simp_all
theorem abw{x y:ce}{E D:co}{i:gc}(ae:fX X.a3 x=true)(aq:fX X.a3 y=true)(aB:U.op= .call {callee:=.builtin .unsafeString,args:= #[x,y],argTypes:= #[E,D]})(aI:X.P.underlying E=some (.pointer e))
 (af:X.P.info? e=some i) (an:i.size=1) (F:eK ab o a aM) (A:bN X ab st w) (h:DT e x y call o st= .ok v bs ak):bs=o/\mv X ab w v ak (execOp a.eval U):=by
 obtain⟨p,hp,cE⟩:=AL h av;obtain⟨k,cb,ah,ao⟩:=nD cE av;obtain⟨n,g,a2⟩:=pe ao av;subst g;have M:=F.ar A ae;rw[hp]at M;generalize aJ:a.eval x=aR at M;have T:=F.ar A aq;rw[ah]at T;generalize aL:a.eval y=aZ at T;cases T;have Y:X.P.cellsOf e=1:=by simp[Program.cellsOf,af,an]
 have O:∀{bD:bv} {w':f5},(Builtin.unsafeString_ #[E,D] U.type #[a.eval x,a.eval y]).run X.P w= .ok bD w'->(execOp a.eval U).run X.P w= .ok (.value bD) w':=by
  intro bD w' az;unfold execOp;rw[aB];simp[resolve,xI,jj,xJ,Sem.run_bind,Sem.run_pure,Result.andThen,invoke,builtin,az]
 rw[aJ,aL]at O;have ai:¬((n:Int)<0):=R
 have S:∀p:be Addr,∃(I:String) (H:RuntimeError) (K:Unsupported) (L:RuntimeError) (N:Unsupported),Builtin.unsafeString_ #[E,D] U.type #[.pointer p,.int k n]=(do
  let r<-asInt (.int k n)
  let some e:=(#[E,D]:bi co)[0]? |stuck I
  if r<0 then runtimePanic H
  if r>IntKind.i64.max then unsupported K
  match p with
  |none=>if r=0 then pure (.string .empty)else runtimePanic L
  |some q=>if r=0 then pure (.string .empty)else if<-variablesAt q (<-elemOf e) r.toNat then do let s<-loadBytes q .empty r.toNat;freeze q r.toNat;pure (.string s)else unsupported N):=λp=>⟨default,_,_,_,_,j⟩
 rw[lO]at a2;split at a2
 ·rename_i bX;subst bX;cases a2;cases M with
  |kV=>
   refine⟨j,mv.same (bD:=.string .empty) A (O ?_)<|.string _⟩;obtain⟨I,H,K,L,N,G⟩:=S _;rw[G];simp[asInt,asIntOf]
  |ptr ca l aD a0=>
   refine⟨j,mv.same (bD:=.string .empty) A (O ?_)<|.string _⟩;obtain⟨I,H,K,L,N,G⟩:=S _;rw[G];simp[asInt,asIntOf]
 ·rename_i bX;obtain⟨ca,g,cD⟩:=hS a2 av;subst g;obtain⟨aY,cX⟩:=iS cD av;obtain⟨aW,cs,el,bT,aU,V,et⟩:=yj cX av;obtain⟨B,fs⟩:=iS et av;obtain⟨aO,my⟩:=kg fs av;obtain⟨aF,ow⟩:=rA my av;obtain⟨bZ,aA,pj⟩:=hS ow av;rw[iH]at pj;cases pj;subst aO;obtain⟨l,aD,C,fh,aS⟩:=A.er _ _ V av;have aT:=aS.room<|.inl B;obtain⟨bQ,g,iW⟩:=I2 aA;rw[k7]at aF;cases M with
  |ptr _ bp W a1=>
   rw[aD]at W;cases W;have a':=aS.row ca.off n (by grind);rw[g]at a';have aE:=IS a';have aa:bQ.length=n:=by
    have:=congrArg List.length g;simp at this;omega
   have Z:=OU X.P w l.ct C el fh (aS.vX<|.inl B) bQ (l.c5+ca.off) .empty (by rw[aa];exact aE);rw[aa]at Z;have ax:(variablesAt ⟨l.ct,l.c5+ca.off,none⟩ el n).run X.P w= .ok true w:=by
    simp[variablesAt,Sem.run_bind,run_program,Result.andThen,run_shape,Eb<|aS.vX<|.inl B,Sem.run_pure];rw[OR X.P el _ _ n R (by rw[Y];omega)<|by rw[Y];omega]
   have aH:=(tu.1<|aS.vX<|.inl B).1
   let Q:Nat×Nat:=if fh.1==fh.2 then(l.c5+ca.off,l.c5+ca.off+n)else(min fh.1<|l.c5+ca.off,max fh.2<|l.c5+ca.off+n)
   have aP:(w.freeze ⟨l.ct,l.c5+ca.off,none⟩ n).heap=w.heap.setIfInBounds l.ct (.cells C el Q):=by
    simp[World.freeze,aw bX];apply HQ;intro J;rw[Array.getElem?_modify];by_cases aK:l.ct=J
    ·subst aK;rw[(aS.vX<|.inl B)];simp[aH,Q]
    ·grind
   obtain⟨aN,D⟩:=bN.yl X A V av (λF=>by have F:_<_:=F;omega) aD (.cells cs el (ca.off,Nat.add ca.off n) aU) _ (w.freeze ⟨l.ct,l.c5+ca.off,none⟩ n) aP (λ_ au=>⟨C,Q,⟨⟨_,au,λ_=>j⟩,aS.iU,λ_=>aS.room<|.inl B,aS.cell,λaC=>by
    exfalso;have:ca.off+n<=ca.off:=aC;omega,aS.plain⟩⟩)<|by constructor<;>simp[World.freeze,aw bX]
   refine⟨j,ab,.value<|.string ⟨⟨bZ⟩⟩,_,O ?_,.inl ⟨_,j,.string _⟩,aN,D⟩;obtain⟨I,H,K,L,N,G⟩:=S _;rw[G];have ay:¬(n>IntKind.i64.max):=by
    have:IntKind.i64.max=9223372036854775807:=al
    omega
   have aj:¬((n:Int)=0):=R
   simp only[asInt,asIntOf,Sem.run_bind,Sem.run_pure,Result.andThen,z0,z1,aw ai,aw ay,aw aj,elemOf,run_underlying aI,ax,xK,if_true,Z];rw[iW];simp
end
end Go.bA
namespace Go.bA
variable{a b:ce}{a3:Nat}
def I3:ce->Bool
 |.const _=>true
 |_=>false
def Ec:ce->ce->Bool
 |.tmp a,.tmp b=>Nat.beq a b
 |.const v,.const w=>dm v w
 |.global a,.global b=>Nat.beq a b
 |.func a,.func b=>Nat.beq a b
 |_,_=>false
def abx(h:Ec a b=true):a=b:=by
 cases a<;>cases b<;>simp only[Ec]at h<;>first|(cases h)|(rw[dM h])|(rw[jH _ _ h])
def c0(a3:Nat)(a b:ce):Bool:=Ec a b&&fX a3 b
def rE(h:c0 a3 a b=true):a=b/\fX a3 b=true:=by
 unfold c0 at h;rw[cO]at h;exact⟨abx h.1,h.2⟩
def lQ{a b:Nat}:Nat.beq a b=true↔a=b:=⟨dM,λh=>h▸kO a⟩
def Ed:c0 a3 a b=true↔a=b/\fX a3 b=true:=
 ⟨rE,λ⟨e,h⟩=>by subst e;unfold c0;rw[h];cases a<;>simp[Ec,oj]⟩
def mz(a3:Nat):ac ce->ac ce->Bool
 |[],[]=>true
 |a::as,b::bZ=>c0 a3 a b&&mz a3 as bZ
 |_,_=>false
theorem A3{a3:Nat}:∀{as bZ:ac ce},mz a3 as bZ=true↔as=bZ/\∀x∈bZ,fX a3 x=true
 |[],[]=>by simp[mz]
 |a::as,b::bZ=>by simp[mz,cO,Ed,A3];grind
 |[],_::_=>by simp[mz]
 |_::_,[]=>by simp[mz]
def rF(a3:Nat):be ce->be ce->Bool
 |none,none=>true
 |some a,some b=>c0 a3 a b
 |_,_=>false
def aby{a b:be ce}:rF a3 a b=true↔a=b/\∀y,b=some y->fX a3 y=true:=by
 cases a<;>cases b<;>simp[rF,Ed]
def tY(a3:Nat)(j:Nat->be (Nat×Nat)):ac (Nat×Nat×ce)->ac (Nat×ce)->Bool
 |[],[]=>true
 |(off,g,x)::a8,(i,y)::ju=>
  (match j i with
   |some (U,s)=>Nat.beq off U&&Nat.beq g s
   |none=>false)&&c0 a3 x y&&tY a3 j a8 ju
 |_,_=>false
theorem Ee{a3:Nat}{D:Nat->be (Nat×Nat)}:∀{a8:ac (Nat×Nat×ce)} {ju:ac (Nat×ce)},tY a3 D a8 ju=true->
 a8=ju.map (λp=>(((D p.1).getD (0,0)).1,((D p.1).getD (0,0)).2,p.2))/\∀p∈ju,(D p.1).isSome/\fX a3 p.2=true
 |[],[],_=>⟨j,av⟩
 |(off,B,x)::a8,(i,y)::ju,h=>by
  simp[tY,cO]at h;obtain⟨⟨aF,aL⟩,g⟩:=h;obtain⟨A,E⟩:=rE aL;obtain⟨F,G⟩:=Ee g;cases hp:D i with
  |none=>rw[hp]at aF;cases aF
  |some q=>
   rw[hp]at aF;simp only[cO]at aF;have H:=dM aF.1;have C:=dM aF.2
   grind
 |[],_::_,h=>by simp[tY]at h
 |_::_,[],h=>by simp[tY]at h
section
variable(P:f8)(a3:Nat)(kR lb:d7->Bool)(keys:co->be fr)(pg:d7->Bool)(eqs:co->be Nat)(ph:d7->Bool)(lj:Nat)
def hl(t:co)(n:Nat):Bool:=(P.info? t).any λi=>Nat.beq n i.size
def yn(t:co)(g:Bool):Bool:=(P.underlying t).any λd=>AV d==g
def I4(t:co)(z:bv):Bool:=((P.info? t).bind (·.zero)).any λv=>dm z v&&ki z
def Ef(t:co)(z:ac bv):Bool:=((P.info? t).bind (·.zero)).any λv=>oi z v.cells.toList&&vZ z
variable{P}{t:co}
def qs{n:Nat}:hl P t n=true↔∃i,P.info? t=some i/\n=i.size:=by
 unfold hl;cases P.info? t<;>simp
def I5{g:Bool}:yn P t g=true↔∃d,P.underlying t=some d/\AV d=g:=by
 unfold yn;cases P.underlying t<;>simp
def OV{z:bv}(h:I4 P t z=true):ki z=true/\∃i,P.info? t=some i/\i.zero=some z:=by
 obtain⟨v,h,g⟩:=(p1 _ _).1 h;rw[cO]at g;rw[<-jH _ _ g.1]at h;exact⟨g.2,q8.1 h⟩
def I6{z:ac bv}(h:Ef P t z=true):vZ z=true/\∃i v,P.info? t=some i/\i.zero=some v/\z=v.cells.toList:=by
 obtain⟨v,h,g⟩:=(p1 _ _).1 h;rw[cO]at g;obtain⟨i,h,e⟩:=q8.1 h;exact⟨g.2,i,v,h,e,As _ _ g.1⟩
variable(P)
def I7(t:co)(e:p9)(x y:ce):Bool:=
 match e,P.underlying t with
 |.xZ,some .bool=>true
 |.lL,some (.slice _)=>true
 |.Ip,some (.map _ _)=>true
 |.DB,some (.func _ _ _)=>true
 |.DC,some (.interface _)=>I3 x||I3 y
 |.ptr,some (.pointer el)=>(P.info? el).any λi=> !Nat.beq i.size 0
 |_,_=>false
def I8:fr->fr->Bool
 |.int k,.int g=>decide (k=g)
 |.str,.str=>true
 |.arr k n,.arr g h=>decide (k=g)&&Nat.beq n h
 |_,_=>false
def A4(t:co)(cp:fr):Bool:=
 match P.underlying t with
 |some (.map hG _)=>(keys hG).any (I8 · cp)
 |_=>false
def Eg(t:co):Bool:=match P.underlying t with
 |some (.map _ _)=>true
 |_=>false
def A5(op:Op)(y:tG):Bool:=
 match y,op with
 |.look cp z ok m k,.lookup t h j D=>c0 a3 m h&&c0 a3 k j&&(ok==D)&&A4 P keys t cp&&(match P.underlying t with|some (.map _ e)=>I4 P e z|_=>false)
 |.eO cp m k v,.mapUpdate t h j bD|.eO cp m k v,.insert t h j bD=>c0 a3 m h&&c0 a3 k j&&c0 a3 v bD&&A4 P keys t cp
 |.del cp m k,.call {callee:=.builtin .delete,args:=⟨[h,j]⟩,argTypes:=⟨[t,_]⟩}=>c0 a3 m h&&c0 a3 k j&&A4 P keys t cp
 |.vG m,.call {callee:=.builtin .len,args:=⟨[h]⟩,argTypes:=⟨[t]⟩}=>c0 a3 m h&&Eg P t
 |.tH m,.range t h=>c0 a3 m h&&Eg P t
 |.vH i,.entry B=>c0 a3 i B
 |.nx i,.next B false=>c0 a3 i B
 |.x0 gt a b,.binOp C t q A _=>decide (C=(if gt then .gtr else .leq))&&c0 a3 a q&&c0 a3 b A&&(match P.underlying t with|some (.int .i64)=>true|_=>false)
 |.idxs g a c,.call {callee:=.value<|.func f,args:=⟨[b,d]⟩,.. }=>c0 a3 a b&&c0 a3 c d&&ph f&&Nat.beq g lj
 |.aX a c,.call {callee:=.value<|.func f,args:=⟨[b,d]⟩,.. }=>c0 a3 a b&&c0 a3 c d&&pg f
 |.tI neg n a b,.binOp C t q A _=>decide (C=(if neg then .neq else .eql))&&c0 a3 a q&&c0 a3 b A&&(eqs t).any (Nat.beq n)
 |_,_=>false
def OW(op:Op)(x:c7):Bool:=
 match x,op with
 |.jl a,.move b|.jl a,.assign b=>c0 a3 a b
 |.pick c a b,.pick K B C=>c0 a3 c K&&c0 a3 a B&&c0 a3 b C
 |.alloc z e,.alloc t=>Nat.beq e t&&Ef P t z
 |.box e a,.box t b=>Nat.beq e t&&c0 a3 a b
 |.build z a8,.build t parts=>Ef P t z&&(match P.underlying t with
  |some (.struct D)=>D.toList.all (λf=>(P.info? f.type).isSome)&&tY a3 (λJ=>(D.map λf=>(f.offset,P.cellsOf f.type))[J]?) a8 parts.toList
  |some (.array _ e)=>(P.info? e).any λi=>tY a3 (λJ=>some (J*i.size,i.size)) a8 parts.toList
  |_=>false)
 |.qa e n z a8,.buildSlice t m parts=>Nat.beq n m&&(match P.underlying t with
  |some (.slice el)=>Nat.beq e el&&(match P.info? el with
   |some i=>(i.zero).any λv=>Nat.ble (m*i.size) (2^24)&&oi z ((List.range<|m*i.size).map λJ=>(if m*i.size=0 then(#[]:bi bv)else v.cells)[J%(if m*i.size=0 then(#[]:bi bv)else v.cells).size]!)&&vZ z&&
    tY a3 (λJ=>some (J*i.size,i.size)) a8 parts.toList
   |_=>false)
  |_=>false)
 |.h2 a,.load t b=>c0 a3 a b&&yn P t false
 |.mi n a,.load t b=>c0 a3 a b&&yn P t true&&hl P t n
 |.store n a x,.store t b y=>c0 a3 a b&&c0 a3 x y&&hl P t n
 |.tJ a,.nilCheck b=>c0 a3 a b
 |.bin U a b,.binOp I _ B C _=>decide (U=I)&&c0 a3 a B&&c0 a3 b C
 |.eqv neg e a b,.binOp I t B C _=>decide (I=(if neg then .neq else .eql))&&c0 a3 a B&&c0 a3 b C&&I7 P t e B C
 |.un U a,.unOp I _ b=>decide (U=I)&&c0 a3 a b
 |.tK k a,.convert s t b=>c0 a3 a b&&(match P.underlying s,P.underlying t with|some _,some (.int O)=>decide (k=O)|_,_=>false)
 |.x2 a,.convert s t b=>c0 a3 a b&&(match P.underlying s,P.underlying t with|some _,some .string=>true|_,_=>false)
 |.Ap a,.convert s t b=>c0 a3 a b&&(match P.underlying s,P.underlying t with|some (.slice e),some .string=>(match P.underlying e with|some (.int .u8)=>true|_=>false)|_,_=>false)
 |.vI e a,.convert s t b=>c0 a3 a b&&(match P.underlying s,P.underlying t with|some .string,some (.slice q)=>Nat.beq e q&&hl P q 1&&(match P.underlying q with|some (.int .u8)=>true|_=>false)|_,_=>false)
 |.DG t a,.makeInterface E b=>Nat.beq t E&&c0 a3 a b&&(match P.underlying E with|some (.interface _)=>false|some _=>true|none=>false)
 |.rj (.func f) a c,.makeFunc (.func g) b d=>Nat.beq f g&&mz a3 a b.toList&&mz a3 c d.toList
 |.rj (.method f) a c,.makeFunc (.method g) b d=>f==g&&mz a3 a b.toList&&mz a3 c d.toList
 |.rk e bZ z l c,.makeSlice t R K=>c0 a3 l R&&c0 a3 c K&&(match P.underlying t with
  |some (.slice el)=>Nat.beq e el&&Ef P el z&&(P.info? el).any λi=>Nat.beq bZ i.bytes&& !Nat.beq i.size 0&&Nat.beq z.length i.size
  |_=>false)
 |.sr a bg af,.slice t b F A none=>c0 a3 a b&&rF a3 bg F&&rF a3 af A&&(match P.underlying t with|some .string=>true|_=>false)
 |.vJ n s a bg af gN,.slice t b F A G=>c0 a3 a b&&rF a3 bg F&&rF a3 af A&&rF a3 gN G&&(G.isNone||A.isSome)&&
  (match P.underlying t with|some (.array H e)=>Nat.beq n H&&hl P e s|_=>false)
 |.ny s a bg af gN,.slice t b F A G=>c0 a3 a b&&rF a3 bg F&&rF a3 af A&&rF a3 gN G&&(G.isNone||A.isSome)&&
  (match P.underlying t with|some (.slice e)=>hl P e s|_=>false)
 |.qb M a,.fieldAddr t b f=>c0 a3 a b&&(match P.underlying t with
  |some (.struct D)=>(match D[f]? with|some fd=>Nat.beq M fd.offset&&(P.info? fd.type).any (λi=> !Nat.beq i.size 0)|none=>false)
  |_=>false)
 |.o5 M h L a,.field t b f=>c0 a3 a b&&(match P.underlying t with
  |some (.struct D)=>(match D[f]? with|some fd=>Nat.beq M fd.offset&&hl P fd.type h&&yn P fd.type L|none=>false)
  |_=>false)
 |.rl n h a i,.indexAddr t b J=>c0 a3 a b&&c0 a3 i J&&(match P.underlying t with|some (.array H e)=>Nat.beq n H&&hl P e h|_=>false)
 |.h3 h a i,.indexAddr t b J=>c0 a3 a b&&c0 a3 i J&&(match P.underlying t with|some (.slice e)=>hl P e h|_=>false)
 |.tL a i,.index t b J=>c0 a3 a b&&c0 a3 i J&&(match P.underlying t with|some .string=>true|_=>false)
 |.Ir n h L a i,.index t b J=>c0 a3 a b&&c0 a3 i J&&(match P.underlying t with|some (.array H e)=>Nat.beq n H&&hl P e h&&yn P e L|_=>false)
 |.DH t z ok a,.typeAssert b _ E N=>c0 a3 a b&&Nat.beq t E&&(ok==N)&&(match P.underlying E with|some (.interface _)=>false|some _=>true|none=>false)&&I4 P E z
 |.rm a i,.extract b J=>c0 a3 a b&&Nat.beq i J
 |.call f as,.call {callee:=.value g,args,.. }=>c0 a3 f g&&mz a3 as args.toList&&(match g with|.func k=>((P.funcs[k]?).map λfn=>fn.body.isSome&& !(fn.name== "runtime.NumGoroutine")).getD false|_=>true)
 |.o6 a,.call {callee:=.builtin .len,args:=⟨[b]⟩,argTypes:=⟨[t]⟩}=>c0 a3 a b&&(match P.underlying t with|some (.slice _)=>true|_=>false)
 |.vK a,.call {callee:=.builtin .len,args:=⟨[b]⟩,argTypes:=⟨[t]⟩}=>c0 a3 a b&&(match P.underlying t with|some .string=>true|_=>false)
 |.Aq n,.call {callee:=.builtin .len,args:=⟨[_]⟩,argTypes:=⟨[t]⟩}=>(match P.underlying t with|some (.array m _)=>Nat.beq n m|some (.pointer u)=>(match P.underlying u with|some (.array m _)=>Nat.beq n m|_=>false)|_=>false)
 |.app e h bZ s a,.call {callee:=.builtin .append,args:=⟨[rC,b]⟩,argTypes:=⟨[t,u]⟩}=>c0 a3 s rC&&c0 a3 a b&&(match P.underlying t,P.underlying u with
  |some (.slice el),some d=>Nat.beq e el&&(match d with|.int _=>false|_=>true)&&(match P.info? el with
   |some i=>Nat.beq h i.size&&Nat.beq bZ i.bytes&&(i.zero).any (λv=>Nat.beq v.cells.size i.size)
   |none=>false)
  |_,_=>false)
 |.gN a as,.call {callee:=.builtin .max,args:=⟨b::bZ⟩,.. }=>c0 a3 a b&&mz a3 as bZ
 |.Ar a as,.call {callee:=.builtin .min,args:=⟨b::bZ⟩,.. }=>c0 a3 a b&&mz a3 as bZ
 |.ss h d s,.call {callee:=.builtin .copy,args:=⟨[Q,rC]⟩,argTypes:=⟨[t,_]⟩}=>c0 a3 d Q&&c0 a3 s rC&&(match P.underlying t with|some (.slice e)=>hl P e h|_=>false)
 |.tM,.call {callee:=.builtin .recover,args:=⟨[]⟩,.. }=>true
 |.o7 f as,.defer {callee:=.value g,args,.. }=>c0 a3 f g&&mz a3 as args.toList
 |.nz a,.panic b=>c0 a3 a b
 |.DI a,.convert s t b=>c0 a3 a b&&(match P.underlying s,P.underlying t with|some (.pointer e),some .unsafePointer=>(P.info? e).any (λi=> !Nat.beq i.size 0)|_,_=>false)
 |.DJ e n a,.convert s t b=>c0 a3 a b&&(match P.underlying s,P.underlying t with|some .unsafePointer,some (.pointer q)=>Nat.beq e q&&hl P q n&& !Nat.beq n 0|_,_=>false)
 |.DK a,.call {callee:=.builtin .unsafeSliceData,args:=⟨[b]⟩,argTypes:=⟨[_]⟩}=>c0 a3 a b
 |.tN e a n,.call {callee:=.builtin .unsafeString,args:=⟨[b,m]⟩,argTypes:=⟨[t,_]⟩}=>c0 a3 a b&&c0 a3 n m&&(match P.underlying t with|some (.pointer q)=>Nat.beq e q&&hl P q 1|_=>false)
 |.lb a c,.call {callee:=.value<|.func f,args:=⟨[b,d]⟩,.. }=>c0 a3 a b&&c0 a3 c d&&lb f
 |.kR a,.call {callee:=.value<|.func f,args:=⟨[b]⟩,.. }=>c0 a3 a b&&kR f
 |.o4,.makeMap _ none=>true
 |.x3 _,_=>true
 |.ext y,op=>A5 P a3 keys pg eqs ph lj op y
 |.refuse,_=>true
 |_,_=>false
end
end Go.bA
namespace Go.bA
variable{X:Ctx}
variable{a:Nat}
def c7.inPlace:c7->Bool
 |.call _ _|.inv _ _ _|.tM|.o7 _ _|.nz _=>false
 |_=>true
def Ctx.pk(X:Ctx)(op:Op)(x:c7):Bool:=OW X.P X.a3 X.kR X.lb X.keys X.pg X.eqs X.ph X.lj op x
def pn{b:Nat}(h:Nat.beq a b=true):a=b:=dM h
def A6(h:(!Nat.beq a 0)=true):a≠0:=by intro e;subst e;simp at h
def tG.po:tG->Bool
 |.look _ _ _ _ _|.vG _|.vH _|.aX _ _|.tI _ _ _ _|.x0 _ _ _|.idxs _ _ _=>true
 |_=>false
def c7.po:c7->Bool
 |.ext y=>y.po
 |.alloc _ _|.box _ _|.qa _ _ _ _|.store _ _ _|.vI _ _|.o4|.rk _ _ _ _ _|.call _ _|.inv _ _ _|.x3 _|.app _ _ _ _ _|.ss _ _ _|.tM|.o7 _ _|.nz _|.tN _ _ _|.refuse=>false
 |_=>true
def c7.qt:c7->Bool
 |.alloc _ _|.box _ _|.qa _ _ _ _|.vI _ _|.rk _ _ _ _ _|.o4=>true
 |_=>false
def qu(X:Ctx)(x:c7)(ab:bF)(w:f5)(v:bv)(st ak:aj)(s:Sem Next):Prop:=
 mv X ab w v ak s/\(x.po=true->nF X ab w v st ak s)/\(x.qt=true->D3 X ab w v st ak s)
section
variable{p:Prop}{x:c7}{ab:bF}{w:f5}{v:bv}{st ak:aj}{s:Sem Next}
def I9(h:p/\nF X ab w v st ak s)(j:x.qt=false):p/\qu X x ab w v st ak s:=⟨h.1,h.2.ym,λ_=>h.2,λe=>by rw[j]at e;cases e⟩
def Ja(h:p/\D3 X ab w v st ak s)(j:x.po=false):p/\qu X x ab w v st ak s:=⟨h.1,h.2.ym,λe=>(by rw[j]at e;cases e),λ_=>h.2⟩
def yo(h:p/\mv X ab w v ak s)(j:x.po=false)(D:x.qt=false):p/\qu X x ab w v st ak s:=⟨h.1,h.2,λe=>(by rw[j]at e;cases e),λe=>by rw[D]at e;cases e⟩
end
structure hH(X:Ctx)(ab:bF)(o:aJ)(a:Act)(aM:Nat)(st:aj)(w:f5):Prop where
 f:eK ab o a aM
 w:bN X ab st w
section
variable{ab:bF}{o bs:aJ}{a:Act}{aM:Nat}{st ak:aj}{w:f5}{U:Oper}{v bD:bv}{x:ce}{y:c7}{β:Type}{r z arH:β}
variable{n b:Nat}
def hH.ar(q:hH X ab o a aM st w)(k:fX X.a3 x=true):bc ab (o.ar x) (a.eval x):=q.f.ar q.w k
def hH.of(q:hH X ab o a aM st w)(k:fX X.a3 x=true)(e:o.ar x=v):∃u,a.eval x=u/\bc ab v u:=⟨_,j,e▸q.ar k⟩
def hH.int(q:hH X ab o a aM st w)(k:fX X.a3 x=true){K:f6->Int->β}(h:fL (o.ar x) K z=r)(j:z≠r:=by simp):∃i n,o.ar x= .int i n/\a.eval x= .int i n/\K i n=r:=by
 obtain⟨i,n,e,h⟩:=nD h j;obtain⟨u,g,d⟩:=q.of k e;cases d;exact⟨i,n,e,g,h⟩
def hH.nat(q:hH X ab o a aM st w)(k:fX X.a3 x=true){K:f6->Nat->β}(h:fL (o.ar x) (λi n=>ht n (K i) z) z=r)(j:z≠r:=by simp):∃i n,o.ar x= .int i (n:Nat)/\a.eval x= .int i n/\K i n=r:=by
 obtain⟨i,n,e,g,h⟩:=q.int k h j;obtain⟨m,rfl,h⟩:=pe h j;exact⟨i,m,e,g,h⟩
def hH.bool(q:hH X ab o a aM st w)(k:fX X.a3 x=true){K:Bool->β}(h:jX (o.ar x) K z=r)(j:z≠r:=by simp):∃b,o.ar x= .bool b/\a.eval x= .bool b/\K b=r:=by
 obtain⟨i,e,h⟩:=OB h j;obtain⟨u,g,d⟩:=q.of k e;cases d;exact⟨i,e,g,h⟩
def hH.str(q:hH X ab o a aM st w)(k:fX X.a3 x=true){K:f9->β}(h:hD (o.ar x) K z=r)(j:z≠r:=by simp):∃s,o.ar x= .string s/\a.eval x= .string s/\K s=r:=by
 obtain⟨i,e,h⟩:=ye h j;obtain⟨u,g,d⟩:=q.of k e;cases d;exact⟨i,e,g,h⟩
theorem hH.agg(q:hH X ab o a aM st w)(k:fX X.a3 x=true){K:bi bv->β}(h:rq (o.ar x) K z=r)(j:z≠r:=by simp):∃xs aQ,a.eval x= .agg aQ/\bI ab xs.toList aQ.toList/\K xs=r:=by
 obtain⟨i,e,h⟩:=AM h j;obtain⟨u,g,d⟩:=q.of k e;cases d with
 |agg _ aQ A B=>exact⟨i,aQ,g,.tU A B,h⟩
def hH.aK(q:hH X ab o a aM st w)(k:fX X.a3 x=true){K:be Addr->Nat->Nat->β}(h:hE (o.ar x) K z=r)(j:z≠r:=by simp):∃b n c u,a.eval x=u/\bc ab (.slice b n c) u/\K b n c=r:=by
 obtain⟨b,n,c,e,h⟩:=yf h j;obtain⟨u,g,d⟩:=q.of k e;exact⟨b,n,c,u,g,d,h⟩
theorem hH.ptr(q:hH X ab o a aM st w)(k:fX X.a3 x=true){K:Addr->β}(h:hi (o.ar x) (λp=>bn p K z) z=r)(j:z≠r:=by simp):
 ∃ca l,ca.spot=none/\ab ca.block=some l/\a.eval x= .pointer (some ⟨l.ct,l.c5+ca.off,none⟩)/\K ca=r:=by
 obtain⟨p,e,h⟩:=AL h j;obtain⟨ca,rfl,h⟩:=hS h j;obtain⟨u,g,d⟩:=q.of k e;cases d with
 |ptr _ l B A=>exact⟨ca,l,A,B,g,h⟩
theorem hH.rG(q:hH X ab o a aM st w)(k:fX X.a3 x=true){K:Addr->ac bv->co->Nat×Nat->Bool->β}(h:hi (o.ar x) (λp=>bn p (λca=>st.fM ca (K ca) z) z) z=r)(j:z≠r:=by simp):
 ∃ca l cs e bT aU C fh,ca.spot=none/\ab ca.block=some l/\a.eval x= .pointer (some ⟨l.ct,l.c5+ca.off,none⟩)/\st.h.get ca.block=some (.cells cs e bT aU)/\mq X.P ab w cs e bT aU l C fh/\K ca cs e bT aU=r:=by
 obtain⟨ca,l,B,F,g,h⟩:=q.ptr k h j;obtain⟨_,cs,e,bT,aU,A,h⟩:=yj h j;obtain⟨G,D,C,fh,E⟩:=q.w.er _ _ A av
 grind
def Jb{ca:Addr}{l:Loc}(h:ab ca.block=some l)(j:ca.spot=none)(n:Nat):bc ab (.pointer<|some<|ca.add n) (.pointer<|some<|Addr.add ⟨l.ct,l.c5+ca.off,none⟩ n):=by
 have:=bc.ptr (ca.add n) l (by rw[AZ];exact h)<|A0 ca n j;rw[D4]at this;rw[add_eq,q7];exact this
theorem abz{gN af:be ce}(h:(gN.isNone||af.isSome)=true):gN.map a.eval≠none->af.map a.eval≠none:=by cases gN<;>cases af<;>simp_all
def Jc(h:su v=false):v≠iR:=by rintro rfl;cases h
def Jd{aG:bF}{ex:Nat}(h:aG n=some ⟨b,0,ex,id⟩):bc aG (.pointer<|some ⟨n,0,none⟩) (.pointer<|some ⟨b,0,none⟩):=.ptr ⟨n,0,none⟩ _ h j
def Je{ex:Nat}(i c:Nat)(aG:bF)(h:aG n=some ⟨b,0,ex,id⟩):bc aG (.slice (some ⟨n,0,none⟩) i c) (.slice (some ⟨b,0,none⟩) i<|c+ex):=.fg ⟨n,0,none⟩ _ 0 i c h j mw
theorem hH.rd(q:hH X ab o a aM st w)(F:bc ab v bD)(E:(execOp a.eval U).run X.P w= .ok (.value bD) w:=by simp[*])(D:y.qt=false:=by rfl):o=o/\qu X y ab w v st st (execOp a.eval U):=I9 ⟨j,j,q.w,bD,E,F⟩ D
theorem hH.gq(q:hH X ab o a aM st w){e:co}{cs g:ac bv}{V:Nat->bv}(h:st.ib (.cells cs e (0,0) false) (λid st=>a1.ok (V id) o st)= .ok v bs ak)(aS:bI ab cs g)(F:∀aG:bF,aG st.ae=some ⟨w.heap.size,0,0,id⟩->bc aG (V st.ae) bD)
 (E:(execOp a.eval U).run X.P w= .ok (.value bD) {w with heap:=w.heap.push<|.cells g.toArray e}:=by simp[*]) (D:y.po=false:=by rfl):bs=o/\qu X y ab w v st ak (execOp a.eval U):=by
 rw[gF]at h;cases h;obtain⟨aG,bH,A,B,C⟩:=q.w.aa9 e aS {w with heap:=w.heap.push<|.cells g.toArray e} rfl;subst C;exact Ja ⟨j,_,_,_,bD,_,j,av,E,j,F _ B,bH,A⟩ D
end
section
variable{ab:bF}{a:Act}{w:f5}{U:Oper}{neg b:Bool}{e:p9}{x y:ce}{t OX:co}{OY OZ u sB:bv}
theorem O0(E:U.op= .binOp (if neg then .neq else .eql) t x y OX)(g:a.eval x=u)(F:a.eval y=sB)(aF:∀n,(Op.equalIn (n+1) t u sB).run X.P w= .ok b w)(aL:∀op,(eqGuard op t x y u sB).run X.P w= .ok () w:=by intro op;cases op<;>first|(simp[eqGuard];done)|(cases x<;>cases y<;>simp_all [I3,eqGuard]))
 (D:binOp .eql t u sB=(do pure (.bool<|<-Op.equal t u sB)):=by rfl) (j:binOp .neq t u sB=(do pure (.bool<|!(<-Op.equal t u sB))):=by rfl):(execOp a.eval U).run X.P w= .ok (.value<|.bool<|cond neg (!b) b) w:=by
 have aF:(Op.equal t u sB).run X.P w= .ok b w:=aF 9999;cases neg<;>simp[execOp,E,g,F,aF,aL,D,j,Result.andThen]
theorem abA(E:U.op= .binOp (if neg then .neq else .eql) t x y OX)(D:I7 X.P t e x y=true)(aA:jY 8 e OY OZ=some b)(d:bc ab OY (a.eval x))(j:bc ab OZ (a.eval y)):
 (execOp a.eval U).run X.P w= .ok (.value<|.bool<|cond neg (!b) b) w:=by
 generalize g:a.eval x=u at d;generalize q:a.eval y=sB at j;unfold I7 at D;split at D<;>try cases D
 all_goals simp only[jY,AA,ru,Om,Iw,On,vP]at aA
 all_goals split at aA<;>try cases aA
 all_goals first
  |(cases d<;>cases j<;>refine O0 E g q (λn=>?_)<;>simp[*,Op.equalIn,underlying,Result.andThen];done)
  |skip
 ·split at aA<;>cases aA;subst ‹_=_›;cases d;cases j;cases neg<;>simp[execOp, *,eqGuard,binOp,Op.intCmp,bne]
 ·cases d;cases j;cases neg<;>simp[execOp, *,eqGuard,binOp,Op.stringOp,toList_eq]
 ·obtain⟨i,af,h⟩:=(p1 _ _).1 D;have h:=A6 h;split at aA<;>cases aA;rename_i B;cases d with
  |ptr _ l A F=>
   cases j with
   |ptr _ G C H=>
    rw[B.1,C]at A;cases A;exact O0 E g q<|by simp[*,Op.equalIn,underlying,sizeOf,typeInfo,sameAddr,Result.andThen];rw[oX];simp
end
section
variable{α β:Type}{r z:β}
variable{U:be bz}
def abB{v:bv}{k:be Nat->β}(h:om v k z=r)(D:z≠r):∃p,v= .map p/\k p=r:=by
 cases v<;>first|exact absurd h D|exact⟨_,j,h⟩
def Jf{k:ac f7->Nat->β}(h:jo U k z=r)(D:z≠r):∃es c,U=some (.map es c)/\k es c=r:=by
 obtain⟨U,rfl,h⟩:=hS h D;cases U<;>first|exact absurd h D|exact⟨_,_,j,h⟩
def O1{k:be Nat->Nat->ac Nat->Nat->β}(h:AE U k z=r)(D:z≠r):∃a b c d,U=some (.mj a b c d)/\k a b c d=r:=by
 obtain⟨U,rfl,h⟩:=hS h D;cases U<;>first|exact absurd h D|exact⟨_,_,_,_,j,h⟩
end
variable{es:ac f7}{k:bv}{ab:bF}{cp:fr}{clock lP:Nat}{v bD:bv}{e:f7}{J:Nat}{c:f7}
def fr.same(h:cp.ok v=true)(j:bc ab v bD):bD=v:=by
 cases cp with
 |int k=>
  obtain⟨A,n,rfl,_⟩:=nD h al;cases j;rfl
 |str=>
  obtain⟨s,rfl,_⟩:=ye h al;cases j;rfl
 |arr k n=>
  obtain⟨xs,rfl,g⟩:=AM h al;rw[cO,il]at g;cases j with
  |agg _ aQ B D=>
   congr 1;apply Array.ext
   ·exact B.symm
   ·intro i a b;have q:=g.2 xs[i] av;obtain⟨A,m,C,_⟩:=nD q al;have:=D i b a;rw[C]at this⊢;generalize aQ[i]=y at this⊢;cases this;rfl
theorem uniq(h:es.Pairwise λa b=>a.key≠b.key){a b:f7}(j:a∈es)(aA:b∈es)(e:a.key=b.key):a=b:=by
 induction es with
 |nil=>cases j
 |cons x xs g=>
  rw[ns]at h
  grind
def yp(h:hR k es=some e):e∈es/\e.key=k:=by
 refine⟨z2 h,?_⟩;have:=z3 h;exact(jH _ _ this).symm
def A7(h:hR k es=none):∀e∈es,e.key≠k:=by
 intro e q g;have:=List.find?_eq_none.1 h e q;rw[g,oj]at this;exact this j
def Eh(h:kT cp es=true)(he:e∈es):cp.ok e.key=true:=
 il.1 h e he
theorem iI.find{bu:Nat->Nat}{C:ac f7}(h:iI ab bu es clock C lP){hG:co}(M:X.keys hG=some cp)(ax:cp.ok k=true)(he:kT cp es=true)(w:f5):
 ((Instr.findKey hG k C).run X.P w= .ok none w/\hR k es=none/\∀c∈C,c.key≠k)\/
 ∃e J c,(Instr.findKey hG k C).run X.P w= .ok (some (J,c.val)) w/\C[J]? =some c/\c.key=k/\hR k es=some e/\e∈es/\e.key=k/\bc ab e.val c.val/\c.born=bu e.born:=by
 obtain⟨K,D⟩:=X.rB hG cp M;obtain⟨l,hp,Z,O⟩:=h.same;have S:∀(i:Nat) a b,C[i].key=l[i].key:=by
  intro i a b;exact fr.same (Eh he<|hp.mem_iff.1<|dx a) (O i a b).1
 have L:∀c∈C,∃l,keyOf X.P hG c.key=some l:=by
  intro c N;obtain⟨i,af,rfl⟩:=k8 N;have F:i<l.length:=R
  rw[S i F af];exact D _<|Eh he<|hp.mem_iff.1<|dx F
 obtain⟨T,I⟩:=D k ax;rcases K.find w I C L with⟨G,A⟩|⟨J,c,G,A,W⟩
 ·left;refine⟨G,?_,A⟩;cases g:hR k es with
  |none=>rfl
  |some e=>
   exfalso;obtain⟨q,E⟩:=yp g;obtain⟨i,af,a'⟩:=k8<|hp.mem_iff.2 q
   grind
 ·right;obtain⟨Y,V⟩:=dN.1 A;have Q:J<l.length:=by omega
  have B:l[J].key=k:=by grind
  have H:=hp.mem_iff.1<|dx Q;cases g:hR k es with
  |none=>exact absurd B (A7 g _ H)
  |some e=>
   obtain⟨q,E⟩:=yp g;have:=uniq h.keys q H<|by rw[E,B]
   grind
theorem iI.put{bu:Nat->Nat}{C:ac f7}(h:iI ab bu es clock C lP)(he:kT cp es=true)(ba:C[J]? =some c)(aS:c.key=k)(T:bc ab v bD):
 iI ab bu (vS k v es) clock (C.set J {c with key:=k,val:=bD}) lP:=by
 obtain⟨l,hp,N,G⟩:=h.same;have D:∀e:f7,(cond (dm k e.key) (⟨e.key,v,e.born⟩:f7) e).key=e.key:=by grind
 have g:∀e:f7,(cond (dm k e.key) (⟨e.key,v,e.born⟩:f7) e).born=e.born:=by grind
 have W:∀(i:Nat) a b,C[i].key=l[i].key:=by
  intro i a b;exact fr.same (Eh he<|hp.mem_iff.1<|dx a) (G i a b).1
 obtain⟨V,S⟩:=dN.1 ba;refine⟨h.iu,h.mr,?_,?_,?_,l.map λe=>cond (dm k e.key) ⟨e.key,v,e.born⟩ e,hp.map _,by simp[N],?_⟩
 ·intro e hm;obtain⟨K,Q,rfl⟩:=cW.1 hm;rw[g];exact h.born K Q
 ·unfold vS;rw[n9];exact h.keys.imp λ{a b} A=>by rw[D,D];exact A
 ·unfold vS;rw[n9];exact h.js.imp λ{a b} A=>by rw[g,g];exact A
 ·intro i a b;have q:i<l.length:=by grind
  have L:i<C.length:=by simpa using b
  rw[tw,List.getElem_set];by_cases e:J=i
  ·subst e;have F:l[J].key=k:=by grind
   have:dm k l[J].key=true:=by rw[F];exact oj k
   grind
  ·rw[aw e];have I:dm k l[i].key=false:=by
    rw[vo];intro O;have F:=jH _ _ O;have B:J<l.length:=R
    have E:l[i].key=l[J].key:=by grind
    have H:=(hp.symm.pairwise_iff λ{a b} h=>h.symm).1 h.keys;have M:i=J:=by
     rcases xL i J with h|h|h
     ·exact absurd E<|kP.1 H i J q B h
     ·exact h
     ·exact absurd E.symm<|kP.1 H J i B q h
    exact e M.symm
   rw[I];exact G i q L
theorem iI.push{bu:Nat->Nat}{C:ac f7}(h:iI ab bu es clock C lP)(ax:bc ab k k)(ah:hR k es=none)(D:bc ab v bD):
 iI ab bu (es++[⟨k,v,clock⟩]) (clock+1) (C++[⟨k,bD,lP⟩]) (lP+1):=by
 obtain⟨l,hp,F,H⟩:=h.same;have g:=h.mr;refine⟨?_,⟨λs t B G e=>?_,λs B=>?_,λJ=>?_⟩,?_,?_,?_,l++[⟨k,v,clock⟩],hp.append_right _,by simp[F],?_⟩
 ·rw[h.iu,g.up 1]
 ·rcases fS s clock with a|a<;>rcases fS t clock with b|b
  ·exact g.inj s t a b e
  ·have:t=clock:=by omega
   subst this;have:=g.lt s a;omega
  ·have:s=clock:=by omega
   subst this;have:=g.lt t b;omega
  ·omega
 ·rw[g.up 1];rcases fS s clock with a|a
  ·have:=g.lt s a;omega
  ·grind
 ·rw[show clock+1+J=clock+(1+J) by omega,g.up,g.up 1];omega
 ·intro e q;rcases hf.1 q with q|q
  ·have:=h.born e q;omega
  ·grind
 ·rw[C6];refine⟨h.keys,av,λa A b E=>?_⟩;have:b=⟨k,v,clock⟩:=by grind
  subst this;exact A7 ah a A
 ·rw[C6];refine⟨h.js,av,λa A b E=>?_⟩;have:b=⟨k,v,clock⟩:=by grind
  subst this;have:=h.born a A;exact Nat.ne_of_lt this
 ·intro i a b;by_cases e:i<l.length
  ·grind
  ·have af:i=l.length:=by grind
   rw[HT R,HT R];simp;exact⟨ax,D,h.iu⟩
theorem iI.del{bu:Nat->Nat}{C:ac f7}(h:iI ab bu es clock C lP)(he:kT cp es=true)(ba:C[J]? =some c)(aS:c.key=k):
 iI ab bu (qf k es) clock (C.eraseIdx J) lP:=by
 obtain⟨l,hp,S,K⟩:=h.same;have O:∀(i:Nat) a b,C[i].key=l[i].key:=by
  intro i a b;exact fr.same (Eh he<|hp.mem_iff.1<|dx a) (K i a b).1
 obtain⟨I,E⟩:=dN.1 ba;have A:J<l.length:=R
 have D:l[J].key=k:=by rw[<-O J A I,E,aS]
 have g:=(hp.symm.pairwise_iff λ{a b} h=>h.symm).1 h.keys;have F:∀(l:ac f7) J ba,l.Pairwise (λa b=>a.key≠b.key)->l[J].key=k->l.filter (λe=> !dm k e.key)=l.eraseIdx J:=by
  intro l
  induction l with
  |nil=>intro J ba;simp at ba
  |cons x xs Q=>
   intro J ba g q;rw[ns]at g;cases J with
   |zero=>
    have B:dm k x.key=true:=by rw[show x.key=k from q];exact oj k
    rw[C7];simp only[B,Bool.not_true,pY,if_false,List.eraseIdx_cons_zero];rw[z4];intro a G;have:=g.1 a G;rw[show x.key=k from q]at this;cases H:dm k a.key
    ·rfl
    ·exact absurd (jH _ _ H) this
   |succ J=>
    have N:J<xs.length:=by simpa using ba
    have M:xs[J].key=k:=by simpa using q
    have B:dm k x.key=false:=by
     rw[vo];intro L;exact g.1 xs[J] (dx N)<|by rw[M,jH _ _ L]
    grind
 refine⟨h.iu,h.mr,λe hm=>h.born e (q9.1 hm).1,h.keys.filter _,h.js.filter _,l.eraseIdx J,?_,?_,?_⟩
 ·rw[<-F l J A g D];exact hp.filter _
 ·grind
 ·grind
section
variable{ab:bF}{o bs:aJ}{a:Act}{aM:Nat}{st ak:aj}{w:f5}{U:Oper}{v:bv}{call:bM}
open Go.MapKept
variable{hG:co}
def abC(D:X.keys hG=some cp)(ax:cp.ok k=true)(w:f5):(Instr.findKey hG k []).run X.P w= .ok none w:=by
 obtain⟨K,h⟩:=X.rB hG cp D;obtain⟨B,g⟩:=h k ax;rcases K.find w g [] av with⟨q,_⟩|⟨J,c,_,A,_⟩
 ·exact q
 ·simp at A
def v7(D:X.keys hG=some cp)(ax:cp.ok k=true)(j:Bool)(w:f5):(Instr.checkKey j 10000 hG k).run X.P w= .ok () w:=by
 obtain⟨K,h⟩:=X.rB hG cp D;obtain⟨q,g⟩:=h k ax;exact K.check w j g
end
section
variable{ab:bF}{o bs:aJ}{a:Act}{aM:Nat}{st ak:aj}{w:f5}{U:Oper}{v:bv}{call:bM}
variable{P:f8}{r:Nat}{m:be Nat}{s:bi Nat}{b:Nat}
def abD{hG:co}(j:X.keys hG=some cp)(ax:cp.ok k=true)(w:f5):(Instr.keyThatStays k k).run X.P w= .ok k w:=by
 obtain⟨K,h⟩:=X.rB hG cp j;obtain⟨q,g⟩:=h k ax;exact K.stays w g
theorem toList_modify(C:bi f7)(J:Nat)(f:f7->f7)(h:C.toList[J]? =some c):(C.modify J f).toList=C.toList.set J (f c):=by
 apply z5
 ·simp
 ·grind
def fr.pure(h:cp.ok v=true)(j:bc ab v bD):bc ab v v:=by
 have:=fr.same h j;rw[this]at j;exact j
theorem iI.abE{bu:Nat->Nat}{C:ac f7}(h:iI ab bu es clock C lP){s:Nat}(G:s<clock)(he:es.find? (λe=>Nat.beq e.born s)=some e):
 ∃c,C.find? (λc=>c.born==bu s)=some c/\bc ab e.key c.key/\bc ab e.val c.val:=by
 obtain⟨l,hp,S,K⟩:=h.same;have L:=z3 he;have A:=dM L;have hm:=z2 he;obtain⟨i,af,B⟩:=k8<|hp.mem_iff.2 hm;cases F:C.find? (λc=>c.born==bu s)with
 |none=>
  grind
 |some c=>
  have Q:c.born=bu s:=by grind
  obtain⟨k,I,N⟩:=k8<|z2 F;have j:k<l.length:=R
  have O:=K k j I;have E:=h.born _<|hp.mem_iff.1<|dx j;have H:bu l[k].born=bu s:=by grind
  have q:=h.mr.inj _ _ E G H;have D:=(hp.symm.pairwise_iff λ{a b} h=>h.symm).1 h.js;have M:i=k:=by
   rcases xL i k with g|g|g
   ·exact absurd (by rw[B,A,q])<|kP.1 D i k af j g
   ·exact g
   ·exact absurd (by rw[B,A,q])<|kP.1 D k i j af g
  grind
def Jg{a:Nat}(aA:w.heap[r]? =some (.mapIter m a s b)):(getObj r).run P w= .ok (.mapIter m a s b) w:=by
 simp[getObj,Sem.run,aA]
def abF{a:Nat}(U:Obj)(aA:w.heap[r]? =some (.mapIter m a s b)):(setObj r U).run P w= .ok () {w with heap:=w.heap.setIfInBounds r U}:=by
 simp[setObj,Sem.run,aA]
end
variable{y:bv}{P:f8}{t:co}
def bc.A8{c:Nat}(h:bc ab (.chan<|some c) y)(aS:c≠0):∃m,y= .int .i64 m/\IK c m:=by
 generalize g:Value.chan (some c)=v at h;cases h with
 |hF q m h=>cases g;exact⟨m,j,h⟩
 |top _=>cases g;exact absurd j aS
 |_=>cases g
def O2{n:Nat}{b:Bool}(h:AF n v=some b)(D:bc ab v y):∃m:Int,y= .int .i64 m/\b=decide ((n:Int)<=m):=by
 unfold AF at h;split at h
 ·rename_i c;split at h
  ·rename_i B;split at h
   ·rename_i A;cases h;obtain⟨m,rfl,g⟩:=D.A8 R;refine⟨m,j,?_⟩;have:(n:Int)<=m:=by
     rcases g with g|⟨k,q,hm⟩|⟨k,q,hm⟩<;>omega
    simp[this]
   ·cases h
  ·rename_i B;split at h
   ·rename_i A;cases h;obtain⟨m,rfl,g⟩:=D.A8 R;refine⟨m,j,?_⟩;have:¬(n:Int)<=m:=by
     rcases g with g|⟨k,q,hm⟩|⟨k,q,hm⟩<;>omega
    simp[this]
   ·cases h
 ·cases h
def abG{a b:fr}(h:I8 a b=true):a=b:=by
 cases a<;>cases b<;>simp[I8]at h<;>first|rfl|(rw[h])|(rw[h.1,h.2])
def Ei{keys:co->be fr}(h:A4 P keys t cp=true):∃hG j,P.underlying t=some (.map hG j)/\keys hG=some cp:=by
 unfold A4 at h;split at h<;>try cases h
 obtain⟨q,g,h⟩:=(p1 _ _).1 h;exact⟨_,_,‹_›,by rw[g,abG h]⟩
theorem isMap(h:Eg P t=true):∃hG g,P.underlying t=some (.map hG g):=by
 unfold Eg at h
 grind
section
variable{ab:bF}{o bs:aJ}{a:Act}{aM:Nat}{st ak:aj}{w:f5}{U:Oper}{v:bv}{call:bM}{x:ce}{y:c7}{β:Type}{r z O3:β}
theorem hH.map(q:hH X ab o a aM st w)(k:fX X.a3 x=true){K:Nat->ac f7->Nat->β}(h:om (o.ar x) (λr=>bn r (λid=>jo (st.h.get id) (K id) z) O3) z=r)(D:z≠r:=by simp):
 (∃id es c b bu C j,ab id=some ⟨b,0,0,bu⟩/\a.eval x= .map (some b)/\st.h.get id=some (.map es c)/\w.heap[b]? =some (.map C j)/\iI ab bu es c C.toList j/\K id es c=r)\/a.eval x= .map none/\O3=r:=by
 obtain⟨p,e,h⟩:=abB h D;obtain⟨u,g,d⟩:=q.of k e;cases p with
 |none=>cases d;exact .inr ⟨g,h⟩
 |some id=>
  obtain⟨es,c,A,h⟩:=Jf h D;obtain⟨l,E,_,_,C,j,G,F⟩:=q.w.er _ _ A av;cases d with
  |map _ b bu B=>rw[E]at B;cases B;exact .inl ⟨id,es,c,b,bu,C,j,E,g,A,G,F,h⟩
def hH.Ej(q:hH X ab o a aM st w){id:Nat}{E:ac f7}{c d b:Nat}{bu:Nat->Nat}(G:st.h.get id=some (.map es c))(aD:ab id=some ⟨b,0,0,bu⟩)(C:bi f7)(D:Nat)(N:iI ab bu E d C.toList D){n:Next}(ah:IQ ab v n)
 (M:(execOp a.eval U).run X.P w= .ok n {w with heap:=w.heap.setIfInBounds b<|.map C D}) (I:y.po=false:=by rfl) (F:y.qt=false:=by rfl):o=o/\qu X y ab w v st ⟨st.h.set id<|.map E d,st.ae⟩ (execOp a.eval U):=by
 obtain⟨bH,A⟩:=bN.yl X q.w G av (λh=>h) aD (.map E d) (.map C D) {w with heap:=w.heap.setIfInBounds b<|.map C D} rfl λ_ g=>⟨j,j,_,_,g,N⟩;exact yo ⟨j,ab,n,_,M,ah,bH,A⟩ I F
attribute [local simp] Result.andThen underlying typeInfo zeroValue resolve invoke builtin execOp goInt
theorem O4:∀{J:Nat} {l m bp D:ac bv} {b:Bool},qg J l m=some b->bI ab l bp->bI ab m D->bp=l/\D=m
 |_,[],[],_,_,_,_,h,g=>⟨h.ql,g.ql⟩
 |_,_::_,[],_,_,_,h,_,_=>by cases h
 |_,[],_::_,_,_,_,h,_,_=>by cases h
 |J,p::a8,q::ju,_,_,b,aA,h,g=>by
  obtain⟨L,I,rfl,aF,aL⟩:=h.cons_inv;obtain⟨M,K,rfl,H,F⟩:=g.cons_inv;obtain⟨G,B,E⟩:=hS aA av;have:∃A,qg (J-1) a8 ju=some A:=by
   cases G
   ·obtain⟨A,C,_⟩:=hS E av;exact⟨A,C⟩
   ·exact⟨b,E⟩
  obtain⟨A,C⟩:=this;obtain⟨rfl,rfl⟩:=O4 C aL F;unfold Ot DR Oq at B;split at B<;>split at B<;>first|(cases B;done)|(cases aF;cases H;exact eT)
theorem O5{m k:ce}{hG Y:co}(q:hH X ab o a aM st w)(bH:fX X.a3 m=true)(R:fX X.a3 k=true)(M:fX X.a3 x=true)(D:U.op= .mapUpdate t m k x\/U.op= .insert t m k x)(aa:X.P.underlying t=some (.map hG Y))
 (E:X.keys hG=some cp) (h:Ix o st (.eO cp m k x)= .ok v bs ak):bs=o/\qu X (.ext<|.eO cp m k x) ab w v st ak (execOp a.eval U):=by
 obtain⟨A,h⟩:=iT h av;have K:=q.ar R;have ae:=fr.same A K;obtain⟨id,es,c,b,bu,C,H,L,g,I,F,G,h⟩|⟨_,h⟩:=q.map bH h<;>try cases h
 obtain⟨N,h⟩:=iT h av;rcases G.find E A N w with⟨S,B,_⟩|⟨e,J,T,S,B,Q,O,V,W,Z,ad⟩
 ·rw[B]at h;cases(iH ..).symm.trans h;refine q.Ej I L (C.push {key:=o.ar k,val:=a.eval x,born:=H}) (H+1) (by simpa using G.push (fr.pure A K) B (q.ar M)) (.inr eT) ?_;rcases D with D|D<;>simp[*,Instr.mapUpdate,MapKept.run_getObj_map F,v7 E A,MapKept.run_setObj_map _ F]
 ·rw[O]at h;cases(iH ..).symm.trans h;have a':C[J]? =some T:=by grind
  refine q.Ej I L (C.modify J λe=>{e with key:=o.ar k,val:=a.eval x}) H (by rw[toList_modify C J _ B];exact G.put N B Q<|q.ar M) (.inr eT) ?_;rcases D with D|D<;>simp[*,Instr.mapUpdate,MapKept.run_getObj_map F,v7 E A,MapKept.run_setObj_map _ F,abD E A]
theorem abH{y:tG}(ax:X.pk U.op (.ext y)=true)(q:hH X ab o a aM st w)(h:bw call (.ext y) o st= .ok v bs ak):
 bs=o/\qu X (.ext y) ab w v st ak (execOp a.eval U):=by
 generalize T:U.op=op at ax;replace ax:A5 X.P X.a3 X.keys X.pg X.eqs X.ph X.lj op y=true:=ax;replace h:Ix o st y= .ok v bs ak:=h;unfold A5 at ax;split at ax<;>try simp only[cO,Ed,lQ,decide_eq_true_eq,beq_iff_eq]at ax
 ·rename_i ok _ _ _ _ _ _;obtain⟨⟨⟨⟨⟨rfl,bH⟩,rfl,D⟩,rfl⟩,E⟩,Z⟩:=ax;obtain⟨hG,Y,O,H⟩:=Ei E;rw[O]at Z;obtain⟨hp,i,af,bA⟩:=OV Z;obtain⟨L,h⟩:=iT h av;have bk:=fr.same L<|q.ar D;have aA:=bc.pure ab _ hp;have two:∀{p r:bv} {b:Bool},bc ab p r->bc ab (cond ok (.tuple #[p,.bool b]) p) (cond ok (.tuple #[r,.bool b]) r):=λd=>by cases ok;exact d;exact bc.qm<|bI.cons d<|bI.cons (.bool _)<|bI.nil ab
  rcases q.map bH h with⟨id,es,c,b,bu,C,K,M,g,Q,B,G,h⟩|⟨g,h⟩
  ·obtain⟨aa,h⟩:=iT h av;rcases G.find (X:=X) H L aa w with⟨I,A,_⟩|⟨e,J,aE,I,A,F,E,Z,aX,aD,bh⟩
   ·rw[A]at h;cases h;exact q.rd (two aA)<|by cases ok<;>simp[*,Instr.lookup,MapKept.run_getObj_map B,v7 H L]
   ·rw[E]at h;cases h;exact q.rd (two aD)<|by cases ok<;>simp[*,Instr.lookup,MapKept.run_getObj_map B,v7 H L]
  ·cases h;exact q.rd (two aA)<|by cases ok<;>simp[*,Instr.lookup,v7 H L,abC H L]
 ·obtain⟨⟨⟨⟨rfl,bH⟩,rfl,D⟩,rfl,V⟩,E⟩:=ax;obtain⟨hG,Y,O,H⟩:=Ei E;exact O5 q bH D V (.inl T) O H h
 ·obtain⟨⟨⟨⟨rfl,bH⟩,rfl,D⟩,rfl,V⟩,E⟩:=ax;obtain⟨hG,Y,O,H⟩:=Ei E;exact O5 q bH D V (.inr T) O H h
 ·obtain⟨⟨⟨rfl,bH⟩,rfl,D⟩,E⟩:=ax;obtain⟨hG,Y,O,H⟩:=Ei E;obtain⟨L,h⟩:=iT h av;have bk:=fr.same L<|q.ar D;obtain⟨id,es,c,b,bu,C,K,M,g,Q,B,G,h⟩|⟨_,h⟩:=q.map bH h<;>try cases h
  obtain⟨aa,h⟩:=iT h av;cases(iH ..).symm.trans h;have N:IQ ab (.tuple #[]) (.value<|.tuple #[]):=.inl ⟨_,j,bc.qm<|bI.nil ab⟩;rcases G.find (X:=X) H L aa w with⟨I,A,_⟩|⟨e,J,aE,I,A,F,E,Z,aX,aD,bh⟩
  ·refine q.Ej Q M C K ?_ N (by simp[*,Builtin.delete_,MapKept.run_getObj_map B,v7 H L,MapKept.run_setObj_map _ B]);unfold qf;rw[z4.2]
   ·exact G
   ·intro e an;have:=A7 A e an;cases aW:dm (o.ar _) e.key
    ·rfl
    ·exact absurd (jH _ _ aW).symm this
  ·exact q.Ej Q M (C.eraseIdxIfInBounds J) K (by rw[Array.toList_eraseIdxIfInBounds];exact G.del aa A F) N<|by simp[*,Builtin.delete_,MapKept.run_getObj_map B,v7 H L,MapKept.run_setObj_map _ B]
 ·obtain⟨⟨rfl,bH⟩,A⟩:=ax;obtain⟨hG,Y,O⟩:=isMap A;rcases q.map bH h with⟨id,es,c,b,bu,C,K,M,g,Q,B,G,h⟩|⟨g,h⟩
  ·rw[vW,eP]at h;cases h;obtain⟨l,hp,bf,_⟩:=G.same;have e:es.length=C.size:=by rw[<-hp.length_eq,bf];simp
   exact q.rd (.int _ _)<|by simp[*,Builtin.len_,MapKept.run_getObj_map B]
  ·cases h;exact q.rd (.int _ _)<|by simp[*,Builtin.len_]
 ·rename_i y _ _;obtain⟨⟨rfl,bH⟩,A⟩:=ax;obtain⟨hG,Y,O⟩:=isMap A;have fin:∀(m:bz) (R:Obj),v= .pointer (some ⟨st.ae,0,none⟩)->bs=o->ak=⟨st.h.set st.ae m,st.ae+1⟩->(∀aG w',ab.le aG->w'.heap[w.heap.size]? =some R->g6 X aG w' m ⟨w.heap.size,0,0,id⟩)->
   (execOp a.eval U).run X.P w= .ok (.value<|.pointer<|some ⟨w.heap.size,0,none⟩) {w with heap:=w.heap.push R}->bs=o/\qu X (.ext<|.tH y) ab w v st ak (execOp a.eval U):=by
   rintro m R rfl rfl rfl hm aR;obtain⟨aG,bH,D,V,_⟩:=bN.alloc X q.w m R 0 (λaG w' hle _ N=>hm aG w' hle N) {w with heap:=w.heap.push R} rfl;exact yo ⟨j,aG,_,_,aR,.inl ⟨_,j,Jd V⟩,bH,D⟩ j j
  rcases q.map bH h with⟨id,es,c,b,bu,C,K,M,g,Q,B,G,h⟩|⟨g,h⟩
  ·rw[gF]at h;cases h;exact fin _ (.mapIter (some b) K #[] K) j j j (λaG w' hle N=>⟨j,j,_,_,_,_,N,.inr ⟨id,b,bu,j,j,hle _ _ M,G.iu,j,G.iu⟩⟩)<|by simp[*,Instr.range,MapKept.run_getObj_map B]
  ·rw[gF]at h;cases h;exact fin _ (.mapIter none 0 #[] 0) j j j (λaG w' _ N=>⟨j,j,_,_,_,_,N,.inl eT⟩)<|by simp[*,Instr.range]
 ·obtain⟨rfl,bH⟩:=ax;obtain⟨ca,l,bB,M,g,az⟩:=q.ptr bH h;obtain⟨-,a2⟩:=yg az λ_=>av;obtain⟨a1,cD⟩:=kg a2 av;obtain⟨m,bQ,bn,bM,Q,cX⟩:=O1 cD av;obtain⟨id,aT,et⟩:=hS cX av;obtain⟨s,b',fs⟩:=hS et av;obtain⟨es,clock,bg,my⟩:=Jf fs av;obtain⟨I,ow⟩:=kg my av;obtain⟨A,pj⟩:=iS ow av;obtain⟨e,an,tZ⟩:=hS pj av;clear h az a2 cD cX et fs my ow pj;subst aT;cases tZ;obtain⟨bL,aB,a4,bC,bF,bx,au,aK,aY,aI⟩:=q.w.er _ _ Q av;rw[M]at aB;cases aB;rcases aI with⟨a7,_⟩|⟨r,b,bu,S,aj,aC,bJ,bl,br⟩
  ·cases a7
  cases S;subst aj;obtain⟨bO,aJ,-,-,C,K,B,G⟩:=q.w.er _ _ bg av;rw[aJ]at aC;cases aC;replace B:w.heap[b]? =some (.map C K):=B;obtain⟨c,ao,aq,ai⟩:=G.abE A an;have bq:au.back?=some (bu s):=by
   have:au.back?=au.toList.getLast?:=av
   rw[this,bl,List.getLast?_map];rw[show bn.getLast?=some s from b'];rfl
  have bo:K=aK:=by rw[G.iu,br,I]
  have aN:C.find? (λx=>x.born==bu s)=some c:=by rw[<-Array.find?_toList];exact ao
  refine q.rd (bD:=.tuple #[c.key,c.val]) (bc.qm<|bI.cons aq<|bI.cons ai<|bI.nil ab) ?_;rw[a4,a1]at g;simp only[execOp,T,g,Instr.entry,Sem.run_bind,Jg aY,Result.andThen,bq,Sem.run_pure,MapKept.run_getObj_map B,oZ];simp[bo,aN]
 ·cases h
 ·rename_i gt _ _ _ _ _ _ _;obtain⟨⟨⟨rfl,rfl,bH⟩,rfl,D⟩,_⟩:=ax;obtain⟨k,cb,-,g,I⟩:=q.int bH h;obtain⟨ax,A⟩:=iT I av;obtain⟨n,ah,F⟩:=pe A av;obtain⟨b,a',E⟩:=hS F av;have bj:=v5 ax;subst bj ah;cases E;obtain⟨m,W,aw⟩:=O2 a'<|q.ar D;refine q.rd (.bool _) ?_;have:(!decide ((n:Int)<=m))=decide (m<(n:Int)):=by rw[oX];simp
  cases gt<;>simp[*,eqGuard,binOp,Op.intCmp]
 ·obtain⟨⟨⟨⟨rfl,bH⟩,rfl,D⟩,aZ⟩,rfl⟩:=ax;obtain⟨s,-,g,h⟩:=q.str bH h;obtain⟨b,-,W,h⟩:=q.str D h;unfold yb at h;obtain⟨a0,bm,a2⟩:=hS h av;cases a0<;>try cases a2
  obtain⟨bt,cX⟩:=yh (a2:cond _ _ _=_) av;obtain⟨c,a5,et⟩:=yi cX av;obtain⟨af,fs⟩:=iT et av;obtain⟨A,my⟩:=iS fs av;obtain⟨F,ow⟩:=iS my av;rw[eP]at af A F;cases ow;obtain⟨l,M,C,fh,B⟩:=q.w.er _ _ bm av;rw[q.w.kh _ X.AS]at M;cases M;subst a5;obtain⟨K,ao,aq⟩:=B.cell 0 av;have aP:AF b.data.toList.length c=some true:=by
   unfold Ou at af;split at af
   ·assumption
   ·cases af
  obtain⟨m,rfl,aw⟩:=O2 aP aq;have hle:((b.data.toList.length:Nat):Int)<=m:=by simpa using aw.symm
  have aS:(load ⟨X.lj,0,none⟩).run X.P w= .ok (.int .i64 m) w:=by
   have ai:C[0]? =some (.int .i64 m):=by simpa using ao
   rw[run_load,cell_of B.ex.choose_spec];simp[ai]
  refine q.rd (.int _ _) ?_;have:=X.AT _ aZ s b m w aS (by simpa using A) (by simpa using hle) (by simpa using F);simp only[Ea T,xI,jj,xJ,g,W];rw[this];cases pa b.data.toList s.data.toList<;>rfl
 ·obtain⟨⟨⟨rfl,bH⟩,rfl,D⟩,F⟩:=ax;obtain⟨s,-,g,h⟩:=q.str bH h;obtain⟨k,aE,-,W,I⟩:=q.int D h;obtain⟨ax,A⟩:=iT I av;obtain⟨c,S,E⟩:=pe A av;obtain rfl:=v5 ax;subst S;cases E;exact q.rd (.int _ _)<|by simp only[Ea T,xI,jj,xJ,g,W];rw[X.AR _ F s (c:Int) w];rfl
 ·rename_i neg _ _ _ _ _ _ _ _;obtain⟨⟨⟨rfl,rfl,bH⟩,rfl,D⟩,F⟩:=ax;obtain⟨n,ah,F⟩:=(p1 _ _).1 F;obtain rfl:=dM F;obtain⟨xs,ay,g,aL,h⟩:=q.agg bH h;obtain⟨aQ,aF,W,aO,h⟩:=q.agg D h;obtain⟨I,h⟩:=kg h av;obtain⟨A,h⟩:=kg h av;obtain⟨b,a',h⟩:=hS h av;cases h;obtain⟨S,aj⟩:=O4 a' aL aO;obtain rfl:ay=xs:=Array.ext' S;obtain rfl:aF=aQ:=Array.ext' aj;rw[eP]at I A;obtain⟨bR,a6⟩:=X.vY _ _ ah;have bK:=a6 ay aF b w (by rw[<-hs];exact I) (by rw[<-hs];exact A) a';refine q.rd (.bool _) ?_;cases neg<;>simp[*,eqGuard,program,Sem.run,run_eql_struct,run_neq_struct]
 ·cases ax
end
section
variable{ab:bF}{o bs:aJ}{a:Act}{aM:Nat}{st ak:aj}{w:f5}{U:Oper}{v:bv}{call:bM}
attribute [local simp] Result.andThen underlying typeInfo sizeOf zeroValue resolve invoke builtin convert Instr.sureAddr asIntOf asInt asBool asAgg execOp
set_option maxHeartbeats 4000000 in
theorem abI{x:c7}(ax:X.pk U.op x=true)(q:hH X ab o a aM st w)(h:bw call x o st= .ok v bs ak)(hp:x.inPlace=true):bs=o/\qu X x ab w v st ak (execOp a.eval U):=by
 generalize K:U.op=op at ax;unfold Ctx.pk OW at ax;split at ax<;>try simp only[cO,Ed,A3,aby,lQ,decide_eq_true_eq,beq_iff_eq,qs,I5]at ax
 ·obtain⟨rfl,k⟩:=ax;cases h;exact q.rd<|q.ar k
 ·obtain⟨rfl,k⟩:=ax;cases h;exact q.rd<|q.ar k
 ·obtain⟨⟨⟨rfl,a9⟩,rfl,bH⟩,rfl,F⟩:=ax;obtain⟨t,_,e,h⟩:=q.bool a9 h;cases h;cases t
  ·exact q.rd<|q.ar F
  ·exact q.rd<|q.ar bH
 ·obtain⟨rfl,B⟩:=ax;obtain⟨hp,i,tX,af,B,rfl⟩:=I6 B;replace h:yc _ _ call o st=_:=h;exact q.gq h (bI.v3 ab _ hp) (λ_=>Jd)<|by simp[*,Instr.alloc,newVar,newRow]
 ·obtain⟨rfl,rfl,k⟩:=ax;obtain⟨hp,h⟩:=yh h av;exact q.gq h (bI.cells (q.ar k)<|Jc hp) (λ_=>Jd)<|by simp[*,Instr.box,newVar,newRow]
 ·obtain⟨bn,A⟩:=ax;obtain⟨hp,i,tX,af,B,rfl⟩:=I6 bn;split at A<;>try cases A
  ·rename_i aS aa;rw[cO,il]at A;obtain⟨bH,F⟩:=Ee A.2;obtain⟨out,bg,L,T,N⟩:=D5 _ q.f q.w av _ _ bH F _ tX.cells (bI.v3 ab _ hp) h;cases N;have hm:(aS.mapM λf=>do pure (f.offset,<-sizeOf f.type):Sem (bi<|Nat×Nat)).run X.P w= .ok (aS.map λf=>(f.offset,X.P.cellsOf f.type)) w:=by
    rw[NV,Sem.run_map,OI X.P w _ (λf:Field=>(f.offset,X.P.cellsOf f.type)) aS.toList (λf bu=>by
     obtain⟨b5,bt⟩:=zZ.1<|A.1 f bu;simp[Program.cellsOf,bt])]
    simp only[Result.andThen];congr 1;apply Array.ext';simp
   refine q.rd (bc.rz T) ?_;simp only[execOp,K,Instr.build,Sem.run_bind,AX af B,Result.andThen,run_underlying aa,hm,Array.toList_map]
   erw [L]
   rfl
  ·rename_i n e aa;obtain⟨c6,W,A⟩:=(p1 _ _).1 A;obtain⟨bH,F⟩:=Ee A;obtain⟨out,bg,L,T,N⟩:=D5 (λJ=>some (J*c6.size,c6.size)) q.f q.w av _ _ bH F _ tX.cells (bI.v3 ab _ hp) h;cases N;exact q.rd (bc.rz T)<|by simp[*,Instr.build]
 ·rename_i n _ _ _ _ _;obtain⟨rfl,A⟩:=ax;split at A<;>try cases A
  rename_i el aa;rw[cO,lQ]at A;obtain⟨rfl,A⟩:=A;split at A<;>try cases A
  rename_i c6 W;obtain⟨tX,B,A⟩:=(p1 _ _).1 A;simp only[cO,lf]at A;obtain⟨⟨⟨aB,aq⟩,bC⟩,bK⟩:=A;obtain⟨bH,F⟩:=Ee bK;have ch:=As _ _ aq;obtain⟨out,bg,L,T,N⟩:=D5 (λJ=>some (J*c6.size,c6.size)) q.f q.w av _ _ bH F _ (List.toArray _) (bI.v3 ab _ bC) h;refine q.gq N T (Je _ _) ?_;simp only[execOp,K,Instr.buildSlice,Sem.run_bind,Result.andThen,run_underlying aa,qp W];rw[aw R];have cg:∀(f:Nat->bv) n,(Array.range n).map f=((List.range n).map f).toArray:=λf n=>by apply Array.ext';simp
  by_cases au:n*c6.size=0<;>simp only[au,if_true,if_false]at L⊢<;>simp_all [newRow]
 ·obtain⟨⟨rfl,k⟩,d,O,a'⟩:=ax;obtain⟨ca,l,cs,e,bT,aU,C,fh,-,-,g,-,H,h⟩:=q.rG k h;obtain⟨ah,h⟩:=rA h av;obtain⟨v1,aA,h⟩:=yi h av;cases h;have aJ:=H.row ca.off 1 ah;rw[aA]at aJ;obtain⟨y,aQ,aL,bA,-⟩:=aJ.cons_inv;have aY:=congrArg (λz=>z[0]?) aL;have aY:C[l.c5+ca.off]? =some y:=by simpa using aY
  exact q.rd bA<|by simp[*,Instr.loadAt,loadVar,AW O,cell_of H.ex.choose_spec]
 ·obtain⟨⟨⟨rfl,k⟩,d,O,a'⟩,i,af,rfl⟩:=ax;obtain⟨ca,l,cs,e,bT,aU,C,fh,-,-,g,-,H,h⟩:=q.rG k h;obtain⟨ah,h⟩:=rA h av;cases h;have aJ:=H.row ca.off i.size ah;have bU:=H.iU;rw[k7]at ah;by_cases B:i.size=0
  ·rw[B];exact q.rd (bD:=.agg #[]) (bc.rz<|by simpa using bI.nil ab)<|by simp[*,Instr.loadAt,loadVar,AW O,loadCells,loadCellsFrom]
  exact q.rd (bD:=.agg ((C.toList.drop<|l.c5+ca.off).take i.size).toArray) (bc.rz<|by simpa using aJ)<|by simp[*,Instr.loadAt,loadVar,AW O,OE H.ex.choose_spec (show l.c5+ca.off+i.size<=C.size by omega)]
 ·obtain⟨⟨⟨rfl,k⟩,rfl,D⟩,i,af,rfl⟩:=ax;obtain⟨ca,l,G,E,g,h⟩:=q.ptr k h;obtain⟨ah,h⟩:=kg h av;obtain⟨a4,h⟩:=iT h av;obtain⟨-,cs,elem,bT,aU,a',bO,h⟩:=OD h av;rw[eP]at ah;have a2:=bI.cells (q.ar D)<|aa8 a4;have S:=a2.1;simp only[hB]at S ah;refine yo ?_ j j;rcases h with⟨hle,h⟩|⟨aF,h⟩<;>cases h
  ·obtain⟨w',M,L,A⟩:=q.w.store a' E bO hle a2 a4;exact⟨j,ab,.skip,w',by simp_all [Instr.storeAt,storeVar,hB],.inr eT,L,A⟩
  ·rw[show(o.ar _).cells.toList=[]from aF]at S ah;have aF:=nr S.symm;exact⟨j,ab,.skip,w,by simp_all [Instr.storeAt,storeVar,storeCells],.inr eT,q.w.IW a',.refl ab w⟩
 ·obtain⟨rfl,k⟩:=ax;replace h:Iz _ call o st=_:=h;unfold Iz at h;generalize bj:o.ar _=bL at h;obtain⟨u,g,d⟩:=q.of k bj;cases bL<;>try cases h
  ·rename_i p;cases p<;>cases h;cases d with
   |ptr _ l E G=>exact q.rd<|.ptr _ _ E G
  ·rename_i f _ _;cases f<;>cases h;cases d with
   |func _ V _ aQ _ cf bE L A T N=>
    obtain⟨rfl,_⟩|⟨l,b,e,_⟩:=bE
    ·exact q.rd<|.func _ _ _ _ _ _ (.inl ⟨j,av⟩) L A T N
    ·cases e
 ·obtain⟨⟨rfl,rfl,k⟩,rfl,D⟩:=ax;rcases aba h av with⟨i,m,cc,n,e,a5,h⟩|⟨s,u,e,a5,h⟩<;>obtain⟨_,g,d⟩:=q.of k e<;>obtain⟨_,V,bM⟩:=q.of D a5<;>cases d<;>cases bM
  ·obtain⟨v1,h,hp,M⟩:=abi h av;cases h;exact q.rd (.pure ab _ hp)<|by simp[*,abg]
  ·unfold Ax at h;split at h
   ·obtain⟨hle,h⟩:=iS h av;cases h;simp only[eP]at hle;refine q.rd (bD:=.string<|s++u) ?_ ?_
    ·rw[show(⟨⟨fe s.data.toList u.data.toList⟩⟩:f9)=s++u by
      rw[qn];apply ByteArray.ext;simp[ByteArray.data_append]]
     exact .string _
    ·have S:¬(((s.size+u.size:Nat):Int)>IntKind.i64.max):=by
      have L:s.size=s.data.toList.length:=(hs (xs:=s.data)).symm;have A:u.size=u.data.toList.length:=(hs (xs:=u.data)).symm;have T:IntKind.i64.max=9223372036854775807:=al
      have N:s.data.toList.length+u.data.toList.length<=1099511627776:=hle;rw[T,L,A];omega
     simp only[execOp,K,g,V,Sem.run_bind,IY,Result.andThen,binOp,Op.stringOp];rw[aw S];rfl
   ·cases h;exact q.rd (.bool _)<|by simp[*,IY,binOp,Op.stringOp,toList_eq]
   ·cases h;exact q.rd (.bool _)<|by simp[*,IY,binOp,Op.stringOp,toList_eq]
   ·cases h
 ·obtain⟨⟨⟨rfl,rfl,k⟩,rfl,D⟩,N⟩:=ax;obtain⟨b,Y,h⟩:=hS h av;cases h;exact q.rd (.bool _)<|abA K N Y (q.ar k)<|q.ar D
 ·obtain⟨rfl,rfl,k⟩:=ax;cases ‹UnOp› <;>try cases h
  ·obtain⟨i,n,-,g,h⟩:=q.int k h;rw[iq,kS,It]at h;cases h;exact q.rd (.int _ _)<|by simp[*,Op.unary,Op.intArith]
  ·obtain⟨i,n,-,g,h⟩:=q.int k h;rw[iq]at h;cases h;exact q.rd (.int _ _)<|by simp[*,Op.unary,Op.intBits]
  ·obtain⟨b,-,g,h⟩:=q.bool k h;cases h;exact q.rd (.bool _)<|by simp[*,Op.unary]
 ·obtain⟨⟨rfl,k⟩,A⟩:=ax;split at A<;>try cases A
  obtain⟨i,n,-,g,h⟩:=q.int k h;rw[iq,kS]at h;cases h;cases hO A;exact q.rd (.int _ _)<|by simp[*,Conv.intToInt]
 ·obtain⟨⟨rfl,k⟩,A⟩:=ax;split at A<;>try cases A
  obtain⟨s,-,g,h⟩:=q.str k h;cases h;exact q.rd<|.string _
 ·obtain⟨⟨rfl,k⟩,A⟩:=ax;split at A<;>try cases A
  split at A<;>try cases A
  obtain⟨b,n,c,u,g,d,h⟩:=q.aK k h;cases b with
  |none=>
   cases h;cases d;exact q.rd (.string .empty) (by simp[*,Conv.bytesToString])
  |some b=>
   obtain⟨-,cs,el,bT,aU,a',ah,h⟩:=D0 (h:aj.load st b _ _ _=_) av;obtain⟨bZ,Y,h⟩:=hS h av;cases h;obtain⟨l,E,C,fh,H⟩:=q.w.er _ _ a' av;obtain⟨bQ,ae,aR⟩:=I2 Y;cases d with
   |fg _ cd bf _ _ aC c' Z=>
    rw[E]at aC;cases aC;obtain⟨M,aI⟩:=H.g7 (Z.imp_right (·.1)) ah;rw[ae]at M;rw[IS M]at aI;have aI:=aI w j;refine q.rd (bD:=.string ⟨⟨bZ⟩⟩) (.string _) ?_;simp only[execOp,K,g,convert,Sem.run_bind,run_underlying ‹X.P.underlying _=some (.slice _)›,run_underlying ‹X.P.underlying _=some .string›,run_underlying ‹X.P.underlying _=some (.int .u8)›,Result.andThen,Conv.bytesToString,aI];rw[OQ X.P w _ (λ_ _=>j) bQ ByteArray.empty];simp[aR]
 ·rename_i e _ _ _ _;obtain⟨⟨rfl,k⟩,A⟩:=ax;split at A<;>try cases A
  rename_i G aN;simp only[cO,lQ,qs]at A;obtain⟨⟨rfl,i,af,B⟩,A⟩:=A;split at A<;>try cases A
  rename_i aF;refine Ja ?_ j;obtain⟨s,-,bX,h⟩:=q.str k h;obtain⟨hle,h⟩:=iS h av;rw[gF]at h;simp only[eP]at hle h;cases h;have S:s.size=s.data.toList.length:=(hs (xs:=s.data)).symm
  let Q:Question:=.appendCap s.size 0 e
  have b3:s.size<=Q.cut (w.tape w.drawn Q):=by show s.size<=s.size+_;omega
  let C:bi bv:=(s.data.map λb=>Value.int .u8 b.toNat)++Array.replicate (Q.cut (w.tape w.drawn Q)-s.size) (.int .u8 0)
  have b2:C.size=Q.cut (w.tape w.drawn Q):=by
   simp only[C,Array.size_append,Array.size_map,Array.size_replicate];have:s.data.size=s.size:=rfl;omega
  have ay:X.P.cellsOf e=1:=by simp[Program.cellsOf,af,B]
  let w':f5:={w with drawn:=w.drawn+1,heap:=w.heap.push<|.cells C e (C.size,C.size+1)}
  have bR:(execOp a.eval U).run X.P w= .ok (.value<|.slice (some ⟨w.heap.size,0,none⟩) s.size<|Q.cut<|w.tape w.drawn Q) w':=by
   have bY:(markStringish ⟨w.heap.size,0,none⟩).run X.P {w with drawn:=w.drawn+1,heap:=w.heap.push<|.cells C e}= .ok () w':=by
    simp[markStringish,World.shape?,World.freeze,w'];apply HQ;intro J;rw[Array.getElem?_modify];by_cases I:w.heap.size=J
    ·subst I;simp
    ·rw[aw I,C1,C1,aw<|Ne.symm I,aw<|Ne.symm I]
   simp only[execOp,K,bX,convert,Sem.run_bind,run_underlying G,run_underlying aN,Result.andThen,run_underlying aF,Conv.stringToBytes,run_choose,Question.forced,pY,if_false,newRow,run_newObj,Sem.run_pure];rw[bY]
  obtain⟨aG,bH,F,an,aW⟩:=q.w.D7 e (I1 ab s.data.toList) (List.replicate (Q.cut (w.tape w.drawn Q)-s.size)<|.int .u8 0) (Q.cut (w.tape w.drawn Q)-s.size) (by rw[ay];simp) (C.size,C.size+1) (λJ I=>by
   rw[A2]at I;simp only[hz,xM]at I;simp only;omega) w' (by
   show w.heap.push (.cells C e (C.size,C.size+1))=_;congr 2;apply Array.ext';rw[A2];simp[C])
  subst aW;refine⟨j,_,_,_,_,w',j,av,bR,j,?_,bH,F⟩;have:=Je s.data.toList.length s.data.toList.length _ an;rw[<-S]at this⊢
  rwa [show s.size+(Q.cut (w.tape w.drawn Q)-s.size)=Q.cut (w.tape w.drawn Q) by omega]at this
 ·obtain⟨⟨rfl,rfl,k⟩,A⟩:=ax;split at A<;>try cases A
  rename_i d ai O;cases h;cases d<;>first|exact absurd j (ai _)|exact q.rd (.iface _ _ _<|q.ar k)<|by simp[*,Instr.makeInterface]
 ·obtain⟨⟨rfl,rfl,bH⟩,rfl,F⟩:=ax;cases h;exact q.rd (bD:=.func _ (Array.map a.eval _)<|Array.map a.eval _) (bc.AK (.inl ⟨j,av⟩) (by simpa using tW q.f q.w _ bH)<|by simpa using tW q.f q.w _ F)<|by simp[*,Instr.makeFunc]
 ·obtain⟨⟨rfl,rfl,bH⟩,rfl,F⟩:=ax;cases h;exact q.rd (bD:=.func _ (Array.map a.eval _)<|Array.map a.eval _) (bc.AK (.inl ⟨j,av⟩) (by simpa using tW q.f q.w _ bH)<|by simpa using tW q.f q.w _ F)<|by simp[*,Instr.makeFunc]
 ·obtain⟨⟨⟨rfl,k⟩,rfl,D⟩,A⟩:=ax;split at A<;>try cases A
  rename_i el aa;simp only[cO,lQ,p1]at A;obtain⟨⟨rfl,A⟩,c6,W,⟨rfl,ai⟩,S⟩:=A;have ai:=A6 ai;obtain⟨hp,i,z,af,B,rfl⟩:=I6 A;rw[W]at af;cases af;obtain⟨_,cb,-,g,h⟩:=q.int k h;obtain⟨_,bW,-,V,h⟩:=q.int D h;obtain⟨cV,ae,L⟩:=pe h av;obtain⟨jv,aR,A⟩:=pe L av;subst ae aR;obtain⟨hle,T⟩:=iS A av;obtain⟨Y,h⟩:=iS T av;have bB:z.cells.toList≠[]:=by intro e;rw[e]at S;simp at S;omega
  have bF:=OJ z.cells.toList jv bB;have br:∀n,bI ab (qe z.cells.toList n) (qe z.cells.toList n):=by
   intro n
   induction n with
   |zero=>exact bI.nil ab
   |succ n bo=>show bI ab (fe _ _) (fe _ _);rw[qn];exact(bI.v3 ab _ hp).append bo
  refine q.gq h (br jv) (Je cV jv) ?_;have ba:jv*(c6.bytes+1)<=1099511627776:=Y;have bh:jv<=1099511627776:=cC (NW jv R) ba;have b9:c6.bytes*jv<=1099511627776:=by
   have:c6.bytes*jv<=jv*(c6.bytes+1):=by rw[fT];exact lK _ R
   omega
  have b':∀n:Nat,n<=1099511627776->IntKind.i64.wrap (n:Int)=n:=λn _=>by rw[<-kS];simp only[nA];rw[x5 _ _ _ al];rw[aw]<;>omega
  have a':(decide ((jv:Int)<0)||decide ((c6.bytes:Int)*(jv:Int)>2^48)||decide ((cV:Int)<0)||decide ((cV:Int)>(jv:Int)))=false:=by
   have:((c6.bytes*jv:Nat):Int)<=1099511627776:=R
   rw[mT]at this;simp only[C8,decide_eq_false_iff_not];omega
  have ay:(Array.range<|jv*c6.size).map (z.cells[· %z.cells.size]!)=(qe z.cells.toList jv).toArray:=by
   rw[bF];apply Array.ext';simp[S]
  simp only[execOp,K,Instr.makeSlice,Sem.run_bind,Result.andThen,run_underlying aa,g,V,asInt,asIntOf,Sem.run_pure,typeInfo,run_program,W,b' cV<|cC hle bh,b' jv bh,a',pY,if_false,run_askRoom,qp W,xK];by_cases au:jv*c6.size=0
  ·obtain rfl:jv=0:=(Nat.mul_eq_zero.1 au).resolve_right ai;have bq:qe z.cells.toList 0=[]:=rfl;simp[newRow,bq];congr 2;apply Array.ext';simp
  ·rw[aw au];simp only[Sem.run_bind,AX W B,Result.andThen,Sem.run_pure,ay,newRow,run_newObj];rfl
 ·obtain⟨⟨⟨⟨rfl,k⟩,rfl,bH⟩,rfl,F⟩,A⟩:=ax;split at A<;>try cases A
  obtain⟨s,-,g,h⟩:=q.str k h;obtain⟨ah,h,ao⟩:=ou q.f q.w F h av;obtain⟨cV,h,aD⟩:=ou q.f q.w bH h av;obtain⟨H,h⟩:=rA h av;cases h;rw[eP]at ao;have bz:=ON ao<|cn _;have bl:=ON aD<|dw _;have e:=abl s cV ah bl bz;refine q.rd (bD:=.string<|s.extract cV ah) (e▸.string _) ?_;rw[show s.data.toList.length=s.size by rw[hs];rfl]at ao;have Y:=A1 X.P w false s.size s.size cV ah s.size _ _ none (.inl eT) (ov ao) (ov aD) av;simp[*,Instr.sliceAt,Instr.slice]
 ·rename_i n s _ _ _ _ _ _ _ _ _;obtain⟨⟨⟨⟨⟨⟨rfl,k⟩,rfl,bH⟩,rfl,F⟩,rfl,an⟩,hm⟩,A⟩:=ax;split at A<;>try cases A
  simp only[cO,lQ,qs]at A;obtain⟨rfl,c6,W,rfl⟩:=A;obtain⟨ca,l,cs,el,bT,aU,C,fh,G,E,g,-,H,h⟩:=q.rG k h;obtain⟨rfl,h⟩:=yh h av;obtain⟨m,h,bJ⟩:=ou q.f q.w an h av;obtain⟨ah,h,ao⟩:=ou q.f q.w F h av;obtain⟨cV,h,aD⟩:=ou q.f q.w bH h av;cases h;have az:=H.plain j;have Y:=A1 X.P w false n n cV ah m _ _ _ (ov bJ) (ov ao) (ov aD)<|abz hm;refine q.rd (bD:=.slice (some (if m=cV then⟨l.ct,l.c5+ca.off,none⟩else Addr.add ⟨l.ct,l.c5+ca.off,none⟩ (cV*c6.size))) (ah-cV)<|m-cV) ?_ (by simp[*,Instr.sliceAt]);rw[lO];by_cases c:m=cV
  ·rw[aE c,aE c];have:=bc.fg (ab:=ab) ca l (l.c5+ca.off) (Nat.sub ah cV) (Nat.sub m cV) E G mw;rw[az.1]at this;exact this
  ·rw[aw c,aw c,add_eq];have:=bc.fg (ab:=ab) (ca.add<|Nat.mul cV c6.size) l (l.c5+(ca.add<|Nat.mul cV c6.size).off) (Nat.sub ah cV) (Nat.sub m cV) (by rw[AZ];exact E) (A0 _ _ G) mw;rw[az.1,D4,<-q7]at this;exact this
 ·obtain⟨⟨⟨⟨⟨⟨rfl,k⟩,rfl,bH⟩,rfl,F⟩,rfl,an⟩,hm⟩,A⟩:=ax;split at A<;>try cases A
  obtain⟨c6,W,rfl⟩:=qs.1 A;exact I9 (abm (call:=call) k bH F an (by intro a b;simp_all) K ‹_› W q.f q.w h) j
 ·obtain⟨⟨rfl,k⟩,A⟩:=ax;split at A<;>try cases A
  split at A<;>try cases A
  simp only[cO,lQ,p1]at A;obtain⟨rfl,i,af,B⟩:=A;have B:=A6 B;obtain⟨ca,l,G,E,g,h⟩:=q.ptr k h;cases h;exact q.rd (Jb E G _)<|by simp[*,Instr.fieldAt,fieldPlace]
 ·obtain⟨⟨rfl,k⟩,A⟩:=ax;split at A<;>try cases A
  split at A<;>try cases A
  simp only[cO,lQ,qs,I5]at A;obtain⟨⟨rfl,i,af,rfl⟩,d,O,rfl⟩:=A;obtain⟨xs,aQ,g,M,h⟩:=q.agg k h;obtain⟨v1,aA,h⟩:=hS h av;cases h;obtain⟨bD,M,aP⟩:=OG O af M aA w;exact q.rd aP<|by simp[*,Instr.field]
 ·obtain⟨⟨⟨rfl,k⟩,rfl,D⟩,A⟩:=ax;split at A<;>try cases A
  simp only[cO,lQ,qs]at A;obtain⟨rfl,i,af,rfl⟩:=A;obtain⟨ca,l,G,E,g,h⟩:=q.ptr k h;obtain⟨_,J,-,V,h⟩:=q.nat D h;obtain⟨I,h⟩:=iS h av;cases h;have I:J<_:=I;exact q.rd (Jb E G _)<|by simp[*,Instr.indexAt]
 ·obtain⟨⟨⟨rfl,k⟩,rfl,D⟩,A⟩:=ax;split at A<;>try cases A
  obtain⟨i,af,rfl⟩:=qs.1 A;obtain⟨b,n,c,u,g,d,h⟩:=q.aK k h;obtain⟨ca,rfl,h⟩:=hS h av;obtain⟨_,J,-,V,h⟩:=q.nat D h;obtain⟨I,h⟩:=iS h av;cases h;have I:J<n:=I;cases d with
  |fg _ l bf _ _ E G Z=>
   obtain rfl:=Z.resolve_right R;exact q.rd (Jb E G _)<|by simp[*,Instr.indexAt]
 ·obtain⟨⟨⟨rfl,k⟩,rfl,D⟩,A⟩:=ax;split at A<;>try cases A
  obtain⟨s,-,g,h⟩:=q.str k h;obtain⟨_,J,-,V,h⟩:=q.nat D h;obtain⟨ah,h⟩:=rA h av;obtain⟨b,Y,h⟩:=yi h av;cases h;have aT:J<s.size:=by rw[k7,hs]at ah;exact Nat.lt_of_sub_pos ah
  have ba:s[J]'aT=b:=by
   have:=congrArg (λl=>l[0]?) Y;simp only[n7,oa,z1,oZ]at this;exact Option.some.inj<|(vp (xs:=s.data) aT).symm.trans<|by simpa using this
  exact q.rd (.int _ _)<|by simp[*,Instr.index]
 ·obtain⟨⟨⟨rfl,k⟩,rfl,D⟩,A⟩:=ax;split at A<;>try cases A
  simp only[cO,lQ,qs,I5]at A;obtain⟨⟨rfl,i,af,rfl⟩,d,O,rfl⟩:=A;obtain⟨xs,aQ,g,M,h⟩:=q.agg k h;obtain⟨_,J,-,V,h⟩:=q.nat D h;obtain⟨I,h⟩:=iS h av;obtain⟨v1,aA,h⟩:=hS h av;cases h;obtain⟨bD,M,aP⟩:=OG O af M aA w;have I:J<_:=I;replace M:(part _ aQ<|J*i.size).run X.P w= .ok bD w:=M;exact q.rd aP<|by simp[*,Instr.index]
 ·obtain⟨⟨⟨⟨⟨rfl,k⟩,rfl⟩,rfl⟩,N⟩,aB⟩:=ax;split at N<;>try cases N
  rename_i ai O;obtain⟨hp,i,af,B⟩:=OV aB;exact I9 (abk (call:=call) k K O (λms e=>ai ms<|by rw[e]) af B hp q.f q.w h) j
 ·rename_i i _ _;obtain⟨⟨rfl,k⟩,rfl⟩:=ax;obtain⟨xs,e,h⟩:=OC h av;obtain⟨ah,h⟩:=rA h av;obtain⟨y,aL,h⟩:=yi h av;cases h;obtain⟨_,g,d⟩:=q.of k e;cases d with
  |tuple _ aQ L A=>
   have E:i<xs.size:=by simp at ah;omega
   have af:xs[i]'E=v:=by have:=congrArg (λl=>l[0]?) aL;simpa[E]using this
   have aC:i<aQ.size:=R
   exact q.rd (af▸A i E aC)<|by simp[*,Instr.extract]
 ·cases hp
 ·obtain⟨⟨rfl,k⟩,A⟩:=ax;split at A<;>try cases A
  obtain⟨u,g,d⟩:=q.of k j;replace h:ID _ call o st=_:=h;unfold ID at h;generalize o.ar _=f at h d;cases d<;>try cases h
  all_goals first
   |exact q.rd (.int _ _) (by simp[*,Builtin.len_,goInt])
   |(rename_i p _;cases p<;>cases h)
 ·obtain⟨⟨rfl,k⟩,A⟩:=ax;split at A<;>try cases A
  obtain⟨s,-,g,h⟩:=q.str k h;rw[vW,eP]at h;cases h;exact q.rd (.int _ _)<|by simp[*,Builtin.len_,goInt]
 ·cases h;split at ax
  ·obtain rfl:=lQ.1 ax;exact q.rd (.int _ _)<|by simp[*,Builtin.len_,goInt]
  ·split at ax<;>try cases ax
   obtain rfl:=lQ.1 ax;exact q.rd (.int _ _)<|by simp[*,Builtin.len_,goInt]
  ·cases ax
 ·obtain⟨⟨⟨rfl,k⟩,rfl,D⟩,A⟩:=ax;split at A<;>try cases A
  rename_i aa O;simp only[cO,lQ]at A;obtain⟨⟨rfl,aB⟩,aq⟩:=A;split at aq<;>try cases aq
  rename_i af;simp only[cO,lQ,p1]at aq;obtain⟨⟨rfl,rfl⟩,z,B,b1⟩:=aq;exact yo (abr (call:=call) k D K aa O (λk e=>by subst e;cases aB) af B b1 q.f q.w h) j j
 ·obtain⟨⟨rfl,k⟩,rfl,D⟩:=ax;obtain⟨i,n,-,g,h⟩:=q.int k h;obtain⟨m,hm,h⟩:=hS h av;rw[iq]at h;cases h;have M:=OK i q.f q.w _ n m D hm;exact q.rd (.int _ _)<|by simp[*,Builtin.max_]
 ·obtain⟨⟨rfl,k⟩,rfl,D⟩:=ax;obtain⟨i,n,-,g,h⟩:=q.int k h;obtain⟨m,hm,h⟩:=hS h av;rw[iq]at h;cases h;have M:=OL i q.f q.w _ n m D hm;exact q.rd (.int _ _)<|by simp[*,Builtin.min_]
 ·obtain⟨⟨⟨rfl,k⟩,rfl,D⟩,A⟩:=ax;split at A<;>try cases A
  obtain⟨i,af,rfl⟩:=qs.1 A;exact yo (abt (call:=call) k D K ‹_› af q.f q.w h) j j
 ·cases hp
 ·cases hp
 ·cases hp
 ·obtain⟨⟨rfl,k⟩,A⟩:=ax;split at A<;>try cases A
  obtain⟨i,af,B⟩:=(p1 _ _).1 A;have B:=A6 B;obtain⟨ca,l,cs,e,bT,aU,C,fh,G,E,g,-,H,h⟩:=q.rG k h;obtain⟨aT,h⟩:=iS h av;rw[eP]at aT;cases h;have bU:=H.iU;have b4:¬(C.size<=l.c5+ca.off):=R
  exact q.rd (.ptr _ _ E G)<|by simp[*,Conv.unsafePointer,OT X.P (ca:=⟨l.ct,l.c5+ca.off,none⟩) H.ex.choose_spec,cellsIn,Eb H.ex.choose_spec]
 ·obtain⟨⟨rfl,k⟩,A⟩:=ax;split at A<;>try cases A
  simp only[cO,lQ,qs]at A;obtain⟨⟨rfl,i,af,rfl⟩,B⟩:=A;have B:=A6 B;obtain⟨ca,l,cs,el,bT,aU,C,fh,G,E,g,-,H,h⟩:=q.rG k h;obtain⟨bm,h⟩:=yh h av;obtain⟨au,h⟩:=kg h av;obtain⟨b0,h⟩:=kg h av;obtain⟨aZ,h⟩:=kg h av;rw[eP]at aZ;cases h;subst bm b0;have az:=H.plain j;have a6:=H.vX sC;have ay:X.P.cellsOf el=i.size:=by simp[Program.cellsOf,af]
  have Z:l.c5+ca.off=0:=R
  have b8:(variablesAt ⟨l.ct,l.c5+ca.off,none⟩ el 1).run X.P w= .ok true w:=by
   simp only[variablesAt,Sem.run_bind,run_program,Result.andThen,run_shape,Eb a6,Sem.run_pure];rw[OR X.P el _ _ 1 (by rw[ay];exact B) (by rw[Z];simp) (by
    rw[Z,ay,az.2.2,aZ];simp[Nat.div_self<|kQ B])]
  refine q.rd (.ptr _ _ E G) ?_;clear Z au az;simp[*,Conv.unsafePointer,OT X.P (ca:=⟨l.ct,l.c5+ca.off,none⟩) a6]
 ·obtain⟨rfl,k⟩:=ax;obtain⟨b,n,c,u,g,d,h⟩:=q.aK k h;cases b with
  |none=>
   cases h;cases d;exact q.rd .kV (by simp[*,abu])
  |some b=>
   replace h:dz c 0 a1.no (a1.ok (.pointer<|some b) o st)= .ok v bs ak:=h;rw[lO]at h;split at h<;>cases h;cases d with
   |fg _ l bf _ _ E G Z=>
    obtain rfl:=Z.resolve_right R;exact q.rd (.ptr _ _ E G)<|by simp[*,abv _ _ _ _ (c+l.ex) R]
 ·obtain⟨⟨⟨rfl,k⟩,rfl,D⟩,A⟩:=ax;split at A<;>try cases A
  simp only[cO,lQ,qs]at A;obtain⟨rfl,i,af,B⟩:=A;exact yo (abw (call:=call) k D K ‹_› af B.symm q.f q.w h) j j
 ·obtain⟨⟨⟨rfl,k⟩,rfl,D⟩,aO⟩:=ax;obtain⟨s,-,g,h⟩:=q.str k h;obtain⟨b7,bW,-,V,h⟩:=q.int D h;obtain⟨ax,L⟩:=iT h av;obtain⟨c,ae,A⟩:=pe L av;obtain rfl:=v5 ax;subst ae;cases A;refine q.rd (.int _ _) ?_;have:=X.AQ _ aO s (c:Int) w;simp only[Ea K,xI,jj,xJ,g,V];rw[this];congr 2;have S:s.size=s.data.toList.length:=(hs (xs:=s.data)).symm;have bx:(λi:Nat=>s[i]! ==(c:Int).toNat.toUInt8)=(λi:Nat=>s.data.toList[i]! ==UInt8.ofNat c):=by
   funext i;have ae:s[i]! =s.data[i]! :=by
    by_cases af:i<s.size
    ·rw[getElem!_pos s i af,getElem!_pos s.data i af];rfl
    ·rw[getElem!_neg s i af,getElem!_neg s.data i af]
   rw[ae];simp[Array.getElem!_eq_getD]
  rw[OS,S,bx];cases(List.range s.data.toList.length).find? (λi=>s.data.toList[i]! ==UInt8.ofNat c)<;>rfl
 ·obtain⟨⟨rfl,k⟩,aO⟩:=ax;cases h;exact q.rd (q.ar k)<|by rw[Ea K];simp[X.AP _ aO]
 ·replace h:vT call o st=_:=h;unfold vT at h;rw[gF]at h;cases h;obtain⟨aG,bH,F,an,aW⟩:=bN.alloc X q.w (.map [] 0) (.map #[] 0) 0 (λaG w' _ _ aN=>⟨j,j,#[],0,aN,j,⟨λs t h _ _=>absurd h<|p2 _,λs h=>absurd h<|p2 _,λJ=>av⟩,av,.nil,.nil,[],.nil,j,λi af=>by simp at af⟩) {w with heap:=w.heap.push<|.map #[] 0} rfl;subst aW;refine Ja ⟨j,_,_,_,.map<|some w.heap.size,_,j,av,?_,j,.map _ _ _ an,bH,F⟩ j;simp[*,Instr.makeMap]
 ·cases h
 ·exact abH (call:=call) (K▸ax) q h
 ·cases h
 ·cases ax
end
variable{op:Op}{f:ce}{a8:ac ce}
def abJ(ax:X.pk op .tM=true):∃ay,op= .call {callee:=.builtin .recover,args:= #[],argTypes:=ay}:=by
 cases op with
 |call c=>
  obtain⟨callee,⟨args⟩,ay⟩:=c;cases callee with
  |builtin b=>
   cases b with
   |recover=>
    match args,ax with
    |[],_=>exact⟨ay,j⟩
    |_::_,ax=>cases ax
   |_=>cases ax
  |_=>cases ax
 |_=>cases ax
def O6(ax:X.pk op (.call f a8)=true):∃g args ay,op= .call {callee:=.value g,args:=args,argTypes:=ay}/\
 (c0 X.a3 f g&&mz X.a3 a8 args.toList&&(match g with|.func k=>((X.P.funcs[k]?).map λfn=>fn.body.isSome&& !(fn.name== "runtime.NumGoroutine")).getD false|_=>true))=true:=by
 cases op with
 |call c=>
  obtain⟨callee,args,ay⟩:=c;cases callee with
  |value g=>exact⟨g,args,ay,j,ax⟩
  |_=>cases ax
 |_=>cases ax
def abK(ax:X.pk op (.o7 f a8)=true):∃g args ay,op= .defer {callee:=.value g,args:=args,argTypes:=ay}/\(c0 X.a3 f g&&mz X.a3 a8 args.toList)=true:=by
 cases op with
 |defer c=>
  obtain⟨callee,args,ay⟩:=c;cases callee with
  |value g=>exact⟨g,args,ay,j,ax⟩
  |_=>cases ax
 |_=>cases ax
def abL{p:ce}(ax:X.pk op (.nz p)=true):∃q,op= .panic q/\c0 X.a3 p q=true:=by
 cases op with
 |panic q=>exact⟨q,j,ax⟩
 |_=>cases ax
end Go.bA
namespace Go.bA
def Ek{X:Ctx}{ab:bF}{o bs:aJ}{a:Act}{aM:Nat}{st ak:aj}{w:f5}{U:Oper}{v:bv}{call:bM}{x:c7}(ax:X.pk U.op x=true)(j:eK ab o a aM)(D:bN X ab st w)(h:bw call x o st= .ok v bs ak)(hp:x.inPlace=true):
 bs=o/\qu X x ab w v st ak (execOp a.eval U):=abI ax ⟨j,D⟩ h hp
structure dK where
 fn:d7
 kind:CallKind
 b1:be Nat
def dK.at(b:dK)(a:Act)(todo:ac Item):Frame:=
 {fn:=b.fn,tmps:=a.tmps,todo:=todo,defers:=a.defers,mode:=.run,kind:=b.kind,roundOf:=b.b1}
def eval_at(b:dK)(a:Act)(todo:ac Item):(b.at a todo).eval=a.eval:=by
 funext x;cases x<;>rfl
section
variable{P:f8}{b:dK}{a:Act}{k:ac Item}{cs:ac Frame}{w:f5}{ops:bi Oper}
variable{U:Oper}{i:Nat}{rest:ac Nat}{w':f5}{c:Code}{l:Nat}{x y:Code}{v:bv}{f:d7}
def abM:step P (lone (b.at a<|.code .skip::k) cs w)= .next (lone (b.at a k) cs w):=step_lone_go<|by simp[stepG,stepG.exec,dK.at]
def abN:step P (lone (b.at a<|.code (.label l)::k) cs w)= .next (lone (b.at a k) cs w):=step_lone_go<|by simp[stepG,stepG.exec,dK.at]
def abO{id:Nat}:step P (lone (b.at a<|.inBlock id::k) cs w)= .next (lone (b.at a k) cs w):=step_lone_go<|by simp[stepG,stepG.exec,dK.at]
def O7:step P (lone (b.at a<|.inScope c::k) cs w)= .next (lone (b.at a k) cs w):=step_lone_go<|by simp[stepG,stepG.exec,dK.at]
def O8:step P (lone (b.at a<|.code (.seq x y)::k) cs w)= .next (lone (b.at a<|.code x:: .code y::k) cs w):=step_lone_go<|by simp[stepG,stepG.exec,dK.at]
def El{c:ce}{t:Bool}(h:a.eval c= .bool t):
 step P (lone (b.at a<|.code (.cond c x y)::k) cs w)= .next (lone (b.at a<|.code (if t then x else y)::k) cs w):=
 step_lone_go (by
  have:=eval_at b a<|.code (.cond c x y)::k;simp[dK.at]at this;simp[stepG,stepG.exec,dK.at,this,h])
def O9{id:Nat}:step P (lone (b.at a<|.code (.block id c)::k) cs w)= .next (lone (b.at a<|.code c:: .inBlock id::k) cs w):=step_lone_go<|by simp[stepG,stepG.exec,dK.at]
def Pa:step P (lone (b.at a<|.code (.loop c)::k) cs w)= .next (lone (b.at a<|.code c:: .inLoop c::k) cs w):=step_lone_go<|by simp[stepG,stepG.exec,dK.at]
def Pb:step P (lone (b.at a<|.inLoop c::k) cs w)= .next (lone (b.at a<|.code c:: .inLoop c::k) cs w):=step_lone_go<|by simp[stepG,stepG.exec,dK.at]
def Pc:step P (lone (b.at a<|.code (.scope c)::k) cs w)= .next (lone (b.at a<|.code c:: .inScope c::k) cs w):=step_lone_go<|by simp[stepG,stepG.exec,dK.at]
def abP{id:Nat}{j:ac Item}(h:exitTo id k=some j):step P (lone (b.at a<|.code (.exit id)::k) cs w)= .next (lone (b.at a j) cs w):=step_lone_go<|by simp[stepG,stepG.exec,dK.at,h]
def Pd{id:Nat}:step P (lone (b.at a<|.code (.region id ops false)::k) cs w)= .next (lone (b.at a<|.inRegion ops (List.range ops.size)::k) cs w):=step_lone_go<|by simp[stepG,stepG.exec,dK.at]
def abQ{id:Nat}:step P (lone (b.at a<|.code (.region id ops true)::k) cs w)=
 .next (lone (b.at a<|.inRegion ops (Region.schedule (P.follows .mixedOrders) ops<|w.tape w.drawn<|.order b.fn id)::k) cs {w with drawn:=w.drawn+1}):=
 step_lone_go<|by simp[stepG,stepG.exec,dK.at,Sem.run,Question.forced,Question.cut]
def Pe:step P (lone (b.at a<|.inRegion ops []::k) cs w)= .next (lone (b.at a k) cs w):=step_lone_go<|by simp[stepG,stepG.exec,dK.at]
def finish_at(i:Nat)(rest:ac Nat)(v:bv)(j:ops[i]? =some U):
 (b.at a<|.inRegion ops (i::rest)::k).finish v=b.at (a.put U.dst v) (.inRegion ops rest::k):=by
 cases h:U.dst<;>simp[Frame.finish,dK.at,Act.put,j,h]
def Em(j:ops[i]? =some U)(h:Region.wanted U (yielded ops a.tmps)=false):
 step P (lone (b.at a<|.inRegion ops (i::rest)::k) cs w)= .next (lone (b.at (a.put U.dst undef)<|.inRegion ops rest::k) cs w):=by
 rw[<-finish_at i rest undef j];exact step_lone_go<|by simp[dK.at];simp[stepG,stepG.exec,j,h]
theorem ua(j:ops[i]? =some U)(D:Region.wanted U (yielded ops a.tmps)=true)(E:b.b1=none\/∀c,U.op≠.defer c):
 stepG P true {frame:=b.at a<|.inRegion ops (i::rest)::k,callers:=cs,status:=.running,dying:=none} w=
  stepG.apply P true (b.at a<|.inRegion ops (i::rest)::k) cs none (execOp a.eval U) w:=by
 have g:=eval_at b a<|.inRegion ops (i::rest)::k;simp[dK.at]at g;simp[stepG,stepG.exec,dK.at,j,D,stepG.oper,Frame.oper?]
 grind
def En(j:ops[i]? =some U)(F:Region.wanted U (yielded ops a.tmps)=true)(D:b.b1=none\/∀c,U.op≠.defer c)
 (E:(execOp a.eval U).run P w= .ok (.value v) w'):step P (lone (b.at a<|.inRegion ops (i::rest)::k) cs w)= .next (lone (b.at (a.put U.dst v)<|.inRegion ops rest::k) cs w'):=by
 refine step_lone_go ?_;rw[ua j F D,<-finish_at i rest v j];simp[stepG.apply,E]
def abR(j:ops[i]? =some U)(F:Region.wanted U (yielded ops a.tmps)=true)(D:b.b1=none\/∀c,U.op≠.defer c)
 (E:(execOp a.eval U).run P w= .ok .skip w'):step P (lone (b.at a<|.inRegion ops (i::rest)::k) cs w)= .next (lone (b.at (a.put U.dst undef)<|.inRegion ops rest::k) cs w'):=by
 refine step_lone_go ?_;rw[ua j F D,<-finish_at i rest undef j];simp[stepG.apply,E]
def abS{d:Deferred}(j:ops[i]? =some U)(F:Region.wanted U (yielded ops a.tmps)=true)(D:b.b1=none)
 (E:(execOp a.eval U).run P w= .ok (.defer d) w'):step P (lone (b.at a<|.inRegion ops (i::rest)::k) cs w)= .next (lone (b.at ({a with defers:=d::a.defers}.put U.dst undef)<|.inRegion ops rest::k) cs w'):=by
 refine step_lone_go ?_;rw[ua j F<|.inl D];have:=finish_at (b:=b) (a:={a with defers:=d::a.defers}) (k:=k) i rest undef j;rw[<-this];simp[stepG.apply,E,dK.at]
def Pf{args:bi bv}(E:ops[i]? =some U)(F:Region.wanted U (yielded ops a.tmps)=true)(j:b.b1=none\/∀c,U.op≠.defer c)
 (D:(execOp a.eval U).run P w= .ok (.enter f args) w'):step P (lone (b.at a<|.inRegion ops (i::rest)::k) cs w)= .next (lone (Frame.enter P f args .normal) (b.at a (.inRegion ops (i::rest)::k)::cs) w'):=by
 refine step_lone_go ?_;rw[ua E F j];simp[stepG.apply,D,dK.at]
def Pg{ay:bi bv}{dV body:Code}(E:ops[i]? =some U)(F:Region.wanted U (yielded ops a.tmps)=true)(j:b.b1=none\/∀c,U.op≠.defer c)
 (D:(execOp a.eval U).run P w= .ok (.round l f ay dV body) w'):step P (lone (b.at a<|.inRegion ops (i::rest)::k) cs w)= .next (lone (Frame.round l f ay dV body .normal) (b.at a (.inRegion ops (i::rest)::k)::cs) w'):=by
 refine step_lone_go ?_;rw[ua E F j];simp[stepG.apply,D]
def abT(j:ops[i]? =some U)(F:Region.wanted U (yielded ops a.tmps)=true)(D:b.b1=none)
 (E:(execOp a.eval U).run P w= .ok .recover w'):
 step P (lone (b.at a<|.inRegion ops (i::rest)::k) cs w)=match tryRecover (b.at a<|.inRegion ops (i::rest)::k) cs with
  |some (v,q)=>.next (lone (b.at (a.put U.dst v)<|.inRegion ops rest::k) q w')
  |none=>.next (lone (b.at (a.put U.dst .nilIface)<|.inRegion ops rest::k) cs w'):=by
 have g:(b.at a<|.inRegion ops (i::rest)::k).roundOf=none:=D;cases h:tryRecover (b.at a<|.inRegion ops (i::rest)::k) cs with
 |none=>
  refine step_lone_go ?_;rw[ua j F<|.inl D,<-finish_at i rest _ j];simp[stepG.apply,E,g,h]
 |some p=>
  refine step_lone_go ?_;rw[ua j F<|.inl D,<-finish_at i rest _ j];simp[stepG.apply,E,g,h]
def abU(E:ops[i]? =some U)(F:Region.wanted U (yielded ops a.tmps)=true)(j:b.b1=none\/∀c,U.op≠.defer c)
 (D:(execOp a.eval U).run P w= .halt (.panic v) w'):step P (lone (b.at a<|.inRegion ops (i::rest)::k) cs w)= .next (lone {b.at a (.inRegion ops (i::rest)::k)with mode:=.panicking [{v,recovered:=false}]} cs w'):=by
 refine step_lone_go ?_;rw[ua E F j];simp[stepG.apply,D,dK.at,Frame.raise]
end
inductive Jh(P:Program)(Eo:Value)(args:List Value)(w:World):Frame->Prop
 |enter (f:FuncId) (as:Array Value) (h:((do let d<-Deferred.ofValue Eo args.toArray;invoke d.target d.args):Sem Next).run P w= .ok (.enter f as) w):Jh P Eo args w (Frame.enter P f as .normal)
 |round (l:Nat) (f:FuncId) (ay:Array Value) (dV body:Code) (h:((do let d<-Deferred.ofValue Eo args.toArray;invoke d.target d.args):Sem Next).run P w= .ok (.round l f ay dV body) w):Jh P Eo args w (Frame.round l f ay dV body .normal)
def Ep(X:Ctx)(ab:bF)(w:f5)(dT c:Frame)(cs:ac Frame):dQ->Prop
 |.ret v ak _=>∃aG bD w',bc aG v bD/\bN X aG ak w'/\dS ab aG w w'/\Steps X.P (lone dT (c::cs) w) (lone (c.finish bD) cs w')
 |.aR v ak _=>∃aG bD w',bc aG v bD/\bN X aG ak w'/\dS ab aG w w'/\Steps X.P (lone dT (c::cs) w) (lone (c.raise [{v:=bD,recovered:=false}]) cs w')
 |.no=>True
def lk(X:Ctx)(call:bM):Prop:=
 ∀ab g args st h j w,bc ab g h->bI ab args j->bN X ab st w->call g args none st≠.no->
  ∃dT,Jh X.P h j w dT/\∀c cs,Ep X ab w dT c cs<|call g args none st
def iX(b:dK)(aR:be bv)(ab:bF)(bd:Bool->ac Frame):Prop:=
 match aR with
 |none=>∀(F:Frame) (h:Bool),F.kind=b.kind->tryRecover F (bd h)=none
 |some j=>∃g,bc ab j g/\(∀F:Frame,F.kind=b.kind->tryRecover F (bd false)=some (g,bd true))/\∀F:Frame,F.kind=b.kind->tryRecover F (bd true)=none
def iX.mono{b:dK}{aR:be bv}{ab aG:bF}{bd:Bool->ac Frame}(hle:ab.le aG)(h:iX b aR ab bd):iX b aR aG bd:=by
 cases aR with
 |none=>exact h
 |some B=>obtain⟨A,j,q,g⟩:=h;exact⟨A,j.mono hle,q,g⟩
def nG(ab:bF)(x:be Nat)(y:be Nat):Prop:=(x=none/\y=none)\/∃l g,x=some l/\y=some g/\ab l=some ⟨g,0,0,id⟩
def nG.mono{ab aG:bF}(hle:ab.le aG){x y:be Nat}(h:nG ab x y):nG aG x y:=by
 rcases h with h|⟨l,A,j,q,g⟩
 ·exact .inl h
 ·exact .inr ⟨l,A,j,q,hle _ _ g⟩
variable{X:Ctx}
def ll(X:Ctx)(aM:Nat)(ops:bi Oper)(x:bm)(U:Oper):Bool:=
 (match x.d,U.dst with
  |none,none=>true
  |some a,some b=>Nat.beq a b&&Nat.ble (Nat.succ b) aM
  |_,_=>false)&&X.pk U.op x.U&&
 (match x.g,U.guard with
  |none,none=>true
  |some (t,A),some (J,h)=>(A==h)&&(match(ops[J]?).bind (·.dst)with|some q=>Nat.beq t q&&Nat.ble (Nat.succ t) aM|none=>false)
  |_,_=>false)
section
variable{aM:Nat}{ops:bi Oper}{x:bm}{U:Oper}
theorem Er(h:ll X aM ops x U=true):x.d=U.dst/\∀t,x.d=some t->t<aM:=by
 unfold ll at h;simp at h;have g:=h.1.1;split at g
 ·grind
 ·rename_i a b q B;rw[cO]at g;have:=pn g.1;subst this;rw[q,B];exact⟨j,λt A=>by cases A;exact lf.1 g.2⟩
 ·cases g
def A9(h:ll X aM ops x U=true):X.pk U.op x.U=true:=by
 unfold ll at h;simp at h;exact h.1.2
variable{ab:bF}{o bs:aJ}{a:Act}{st ak:aj}{w:f5}{v:bv}{call:bM}{b:dK}{bd:Bool->ac Frame}{k:ac Item}{i:Nat}{rest:ac Nat}
theorem Ph{α:Type}{E D z r:α}(h:ll X aM ops x U=true)(M:eK ab o a aM)(ax:gW o x.g E D z=r)(N:z≠r):
 (E=r/\Region.wanted U (yielded ops a.tmps)=true)\/(D=r/\Region.wanted U (yielded ops a.tmps)=false):=by
 unfold ll at h;simp at h;have B:=h.2;split at B
 ·rename_i G H;rw[G]at ax;exact .inl ⟨ax,by simp[Region.wanted,H]⟩
 ·rename_i t q J L G H;rw[G]at ax;rw[cO]at B;obtain⟨aa,A⟩:=B;have O:q=L:=by grind
  subst O;split at A
  ·rename_i Z S;rw[cO]at A;have Y:=pn A.1;have aT:t<a.tmps.size:=by rw[M.size];exact lf.1 A.2
   have F:=M.tmp t;have V:a.tmps[t]? =some (a.tmps.getD t undef):=by simp[aT]
   have I:yielded ops a.tmps J=match a.tmps.getD t undef with|.bool b=>some b|_=>none:=by
    unfold yielded
    grind
   have Q:Region.wanted U (yielded ops a.tmps)=(yielded ops a.tmps J==some q):=by simp[Region.wanted,H]
   have C:jX (o.tmp t) (λb=>cond b (cond q E D)<|cond q D E) (qd (o.tmp t) (λ_=>D) z)=r:=ax;generalize a':a.tmps.getD t undef=T at F I;generalize W:o.tmp t=K at C F;cases K with
   |bool R=>
    cases F;have ad:cond R (cond q E D) (cond q D E)=r:=C
    grind
   |tuple xs=>
    cases F;exact .inr ⟨C,by rw[Q,I];rfl⟩
   |_=>exact absurd C N
  ·cases A
 ·cases B
def abV(a:Act)(d:be Tmp)(v:bv){aN:ac Deferred}:({a with defers:=aN}.put d v).tmps=(a.put d v).tmps:=by cases d<;>rfl
def Pj(ao:ll X aM ops x U=true)(aJ:lk X call)(M:ops[i]? =some U)(T:Region.wanted U (yielded ops a.tmps)=true)(D:eK ab o a aM)(G:bN X ab st w)(aA:nG ab o.b1 b.b1)
 (aa:iX b o.aR ab bd) (h:bw call x.U o st= .ok v bs ak):
 ∃aG af w',Steps X.P (lone (b.at a<|.inRegion ops (i::rest)::k) (bd o.cL) w) (lone (b.at af<|.inRegion ops rest::k) (bd bs.cL) w')/\eK aG (bs.put x.d v) af aM/\bN X aG ak w'/\dS ab aG w w'/\
  bs.aR=o.aR/\bs.b1=o.b1/\∃bD,af.tmps=(a.put U.dst bD).tmps:=by
 obtain⟨S,R⟩:=Er ao;have B:=A9 ao;have az:∀{q:Prop},(b.b1=none->q)->(o.b1=none->q):=by
  intro q aS ah;rcases aA with⟨_,F⟩|⟨l,ba,E,_,_⟩
  ·exact aS F
  ·rw[ah]at E;cases E
 by_cases hp:x.U.inPlace=true
 ·obtain⟨rfl,⟨aG,n,w',W,ah,ad,Q⟩,_⟩:=Ek B D G h hp;have Z:b.b1=none\/∀c,U.op≠.defer c:=by
   right;intro c a';rw[a']at B;cases C:x.U with
   |rj fn p q=>rw[C]at B;cases fn<;>cases B
   |x3 p=>rw[C]at h;cases h
   |refuse=>rw[C]at h;cases h
   |o7 p q=>rw[C]at hp;cases hp
   |ext y=>rw[C]at B;cases y<;>cases B
   |_=>rw[C]at B;cases B
  rcases ah with⟨bD,rfl,N⟩|⟨rfl,rfl⟩
  ·refine⟨aG,a.put U.dst bD,w',.one<|En M T Z W,?_,ad,Q,j,j,_,j⟩;rw[<-S];exact(D.mono Q.le).put R N
  ·refine⟨aG,a.put U.dst undef,w',.one<|abR M T Z W,?_,ad,Q,j,j,_,j⟩;rw[<-S];exact(D.mono Q.le).put R<|bc.undef aG
 ·cases C:x.U with
  |call f a8=>
   rw[C]at h B;obtain⟨g,args,ay,Y,O⟩:=O6 B;simp at O;obtain⟨rfl,bH⟩:=rE O.1.1;obtain⟨rfl,ag⟩:=A3.1 O.1.2;have L:dQ.rec (λv st _=>.ok v o st) (λv st _=>.aR v st) .no (call (o.ar f) (dJ o args.toList) none st)=a1.ok v bs ak:=h;have Z:b.b1=none\/∀c,U.op≠.defer c:=.inr (by rw[Y];simp);obtain⟨dT,aN,aw⟩:=aJ ab (o.ar f) (dJ o args.toList) st (a.eval f) (args.toList.map a.eval) w (D.ar G bH) (tW D G _ ag) G (by intro e;rw[e]at L;cases L);have an:(execOp a.eval U).run X.P w=((do let d<-Deferred.ofValue (a.eval f) (args.toList.map a.eval).toArray;invoke d.target d.args):Sem Next).run X.P w:=by
    unfold execOp;rw[Y];simp[resolve,<-Array.toList_map]
   cases a':call (o.ar f) (dJ o args.toList) none st with
   |ret v1 aE aI=>
    rw[a']at L aw;have a4:=L;obtain⟨H,K,I⟩:=AY a4;subst H K I;obtain⟨aG,bD,w',N,ad,Q,ae⟩:=aw (b.at a<|.inRegion ops (i::rest)::k)<|bd o.cL;have aW:=finish_at (b:=b) (a:=a) (k:=k) i rest bD M;rw[aW]at ae;refine⟨aG,a.put U.dst bD,w',?_,?_,ad,Q,j,j,_,j⟩
    ·cases aN with
     |enter a0 as A=>exact .head (Pf M T Z<|by rw[an];exact A) ae
     |round l a0 a6 b' body A=>exact .head (Pg M T Z<|by rw[an];exact A) ae
    ·rw[<-S];exact(D.mono Q.le).put R N
   |aR v1 aE aI=>rw[a']at L;cases L
   |no=>rw[a']at L;cases L
  |inv x1 f a8=>rw[C]at h;cases h
  |tM=>
   rw[C]at h B;obtain⟨ay,Y⟩:=abJ B;obtain⟨ah,E⟩:=yg h λ_=>av;have ai:=az id ah;have W:(execOp a.eval U).run X.P w= .ok .recover w:=by
    unfold execOp;rw[Y];simp[resolve,invoke,builtin]
   have A:=abT (k:=k) (cs:=bd o.cL) M T ai W (rest:=rest);cases V:o.aR with
   |none=>
    rw[V]at E aa;have F:=E;obtain⟨H,K,I⟩:=AY F;subst H K I;rw[aa _ _ j]at A;refine⟨ab,_,w,.one A,?_,G,.refl _ _,V,j,_,j⟩;rw[<-S];exact D.put R .nilIface
   |some aL=>
    rw[V]at E aa;obtain⟨bf,aD,aO,aY⟩:=aa;have F:cond o.cL (a1.ok .nilIface o st) (.ok aL ⟨o.t,o.c4,o.aR,true,o.b1⟩ st)=a1.ok v bs ak:=by rw[V];exact E
    cases aj:o.cL with
    |true=>
     rw[aj]at F A;obtain⟨H,K,I⟩:=AY F;subst H K I;rw[aY _ j]at A;refine⟨ab,_,w,by rw[aj];exact .one A,?_,G,.refl _ _,V,j,_,j⟩;rw[<-S];exact D.put R .nilIface
    |false=>
     rw[aj]at F A;obtain⟨H,K,I⟩:=AY F;subst H K I;rw[aO _ j]at A;refine⟨ab,_,w,.one A,?_,G,.refl _ _,V,j,_,j⟩;rw[<-S];exact eK.put (o:=⟨o.t,o.c4,o.aR,true,o.b1⟩) ⟨D.tmp,D.size,D.c4⟩ R aD
  |o7 f a8=>
   rw[C]at h B;obtain⟨g,args,ay,Y,O⟩:=abK B;simp at O;obtain⟨rfl,bH⟩:=rE O.1;obtain⟨rfl,ag⟩:=A3.1 O.2;obtain⟨ah,E⟩:=yg h λ_=>av;have ai:=az id ah;obtain⟨fn,first,au,aC,F⟩:=IL E av;have N:=D.ar G bH;rw[aC]at N;cases fn with
   |func Ji=>
    obtain⟨H,K,I⟩:=AY (F:a1.ok undef ⟨o.t,{target:=.fn (.func Ji) au,args:=⟨fe first.toList (dJ o args.toList)⟩}::o.c4,o.aR,o.cL,o.b1⟩ st=a1.ok v bs ak);subst H K I;generalize aX:a.eval f=j1 at N;cases N with
    |func _ aq _ aQ _ aB aP aK aF a2 a5=>
     have aT:=tW D G _ ag;have W:(execOp a.eval U).run X.P w= .ok (.defer {target:=.fn aq aB,args:=aQ++args.map a.eval}) w:=by
      unfold execOp;rw[Y];simp[resolve,aX,Deferred.ofValue]
     have A:=abS (k:=k) (cs:=bd o.cL) M T ai W (rest:=rest);refine⟨ab,_,w,.one A,?_,G,.refl _ _,j,j,undef,abV _ _ _⟩;rw[<-S];refine eK.put (o:=⟨o.t,{target:=.fn (.func Ji) au,args:=⟨fe first.toList (dJ o args.toList)⟩}::o.c4,o.aR,o.cL,o.b1⟩) (a:={a with defers:={target:=.fn aq aB,args:=aQ++args.map a.eval}::a.defers}) ⟨D.tmp,D.size,⟨⟨?_,aP,bI.tU a2 a5⟩,D.c4⟩⟩ R<|bc.undef ab;have:=(bI.tU aK aF).append aT;simpa using this
   |_=>cases F
  |nz p=>
   rw[C]at h;obtain⟨t,a9,_,E⟩:=IM h av;cases E
  |_=>rw[C]at hp;exact absurd j hp
end
end Go.bA
namespace Go.bA
variable{X:Ctx}
section
variable{aM:Nat}{ops:bi Oper}{x:bm}{U:Oper}{ab:bF}{o bs:aJ}{a:Act}{st ak:aj}{w:f5}{v:bv}{call:bM}{b:dK}{bd:Bool->ac Frame}{k:ac Item}{i:Nat}{rest:ac Nat}
variable{cs:ac Frame}{s rC:Machine}{aG:bF}
def dK.panics(b:dK)(a:Act)(todo:ac Item)(v:bv):Frame:={b.at a todo with mode:=.panicking [{v,recovered:=false}]}
def Pk(Y:ll X aM ops x U=true)(aa:lk X call)(I:ops[i]? =some U)(M:Region.wanted U (yielded ops a.tmps)=true)(G:eK ab o a aM)(D:bN X ab st w)
 (Q:x.U.kU=true) (h:bw call x.U o st= .aR v ak):
 ∃aG bD w',Steps X.P (lone (b.at a<|.inRegion ops (i::rest)::k) cs w) (lone (b.panics a (.inRegion ops (i::rest)::k) bD) cs w')/\bc aG v bD/\bN X aG ak w'/\dS ab aG w w':=by
 have F:=A9 Y;cases E:x.U with
 |call f a8=>
  rw[E]at h F;obtain⟨g,args,ay,C,B⟩:=O6 F;simp at B;obtain⟨rfl,bH⟩:=rE B.1.1;obtain⟨rfl,V⟩:=A3.1 B.1.2;have j:dQ.rec (λv st _=>.ok v o st) (λv st _=>.aR v st) .no (call (o.ar f) (dJ o args.toList) none st)=a1.aR v ak:=h;have O:b.b1=none\/∀c,U.op≠.defer c:=.inr (by rw[C];simp);obtain⟨dT,ad,R⟩:=aa ab (o.ar f) (dJ o args.toList) st (a.eval f) (args.toList.map a.eval) w (G.ar D bH) (tW G D _ V) D (by intro e;rw[e]at j;cases j);have N:(execOp a.eval U).run X.P w=((do let d<-Deferred.ofValue (a.eval f) (args.toList.map a.eval).toArray;invoke d.target d.args):Sem Next).run X.P w:=by
   unfold execOp;rw[C];simp[resolve,<-Array.toList_map]
  cases K:call (o.ar f) (dJ o args.toList) none st with
  |aR v1 W Z=>
   rw[K]at j R;have aj:=j;cases aj;obtain⟨aG,bD,w',A,a',ag,L⟩:=R (b.at a<|.inRegion ops (i::rest)::k) cs;have aq:(b.at a<|.inRegion ops (i::rest)::k).raise [{v:=bD,recovered:=false}]=b.panics a (.inRegion ops (i::rest)::k) bD:=rfl;refine⟨aG,bD,w',?_,A,a',ag⟩;cases ad with
   |enter ai as H=>exact .head (Pf I M O<|by rw[N];exact H) L
   |round l ai an au body H=>exact .head (Pg I M O<|by rw[N];exact H) L
  |ret v1 W Z=>rw[K]at j;cases j
  |no=>rw[K]at j;cases j
 |inv x1 f a8=>rw[E]at h;cases h
 |nz p=>
  rw[E]at h F;obtain⟨q,C,B⟩:=abL F;obtain⟨rfl,bH⟩:=rE B;obtain⟨t,ao,hp,ae⟩:=IM h av;have af:=ae;cases af;have A:=G.ar D bH;rw[hp]at A;generalize ah:a.eval p=j1 at A;cases A with
  |iface _ _ T S=>
   refine⟨ab,.iface t T,w,.one<|abU I M (.inr<|by rw[C];simp) ?_,.iface _ _ _ S,D,.refl _ _⟩;unfold execOp;rw[C];simp[ah,Instr.panic]
 |_=>rw[E]at Q;cases Q
def Es(P:f8)(s:Machine)(b:dK)(a:Act)(k:ac Item)(cs:ac Frame)(w:f5)(aG:bF):c1->Prop
 |.norm=>Steps P s (lone (b.at a k) cs w)
 |.exit id=>∃g,exitTo id g=exitTo id k/\Steps P s (lone (b.at a<|.code (.exit id)::g) cs w)
 |.ret=>∃g,Steps P s (lone (b.at a<|.code .ret::g) cs w)
 |.aR v=>∃bD g,bc aG v bD/\Steps P s (lone (b.panics a g bD) cs w)
def fN(X:Ctx)(b:dK)(aM:Nat)(bd:Bool->ac Frame)(s:Machine)(k:ac Item)(o:aJ)(ab:bF)(w:f5):cH->Prop
 |.out e bs ak=>∃aG g w',eK aG bs g aM/\bN X aG ak w'/\dS ab aG w w'/\bs.aR=o.aR/\bs.b1=o.b1/\Es X.P s b g k (bd bs.cL) w' aG e
 |.no=>True
def Es.head{P:f8}{e:c1}(h:Steps P s rC)(D:Es P rC b a k cs w aG e):Es P s b a k cs w aG e:=by
 cases e with
 |norm=>exact h.trans D
 |exit id=>obtain⟨j,q,g⟩:=D;exact⟨j,q,h.trans g⟩
 |ret=>obtain⟨j,g⟩:=D;exact⟨j,h.trans g⟩
 |aR v=>obtain⟨bD,j,q,g⟩:=D;exact⟨bD,j,q,h.trans g⟩
def fN.head{w':f5}{r:cH}(h:Steps X.P s rC)(ax:dS ab aG w w')(hp:bs.aR=o.aR)(D:bs.b1=o.b1)(j:fN X b aM bd rC k bs aG w' r):fN X b aM bd s k o ab w r:=by
 cases r with
 |no=>trivial
 |out e I K=>
  obtain⟨A,B,H,F,G,q,g,C,E⟩:=j;exact⟨A,B,H,F,G,ax.trans q,g.trans hp,C.trans D,E.head h⟩
def abW(x:bm)(xs:ac bm)(o:aJ)(st:aj):fV call (x::xs) o st=
 gW o x.g (a1.rec (motive:=λ_=>cH) (λv o st=>fV call xs (o.put x.d v) st) (λv st=>cond x.U.kU (.out (.aR v) o st) .no) .no<|bw call x.U o st)
  (fV call xs (o.put x.d undef) st) .no:=rfl
def rH(o:aJ)(d:be Tmp)(v:bv):(o.put d v).aR=o.aR/\(o.put d v).b1=o.b1/\(o.put d v).cL=o.cL/\(o.put d v).c4=o.c4:=by
 obtain⟨j,q,h,g⟩:=qj o d v;exact⟨q,g,h,j⟩
theorem Et(I:lk X call):∀(xs:ac bm) (l:ac Nat) (ab:bF) (o:aJ) (a:Act) (st:aj) (w:f5),xs.length=l.length->
 (∀(J:Nat) (x:bm) (i:Nat),xs[J]? =some x->l[J]? =some i->∃U,ops[i]? =some U/\ll X aM ops x U=true)->
 eK ab o a aM->bN X ab st w->nG ab o.b1 b.b1->iX b o.aR ab bd->
 fN X b aM bd (lone (b.at a<|.inRegion ops l::k) (bd o.cL) w) k o ab w (fV call xs o st)
 |[],[],ab,o,a,st,w,_,_,q,C,_,_=>⟨ab,a,w,q,C,.refl _ _,j,j,.one Pe⟩
 |[],_::_,_,_,_,_,_,h,_,_,_,_,_=>by simp at h
 |_::_,[],_,_,_,_,_,h,_,_,_,_,_=>by simp at h
 |x::xs,i::l,ab,o,a,st,w,aD,V,q,C,aA,L=>by
  obtain⟨U,M,F⟩:=V 0 x i j j;have Q:∀(J:Nat) x i,xs[J]? =some x->l[J]? =some i->∃U,ops[i]? =some U/\ll X aM ops x U=true:=λJ x i ae af=>V (J+1) x i ae af;have S:xs.length=l.length:=by grind
  obtain⟨ai,ah⟩:=Er F;rw[abW];generalize Y:gW o x.g _ _ _=r;by_cases G:r= .no
  ·rw[G];trivial
  rcases Ph F q Y (λe=>G e.symm)with⟨e,H⟩|⟨e,H⟩
  ·cases D:bw call x.U o st with
   |ok v T R=>
    rw[D]at e;have N:=e;obtain⟨aG,a',w',K,aa,O,A,hp,W,_⟩:=Pj F I M H q C aA L D;obtain⟨B,cw,dg,fY⟩:=rH T x.d v;have E:=Et I xs l aG (T.put x.d v) a' R w' S Q aa O (by rw[cw,W];exact aA.mono A.le) (by rw[B,hp];exact L.mono A.le);rw[<-N];rw[dg]at E;exact fN.head K A (B.trans hp) (cw.trans W) E
   |aR v R=>
    rw[D]at e;have N:=e;obtain⟨ag,ad⟩:=iT N λe=>G e.symm;obtain⟨aG,bD,w',K,Z,O,A⟩:=Pk F I M H q C ag D;rw[<-ad];exact⟨aG,a,w',q.mono A.le,O,A,j,j,bD,_,Z,K⟩
   |no=>rw[D]at e;exact absurd e.symm G
  ·obtain⟨B,cw,dg,fY⟩:=rH o x.d undef;have E:=Et I xs l ab (o.put x.d undef) (a.put U.dst undef) st w S Q (by rw[<-ai];exact q.put ah<|bc.undef ab) C (by rw[cw];exact aA) (by rw[B];exact L);rw[<-e];rw[dg]at E;exact fN.head (.one<|Em M H) lR B cw E
end
