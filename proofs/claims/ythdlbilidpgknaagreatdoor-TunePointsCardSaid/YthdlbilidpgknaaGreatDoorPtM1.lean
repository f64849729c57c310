/- An abstract machine, and that its evaluations stand for runs of the model (part 1); no condition. -/
import Derived.Calls
import Derived.Laws.Cells
import Derived.Maps.Keyed
import Derived.Lib.Strings
import Derived.KernelRfl
noncomputable section
set_option linter.all false
namespace Go.ak
universe u
def zaa:=@if_neg
def zab:=@if_pos
def zac:=@decide_eq_false
def zad:=@decide_eq_true
def zae:=@Nat.mod_lt
def zaf:=@Nat.zero_le
def zag:=@Nat.two_pow_pos
def zah:=@List.getElem?_eq_some_iff
def zai:=@Nat.mul_comm
def zaj:=@Nat.le_trans
def zak:=@Nat.pow_succ
def zal:=@Nat.pow_add
def zam:=@Int.natCast_mul
def zan:=@Nat.add_mul
def zao:=@Nat.lt_or_ge
def zap:=@List.drop_zero
def zaq:=@Int.natAbs_natCast
def zar:=@List.mem_cons
def zas:=@Nat.zero_mul
def zat:=@Nat.mul_assoc
def zau:=@Nat.div_le_self
def zav:=@Nat.zero_add
def zaw:=@Nat.one_mul
def zax:=@Nat.pow_le_pow_right
def zay:=@List.length_take
def zaz:=@Nat.mul_add
def zaA:=@List.mem_of_getElem?
def zaB:=@Nat.min_eq_left
def zaC:=@Array.getElem_toList
def zaD:=@List.length_cons
def zaE:=@Nat.mul_one
def zaF:=@List.take_of_length_le
def zaG:=@Nat.lt_of_le_of_lt
def zaH:=@List.length_drop
def zaI:=@List.getElem?_drop
def zaJ:=@Nat.add_zero
def zaK:=@List.getElem?_take
def zaL:=@List.length_append
def zaM:=@List.mem_cons_of_mem
def zaN:=@Nat.div_add_mod
def zaO:=@Nat.mul_ne_zero
def zaP:=@Nat.beq_refl
def zaQ:=@List.getElem?_append_right
def zaR:=@List.map_cons
def zaS:=@beq_eq_false_iff_ne
def zaT:=@Int.neg_mul
def zaU:=@Bool.false_eq_true
def zaV:=@Nat.pos_of_ne_zero
def zaW:=@List.getElem_set_self
def zaX:=@Nat.div_eq_of_lt
def zaY:=@Nat.div_div_eq_div_mul
def zaZ:=@Int.one_mul
def zba:=@List.take_set_of_le
def zbb:=@Bool.eq_iff_iff
def zbc:=@List.getElem?_append_left
def zbd:=@Nat.div_lt_iff_lt_mul
def zbe:=@Nat.mul_pos
def zbf:=@Nat.le_of_lt
def zbg:=@List.length_pos_iff
def zbh:=@List.take_append_drop
def zbi:=@Nat.pow_zero
def zbj:=@List.drop_eq_nil_of_le
def zbk:=@Array.getElem?_eq_some_iff
def zbl:=@Array.length_toList
def zbm:=@Option.map_eq_some_iff
def zbn:=@List.all_eq_true
def zbo:=@Nat.le_succ
def zbp:=@Int.natAbs_neg
def zbq:=@Int.natAbs_mul
def zbr:=@List.length_reverse
def zbs:=@List.take_succ_eq_append_getElem
def zbt:=@Nat.add_comm
def zbu:=@List.getElem?_set
def zbv:=@List.getElem?_set_ne
def zbw:=@Nat.mul_zero
def zbx:=@Int.sign_eq_neg_one_of_neg
def zby:=@Int.sign_eq_one_of_pos
def zbz:=@List.eq_nil_of_length_eq_zero
def zbA:=@List.length_map
def zbB:=@List.mem_cons_self
def zbC:=@List.drop_drop
def zbD:=@Nat.pow_mul
def zbE:=@Int.mul_assoc
def zbF:=@Int.sign_eq_zero_iff_zero
def zbG:=@Nat.lt_of_lt_of_le
def zbH:=@Array.getElem?_setIfInBounds_ne
def zbI:=@BitVec.ofInt_natCast
def zbJ:=@List.ext_getElem?
def zbK:=@List.getElem?_eq_none
def zbL:=@List.mem_of_mem_take
def zbM:=@Nat.le_div_iff_mul_le
def zbN:=@Rat.neg_num
def zbO:=@Rat.not_lt
def zbP:=@Int.mul_nonneg
def zbQ:=@Nat.eq_of_beq_eq_true
def zbR:=@Bool.eq_false_iff
def zbS:=@Nat.add_assoc
def zbT:=@of_decide_eq_true
def zbU:=@Int.natCast_add
def zbV:=@Nat.div_one
def zbW:=@List.append_assoc
def zbX:=@List.reverse_append
def zbY:=@List.map_nil
def zbZ:=@Nat.succ_mul
def zca:=@Int.toNat_natCast
def zcb:=@List.take_length
def zcc:=@List.length_replicate
def zcd:=@List.mem_append
def zce:=@Nat.lt_succ_self
def zcf:=@List.drop_of_length_le
def zcg:=@List.eq_nil_or_concat
def zch:=@List.concat_eq_append
def zci:=@Rat.neg_den
def zcj:=@Int.sign_mul_natAbs
def zck:=@Nat.sub_le
def zcl:=@Int.not_lt
def zcm:=@Nat.le_of_mul_le_mul_right
def zcn:=@Nat.le_refl
def zco:=@Array.getElem?_eq_getElem
def zcp:=@List.map_map
def zcq:=@List.map_toArray
def zcr:=@Option.bind_eq_some_iff
def zcs:=@eq_of_beq
def zct:=@List.drop_length
def zcu:=@Nat.pow_pos
def zcv:=@Nat.mul_lt_mul_of_pos_right
def zcw:=@Rat.mkRat_eq_iff
def zcx:=@Nat.le_of_not_lt
def zcy:=@Rat.zero_mkRat
def zcz:=@Int.natCast_ediv
def zcA:=@Nat.le_add_right
def zcB:=@List.getElem?_toArray
def zcC:=@List.getElem?_cons_zero
def zcD:=@UInt8.toNat_inj
def zcE:=@Nat.lt_trichotomy
def zcF:=@List.getElem_inj
def zcG:=@List.mem_iff_getElem?
def zcH:=@Nat.eq_zero_or_pos
def zcI:=@Nat.or_comm
def zcJ:=@List.mem_of_mem_drop
def zcK:=@Nat.add_mul_div_left
def zcL:=@Rat.mkRat_self
def zcM:=@Rat.sub_eq_add_neg
def zcN:=@List.append_nil
def zcO:=@Nat.lt_trans
def zcP:=@Int.le_of_lt
def zcQ:=@Bool.and_eq_true
def zcR:=@Nat.ble_eq_true_of_le
def zcS:=@Int.mul_neg
def zcT:=@Array.getElem?_push
def zcU:=@List.drop_set_of_lt
def zcV:=@Array.toList_extract
def zcW:=@List.map_append
def zcX:=@List.pairwise_iff_getElem
def zcY:=@List.mem_range
def zcZ:=@Nat.le_of_eq
def zda:=@List.take_append_of_le_length
def zdb:=@Nat.add_eq
def zdc:=@Nat.mul_eq
def zdd:=@List.mem_append_left
def zde:=@Nat.mul_add_div
def zdf:=@Nat.add_mul_mod_self_left
def zdg:=@Nat.zero_div
def zdh:=@Nat.pow_lt_pow_iff_right
def zdi:=@Nat.mul_div_cancel
def zdj:=@Nat.div_mul_le_self
def zdk:=@Nat.div_pos
def zdl:=@Nat.gcd_dvd_left
def zdm:=@Rat.add_def'
def zdn:=@Int.natAbs_pow
def zdo:=@Nat.pow_le_pow_left
def zdp:=@Int.le_refl
def zdq:=@Int.mul_one
def zdr:=@List.getElem?_eq_getElem
def zds:=@List.drop_eq_getElem_cons
def zdt:=@Nat.le_succ_of_le
def zdu:=@Array.ext_getElem?
def zdv:=@List.extract_eq_take_drop
def zdw:=@List.foldl_cons
def zdx:=@Option.getD_some
def zdy:=@List.mapM_cons
def zdz:=@List.mem_of_find?_eq_some
def zdA:=@List.find?_some
def zdB:=@List.getElem_of_mem
def zdC:=@Nat.not_lt_zero
def zdD:=@Bool.or_eq_true
def zdE:=@List.getElem?_map
def zdF:=@BitVec.toNat_ofNat
def zdG:=@List.isEmpty_eq_false_iff
def zdH:=@List.take_take
def zdI:=@List.nodup_nil
def zdJ:=@List.flatMap_cons
def zdK:=@List.drop_left'
def zdL:=@Nat.mul_le_mul
def zdM:=@Nat.mod_mod
def zdN:=@List.getElem?_set_self
def zdO:=@List.drop_set
def zdP:=@Nat.add_mul_mod_self_right
def zdQ:=@Nat.gcd_comm
def zdR:=@Nat.div_lt_of_lt_mul
def zdS:=@Int.neg_neg
def zdT:=@Int.mul_comm
def zdU:=@List.dropWhile_cons
def zdV:=@Int.pow_pos
def zdW:=@Int.mul_le_mul
def zdX:=@Nat.mul_le_mul_right
def zdY:=@List.getElem_mem
def zdZ:=@List.getElem_drop
def zea:=@Array.getElem?_setIfInBounds
def zeb:=@Array.getElem?_modify
def zec:=@List.getElem?_cons_succ
def zed:=@Bool.not_false
def zee:=@List.getElem_append_left
def zef:=@List.getElem_append_right
def zeg:=@List.range_succ_eq_map
def zeh:=@List.find?_cons
def zei:=@List.pairwise_cons
def zej:=@List.countP_cons
def zek:=@List.any_eq_true
def zel:=@List.flatten_cons
def zem:=@Nat.mul_mod_left
def zen:=@List.drop_take
def zeo:=@List.drop_append_of_le_length
def zep:=@List.replicate_succ
def zeq:=@List.take_left'
def zer:=@List.mem_append_right
def zes:=@List.length_range
def zet:=@List.map_drop
def zeu:=@Nat.mod_add_div
def zev:=@Nat.two_pow_add_eq_or_of_lt
def zew:=@List.getElem?_replicate
def zex:=@List.length_eq_one_iff
def zey:=@Nat.mod_mul_right_mod
def zez:=@Nat.mod_mul_right_div_self
def zeA:=@Nat.mul_lt_mul''
def zeB:=@Nat.gcd_pos_of_pos_left
def zeC:=@Nat.mul_div_cancel_left
def zeD:=@List.length_eq_zero_iff
def zeE:=@Nat.gcd_one_right
def zeF:=@Nat.gcd_le_right
def zeG:=@Int.natCast_pow
def zeH:=@Nat.gcd_zero_left
def zeI:=@Int.sign_neg_iff
def zeJ:=@List.mem_reverse
def zeK:=@List.all_append
def zeL:=@Int.ediv_nonneg
def zeM:=@Rat.neg_mkRat
def zeN:=@Int.sign_nonneg_iff
def zeO:=@List.not_mem_nil
def zeP:=@Option.isSome_iff_exists
def zeQ:=@Array.mapM_eq_mapM_toList
def zeR:=@Nat.le_mul_of_pos_right
def zeS:=@List.length_eraseIdx_of_lt
def zeT:=@List.getElem?_eq_none_iff
def zeU:=@Nat.add_sub_cancel_left
def zeV:=@List.isPrefixOf_iff_prefix
def zeW:=@Nat.gcd_pos_of_pos_right
def zeX:=@Int.mul_ediv_mul_of_pos_left
def zeY:=@Int.natCast_dvd_natCast
def zeZ:=@List.getD_eq_getElem?_getD
abbrev ac(α:Type u):=List α
abbrev am(α:Type u):=Option α
abbrev ap(α:Type u):=Array α
abbrev be:=Value
abbrev bi:=Operand
abbrev bv:=UInt8
abbrev ce:=TypeId
abbrev ci:=FuncId
abbrev co:=World
abbrev d7:=IntKind
abbrev d8:=MapEntry
abbrev d9:=Program
abbrev f5:=ByteArray
abbrev f6:=TypeInfo
variable{n m:Nat}{α:Type u}{i:Nat}{l:ac α}
def bV(h:i<l.length):l[i]? =some l[i]:=zdr h
def b3(a b:Bool):((a&&b)=true)=(a=true∧b=true):=zcQ a b
def eL(h:Nat.beq n m=true):n=m:=zbQ h
def fy{k:Nat}(h:n<m)(g:m<=k):n<k:=zbG h g
def fq(k:Nat)(h:m<=n):m*k<=n*k:=zdX k h
def lp(k:Nat)(h:m<=n):k*m<=k*n:=Nat.mul_le_mul_left k h
def dH{a b:Nat}(h:a<b):a%b=a:=Nat.mod_eq_of_lt h
def b5(n:Nat):n<=n:=zcn n
def hk(h:i<l.length):l.drop i=l[i]::l.drop (i+1):=zds h
def ea(h:n<l.length):l[n]∈l:=zdY h
def jw(h:Nat.ble n m=true):n<=m:=Nat.le_of_ble_eq_true h
inductive ar(α:Type)where
 |nil:ar α
 |node (l:ar α) (v:Option α) (r:ar α):ar α
namespace ar
variable{α β:Type}
def get(t:ar α):Nat->am α:=
 ar.rec (motive:=fun _=>Nat->am α) (fun _=>none)
  (fun _ v _ ajA a3 n=>Nat.rec (motive:=fun _=>am α) v (fun m _=>Nat.rec (motive:=fun _=>am α) (ajA (Nat.div m 2)) (fun _ _=>a3 (Nat.div m 2)) (Nat.mod m 2)) n) t
def h9(f:Nat):ar α->Nat->α->(ar α->β)->β:=
 Nat.rec (motive:=fun _=>ar α->Nat->α->(ar α->β)->β) (fun t _ _ k=>k t)
  (fun _ a8 t n x k=>
   ar.rec (motive:=fun _=>β)
    (Nat.rec (motive:=fun _=>β) (k (.node .nil (some x) .nil))
     (fun m _=>Nat.rec (motive:=fun _=>β) (a8 .nil (Nat.div m 2) x fun l'=>k (.node l' none .nil)) (fun _ _=>a8 .nil (Nat.div m 2) x fun dJ=>k (.node .nil none dJ)) (Nat.mod m 2)) n)
    (fun l v r _ _=>
     Nat.rec (motive:=fun _=>β) (k (.node l (some x) r))
      (fun m _=>Nat.rec (motive:=fun _=>β) (a8 l (Nat.div m 2) x fun l'=>k (.node l' v r)) (fun _ _=>a8 r (Nat.div m 2) x fun dJ=>k (.node l v dJ)) (Nat.mod m 2)) n) t) f
def set(t:ar α)(n:Nat)(x:α):ar α:=h9 (Nat.succ n) t n x id
def Yw(v:am α)(r:ar α)(l:ar α):ar α:=
 ar.rec (motive:=fun _=>ar α) (.node .nil v r) (fun a b c _ _=>.node (.node a b c) v r) l
def Yx(l:ar α)(v:am α)(r:ar α):ar α:=
 ar.rec (motive:=fun _=>ar α) (.node l v .nil) (fun a b c _ _=>.node l v (.node a b c)) r
def IB(a8:ar α->Nat->α->ar α)(l:ar α)(v:am α)(r:ar α)(m:Nat)(x:α):ar α:=
 Nat.rec (motive:=fun _=>ar α) (Yw v r (a8 l (Nat.div m 2) x)) (fun _ _=>Yx l v (a8 r (Nat.div m 2) x)) (Nat.mod m 2)
def IA(a8:ar α->Nat->α->ar α)(l:ar α)(v:am α)(r:ar α)(n:Nat)(x:α):ar α:=
 Nat.rec (motive:=fun _=>ar α) (.node l (some x) r) (fun m _=>IB a8 l v r m x) n
def ao8(a8:ar α->Nat->α->ar α)(t:ar α)(n:Nat)(x:α):ar α:=
 ar.rec (motive:=fun _=>ar α) (IA a8 .nil none .nil n x) (fun l v r _ _=>IA a8 l v r n x) t
def ke(f:Nat):ar α->Nat->α->ar α:=
 Nat.rec (motive:=fun _=>ar α->Nat->α->ar α) (fun t _ _=>t) (fun _ a8=>ao8 a8) f
def fin(t:ar α)(k:ar α->β):β:=
 ar.rec (motive:=fun _=>β) (k .nil) (fun a b c _ _=>k (.node a b c)) t
end ar
inductive oJ where
 |sI
 |kA
 |yq
 |wa
 |yp
 |ptr
 |agg (ps:List (Nat×Nat×Bool×oJ))
inductive fN where
 |int (k:IntKind)
 |str
 |arr (k:IntKind) (n:Nat)
inductive vc where
 |look (c8:fN) (zero:Value) (ok:Bool) (m k:Operand)
 |gL (c8:fN) (m k v:Operand)
 |del (c8:fN) (m k:Operand)
 |AB (m:Operand)
 |AD (m:Operand)
 |Az (it:Operand)
 |bn (s c:Operand)
 |qW (neg:Bool) (n:Nat) (x y:Operand)
 |uw (it:Operand)
 |xe (gt:Bool) (x y:Operand)
 |idxs (g:Nat) (s b:Operand)
 |Bv (x:Operand)
 |Bu (it:Operand)
 |AA (e:TypeId) (n:Operand)
 |zs (x:Operand)
inductive dg where
 |lR (x:Operand)
 |pick (c a b:Operand)
 |alloc (z:List Value) (elem:TypeId)
 |box (elem:TypeId) (x:Operand)
 |build (z:List Value) (ps:List (Nat×Nat×Operand))
 |oS (elem:TypeId) (len:Nat) (z:List Value) (ps:List (Nat×Nat×Operand))
 |lP (a:Operand)
 |qj (n:Nat) (a:Operand)
 |store (n:Nat) (a x:Operand)
 |sC (x:Operand)
 |H9 (name:String) (hv:List (Nat×FuncId)) (x:Operand)
 |bin (op:BinOp) (x y:Operand)
 |eqv (neg:Bool) (e:oJ) (x y:Operand)
 |un (op:UnOp) (x:Operand)
 |tn (k:IntKind) (x:Operand)
 |xc (x:Operand)
 |zt (x:Operand)
 |vj (elem:TypeId) (x:Operand)
 |HV (t:TypeId) (x:Operand)
 |uk (fn:Fn) (first fl:List Operand)
 |um
 |rr (elem:TypeId) (bytes:Nat) (z:List Value) (len cap:Operand)
 |sV (x:Operand) (aL hi:Option Operand)
 |Bt (n a9:Nat) (x:Operand) (aL hi eR:Option Operand)
 |na (a9:Nat) (x:Operand) (aL hi eR:Option Operand)
 |xu (off:Nat) (x:Operand)
 |o3 (off a9:Nat) (agg:Bool) (x:Operand)
 |so (n a9:Nat) (x i:Operand)
 |lL (a9:Nat) (x i:Operand)
 |uc (x i:Operand)
 |HE (n a9:Nat) (agg:Bool) (x i:Operand)
 |JS (t:TypeId) (zero:Value) (ok:Bool) (x:Operand)
 |xt (x:Operand) (i:Nat)
 |call (f:Operand) (args:List Operand)
 |inv (hv:List (Nat×FuncId)) (x:Operand) (args:List Operand)
 |ot (x:Operand)
 |ug (x:Operand)
 |x9 (n:Nat)
 |v3 (x:Operand)
 |app (elem:TypeId) (a9 bytes:Nat) (s x:Operand)
 |eR (x:Operand) (xs:List Operand)
 |yk (x:Operand) (xs:List Operand)
 |qR (a9:Nat) (d s:Operand)
 |wH
 |qS (f:Operand) (args:List Operand)
 |rA (x:Operand)
 |Ck (x:Operand)
 |Cl (elem n:Nat) (x:Operand)
 |Bo (x:Operand)
 |s0 (elem:TypeId) (x n:Operand)
 |kc (s c:Operand)
 |jN (x:Operand)
 |ext (y:vc)
 |refuse
structure bK where
 d:am Tmp
 o:dg
 g:am (Tmp×Bool)
inductive cE where
 |eH
 |hI (ts:List Tmp)
 |read (back:Nat) (ts:List Tmp)
inductive dq where
 |skip
 |yN (ops:List bK)
 |tx (ops:List (bK×cE)) (cd:List Nat) (dU:List Tmp) (ms:List Nat)
 |seq (a b:dq)
 |cond (c:Operand) (a b:dq)
 |block (id:Nat) (b:dq)
 |loop (b:dq)
 |Jn (f:Operand) (params:List Tmp) (assign body:dq)
 |exit (id:Nat)
 |scope (b:dq)
 |ret
 |refuse
inductive dT where
 |norm
 |exit (id:Nat)
 |ret
 |bk (v:Value)
inductive iI where
 |tmp (t:Tmp)
 |cell (a:Tmp) (agg:Bool) (n:Nat)
structure dv where
 aQ:Nat
 res:ac iI
 body:dq
inductive bH where
 |cells (cs:List Value) (elem:TypeId) (bd:Nat×Nat) (a3:Bool)
 |map (es:List MapEntry) (clock:Nat)
 |yT (s:ByteArray) (pos:Nat)
 |uj (m:Option Nat) (since:Nat) (seen:List Nat) (Bx:Nat)
 |loop (st:LoopState) (pending:Option dT) (fn:FuncId) (tmps:ar Value) (params:List Tmp) (assign body:dq) (defers:Nat)
 |iJ (calls:Option (List Deferred))
 |dead
structure ay where
 h:ar bH
 al:Nat
structure aR where
 t:ar be
 c7:ac Deferred
 bk:am be
 cM:Bool
 b7:am Nat
def aR.tmp(fr:aR)(n:Nat):be:=
 Option.rec (motive:=fun _=>be) (.chan (some 0)) (fun v=>v) (fr.t.get n)
def aR.aj(fr:aR)(x:bi):be:=
 Operand.rec (motive:=fun _=>be) (fun t=>fr.tmp t) (fun v=>v) (fun g=>.pointer (some ⟨g,0,none⟩)) (fun f=>.func (.func f) #[] #[]) x
def aR.Yg(t:ar be)(c7:ac Deferred)(bk:am be)(cM:Bool)(b7:am Nat):aR:=
 ar.rec (motive:=fun _=>aR) ⟨.nil,c7,bk,cM,b7⟩ (fun a b c _ _=>⟨.node a b c,c7,bk,cM,b7⟩) t
def aR.IA(d:Nat)(v:be)(fr:aR):aR:=
 aR.rec (motive:=fun _=>aR) (fun t c7 bk cM b7=>aR.Yg (ar.ke (Nat.succ d) t d v) c7 bk cM b7) fr
def aR.put(fr:aR)(d:am Tmp)(v:be):aR:=
 Option.rec (motive:=fun _=>aR) fr (fun d=>aR.IA d v fr) d
inductive aX where
 |ok (v:Value) (fr:aR) (st:ay)
 |bk (v:Value) (st:ay)
 |no
inductive dM where
 |ret (v:Value) (st:ay) (eE:Bool)
 |bk (v:Value) (st:ay) (eE:Bool)
 |no
section lists
variable{α β:Type}
def Py(n:Nat):ac α->am (ac α):=
 Nat.rec (motive:=fun _=>ac α->am (ac α)) (fun _=>some [])
  (fun _ a8 l=>List.rec (motive:=fun _=>am (ac α)) none
   (fun x xs _=>Option.rec (motive:=fun _=>am (ac α)) none (fun r=>some (x::r)) (a8 xs)) l) n
def F8(n:Nat):ac α->ac α:=
 Nat.rec (motive:=fun _=>ac α->ac α) (fun l=>l)
  (fun _ a8 l=>List.rec (motive:=fun _=>ac α) [] (fun _ xs _=>a8 xs) l) n
def qv(l:ac α):Nat->ac α->(ac α->β)->β->β:=
 List.rec (motive:=fun _=>Nat->ac α->(ac α->β)->β->β) (fun _ vs k z=>List.rec (motive:=fun _=>β) (k []) (fun _ _ _=>z) vs)
  (fun y av a8 n vs k z=>
   Nat.rec (motive:=fun _=>β)
    (List.rec (motive:=fun _=>β) (k (y::av)) (fun v vs _=>a8 0 vs (fun l'=>k (v::l')) z) vs)
    (fun m _=>a8 m vs (fun l'=>k (y::l')) z) n) l
end lists
variable{β:Type}
def fX(n:Nat)(k:Nat->β):β:=cond (Nat.beq n n) (k n) (k n)
def Sr(n:Int)(k:Int->β):β:=
 Int.rec (motive:=fun _=>β) (fun m=>fX m fun m=>k (.ofNat m)) (fun m=>fX m fun m=>k (.negSucc m)) n
def ay.iT(st:ay)(o:bH)(k:Nat->ay->β):β:=
 fX st.al fun n=>ar.fin (ar.ke (Nat.succ n) st.h n o) fun h=>k n ⟨h,Nat.succ n⟩
def iu(v:be):ac be:=v.cells.toList
def ub:be->Bool
 |.chan (some _)=>true
 |_=>false
def mO:be->Bool
 |.agg _|.tuple _|.chan (some _)=>false
 |_=>true
def gZ(vs:ac be):Bool:=List.rec (motive:=fun _=>Bool) true (fun v _ r=>cond (mO v) r false) vs
mutual
def dC:be->be->Bool
 |.bool a,.bool b=>a==b
 |.int k a,.int k' b=>decide (k=k')&&a==b
 |.float k a,.float k' b=>decide (k=k')&&a==b
 |.complex k a c,.complex k' b d=>decide (k=k')&&a==b&&c==d
 |.string a,.string b=>a.data.toList==b.data.toList
 |.pointer a,.pointer b=>a==b
 |.slice a l c,.slice b l' b6=>a==b&&l==l'&&c==b6
 |.map a,.map b=>a==b
 |.chan a,.chan b=>a==b
 |.func f x y,.func g u v=>decide (f=g)&&wS x u&&wS y v
 |.nilFunc,.nilFunc=>true
 |.iface t v,.iface u w=>t==u&&dC v w
 |.nilIface,.nilIface=>true
 |.agg a,.agg b=>wS a b
 |.tuple a,.tuple b=>wS a b
 |_,_=>false
def wS:ap be->ap be->Bool
 |⟨a⟩,⟨b⟩=>lo a b
def lo:ac be->ac be->Bool
 |[],[]=>true
 |a::as,b::bU=>dC a b&&lo as bU
 |_,_=>false
end
mutual
theorem BH:∀v:be,dC v v=true
 |.bool a=>by simp[dC]
 |.int k a=>by simp[dC]
 |.float k a=>by simp[dC]
 |.complex k a c=>by simp[dC]
 |.string a=>by simp[dC]
 |.pointer a=>by simp[dC]
 |.slice a l c=>by simp[dC]
 |.map a=>by simp[dC]
 |.chan a=>by simp[dC]
 |.func f x y=>by simp[dC,JZ x,JZ y]
 |.nilFunc=>by simp[dC]
 |.iface t v=>by simp[dC,BH v]
 |.nilIface=>by simp[dC]
 |.agg a=>by simp[dC,JZ a]
 |.tuple a=>by simp[dC,JZ a]
theorem JZ:∀v:ap be,wS v v=true
 |⟨a⟩=>by simp[wS,acB a]
theorem acB:∀v:ac be,lo v v=true
 |[]=>by simp[lo]
 |a::as=>by simp[lo,BH a,acB as]
end
mutual
theorem ng:∀v w:be,dC v w=true->v=w
 |.bool a,w,h=>by cases w<;>simp_all [dC]
 |.int k a,w,h=>by cases w<;>simp_all [dC]
 |.float k a,w,h=>by cases w<;>simp_all [dC]
 |.complex k a c,w,h=>by cases w<;>simp_all [dC]
 |.string a,w,h=>by
  cases w<;>simp_all [dC];rename_i b;cases a;cases b;simp_all
 |.pointer a,w,h=>by cases w<;>simp_all [dC]
 |.slice a l c,w,h=>by cases w<;>simp_all [dC]
 |.map a,w,h=>by cases w<;>simp_all [dC]
 |.chan a,w,h=>by cases w<;>simp_all [dC]
 |.func f x y,w,h=>by
  cases w<;>simp[dC]at h;rename_i g u v;simp[h.1.1,JY x u h.1.2,JY y v h.2]
 |.nilFunc,w,h=>by cases w<;>simp_all [dC]
 |.iface t v,w,h=>by
  cases w<;>simp[dC]at h;rename_i u x;simp[h.1,ng v x h.2]
 |.nilIface,w,h=>by cases w<;>simp_all [dC]
 |.agg a,w,h=>by
  cases w<;>simp[dC]at h;rename_i b;simp[JY a b h]
 |.tuple a,w,h=>by
  cases w<;>simp[dC]at h;rename_i b;simp[JY a b h]
theorem JY:∀v w:ap be,wS v w=true->v=w
 |⟨a⟩,⟨b⟩,h=>by simp[wS]at h;simp[yZ a b h]
theorem yZ:∀v w:ac be,lo v w=true->v=w
 |[],[],_=>rfl
 |a::as,b::bU,h=>by simp[lo]at h;simp[ng a b h.1,yZ as bU h.2]
 |[],_::_,h=>by simp[lo]at h
 |_::_,[],h=>by simp[lo]at h
end
end Go.ak
namespace Go.ak
def uo(n:Int)(M:Nat):Nat:=
 Int.rec (motive:=fun _=>Nat) (fun m=>Nat.mod m M) (fun m=>Nat.sub (Nat.sub M 1) (Nat.mod m M)) n
def y1(M:Nat)(n:Int):Int:=.ofNat (uo n M)
def wU(M H:Nat)(n:Int):Int:=
 fX (uo n M) fun r=>cond (Nat.ble (Nat.succ r) H) (.ofNat r) (.negSucc (Nat.sub (Nat.sub M 1) r))
def n0(k:d7)(n:Int):Int:=
 IntKind.rec (motive:=fun _=>Int->Int) (wU 256 128) (wU 65536 32768) (wU 4294967296 2147483648) (wU 18446744073709551616 9223372036854775808)
  (y1 256) (y1 65536) (y1 4294967296) (y1 18446744073709551616) k n
def Yk(n:Int)(M:Nat)(h:0<M):(uo n M:Int)=n%M:=by
 cases n with
 |ofNat m=>rfl
 |negSucc m=>
  show((M-1-m%M:Nat):Int)=_;rw[Int.negSucc_emod _ (by omega)];have:m%M<M:=zae _ h;omega
def rS(M:Nat)(n:Int)(h:0<M):y1 M n=n%M:=Yk n M h
def wV(M H:Nat)(n:Int)(h:0<M):wU M H n=if n%M>=H then n%M-M else n%M:=by
 have e:=Yk n M h;have a4:uo n M<M:=by have:=Int.emod_lt_of_pos n (show(0:Int)<M by omega);omega
 unfold wU fX;rw[zaP];rw[<-e];simp only[cond];by_cases c:uo n M<H
 ·rw[zcR c];rw[zaa (by omega)];rfl
 ·have:Nat.ble (Nat.succ (uo n M)) H=false:=by
   rw[zbR];intro hh;exact c (jw hh)
  rw[this];rw[zab (by omega)];show Int.negSucc (M-1-uo n M)=_;omega
def ki(k:d7)(n:Int):n0 k n=k.wrap n:=by
 cases k
 all_goals simp only[n0,IntKind.wrap,IntKind.bits,IntKind.signed]
 ·rw[wV 256 128 n (by decide)];simp
 ·rw[wV 65536 32768 n (by decide)];simp
 ·rw[wV 4294967296 2147483648 n (by decide)];simp
 ·rw[wV 18446744073709551616 9223372036854775808 n (by decide)];simp
 ·rw[rS 256 n (by decide)];rfl
 ·rw[rS 65536 n (by decide)];rfl
 ·rw[rS 4294967296 n (by decide)];rfl
 ·rw[rS 18446744073709551616 n (by decide)];rfl
def yU(m n:Nat):Int:=cond (Nat.ble n m) (.ofNat (Nat.sub m n)) (.negSucc (Nat.sub (Nat.sub n m) 1))
def ES(m n:Nat):yU m n=(m:Int)-n:=by
 unfold yU;by_cases h:n<=m
 ·rw[zcR h];show((m-n:Nat):Int)=_;omega
 ·have:Nat.ble n m=false:=by rw[zbR];intro hh;exact h (jw hh)
  rw[this];show Int.negSucc (n-m-1)=_;omega
def BX(a b:Int):Int:=
 Int.rec (motive:=fun _=>Int)
  (fun m=>Int.rec (motive:=fun _=>Int) (fun n=>.ofNat (Nat.add m n)) (fun n=>yU m (Nat.succ n)) b)
  (fun m=>Int.rec (motive:=fun _=>Int) (fun n=>yU n (Nat.succ m)) (fun n=>.negSucc (Nat.succ (Nat.add m n))) b) a
def Qk(a b:Int):BX a b=a+b:=by
 cases a with
 |ofNat m=>
  cases b with
  |ofNat n=>rfl
  |negSucc n=>simp only[BX,ES];show(m:Int)-((n+1:Nat):Int)=(m:Int)+Int.negSucc n;omega
 |negSucc m=>
  cases b with
  |ofNat n=>simp only[BX,ES];show(n:Int)-((m+1:Nat):Int)=Int.negSucc m+(n:Int);omega
  |negSucc n=>rfl
def H5(a:Int):Int:=
 Int.rec (motive:=fun _=>Int) (fun m=>yU 0 m) (fun m=>.ofNat (Nat.succ m)) a
def NH(a:Int):H5 a= -a:=by
 cases a with
 |ofNat m=>simp only[H5,ES];show((0:Nat):Int)-(m:Int)= -(m:Int);omega
 |negSucc m=>rfl
def AF(a b:Int):Int:=
 Int.rec (motive:=fun _=>Int)
  (fun m=>Int.rec (motive:=fun _=>Int) (fun n=>.ofNat (Nat.mul m n)) (fun n=>yU 0 (Nat.mul m (Nat.succ n))) b)
  (fun m=>Int.rec (motive:=fun _=>Int) (fun n=>yU 0 (Nat.mul (Nat.succ m) n)) (fun n=>.ofNat (Nat.mul (Nat.succ m) (Nat.succ n))) b) a
def ND(a b:Int):AF a b=a*b:=by
 cases a with
 |ofNat m=>
  cases b with
  |ofNat n=>rfl
  |negSucc n=>
   simp only[AF,ES];show(0:Int)-((m*(n+1):Nat):Int)=(m:Int)* -((n:Int)+1);rw[zcS];push_cast;omega
 |negSucc m=>
  cases b with
  |ofNat n=>
   simp only[AF,ES];show(0:Int)-(((m+1)*n:Nat):Int)= -((m:Int)+1)*n;rw[zaT];push_cast;omega
  |negSucc n=>
   simp only[AF];show(((m+1)*(n+1):Nat):Int)= -((m:Int)+1)* -((n:Int)+1);rw[Int.neg_mul_neg];push_cast;rfl
def mq(a b:Int):Bool:=
 Int.rec (motive:=fun _=>Bool)
  (fun m=>Int.rec (motive:=fun _=>Bool) (fun n=>Nat.ble m n) (fun _=>false) b)
  (fun m=>Int.rec (motive:=fun _=>Bool) (fun _=>true) (fun n=>Nat.ble n m) b) a
def sx(a b:Int):mq a b=decide (a<=b):=by
 cases a with
 |ofNat m=>
  cases b with
  |ofNat n=>simp only[mq];rw[zbb];simp
  |negSucc n=>simp only[mq];rw[zbb];simp;omega
 |negSucc m=>
  cases b with
  |ofNat n=>simp only[mq];rw[zbb];simp;omega
  |negSucc n=>simp only[mq];rw[zbb];simp;omega
def r7(a b:Int):Bool:=
 Int.rec (motive:=fun _=>Bool)
  (fun m=>Int.rec (motive:=fun _=>Bool) (fun n=>Nat.beq m n) (fun _=>false) b)
  (fun m=>Int.rec (motive:=fun _=>Bool) (fun _=>false) (fun n=>Nat.beq n m) b) a
def CC(a b:Int):r7 a b=(a==b):=by
 cases a with
 |ofNat m=>
  cases b with
  |ofNat n=>simp only[r7];rw[zbb];simp;omega
  |negSucc n=>simp only[r7];rw[zbb];simp
 |negSucc m=>
  cases b with
  |ofNat n=>simp only[r7];rw[zbb];simp
  |negSucc n=>simp only[r7];rw[zbb];simp;omega
section
variable{β:Type}
def nd(v:be)(k:Bool->β)(z:β):β:=
 @Value.rec (fun _=>β) (fun _=>Unit) (fun _=>Unit) (fun hT=>k hT) (fun _ _=>z) (fun _ _=>z) (fun _ _ _=>z) (fun _=>z) (fun _=>z) (fun _ _ _=>z) (fun _=>z) (fun _=>z) (fun _ _ _ _ _=>z) z (fun _ _ _=>z) z (fun _ _=>z) (fun _ _=>z) (fun _ _=>()) () (fun _ _ _ _=>()) v
def gj(v:be)(k:d7->Int->β)(z:β):β:=
 @Value.rec (fun _=>β) (fun _=>Unit) (fun _=>Unit) (fun _=>z) (fun hT dR=>k hT dR) (fun _ _=>z) (fun _ _ _=>z) (fun _=>z) (fun _=>z) (fun _ _ _=>z) (fun _=>z) (fun _=>z) (fun _ _ _ _ _=>z) z (fun _ _ _=>z) z (fun _ _=>z) (fun _ _=>z) (fun _ _=>()) () (fun _ _ _ _=>()) v
def hE(v:be)(k:f5->β)(z:β):β:=
 @Value.rec (fun _=>β) (fun _=>Unit) (fun _=>Unit) (fun _=>z) (fun _ _=>z) (fun _ _=>z) (fun _ _ _=>z) (fun hT=>k hT) (fun _=>z) (fun _ _ _=>z) (fun _=>z) (fun _=>z) (fun _ _ _ _ _=>z) z (fun _ _ _=>z) z (fun _ _=>z) (fun _ _=>z) (fun _ _=>()) () (fun _ _ _ _=>()) v
def il(v:be)(k:am Addr->β)(z:β):β:=
 @Value.rec (fun _=>β) (fun _=>Unit) (fun _=>Unit) (fun _=>z) (fun _ _=>z) (fun _ _=>z) (fun _ _ _=>z) (fun _=>z) (fun hT=>k hT) (fun _ _ _=>z) (fun _=>z) (fun _=>z) (fun _ _ _ _ _=>z) z (fun _ _ _=>z) z (fun _ _=>z) (fun _ _=>z) (fun _ _=>()) () (fun _ _ _ _=>()) v
def hD(v:be)(k:am Addr->Nat->Nat->β)(z:β):β:=
 @Value.rec (fun _=>β) (fun _=>Unit) (fun _=>Unit) (fun _=>z) (fun _ _=>z) (fun _ _=>z) (fun _ _ _=>z) (fun _=>z) (fun _=>z) (fun hT dR wW=>k hT dR wW) (fun _=>z) (fun _=>z) (fun _ _ _ _ _=>z) z (fun _ _ _=>z) z (fun _ _=>z) (fun _ _=>z) (fun _ _=>()) () (fun _ _ _ _=>()) v
def yX(v:be)(k:Fn->ap be->ap be->β)(z:β):β:=
 @Value.rec (fun _=>β) (fun _=>Unit) (fun _=>Unit) (fun _=>z) (fun _ _=>z) (fun _ _=>z) (fun _ _ _=>z) (fun _=>z) (fun _=>z) (fun _ _ _=>z) (fun _=>z) (fun _=>z) (fun hT dR wW _ _=>k hT dR wW) z (fun _ _ _=>z) z (fun _ _=>z) (fun _ _=>z) (fun _ _=>()) () (fun _ _ _ _=>()) v
def s4(v:be)(k:ce->be->β)(z:β):β:=
 @Value.rec (fun _=>β) (fun _=>Unit) (fun _=>Unit) (fun _=>z) (fun _ _=>z) (fun _ _=>z) (fun _ _ _=>z) (fun _=>z) (fun _=>z) (fun _ _ _=>z) (fun _=>z) (fun _=>z) (fun _ _ _ _ _=>z) z (fun hT dR _=>k hT dR) z (fun _ _=>z) (fun _ _=>z) (fun _ _=>()) () (fun _ _ _ _=>()) v
def rR(v:be)(k:ap be->β)(z:β):β:=
 @Value.rec (fun _=>β) (fun _=>Unit) (fun _=>Unit) (fun _=>z) (fun _ _=>z) (fun _ _=>z) (fun _ _ _=>z) (fun _=>z) (fun _=>z) (fun _ _ _=>z) (fun _=>z) (fun _=>z) (fun _ _ _ _ _=>z) z (fun _ _ _=>z) z (fun hT _=>k hT) (fun _ _=>z) (fun _ _=>()) () (fun _ _ _ _=>()) v
def qD(v:be)(k:ap be->β)(z:β):β:=
 @Value.rec (fun _=>β) (fun _=>Unit) (fun _=>Unit) (fun _=>z) (fun _ _=>z) (fun _ _=>z) (fun _ _ _=>z) (fun _=>z) (fun _=>z) (fun _ _ _=>z) (fun _=>z) (fun _=>z) (fun _ _ _ _ _=>z) z (fun _ _ _=>z) z (fun _ _=>z) (fun hT _=>k hT) (fun _ _=>()) () (fun _ _ _ _=>()) v
def yY(v:be)(k:am Nat->β)(z:β):β:=
 @Value.rec (fun _=>β) (fun _=>Unit) (fun _=>Unit) (fun _=>z) (fun _ _=>z) (fun _ _=>z) (fun _ _ _=>z) (fun _=>z) (fun _=>z) (fun _ _ _=>z) (fun hT=>k hT) (fun _=>z) (fun _ _ _ _ _=>z) z (fun _ _ _=>z) z (fun _ _=>z) (fun _ _=>z) (fun _ _=>()) () (fun _ _ _ _=>()) v
end
def s3{β:Type}(v:be)(a z:β):β:=match v with|.chan none=>a|_=>z
def h7:be:=.chan (some 0)
abbrev bO:=be->ac be->am be->ay->dM
section elim
variable{α β:Type}
def bm(o:am α)(k:α->β)(z:β):β:=Option.rec (motive:=fun _=>β) z k o
def ed(a b:Nat)(x y:β):β:=cond (Nat.ble a b) x y
def dV(a b:Nat)(x y:β):β:=cond (Nat.beq a b) x y
def g9(n:Int)(k:Nat->β)(z:β):β:=Int.rec (motive:=fun _=>β) k (fun _=>z) n
def dk(l:ac α):Nat:=List.rec (motive:=fun _=>Nat) 0 (fun _ _ n=>Nat.succ n) l
def gC(l m:ac α):ac α:=List.rec (motive:=fun _=>ac α) m (fun x _ r=>x::r) l
def iw(l:ac α)(off n:Nat)(k:ac α->β)(z:β):β:=bm (Py n (F8 off l)) k z
def one(l:ac α)(k:α->β)(z:β):β:=
 List.rec (motive:=fun _=>β) z (fun x xs _=>List.rec (motive:=fun _=>β) (k x) (fun _ _ _=>z) xs) l
end elim
variable{β:Type}
def hP(k:d7)(n:Int)(c:be->β):β:=Sr n fun m=>c (.int k m)
def jr(a b:d7):Bool:=Nat.beq a.ctorIdx b.ctorIdx
def B9(f:Nat->Nat->Nat)(g:Int)(k:d7)(a b:Int)(c:be->aX):aX:=
 g9 a (fun m=>g9 b (fun n=>hP k (n0 k (.ofNat (f (uo (.ofNat m) (2^k.bits)) (uo (.ofNat n) (2^k.bits))))) c) (hP k g c)) (hP k g c)
def QQ(k:d7)(a b:Int)(c:be->aX):aX:=hP k (n0 k (BX a b)) c
def Q3(k:d7)(a b:Int)(c:be->aX):aX:=hP k (n0 k (BX a (H5 b))) c
def QY(k:d7)(a b:Int)(c:be->aX):aX:=hP k (n0 k (AF a b)) c
def Q1(k:d7)(a b:Int)(c:be->aX):aX:=cond (r7 b 0) .no (g9 a (fun m=>g9 b (fun n=>hP k (n0 k (.ofNat (Nat.div m n))) c) (hP k (k.wrap (a.tdiv b)) c)) (hP k (k.wrap (a.tdiv b)) c))
def Q2(k:d7)(a b:Int)(c:be->aX):aX:=cond (r7 b 0) .no (g9 a (fun m=>g9 b (fun n=>hP k (.ofNat (Nat.mod m n)) c) (hP k (a.tmod b) c)) (hP k (a.tmod b) c))
def QR(k:d7)(a b:Int)(c:be->aX):aX:=B9 Nat.land (k.wrap (BitVec.ofInt k.bits a&&&BitVec.ofInt k.bits b).toNat) k a b c
def Q0(k:d7)(a b:Int)(c:be->aX):aX:=B9 Nat.lor (k.wrap (BitVec.ofInt k.bits a|||BitVec.ofInt k.bits b).toNat) k a b c
def Q4(k:d7)(a b:Int)(c:be->aX):aX:=B9 Nat.xor (k.wrap (BitVec.ofInt k.bits a^^^BitVec.ofInt k.bits b).toNat) k a b c
def QS(k:d7)(a b:Int)(c:be->aX):aX:=hP k (k.wrap (BitVec.ofInt k.bits a&&& ~~~(BitVec.ofInt k.bits b)).toNat) c
def QT(_k:d7)(a b:Int)(c:be->aX):aX:=c (.bool (r7 a b))
def QZ(_k:d7)(a b:Int)(c:be->aX):aX:=c (.bool (!r7 a b))
def QX(_k:d7)(a b:Int)(c:be->aX):aX:=c (.bool (!mq b a))
def QW(_k:d7)(a b:Int)(c:be->aX):aX:=c (.bool (mq a b))
def QV(_k:d7)(a b:Int)(c:be->aX):aX:=c (.bool (!mq a b))
def QU(_k:d7)(a b:Int)(c:be->aX):aX:=c (.bool (mq b a))
def KQ(_k:d7)(_a _b:Int)(_c:be->aX):aX:=.no
def zo(op:BinOp)(k:d7)(a b:Int)(c:be->aX):aX:=
 BinOp.rec (motive:=fun _=>d7->Int->Int->(be->aX)->aX) QQ Q3 QY Q1 Q2 QR Q0 Q4 KQ KQ QS QT QZ QX QW QV QU op k a b c
def B8(op:BinOp)(x y:f5)(c:be->aX):aX:=
 match op with
 |.add=>ed (Nat.add (dk x.data.toList) (dk y.data.toList)) (2^40) (c (.string ⟨⟨gC x.data.toList y.data.toList⟩⟩)) .no
 |.eql=>c (.bool (x.data.toList==y.data.toList))
 |.neq=>c (.bool (!(x.data.toList==y.data.toList)))
 |_=>.no
def yS(k:d7)(a:Int)(n:Nat):Int:=n0 k (AF a (.ofNat (Nat.pow 2 (min n k.bits))))
def uO(k:d7)(a:Int)(n:Nat):Int:=
 g9 a (fun m=>.ofNat (Nat.div m (Nat.pow 2 (min n k.bits)))) (a.fdiv (2^(min n k.bits)))
def agc(_op:BinOp)(k:d7)(a:Int)(_yk:d7)(b:Int)(c:be->aX):aX:=g9 b (fun n=>hP k (yS k a n) c) .no
def agd(_op:BinOp)(k:d7)(a:Int)(_yk:d7)(b:Int)(c:be->aX):aX:=g9 b (fun n=>hP k (uO k a n) c) .no
def nx(op:BinOp)(k:d7)(a:Int)(wX:d7)(b:Int)(c:be->aX):aX:=cond (jr k wX) (zo op k a b c) .no
def zO(op:BinOp)(k:d7)(a:Int)(wX:d7)(b:Int)(c:be->aX):aX:=
 BinOp.rec (motive:=fun _=>BinOp->d7->Int->d7->Int->(be->aX)->aX) nx nx nx nx nx nx nx nx agc agd nx nx nx nx nx nx nx op op k a wX b c
def CD(op:BinOp)(x y:be)(c:be->aX):aX:=
 gj x (fun k a=>gj y (fun wX b=>zO op k a wX b c) .no)
 (hE x (fun a=>hE y (fun b=>B8 op a b c) .no) .no)
def uy(off a9:Nat)(agg:Bool)(cs:ac be):am be:=
 iw cs off a9 (fun vs=>cond agg (some (.agg ⟨vs⟩)) (one vs (fun v=>some v) none)) none
def o2:be->be->am Bool
 |.slice none _ _,.slice b _ _=>some b.isNone
 |.slice (some _) _ _,.slice none _ _=>some false
 |.chan none,.slice none _ _=>some false
 |_,_=>none
def CB:be->be->am Bool
 |.map none,.map b=>some b.isNone
 |.map (some _),.map none=>some false
 |_,_=>none
def zM:be->be->am Bool
 |.nilFunc,.nilFunc=>some true
 |.nilFunc,.func _ _ _=>some false
 |.func _ _ _,.nilFunc=>some false
 |_,_=>none
def CA:be->be->am Bool
 |.nilIface,.nilIface=>some true
 |.nilIface,.iface _ _=>some false
 |.iface _ _,.nilIface=>some false
 |_,_=>none
def r6:be->be->am Bool
 |.pointer none,.pointer b=>some b.isNone
 |.pointer (some _),.pointer none=>some false
 |.pointer (some a),.pointer (some b)=>if a.block=b.block∧a.spot=none∧b.spot=none then some (a.off==b.off)else none
 |_,_=>none
def zN:be->be->am Bool
 |.bool a,.bool b=>some (a==b)
 |.int k a,.int k' b=>if k=k' then some (a==b)else none
 |.string a,.string b=>some (a.data.toList==b.data.toList)
 |_,_=>none
def kK:Nat->oJ->be->be->am Bool
 |_,.sI,x,y=>zN x y
 |_,.kA,x,y=>o2 x y
 |_,.yq,x,y=>CB x y
 |_,.wa,x,y=>zM x y
 |_,.yp,x,y=>CA x y
 |_,.ptr,x,y=>r6 x y
 |0,.agg _,_,_=>none
 |n+1,.agg ps,.agg xs,.agg av=>R7 n xs.toList av.toList ps
 |_,.agg _,_,_=>none
 where
 R7 (n:Nat) (xs av:ac be):ac (Nat×Nat×Bool×oJ)->am Bool
  |[]=>some true
  |(off,a9,hy,e)::rest=>
   match uy off a9 hy xs,uy off a9 hy av with
   |some x,some y=>
    match kK n e x y with
    |some true=>R7 n xs av rest
    |r=>r
   |_,_=>none
def zP(op:UnOp)(x:be)(c:be->aX):aX:=
 match op with
 |.neg=>gj x (fun k n=>hP k (n0 k (H5 n)) c) .no
 |.xor=>gj x (fun k n=>hP k (k.wrap (BitVec.ofInt k.bits (if k.signed then -1 else k.max)^^^BitVec.ofInt k.bits n).toNat) c) .no
 |.not=>nd x (fun b=>c (.bool (!b))) .no
 |_=>.no
def ob(fr:aR)(ps:ac (Nat×Nat×bi)):ac be->(ac be->aX)->aX:=
 List.rec (motive:=fun _=>ac be->(ac be->aX)->aX) (fun cs c=>c cs)
  (fun p _ a8 cs c=>
   (fun v=>cond (ub v) .no ((fun vs=>dV (dk vs) p.2.1 (ed (Nat.add p.1 p.2.1) (dk cs) (qv cs p.1 vs (fun cs'=>a8 cs' c) .no) .no) .no) (iu v))) (fr.aj p.2.2)) ps
def bytesOf(vs:ac be):am (ac bv):=
 List.rec (motive:=fun _=>am (ac bv)) (some [])
  (fun v _ r=>gj v (fun k n=>cond (jr k .u8) (bm r (fun bU=>some (UInt8.ofNat n.toNat::bU)) none) none) none) vs
def kZ(bU:ac bv):ac be:=
 List.rec (motive:=fun _=>ac be) [] (fun b _ r=>Value.int .u8 (.ofNat b.toNat)::r) bU
def e5(fr:aR)(x:am bi)(dflt y:Nat)(k:Nat->aX):aX:=
 bm x (fun x=>gj (fr.aj x) (fun _ n=>g9 n (fun n=>ed n y (k n) .no) .no) .no) (k dflt)
def Cd(o:am bH)(k:ac be->ce->Nat×Nat->Bool->β)(z:β):β:=
 bm o (fun o=>bH.rec (motive:=fun _=>β) k (fun _ _=>z) (fun _ _=>z) (fun _ _ _ _=>z) (fun _ _ _ _ _ _ _ _=>z) (fun _=>z) z o) z
def ay.gE(st:ay)(a:Addr)(k:ac be->ce->Nat×Nat->Bool->β)(z:β):β:=
 bm a.spot (fun _=>z) (Cd (st.h.get a.block) k z)
def ay.load(st:ay)(a:Addr)(n:Nat)(k:ac be->β)(z:β):β:=
 st.gE a (fun cs _ _ _=>iw cs a.off n k z) z
def ay.g3(st:ay)(id:Nat)(o:bH)(k:ay->β):β:=
 ar.fin (ar.ke (Nat.succ id) st.h id o) fun h=>k ⟨h,st.al⟩
def ay.store(st:ay)(a:Addr)(vs:ac be)(k:ay->β)(z:β):β:=
 st.gE a (fun cs elem bd a3=>ed bd.2 bd.1 (qv cs a.off vs (fun cs'=>st.g3 a.block (.cells cs' elem bd a3) k) z) z) z
def iK(fr:aR)(st:ay)(elem:ce)(a9 bytes:Nat)(base:am Addr)(len cap:Nat)(n:Nat)(new:ac be):aX:=
 (fun uu=>
  ed (Nat.mul (Nat.add (Nat.mul 5 uu) 1792) (Nat.succ bytes)) (2^50)
   (bm base
    (fun a=>st.gE a (fun cs el bd a3=>
     ed bd.2 bd.1 (ed len cap (ed (Nat.add a.off (Nat.mul cap a9)) (dk cs) (dV el elem
      (dV n 0 (.ok (.slice (some a) len cap) fr st)
       (cond a3
        (iw cs a.off (Nat.mul len a9) (fun old=>st.g3 a.block .dead fun st=>st.iT (.cells (gC old new) elem (0,0) true) fun id st=>.ok (.slice (some ⟨id,0,none⟩) uu uu) fr st) .no)
        (ed uu cap
         (qv cs (Nat.add a.off (Nat.mul len a9)) new (fun cs'=>st.g3 a.block (.cells cs' el bd false) fun st=>.ok (.slice (some a) uu cap) fr st) .no)
         (iw cs a.off (Nat.mul len a9) (fun old=>st.iT (.cells (gC old new) elem (0,0) true) fun id st=>.ok (.slice (some ⟨id,0,none⟩) uu uu) fr st) .no))))
      .no) .no) .no) .no) .no)
    (dV len 0 (dV cap 0
     (dV n 0 (.ok (.slice none 0 0) fr st)
      (st.iT (.cells new elem (0,0) true) fun id st=>.ok (.slice (some ⟨id,0,none⟩) uu uu) fr st))
     .no) .no))
   .no) (Nat.add len n)
def DS(k:d7)(fr:aR)(xs:ac bi):Int->am Int:=
 List.rec (motive:=fun _=>Int->am Int) (fun m=>some m)
  (fun x _ a8 m=>gj (fr.aj x) (fun k' y=>cond (jr k k') (a8 (cond (mq y m) m y)) none) none) xs
def DT(k:d7)(fr:aR)(xs:ac bi):Int->am Int:=
 List.rec (motive:=fun _=>Int->am Int) (fun m=>some m)
  (fun x _ a8 m=>gj (fr.aj x) (fun k' y=>cond (jr k k') (a8 (cond (mq m y) m y)) none) none) xs
def eA(fr:aR)(xs:ac bi):ac be:=
 List.rec (motive:=fun _=>ac be) [] (fun x _ r=>fr.aj x::r) xs
def k2(z:ac be)(n:Nat):ac be:=
 Nat.rec (motive:=fun _=>ac be) [] (fun _ r=>gC z r) n
def Hy(k:d7)(n:Int):Bool:=mq k.min n&&mq n k.max
def fN.ok(c8:fN)(v:be):Bool:=
 match c8 with
 |.int k=>gj v (fun k' n=>jr k k'&&Hy k n) false
 |.str=>hE v (fun s=>Nat.ble (dk s.data.toList) (2^40)) false
 |.arr k n=>rR v (fun xs=>Nat.beq (dk xs.toList) n&&xs.toList.all (fun x=>gj x (fun k' m=>jr k k'&&Hy k m) false)) false
def rq(o:am bH)(k:ac d8->Nat->β)(z:β):β:=
 bm o (fun o=>bH.rec (motive:=fun _=>β) (fun _ _ _ _=>z) k (fun _ _=>z) (fun _ _ _ _=>z) (fun _ _ _ _ _ _ _ _=>z) (fun _=>z) z o) z
def M4(o:am bH)(k:am Nat->Nat->ac Nat->Nat->β)(z:β):β:=
 bm o (fun o=>bH.rec (motive:=fun _=>β) (fun _ _ _ _=>z) (fun _ _=>z) (fun _ _=>z) k (fun _ _ _ _ _ _ _ _=>z) (fun _=>z) z o) z
def Pp(o:am bH)(k:f5->Nat->β)(z:β):β:=
 bm o (fun o=>bH.rec (motive:=fun _=>β) (fun _ _ _ _=>z) (fun _ _=>z) k (fun _ _ _ _=>z) (fun _ _ _ _ _ _ _ _=>z) (fun _=>z) z o) z
def vW(c8:fN)(es:ac d8):Bool:=es.all (fun e=>c8.ok e.key)
def qk(k:be)(es:ac d8):am d8:=es.find? (fun e=>dC k e.key)
def Ay(k v:be)(es:ac d8):ac d8:=es.map (fun e=>cond (dC k e.key) ⟨e.key,v,e.born⟩ e)
def Aw(k:be)(es:ac d8):ac d8:=es.filter (fun e=> !dC k e.key)
def Gd:be->be->am Bool
 |.int k a,.int k' b=>if k=k' then some (a==b)else none
 |_,_=>none
def Ge:be->be->am Bool
 |.string a,.string b=>some (a.data.toList==b.data.toList)
 |_,_=>none
def Lo(i:Nat)(x y:be):am Bool:=match i with
 |0=>Ge x y
 |_=>Gd x y
def kL:Nat->ac be->ac be->am Bool
 |_,[],[]=>some true
 |i,x::xs,y::av=>bm (Lo i x y) (fun b=>cond b (kL (i-1) xs av) (bm (kL (i-1) xs av) (fun _=>some false) none)) none
 |_,_,_=>none
def Ch(n:Nat):be->am Bool
 |.chan (some c)=>if c%2=0 then(if 2<=c∧n<=(c-2)/2 then some true else none)else(if 3<=c∧(c-3)/2<=n then some false else none)
 |_=>none
def MV(n:Nat)(c:be):Bool:=match Ch n c with|some true=>true|_=>false
def wu:ac bv->ac bv->Bool
 |[],_=>true
 |a::as,b::bU=>a==b&&wu as bU
 |_::_,[]=>false
def oE(b:ac bv):ac bv->am Nat
 |[]=>if b.isEmpty then some 0 else none
 |x::xs=>if wu b (x::xs)then some 0 else(oE b xs).map (· +1)
def ann(l:ac Nat):am Nat:=l.getLast?
def mU(fr:aR)(st:ay)(y:vc):aX:=
 match y with
 |.look c8 z ok m k=>(fun key=>cond (c8.ok key)
  (yY (fr.aj m) (fun r=>bm r (fun id=>rq (st.h.get id) (fun es _=>cond (vW c8 es) (bm (qk key es) (fun e=>.ok (cond ok (.tuple #[e.val,.bool true]) e.val) fr st) (.ok (cond ok (.tuple #[z,.bool false]) z) fr st)) .no) .no)
   (.ok (cond ok (.tuple #[z,.bool false]) z) fr st)) .no) .no) (fr.aj k)
 |.gL c8 m k v=>(fun key=>cond (c8.ok key)
  (yY (fr.aj m) (fun r=>bm r (fun id=>rq (st.h.get id) (fun es clock=>cond (vW c8 es)
   (bm (qk key es) (fun _=>st.g3 id (.map (Ay key (fr.aj v) es) clock) fun st=>.ok undef fr st)
    (st.g3 id (.map (es++[⟨key,fr.aj v,clock⟩]) (Nat.succ clock)) fun st=>.ok undef fr st)) .no) .no) .no) .no) .no) (fr.aj k)
 |.del c8 m k=>(fun key=>cond (c8.ok key)
  (yY (fr.aj m) (fun r=>bm r (fun id=>rq (st.h.get id) (fun es clock=>cond (vW c8 es) (st.g3 id (.map (Aw key es) clock) fun st=>.ok undef fr st) .no) .no) .no) .no) .no) (fr.aj k)
 |.AB m=>yY (fr.aj m) (fun r=>bm r (fun id=>rq (st.h.get id) (fun es _=>fX (dk es) fun n=>.ok (.int .i64 (.ofNat n)) fr st) .no) (.ok (.int .i64 0) fr st)) .no
 |.AD m=>yY (fr.aj m) (fun r=>bm r (fun id=>rq (st.h.get id) (fun _ clock=>st.iT (.uj (some id) clock [] clock) fun id st=>.ok (.pointer (some ⟨id,0,none⟩)) fr st) .no)
  (st.iT (.uj none 0 [] 0) fun id st=>.ok (.pointer (some ⟨id,0,none⟩)) fr st)) .no
 |.Az it=>il (fr.aj it) (fun p=>bm p (fun a=>bm a.spot (fun _=>.no) (dV a.off 0 (M4 (st.h.get a.block) (fun m _ seen Bx=>
  bm m (fun id=>bm (ann seen) (fun s=>rq (st.h.get id) (fun es clock=>dV clock Bx (ed (Nat.succ s) clock (bm (es.find? (fun e=>Nat.beq e.born s)) (fun e=>.ok (.tuple #[e.key,e.val]) fr st) .no) .no) .no) .no) .no) .no) .no) .no)) .no) .no
 |.bn s c=>hE (fr.aj s) (fun s=>gj (fr.aj c) (fun k c=>cond (jr k .u8) (g9 c (fun c=>.ok (.int .i64 (.ofNat (s.data.toList.countP (fun b=>b==UInt8.ofNat c)))) fr st) .no) .no) .no) .no
 |.qW neg n x y=>rR (fr.aj x) (fun xs=>rR (fr.aj y) (fun av=>dV (dk xs.toList) (Nat.add (Nat.mod n 100) (Nat.div n 100)) (dV (dk av.toList) (Nat.add (Nat.mod n 100) (Nat.div n 100)) (bm (kL (Nat.mod n 100) xs.toList av.toList) (fun b=>.ok (.bool (cond neg (!b) b)) fr st) .no) .no) .no) .no) .no
 |.uw _=>.no
 |.xe gt x y=>gj (fr.aj x) (fun k n=>cond (jr k .i64) (g9 n (fun n=>bm (Ch n (fr.aj y)) (fun b=>.ok (.bool (cond gt (!b) b)) fr st) .no) .no) .no) .no
 |.idxs g s b=>hE (fr.aj s) (fun s=>hE (fr.aj b) (fun b=>Cd (st.h.get g) (fun cs _ _ a3=>cond a3 .no (one cs (fun c=>cond (MV (dk b.data.toList) c) (ed 2 (dk b.data.toList) (ed (dk s.data.toList) 1000000
  (.ok (.int .i64 (bm (oE b.data.toList s.data.toList) (fun i=>.ofNat i) (.negSucc 0))) fr st) .no) .no) .no) .no)) .no) .no) .no
 |.Bv x=>hE (fr.aj x) (fun s=>st.iT (.yT s 0) fun id st=>.ok (.pointer (some ⟨id,0,none⟩)) fr st) .no
 |.Bu it=>il (fr.aj it) (fun p=>bm p (fun a=>bm a.spot (fun _=>.no) (dV a.off 0 (Pp (st.h.get a.block) (fun s pos=>
  bm (F8 pos s.data.toList).head? (fun b=>ed (Nat.succ b.toNat) 128 (st.g3 a.block (.yT s (Nat.succ pos)) fun st=>.ok (.tuple #[.bool true,.int .i64 (.ofNat pos),.int .i32 (.ofNat b.toNat)]) fr st) .no) (.ok (.tuple #[.bool false]) fr st)) .no) .no)) .no) .no
 |.AA e n=>gj (fr.aj n) (fun k n=>cond (jr k .i64) (g9 n (fun n=>ed n 1000000 (st.iT (.cells (k2 [h7] n) e (0,0) true) fun id st=>.ok (.slice (some ⟨id,0,none⟩) n n) fr st) .no) .no) .no) .no
 |.zs x=>hD (fr.aj x) (fun b _ c=>bm b (fun _=>.no) (.ok (.int .i64 (.ofNat c)) fr st)) .no
def wO(t:Nat)(hv:ac (Nat×ci)):am ci:=
 List.rec (motive:=fun _=>am ci) none (fun p _ a8=>cond (Nat.beq p.1 t) (some p.2) a8) hv
def qf(c:bv)(l:ac bv):am Nat:=
 List.rec (motive:=fun _=>am Nat) none (fun b _ r=>cond (Nat.beq b.toNat c.toNat) (some 0) (bm r (fun i=>some (Nat.succ i)) none)) l
def Y9(x:bi)(_call:bO)(fr:aR)(st:ay):aX:=
 .ok (fr.aj x) fr st
def Zc(c:bi)(a:bi)(b:bi)(_call:bO)(fr:aR)(st:ay):aX:=
 nd (fr.aj c) (fun t=>.ok (cond t (fr.aj a) (fr.aj b)) fr st) .no
def yv(z:ac be)(elem:ce)(_call:bO)(fr:aR)(st:ay):aX:=
 st.iT (.cells z elem (0,0) false) fun id st=>.ok (.pointer (some ⟨id,0,none⟩)) fr st
def AX(elem:ce)(x:bi)(_call:bO)(fr:aR)(st:ay):aX:=
 (fun v=>cond (ub v) .no (st.iT (.cells (iu v) elem (0,0) false) fun id st=>.ok (.pointer (some ⟨id,0,none⟩)) fr st)) (fr.aj x)
def N1(z:ac be)(ps:ac (Nat×Nat×bi))(_call:bO)(fr:aR)(st:ay):aX:=
 ob fr ps z fun cs=>.ok (.agg ⟨cs⟩) fr st
def AY(elem:ce)(len:Nat)(z:ac be)(ps:ac (Nat×Nat×bi))(_call:bO)(fr:aR)(st:ay):aX:=
 ob fr ps z fun cs=>st.iT (.cells cs elem (0,0) false) fun id st=>.ok (.slice (some ⟨id,0,none⟩) len len) fr st
def Im(a:bi)(_call:bO)(fr:aR)(st:ay):aX:=
 il (fr.aj a) (fun p=>bm p (fun a=>st.load a 1 (fun vs=>one vs (fun v=>.ok v fr st) .no) .no) .no) .no
def Io(n:Nat)(a:bi)(_call:bO)(fr:aR)(st:ay):aX:=
 il (fr.aj a) (fun p=>bm p (fun a=>st.load a n (fun vs=>.ok (.agg ⟨vs⟩) fr st) .no) .no) .no
def Zg(n:Nat)(a:bi)(x:bi)(_call:bO)(fr:aR)(st:ay):aX:=
 il (fr.aj a) (fun p=>bm p (fun a=>(fun vs=>dV (dk vs) n (cond (gZ vs) (st.store a vs (fun st=>.ok undef fr st) .no) .no) .no) (iu (fr.aj x))) .no) .no
def N3(x:bi)(_call:bO)(fr:aR)(st:ay):aX:=
 il (fr.aj x) (fun p=>bm p (fun a=>.ok (.pointer (some a)) fr st) .no) (yX (fr.aj x) (fun f a b=>match f with|.func g=>.ok (.func (.func g) a b) fr st|_=>.no) .no)
def N4(name:String)(hv:ac (Nat×ci))(x:bi)(_call:bO)(fr:aR)(st:ay):aX:=
 yX (fr.aj x) (fun f a b=>match f with|.method n=>cond (n==name) (match a.toList with|[.iface t _]=>bm (wO t hv) (fun _=>.ok (.func (.method n) a b) fr st) .no|_=>.no) .no|_=>.no) .no
def N0(op:BinOp)(x:bi)(y:bi)(_call:bO)(fr:aR)(st:ay):aX:=
 CD op (fr.aj x) (fr.aj y) fun v=>.ok v fr st
def YX(neg:Bool)(e:oJ)(x:bi)(y:bi)(_call:bO)(fr:aR)(st:ay):aX:=
 bm (kK 8 e (fr.aj x) (fr.aj y)) (fun b=>.ok (.bool (cond neg (!b) b)) fr st) .no
def N6(op:UnOp)(x:bi)(_call:bO)(fr:aR)(st:ay):aX:=
 zP op (fr.aj x) fun v=>.ok v fr st
def YV(k:d7)(x:bi)(_call:bO)(fr:aR)(st:ay):aX:=
 gj (fr.aj x) (fun _ n=>hP k (n0 k n) fun v=>.ok v fr st) .no
def YU(x:bi)(_call:bO)(fr:aR)(st:ay):aX:=
 hE (fr.aj x) (fun s=>.ok (.string s) fr st) .no
def Ih(x:bi)(_call:bO)(fr:aR)(st:ay):aX:=
 hD (fr.aj x) (fun a n _=>bm a (fun a=>st.load a n (fun vs=>bm (bytesOf vs) (fun bU=>.ok (.string ⟨⟨bU⟩⟩) fr st) .no) .no) (.ok (.string ⟨⟨[]⟩⟩) fr st)) .no
def A0(elem:ce)(x:bi)(_call:bO)(fr:aR)(st:ay):aX:=
 hE (fr.aj x) (fun s=>(fun n=>ed n (2^40) (st.iT (.cells (kZ s.data.toList) elem (0,0) true) fun id st=>.ok (.slice (some ⟨id,0,none⟩) n n) fr st) .no) (dk s.data.toList)) .no
def Y7(t:ce)(x:bi)(_call:bO)(fr:aR)(st:ay):aX:=
 .ok (.iface t (fr.aj x)) fr st
def Y6(fn:Fn)(first:ac bi)(fl:ac bi)(_call:bO)(fr:aR)(st:ay):aX:=
 .ok (.func fn ⟨eA fr first⟩ ⟨eA fr fl⟩) fr st
def yw(_call:bO)(fr:aR)(st:ay):aX:=
 st.iT (.map [] 0) fun id st=>.ok (.map (some id)) fr st
def wm(elem:ce)(bytes:Nat)(z:ac be)(len:bi)(cap:bi)(_call:bO)(fr:aR)(st:ay):aX:=
 gj (fr.aj len) (fun _ l=>gj (fr.aj cap) (fun _ c=>g9 l (fun l=>g9 c (fun c=>ed l c (ed (Nat.mul c (Nat.succ bytes)) (2^40) (st.iT (.cells (k2 z c) elem (0,0) false) fun id st=>.ok (.slice (some ⟨id,0,none⟩) l c) fr st) .no) .no) .no) .no) .no) .no
def Zf(x:bi)(aL:am bi)(hi:am bi)(_call:bO)(fr:aR)(st:ay):aX:=
 hE (fr.aj x) (fun s=>(fun n=>e5 fr hi n n fun h=>e5 fr aL 0 h fun l=>iw s.data.toList l (Nat.sub h l) (fun bU=>.ok (.string ⟨⟨bU⟩⟩) fr st) .no) (dk s.data.toList)) .no
def A1(n:Nat)(a9:Nat)(x:bi)(aL:am bi)(hi:am bi)(eR:am bi)(_call:bO)(fr:aR)(st:ay):aX:=
 il (fr.aj x) (fun p=>bm p (fun a=>st.gE a (fun _ _ _ a3=>cond a3 .no (e5 fr eR n n fun m=>e5 fr hi n m fun h=>e5 fr aL 0 h fun l=>.ok (.slice (some (dV m l a (a.add (Nat.mul l a9)))) (Nat.sub h l) (Nat.sub m l)) fr st)) .no) .no) .no
def Ze(a9:Nat)(x:bi)(aL:am bi)(hi:am bi)(eR:am bi)(_call:bO)(fr:aR)(st:ay):aX:=
 hD (fr.aj x) (fun b len cap=>bm b (fun a=>st.gE a (fun _ _ _ a3=>cond a3 (bm eR (fun _=>.no) (ed len cap (e5 fr hi len len fun h=>e5 fr aL 0 h fun l=>.ok (.slice (some (a.add (Nat.mul l a9))) (Nat.sub h l) (Nat.sub cap l)) fr st) .no)) (e5 fr eR cap cap fun m=>e5 fr hi len m fun h=>e5 fr aL 0 h fun l=>.ok (.slice (some (dV m l a (a.add (Nat.mul l a9)))) (Nat.sub h l) (Nat.sub m l)) fr st)) .no) (e5 fr eR cap cap fun m=>e5 fr hi len m fun h=>e5 fr aL 0 h fun l=>.ok (.slice none (Nat.sub h l) (Nat.sub m l)) fr st)) .no
def YZ(off:Nat)(x:bi)(_call:bO)(fr:aR)(st:ay):aX:=
 il (fr.aj x) (fun p=>bm p (fun a=>.ok (.pointer (some (a.add off))) fr st) .no) .no
def Y0(off:Nat)(a9:Nat)(agg:Bool)(x:bi)(_call:bO)(fr:aR)(st:ay):aX:=
 rR (fr.aj x) (fun cs=>bm (uy off a9 agg cs.toList) (fun v=>.ok v fr st) .no) .no
def wk(n:Nat)(a9:Nat)(x:bi)(i:bi)(_call:bO)(fr:aR)(st:ay):aX:=
 il (fr.aj x) (fun p=>bm p (fun a=>gj (fr.aj i) (fun _ j=>g9 j (fun j=>ed (Nat.succ j) n (.ok (.pointer (some (a.add (Nat.mul j a9)))) fr st) .no) .no) .no) .no) .no
def Y1(a9:Nat)(x:bi)(i:bi)(_call:bO)(fr:aR)(st:ay):aX:=
 hD (fr.aj x) (fun b len _=>bm b (fun a=>gj (fr.aj i) (fun _ j=>g9 j (fun j=>ed (Nat.succ j) len (.ok (.pointer (some (a.add (Nat.mul j a9)))) fr st) .no) .no) .no) .no) .no
def Y3(x:bi)(i:bi)(_call:bO)(fr:aR)(st:ay):aX:=
 hE (fr.aj x) (fun s=>gj (fr.aj i) (fun _ j=>g9 j (fun j=>iw s.data.toList j 1 (fun bU=>one bU (fun b=>.ok (.int .u8 (.ofNat b.toNat)) fr st) .no) .no) .no) .no) .no
def Y2(n:Nat)(a9:Nat)(agg:Bool)(x:bi)(i:bi)(_call:bO)(fr:aR)(st:ay):aX:=
 rR (fr.aj x) (fun cs=>gj (fr.aj i) (fun _ j=>g9 j (fun j=>ed (Nat.succ j) n (bm (uy (Nat.mul j a9) a9 agg cs.toList) (fun v=>.ok v fr st) .no) .no) .no) .no) .no
def N5(t:ce)(zero:be)(ok:Bool)(x:bi)(_call:bO)(fr:aR)(st:ay):aX:=
 s4 (fr.aj x) (fun u v=>dV u t (.ok (cond ok (.tuple #[v,.bool true]) v) fr st) (cond ok (.ok (.tuple #[zero,.bool false]) fr st) .no)) (match fr.aj x with|.nilIface=>cond ok (.ok (.tuple #[zero,.bool false]) fr st) .no|_=>.no)
def YY(x:bi)(i:Nat)(_call:bO)(fr:aR)(st:ay):aX:=
 qD (fr.aj x) (fun vs=>iw vs.toList i 1 (fun l=>one l (fun v=>.ok v fr st) .no) .no) .no
def aoF(f:bi)(args:ac bi)(call:bO)(fr:aR)(st:ay):aX:=
 dM.rec (motive:=fun _=>aX) (fun v st _=>.ok v fr st) (fun v st _=>.bk v st) .no (call (fr.aj f) (eA fr args) none st)
def aoL(hv:ac (Nat×ci))(x:bi)(args:ac bi)(call:bO)(fr:aR)(st:ay):aX:=
 s4 (fr.aj x) (fun t v=>bm (wO t hv) (fun g=>dM.rec (motive:=fun _=>aX) (fun v st _=>.ok v fr st) (fun v st _=>.bk v st) .no (call (.func (.func g) #[] #[]) (v::eA fr args) none st)) .no) .no
def Il(x:bi)(_call:bO)(fr:aR)(st:ay):aX:=
 hD (fr.aj x) (fun _ n _=>.ok (.int .i64 (.ofNat n)) fr st) (s3 (fr.aj x) (.ok (.int .i64 (.ofNat 0)) fr st) .no)
def Y5(x:bi)(_call:bO)(fr:aR)(st:ay):aX:=
 hE (fr.aj x) (fun s=>fX (dk s.data.toList) fun n=>.ok (.int .i64 (.ofNat n)) fr st) .no
def N2(n:Nat)(_call:bO)(fr:aR)(st:ay):aX:=
 .ok (.int .i64 (.ofNat n)) fr st
def aoM(_x:bi)(_call:bO)(_fr:aR)(_st:ay):aX:=
 .no
def YT(elem:ce)(a9:Nat)(bytes:Nat)(s:bi)(x:bi)(_call:bO)(fr:aR)(st:ay):aX:=
 hD (fr.aj s) (fun base len cap=>hD (fr.aj x) (fun b n _=>bm b (fun b=>st.load b (Nat.mul n a9) (fun new=>cond (gZ new) (iK fr st elem a9 bytes base len cap n new) .no) .no) (dV n 0 (iK fr st elem a9 bytes base len cap 0 []) .no)) (s3 (fr.aj x) (iK fr st elem a9 bytes base len cap 0 []) (hE (fr.aj x) (fun s=>dV a9 1 (iK fr st elem a9 bytes base len cap (dk s.data.toList) (kZ s.data.toList)) .no) .no))) .no
def Za(x:bi)(xs:ac bi)(_call:bO)(fr:aR)(st:ay):aX:=
 gj (fr.aj x) (fun k n=>bm (DS k fr xs n) (fun m=>hP k m fun v=>.ok v fr st) .no) .no
def Y8(x:bi)(xs:ac bi)(_call:bO)(fr:aR)(st:ay):aX:=
 gj (fr.aj x) (fun k n=>bm (DT k fr xs n) (fun m=>hP k m fun v=>.ok v fr st) .no) .no
def YW(a9:Nat)(d:bi)(s:bi)(_call:bO)(fr:aR)(st:ay):aX:=
 hD (fr.aj d) (fun a dl _=>hD (fr.aj s) (fun b bj _=>bm a (fun a=>bm b (fun b=>(fun n=>st.load b (Nat.mul n a9) (fun vs=>cond (gZ vs) (st.store a vs (fun st=>.ok (.int .i64 (.ofNat n)) fr st) .no) .no) .no) (ed bj dl bj dl)) (dV bj 0 (.ok (.int .i64 0) fr st) .no)) (dV dl 0 (.ok (.int .i64 0) fr st) .no)) .no) .no
def aoR(_call:bO)(fr:aR)(st:ay):aX:=
 bm fr.b7 (fun _=>.no) (bm fr.bk (fun v=>cond fr.cM (.ok .nilIface fr st) (.ok v ⟨fr.t,fr.c7,fr.bk,true,fr.b7⟩ st)) (.ok .nilIface fr st))
def aoH(f:bi)(args:ac bi)(_call:bO)(fr:aR)(st:ay):aX:=
 bm fr.b7 (fun _=>.no) (yX (fr.aj f) (fun fn first fl=>match fn with|.func g=>.ok undef ⟨fr.t,{target:=.fn (.func g) fl,args:=⟨gC first.toList (eA fr args)⟩}::fr.c7,fr.bk,fr.cM,fr.b7⟩ st|_=>.no) .no)
def aoQ(x:bi)(_call:bO)(fr:aR)(st:ay):aX:=
 s4 (fr.aj x) (fun t v=>.bk (.iface t v) st) .no
def Ii(x:bi)(_call:bO)(fr:aR)(st:ay):aX:=
 il (fr.aj x) (fun p=>bm p (fun a=>st.gE a (fun cs _ _ _=>ed (Nat.succ a.off) (dk cs) (.ok (.pointer (some a)) fr st) .no) .no) .no) .no
def Ij(elem:Nat)(n:Nat)(x:bi)(_call:bO)(fr:aR)(st:ay):aX:=
 il (fr.aj x) (fun p=>bm p (fun a=>st.gE a (fun cs el _ a3=>cond a3 .no (dV a.off 0 (dV el elem (dV (dk cs) n (.ok (.pointer (some a)) fr st) .no) .no) .no)) .no) .no) .no
def Ip(x:bi)(_call:bO)(fr:aR)(st:ay):aX:=
 hD (fr.aj x) (fun b _ c=>bm b (fun a=>dV c 0 .no (.ok (.pointer (some a)) fr st)) (.ok (.pointer none) fr st)) .no
def Iq(elem:ce)(x:bi)(n:bi)(_call:bO)(fr:aR)(st:ay):aX:=
 il (fr.aj x) (fun p=>gj (fr.aj n) (fun _ n=>g9 n (fun n=>dV n 0 (.ok (.string ⟨⟨[]⟩⟩) fr st) (bm p (fun a=>ed n (2^40) (st.gE a (fun cs el bd a3=>ed bd.2 bd.1 (dV el elem (iw cs a.off n (fun vs=>bm (bytesOf vs) (fun bU=>st.g3 a.block (.cells cs el (a.off,Nat.add a.off n) a3) fun st=>.ok (.string ⟨⟨bU⟩⟩) fr st) .no) .no) .no) .no) .no) .no) .no)) .no) .no) .no
def Ik(s:bi)(c:bi)(_call:bO)(fr:aR)(st:ay):aX:=
 hE (fr.aj s) (fun s=>gj (fr.aj c) (fun k c=>cond (jr k .u8) (g9 c (fun c=>.ok (.int .i64 (bm (qf (UInt8.ofNat c) s.data.toList) (fun i=>.ofNat i) (.negSucc 0))) fr st) .no) .no) .no) .no
def Zb(x:bi)(_call:bO)(fr:aR)(st:ay):aX:=
 .ok (fr.aj x) fr st
def aoI(y:vc)(_call:bO)(fr:aR)(st:ay):aX:=
 mU fr st y
def aoS(_call:bO)(_fr:aR)(_st:ay):aX:=
 .no
def bR(call:bO)(o:dg)(fr:aR)(st:ay):aX:=
 dg.rec (motive:=fun _=>bO->aR->ay->aX) Y9 Zc yv AX N1 AY Im Io Zg N3 N4 N0 YX N6 YV YU Ih A0 Y7 Y6 yw wm Zf A1 Ze YZ Y0 wk Y1 Y3 Y2 N5 YY aoF aoL Il Y5 N2 aoM YT Za Y8 YW aoR aoH aoQ Ii Ij Ip Iq Ik Zb aoI aoS o call fr st
inductive cZ where
 |out (e:dT) (fr:aR) (st:ay)
 |no
def hg(fr:aR)(g:am (Tmp×Bool))(yes ht z:β):β:=
 bm g (fun p=>nd (fr.tmp p.1) (fun b=>cond b (cond p.2 yes ht) (cond p.2 ht yes)) (qD (fr.tmp p.1) (fun _=>ht) z)) yes
def dg.nq:dg->Bool
 |.call _ _|.inv _ _ _|.rA _=>true
 |_=>false
def iL(call:bO)(ops:ac bK):aR->ay->cZ:=
 List.rec (motive:=fun _=>aR->ay->cZ) (fun fr st=>.out .norm fr st)
  (fun x _ a8 fr st=>
   hg fr x.g
    (aX.rec (motive:=fun _=>cZ) (fun v fr st=>a8 (fr.put x.d v) st) (fun v st=>cond x.o.nq (.out (.bk v) fr st) .no) .no (bR call x.o fr st))
    (a8 (fr.put x.d undef) st) .no) ops
def sameAt(call:bO)(o:dg)(fr:aR)(v:be)(al:Nat)(n:Nat):ac (ar bH)->Bool:=
 Nat.rec (motive:=fun _=>ac (ar bH)->Bool) (fun _=>true)
  (fun _ a8 ai=>List.rec (motive:=fun _=>Bool) false
   (fun h ai _=>aX.rec (motive:=fun _=>Bool) (fun v' _ _=>cond (dC v v') (a8 ai) false) (fun _ _=>false) false (bR call o fr ⟨h,al⟩)) ai) n
def lW(t:ar be)(ts:ac Tmp)(k:ar be->β):β:=
 List.rec (motive:=fun _=>ar be->β) (fun m=>k m) (fun x _ a8 m=>bm (t.get x) (fun v=>ar.h9 (Nat.succ x) m x v a8) (a8 m)) ts .nil
def pq(fr:aR)(ts:ac Tmp):aR:=
 List.rec (motive:=fun _=>aR->aR) (fun fr=>fr) (fun t _ a8 fr=>a8 (fr.put (some t) h7)) ts fr
def pQ(call:bO)(ms:ac Nat)(n:Nat)(ops:ac (bK×cE)):Nat->ac (ar bH)->aR->ay->Bool:=
 List.rec (motive:=fun _=>Nat->ac (ar bH)->aR->ay->Bool) (fun _ _ _ _=>true)
  (fun x _ a8 p mI fr st=>
   cond (Nat.testBit (ms.getD p 0) n)
    (cE.rec (motive:=fun _=>Bool) (a8 (Nat.succ p) (st.h::mI) (fr.put x.1.d undef) st) (fun _=>a8 (Nat.succ p) mI (fr.put x.1.d undef) st) (fun _ _=>a8 (Nat.succ p) mI (fr.put x.1.d undef) st) x.2)
    (cE.rec (motive:=fun _=>Bool) false
     (fun ts=>lW fr.t ts fun t=>hg ⟨t,[],none,false,none⟩ x.1.g
      (aX.rec (motive:=fun _=>Bool) (fun v _ st'=>a8 (Nat.succ p) mI (fr.put x.1.d v) st') (fun _ _=>false) false (bR call x.1.o ⟨t,[],none,false,none⟩ st))
      (a8 (Nat.succ p) mI (fr.put x.1.d undef) st) false)
     (fun back ts=>lW fr.t ts fun t=>hg ⟨t,[],none,false,none⟩ x.1.g
      (aX.rec (motive:=fun _=>Bool) (fun v _ _=>cond (sameAt call x.1.o ⟨t,[],none,false,none⟩ v st.al (Nat.succ back) mI) (a8 (Nat.succ p) mI (fr.put x.1.d v) st) false) (fun _ _=>false) false (bR call x.1.o ⟨t,[],none,false,none⟩ st))
      (a8 (Nat.succ p) mI (fr.put x.1.d undef) st) false)
     x.2)) ops
abbrev tb:=ac (bK×cE)->ac (ar bH)->aR->ay->Bool
def hX(call:bO)(dw:tb)(ops:ac (bK×cE)):ac (ar bH)->aR->ay->cZ:=
 List.rec (motive:=fun _=>ac (ar bH)->aR->ay->cZ) (fun _ fr st=>.out .norm fr st)
  (fun x xs a8 mI fr st=>
   cE.rec (motive:=fun _=>cZ)
    (hg fr x.1.g
     (aX.rec (motive:=fun _=>cZ) (fun v aK st'=>ed st.al st'.al (a8 (st'.h::mI) (aR.put ⟨fr.t,aK.c7,aK.bk,aK.cM,aK.b7⟩ x.1.d v) st') .no) (fun v st'=>cond x.1.o.nq (cond (dw xs (st.h::mI) (fr.put x.1.d undef) st) (.out (.bk v) fr st') .no) .no) .no (bR call x.1.o fr st))
     (a8 (st.h::mI) (fr.put x.1.d undef) st) .no)
    (fun ts=>lW fr.t ts fun t=>hg ⟨t,[],none,false,none⟩ x.1.g
     (aX.rec (motive:=fun _=>cZ) (fun v _ st'=>a8 mI (fr.put x.1.d v) st') (fun _ _=>.no) .no (bR call x.1.o ⟨t,[],none,false,none⟩ st))
     (a8 mI (fr.put x.1.d undef) st) .no)
    (fun back ts=>lW fr.t ts fun t=>hg ⟨t,[],none,false,none⟩ x.1.g
     (aX.rec (motive:=fun _=>cZ) (fun v _ _=>cond (sameAt call x.1.o ⟨t,[],none,false,none⟩ v st.al (Nat.succ back) mI) (a8 mI (fr.put x.1.d v) st) .no) (fun _ _=>.no) .no (bR call x.1.o ⟨t,[],none,false,none⟩ st))
     (a8 mI (fr.put x.1.d undef) st) .no)
    x.2) ops
def tp(call:bO)(ms:ac Nat)(len:Nat):tb:=fun xs=>pQ call ms (Nat.sub len (Nat.succ (dk xs))) xs (Nat.sub len (dk xs))
def mu(o:am bH)(k:LoopState->am dT->ci->ar be->ac Tmp->dq->dq->Nat->β)(z:β):β:=
 bm o (fun o=>bH.rec (motive:=fun _=>β) (fun _ _ _ _=>z) (fun _ _=>z) (fun _ _=>z) (fun _ _ _ _=>z) k (fun _=>z) z o) z
def pC(r:cZ)(k:aR->ay->cZ):cZ:=
 cZ.rec (motive:=fun _=>cZ) (fun e fr st=>dT.rec (motive:=fun _=>cZ) (k fr st) (fun i=>.out (.exit i) fr st) (.out .ret fr st) (fun v=>.out (.bk v) fr st) e) .no r
def FH(id:Nat)(r:cZ):cZ:=
 cZ.rec (motive:=fun _=>cZ) (fun e fr st=>dT.rec (motive:=fun _=>cZ) (.out .norm fr st) (fun i=>dV i id (.out .norm fr st) (.out (.exit i) fr st)) (.out .ret fr st) (fun v=>.out (.bk v) fr st) e) .no r
def Rv(v:be)(a b:cZ):cZ:=nd v (fun t=>cond t a b) .no
def Jo(l:Nat)(aK:aR)(r:dM):cZ:=
 dM.rec (motive:=fun _=>cZ)
  (fun _ st _=>mu (st.h.get l) (fun s gh qZ t ps a b d=>
   LoopState.rec (motive:=fun _=>cZ)
    (st.g3 l (.loop .exhausted gh qZ t ps a b d) fun st=>bm gh (fun e=>.out e aK st) (.out .norm aK st))
    .no
    (st.g3 l (.loop .exhausted gh qZ t ps a b d) fun st=>bm gh (fun e=>.out e aK st) (.out .norm aK st))
    .no s) .no)
  (fun v st _=>.out (.bk v) aK st) .no r
def CE(call:bO)(fn:ci)(f:bi)(params:ac Tmp)(assign body:dq)(fr:aR)(st:ay):cZ:=
 bm fr.b7 (fun _=>.no)
  (st.iT (.iJ (some [])) fun r st=>
   st.iT (.loop .ready none fn fr.t params assign body r) fun l st=>
   Jo l ⟨fr.t,{target:=.collected r,args:= #[]}::fr.c7,fr.bk,fr.cM,fr.b7⟩ (call (fr.aj f) [.func (.yield l) #[] #[]] none st))
def dD(call:bO)(cB:Nat)(fn:ci)(c:dq):aR->ay->cZ:=
 dq.rec (motive:=fun _=>aR->ay->cZ)
  (fun fr st=>.out .norm fr st)
  (fun ops=>iL call ops)
  (fun ops _ dU ms fr st=>hX call (tp call ms (dk ops)) ops [st.h] (pq fr dU) st)
  (fun _ _ Cy o0 fr st=>pC (Cy fr st) o0)
  (fun c _ _ Cy o0 fr st=>Rv (fr.aj c) (Cy fr st) (o0 fr st))
  (fun id _ e fr st=>FH id (e fr st))
  (fun _ e fr st=>
   Nat.rec (motive:=fun _=>aR->ay->cZ) (fun _ _=>.no)
    (fun _ a8 fr st=>pC (e fr st) a8) cB fr st)
  (fun f params assign body _ _=>CE call fn f params assign body)
  (fun id fr st=>.out (.exit id) fr st)
  (fun _ e=>e)
  (fun fr st=>.out .ret fr st)
  (fun _ _=>.no) c
def n5(vs:ac be):Nat->ar be->ar be:=
 List.rec (motive:=fun _=>Nat->ar be->ar be) (fun _ t=>t) (fun v _ a8 i t=>ar.h9 (Nat.succ i) t i v fun t=>a8 (Nat.succ i) t) vs
def nR(ts:ac Tmp):ac be->ar be->ar be:=
 List.rec (motive:=fun _=>ac be->ar be->ar be) (fun _ m=>m)
  (fun t _ a8 vs m=>List.rec (motive:=fun _=>ar be) m (fun v vs _=>ar.h9 (Nat.succ t) m t v fun m=>a8 vs m) vs) ts
def qX(fr:aR)(st:ay)(rs:ac iI):am (ac be):=
 List.rec (motive:=fun _=>am (ac be)) (some [])
  (fun r _ a8=>bm a8 (fun vs=>
   iI.rec (motive:=fun _=>am (ac be)) (fun t=>some (fr.tmp t::vs))
    (fun a agg n=>il (fr.tmp a) (fun p=>bm p (fun ad=>st.load ad n (fun cs=>cond agg (some (.agg ⟨cs⟩::vs)) (one cs (fun v=>some (v::vs)) none)) none) none) none) r) none) rs
def jV(call:bO):ac Deferred->am be->ay->am (am be×ay)
 |[],m,st=>some (m,st)
 |{target:=.collected r,.. }::ds,m,st=>
  match st.h.get r with
  |some (.iJ (some []))=>st.g3 r (.iJ none) fun st=>jV call ds m st
  |_=>none
 |{target:=.fn (.func g) fl,args}::ds,m,st=>
  match call (.func (.func g) #[] fl) args.toList m st with
  |.ret _ st eE=>
   match m,eE with
   |some _,true=>jV call ds none st
   |_,_=>jV call ds m st
  |.bk v st _=>
   match m with
   |none=>jV call ds (some v) st
   |some _=>none
  |.no=>none
 |_::_,_,_=>none
abbrev n2:=ci->ac be->ay->am dM
def oc(call:bO)(res:ac iI)(m:am be)(fr:aR)(st:ay):dM:=
 bm (jV call fr.c7 m st)
  (fun p=>bm p.1 (fun v=>.bk v p.2 fr.cM)
   (bm (qX fr p.2 res) (fun vs=>one vs (fun v=>.ret v p.2 fr.cM) (.ret (.tuple ⟨vs⟩) p.2 fr.cM)) .no)) .no
def pP(call:bO)(n:Nat)(f:ci)(xf:dv)(as:ac be)(bk:am be)(st:ay):dM:=
 ed (dk as) xf.aQ
  (cZ.rec (motive:=fun _=>dM)
   (fun e fr st=>dT.rec (motive:=fun _=>dM) (oc call xf.res none fr st) (fun _=>.no) (oc call xf.res none fr st) (fun v=>oc call xf.res (some v) fr st) e)
   .no (dD call n f xf.body ⟨n5 as 0 .nil,[],bk,false,none⟩ st)) .no
def qz(l:Nat)(r:cZ):dM:=
 cZ.rec (motive:=fun _=>dM)
  (fun e fr st=>
   List.rec (motive:=fun _=>dM)
    (dT.rec (motive:=fun _=>dM)
     (mu (st.h.get l) (fun _ _ fn t ps a b d=>st.g3 l (.loop .ready none fn t ps a b d) fun st=>.ret (.bool true) st false) .no)
     (fun i=>mu (st.h.get l) (fun _ _ fn t ps a b d=>st.g3 l (.loop .done (some (.exit i)) fn t ps a b d) fun st=>.ret (.bool false) st false) .no)
     (mu (st.h.get l) (fun _ _ fn t ps a b d=>st.g3 l (.loop .done (some .ret) fn t ps a b d) fun st=>.ret (.bool false) st false) .no)
     (fun v=>.bk v st false) e)
    (fun _ _ _=>.no) fr.c7)
  .no r
def Bl(call:bO)(n:Nat)(l:Nat)(f:ci)(body:dq)(fr:aR)(st:ay):dM:=
 mu (st.h.get l) (fun s gh fn t ps a b d=>
  LoopState.rec (motive:=fun _=>dM)
   (st.g3 l (.loop .busy gh fn t ps a b d) fun st=>qz l (dD call n f body fr st))
   .no .no .no s) .no
def y6(call:bO)(n:Nat)(l:Nat)(args:ac be)(st:ay):dM:=
 mu (st.h.get l) (fun _ _ fn t ps dn body _=>
  dV (dk args) (dk ps)
   (cZ.rec (motive:=fun _=>dM)
    (fun e fr st=>dT.rec (motive:=fun _=>dM) (Bl call n l fn body fr st) (fun _=>.no) .no (fun _=>.no) e) .no
    (dD call n fn dn ⟨nR ps args t,[],none,false,some l⟩ st)) .no) .no
def dc(bB:ar dv)(gg:n2)(fuel:Nat):bO:=
 Nat.rec (motive:=fun _=>bO) (fun _ _ _ _=>.no)
  (fun n a8 j6 args bk st=>
   yX j6 (fun fn first fl=>
    Fn.rec (motive:=fun _=>dM)
     (fun f=>(fun as=>bm bk (fun _=>bm (bB.get f) (fun xf=>pP a8 n f xf as bk st) .no) (bm (gg f as st) (fun r=>r) (bm (bB.get f) (fun xf=>pP a8 n f xf as bk st) .no))) (gC first.toList (gC args fl.toList)))
     (fun _=>.no) (fun _ _=>.no) (fun _ _ _ _=>.no)
     (fun l=>List.rec (motive:=fun _=>dM) (List.rec (motive:=fun _=>dM) (bm bk (fun _=>.no) (y6 a8 n l args st)) (fun _ _ _=>.no) fl.toList) (fun _ _ _=>.no) first.toList)
     fn) .no) fuel
end Go.ak
namespace Go.ak
namespace ar
variable{α β:Type}
@[simp] theorem get_nil (n:Nat):(ar.nil:ar α).get n=none:=rfl
def xy(l r:ar α)(v:am α):(ar.node l v r).get 0=v:=rfl
def HW{β:Sort _}(m:Nat)(a b:β):Nat.rec (motive:=fun _=>β) a (fun _ _=>b) (Nat.mod m 2)=if m%2=0 then a else b:=by
 show Nat.rec (motive:=fun _=>β) a (fun _ _=>b) (m%2)=_;rcases Nat.mod_two_eq_zero_or_one m with h|h
 ·rw[h];rfl
 ·rw[h];rfl
def p1(l r:ar α)(v:am α)(m:Nat):(ar.node l v r).get (m+1)=if m%2=0 then l.get (m/2)else r.get (m/2):=
 HW m (l.get (m/2)) (r.get (m/2))
def aqJ(f:Nat)(x:α)(k:ar α->β):h9 (f+1) .nil 0 x k=k (.node .nil (some x) .nil):=rfl
def Ju(f m:Nat)(x:α)(k:ar α->β):h9 (f+1) .nil (m+1) x k=if m%2=0 then h9 f .nil (m/2) x (fun l'=>k (.node l' none .nil))else h9 f .nil (m/2) x (fun dJ=>k (.node .nil none dJ)):=HW m _ _
def aqK(f:Nat)(l r:ar α)(v:am α)(x:α)(k:ar α->β):h9 (f+1) (.node l v r) 0 x k=k (.node l (some x) r):=rfl
def Jv(f m:Nat)(l r:ar α)(v:am α)(x:α)(k:ar α->β):h9 (f+1) (.node l v r) (m+1) x k=if m%2=0 then h9 f l (m/2) x (fun l'=>k (.node l' v r))else h9 f r (m/2) x (fun dJ=>k (.node l v dJ)):=HW m _ _
theorem mG{α:Type}:∀(f:Nat) (β:Type) (t:ar α) (n:Nat) (x:α) (k:ar α->β),h9 f t n x k=k (h9 f t n x id)
 |0,_,_,_,_,_=>rfl
 |f+1,β,t,n,x,k=>by
  cases t with
  |nil=>
   cases n with
   |zero=>rfl
   |succ m=>
    rw[Ju,Ju];split
    ·rw[mG f _ .nil (m/2) x (fun l'=>k (ar.node l' none ar.nil)),mG f _ .nil (m/2) x (fun l'=>id (ar.node l' none ar.nil))];rfl
    ·rw[mG f _ .nil (m/2) x (fun dJ=>k (ar.node ar.nil none dJ)),mG f _ .nil (m/2) x (fun dJ=>id (ar.node ar.nil none dJ))];rfl
  |node l v r=>
   cases n with
   |zero=>rfl
   |succ m=>
    rw[Jv,Jv];split
    ·rw[mG f _ l (m/2) x (fun l'=>k (ar.node l' v r)),mG f _ l (m/2) x (fun l'=>id (ar.node l' v r))];rfl
    ·rw[mG f _ r (m/2) x (fun dJ=>k (ar.node l v dJ)),mG f _ r (m/2) x (fun dJ=>id (ar.node l v dJ))];rfl
def yR(t:ar α)(n:Nat)(x:α)(k:ar α->β):h9 (Nat.succ n) t n x k=k (t.set n x):=mG _ _ t n x k
def aog(v:am α)(r l:ar α):Yw v r l= .node l v r:=by cases l<;>rfl
def aoh(v:am α)(l r:ar α):Yx l v r= .node l v r:=by cases r<;>rfl
def qY(t:ar α)(k:ar α->β):fin t k=k t:=by cases t<;>rfl
def Zz(a8:ar α->Nat->α->ar α)(l r:ar α)(v:am α)(m:Nat)(x:α):
 IB a8 l v r m x=if m%2=0 then .node (a8 l (m/2) x) v r else .node l v (a8 r (m/2) x):=by
 rw[<-aog,<-aoh];exact HW m _ _
theorem IC:∀(f:Nat) (t:ar α) (n:Nat) (x:α),ke f t n x=h9 f t n x id
 |0,_,_,_=>rfl
 |f+1,t,n,x=>by
  cases t with
  |nil=>
   cases n with
   |zero=>rfl
   |succ m=>
    rw[Ju];show IB (ke f) .nil none .nil m x=_;rw[Zz,IC f];split
    ·rw[mG f _ .nil (m/2) x (fun l'=>id (ar.node l' none ar.nil))];rfl
    ·rw[mG f _ .nil (m/2) x (fun dJ=>id (ar.node ar.nil none dJ))];rfl
  |node l v r=>
   cases n with
   |zero=>rfl
   |succ m=>
    rw[Jv];show IB (ke f) l v r m x=_;rw[Zz,IC f,IC f];split
    ·rw[mG f _ l (m/2) x (fun l'=>id (ar.node l' v r))];rfl
    ·rw[mG f _ r (m/2) x (fun dJ=>id (ar.node l v dJ))];rfl
def wv(t:ar α)(n:Nat)(x:α):ke (Nat.succ n) t n x=t.set n x:=IC _ t n x
theorem GB:∀(f:Nat) (t:ar α) (n:Nat) (x:α) (j:Nat),n<f->(h9 f t n x id).get j=if j=n then some x else t.get j
 |0,_,_,_,_,h=>by omega
 |f+1,t,n,x,j,h=>by
  cases t with
  |nil=>
   cases n with
   |zero=>
    cases j with
    |zero=>rfl
    |succ j=>rw[aqJ];show(ar.node .nil (some x) .nil:ar α).get (j+1)=_;rw[p1];simp
   |succ m=>
    have a8:=fun i=>GB f (.nil:ar α) (m/2) x i (by omega);rw[Ju];split
    ·rename_i hm;rw[mG f _ .nil (m/2) x (fun l'=>id (ar.node l' none ar.nil))];show(ar.node _ none .nil:ar α).get j=_;cases j with
     |zero=>rw[xy];simp
     |succ j=>
      rw[p1];by_cases hj:j%2=0
      ·rw[zab hj,a8];by_cases e:j=m
       ·subst e;simp
       ·rw[zaa (by omega),zaa (by omega)];simp
      ·rw[zaa hj,zaa (by omega)];simp
    ·rename_i hm;rw[mG f _ .nil (m/2) x (fun dJ=>id (ar.node ar.nil none dJ))];show(ar.node .nil none _:ar α).get j=_;cases j with
     |zero=>rw[xy];simp
     |succ j=>
      rw[p1];by_cases hj:j%2=0
      ·rw[zab hj,zaa (by omega)];simp
      ·rw[zaa hj,a8];by_cases e:j=m
       ·subst e;simp
       ·rw[zaa (by omega),zaa (by omega)];simp
  |node l v r=>
   cases n with
   |zero=>
    cases j with
    |zero=>rfl
    |succ j=>rw[aqK];show(ar.node l (some x) r:ar α).get (j+1)=_;rw[p1,p1,zaa (by omega:¬(j+1=0))]
   |succ m=>
    rw[Jv];split
    ·rename_i hm;have a8:=fun i=>GB f l (m/2) x i (by omega);rw[mG f _ l (m/2) x (fun l'=>id (ar.node l' v r))];show(ar.node _ v r:ar α).get j=_;cases j with
     |zero=>rw[xy,zaa (by omega)];rfl
     |succ j=>
      rw[p1,p1];by_cases hj:j%2=0
      ·rw[zab hj,zab hj,a8];by_cases e:j=m
       ·subst e;simp
       ·rw[zaa (by omega),zaa (by omega)]
      ·rw[zaa hj,zaa hj,zaa (by omega)]
    ·rename_i hm;have a8:=fun i=>GB f r (m/2) x i (by omega);rw[mG f _ r (m/2) x (fun dJ=>id (ar.node l v dJ))];show(ar.node l v _:ar α).get j=_;cases j with
     |zero=>rw[xy,zaa (by omega)];rfl
     |succ j=>
      rw[p1,p1];by_cases hj:j%2=0
      ·rw[zab hj,zab hj,zaa (by omega)]
      ·rw[zaa hj,zaa hj,a8];by_cases e:j=m
       ·subst e;simp
       ·rw[zaa (by omega),zaa (by omega)]
def eo(t:ar α)(n:Nat)(x:α)(j:Nat):(t.set n x).get j=if j=n then some x else t.get j:=
 GB (n+1) t n x j (by omega)
@[simp] theorem q0 (t:ar α) (n:Nat) (x:α):(t.set n x).get n=some x:=by rw[eo,zab rfl]
def hY(t:ar α){n j:Nat}(x:α)(h:j≠n):(t.set n x).get j=t.get j:=by rw[eo,zaa h]
end ar
def Oo(fr:aR)(d:Tmp)(v:be):fr.put (some d) v=⟨fr.t.set d v,fr.c7,fr.bk,fr.cM,fr.b7⟩:=by
 show aR.Yg (ar.ke (Nat.succ d) fr.t d v) fr.c7 fr.bk fr.cM fr.b7=_;rw[ar.wv];cases fr.t.set d v<;>rfl
def rP(fr:aR)(d:am Tmp)(v:be)(j:Nat):(fr.put d v).tmp j=if d=some j then v else fr.tmp j:=by
 cases d with
 |none=>simp[aR.put]
 |some d=>
  rw[Oo];simp only[aR.tmp,ar.eo,Option.some.injEq];by_cases h:j=d
  ·subst h;simp
  ·rw[zaa h,zaa (fun e=>h e.symm)]
def wx(fr:aR)(d:am Tmp)(v:be):(fr.put d v).c7=fr.c7∧(fr.put d v).bk=fr.bk∧(fr.put d v).cM=fr.cM∧(fr.put d v).b7=fr.b7:=by
 cases d with
 |none=>simp[aR.put]
 |some d=>rw[Oo];exact⟨rfl,rfl,rfl,rfl⟩
structure Loc where
 cG:Nat
 sh:Nat
 ex:Nat
 ca:Nat->Nat
def ix:Nat->Nat:=fun _=>0
def MU:(id:Nat->Nat)≠ix:=fun h=>by have:=congrFun h 1;simp[ix]at this
abbrev bC:=Nat->am Loc
def bC.le(ι aU:bC):Prop:=∀i l,ι i=some l->aU i=some l
def bC.le.refl(ι:bC):ι.le ι:=fun _ _ h=>h
def bC.le.trans{ι aU ff:bC}(h:ι.le aU)(aB:aU.le ff):ι.le ff:=fun i l hi=>aB i l (h i l hi)
def zc(ι:bC)(f g:Fn):Prop:=(f=g∧∀l,f≠.yield l)∨∃l b,f= .yield l∧g= .yield b∧ι l=some ⟨b,0,0,id⟩
def PK(c:Nat)(m:Int):Prop:=c=1∨(∃k:Nat,c=2*k+2∧(k:Int)<=m)∨∃k:Nat,c=2*k+3∧m<k
inductive bs(ι:bC):Value->Value->Prop
 |bool (b:Bool):bs ι (.bool b) (.bool b)
 |int (k:IntKind) (n:Int):bs ι (.int k n) (.int k n)
 |float (k:FloatKind) (b:Nat):bs ι (.float k b) (.float k b)
 |string (s:ByteArray):bs ι (.string s) (.string s)
 |nQ:bs ι (.pointer none) (.pointer none)
 |ptr (a:Addr) (l:Loc) (h:ι a.block=some l) (ai:a.spot=none):bs ι (.pointer (some a)) (.pointer (some ⟨l.cG,l.sh+a.off,none⟩))
 |nU (n c:Nat):bs ι (.slice none n c) (.slice none n c)
 |gx (a:Addr) (l:Loc) (o n c:Nat) (h:ι a.block=some l) (ai:a.spot=none) (ao:o=l.sh+a.off∨(n=0∧c=0∧l.ex=0)):
  bs ι (.slice (some a) n c) (.slice (some ⟨l.cG,o,none⟩) n (c+l.ex))
 |ql:bs ι (.map none) (.map none)
 |map (r b:Nat) (ca:Nat->Nat) (h:ι r=some ⟨b,0,0,ca⟩):bs ι (.map (some r)) (.map (some b))
 |func (f g:Fn) (xs av us vs:Array Value) (ae:zc ι f g) (J:xs.size=av.size) (U:∀i (h:i<xs.size) (aB:i<av.size),bs ι xs[i] av[i])
  (af:us.size=vs.size) (ax:∀i (h:i<us.size) (aB:i<vs.size),bs ι us[i] vs[i]):bs ι (.func f xs us) (.func g av vs)
 |nilFunc:bs ι .nilFunc .nilFunc
 |iface (t:TypeId) (v w:Value) (h:bs ι v w):bs ι (.iface t v) (.iface t w)
 |nilIface:bs ι .nilIface .nilIface
 |agg (xs av:Array Value) (J:xs.size=av.size) (U:∀i (h:i<xs.size) (aB:i<av.size),bs ι xs[i] av[i]):bs ι (.agg xs) (.agg av)
 |tuple (xs av:Array Value) (J:xs.size=av.size) (U:∀i (h:i<xs.size) (aB:i<av.size),bs ι xs[i] av[i]):bs ι (.tuple xs) (.tuple av)
 |iE (c:Nat) (m:Int) (h:PK c m):bs ι (.chan (some c)) (.int .i64 m)
 |emp (p:Addr) (c:Nat):bs ι (.chan none) (.slice (some p) 0 c)
 |top (c:Value):bs ι h7 c
variable{ι aU:bC}
def zc.mono(hle:ι.le aU){f g:Fn}(h:zc ι f g):zc aU f g:=by
 rcases h with h|⟨l,b,J,U,af⟩
 ·exact .inl h
 ·exact .inr ⟨l,b,J,U,hle _ _ af⟩
def bs.mono(hle:ι.le aU){v w:be}(h:bs ι v w):bs aU v w:=by
 induction h with
 |bool b=>exact .bool b
 |int k n=>exact .int k n
 |float k n=>exact .float k n
 |string s=>exact .string s
 |nQ=>exact .nQ
 |ptr a l h ai=>exact .ptr a l (hle _ _ h) ai
 |nU n c=>exact .nU n c
 |gx a l o n c h ai ao=>exact .gx a l o n c (hle _ _ h) ai ao
 |ql=>exact .ql
 |map r b ca h=>exact .map r b ca (hle _ _ h)
 |func f g xs av us vs ae J _ af _ nK x7=>exact .func f g xs av us vs (ae.mono hle) J nK af x7
 |nilFunc=>exact .nilFunc
 |iface t v w _ a8=>exact .iface t v w a8
 |nilIface=>exact .nilIface
 |agg xs av J _ a8=>exact .agg xs av J a8
 |tuple xs av J _ a8=>exact .tuple xs av J a8
 |iE c m h=>exact .iE c m h
 |emp p c=>exact .emp p c
 |top c=>exact .top c
def bM(ι:bC)(xs av:ac be):Prop:=xs.length=av.length∧∀(i:Nat) (h:i<xs.length) (aB:i<av.length),bs ι xs[i] av[i]
variable{xs av:ap be}
def bM.mono(hle:ι.le aU){xs av:ac be}(h:bM ι xs av):bM aU xs av:=⟨h.1,fun i a b=>(h.2 i a b).mono hle⟩
def bM.nil(ι:bC):bM ι [] []:=⟨rfl,fun i h=>by simp at h⟩
def bM.cons{ι:bC}{x y:be}{xs av:ac be}(h:bs ι x y)(ai:bM ι xs av):bM ι (x::xs) (y::av):=by
 refine⟨by simp[ai.1],fun i a b=> ?_⟩;cases i with
 |zero=>exact h
 |succ i=>exact ai.2 i (by simpa using a) (by simpa using b)
def bM.cons_inv{x:be}{xs av:ac be}(h:bM ι (x::xs) av):∃y iZ,av=y::iZ∧bs ι x y∧bM ι xs iZ:=by
 cases av with
 |nil=>have:=h.1;simp at this
 |cons y iZ=>
  refine⟨y,iZ,rfl,h.2 0 (by simp) (by simp),by simpa using h.1,fun i a b=> ?_⟩;exact h.2 (i+1) (by simpa using a) (by simpa using b)
def bM.wb{av:ac be}(h:bM ι [] av):av=[]:=by
 cases av with
 |nil=>rfl
 |cons y av=>have:=h.1;simp at this
def bM.append:∀{xs av us vs:ac be},bM ι xs av->bM ι us vs->bM ι (xs++us) (av++vs)
 |[],av,us,vs,h,aB=>by rw[h.wb];simpa using aB
 |x::xs,av,us,vs,h,aB=>by
  obtain⟨y,iZ,rfl,J,U⟩:=h.cons_inv;simpa using bM.cons J (U.append aB)
def bM.drop:∀(n:Nat) {xs av:ac be},bM ι xs av->bM ι (xs.drop n) (av.drop n)
 |0,_,_,h=>by simpa using h
 |n+1,[],av,h=>by rw[h.wb];simpa using bM.nil ι
 |n+1,x::xs,av,h=>by
  obtain⟨y,iZ,rfl,_,U⟩:=h.cons_inv;simpa using U.drop n
def bM.take:∀(n:Nat) {xs av:ac be},bM ι xs av->bM ι (xs.take n) (av.take n)
 |0,_,_,_=>by simpa using bM.nil ι
 |n+1,[],av,h=>by rw[h.wb];simpa using bM.nil ι
 |n+1,x::xs,av,h=>by
  obtain⟨y,iZ,rfl,J,U⟩:=h.cons_inv;simpa using bM.cons J (U.take n)
def bs.AT(h:bM ι xs.toList av.toList):bs ι (.agg xs) (.agg av):=
 .agg xs av (by simpa using h.1) fun i a b=>by have:=h.2 i (by simpa using a) (by simpa using b);rwa [zaC,zaC]at this
def bs.po(h:bM ι xs.toList av.toList):bs ι (.tuple xs) (.tuple av):=
 .tuple xs av (by simpa using h.1) fun i a b=>by have:=h.2 i (by simpa using a) (by simpa using b);rwa [zaC,zaC]at this
def bM.wh(J:xs.size=av.size)(U:∀i (h:i<xs.size) (aB:i<av.size),bs ι xs[i] av[i]):bM ι xs.toList av.toList:=
 ⟨by simpa using J,fun i a b=>by have:=U i (by simpa using a) (by simpa using b);rwa [<-zaC,<-zaC]at this⟩
def bs.Ie{f g:Fn}{us vs:ap be}(ae:zc ι f g)(h:bM ι xs.toList av.toList)(aB:bM ι us.toList vs.toList):bs ι (.func f xs us) (.func g av vs):=
 .func f g xs av us vs ae (by simpa using h.1) (fun i a b=>by have:=h.2 i (by simpa using a) (by simpa using b);rwa [zaC,zaC]at this) (by simpa using aB.1) (fun i a b=>by have:=aB.2 i (by simpa using a) (by simpa using b);rwa [zaC,zaC]at this)
def bM.cells{v w:be}(h:bs ι v w)(hp:v≠h7):bM ι v.cells.toList w.cells.toList:=by
 cases h<;>first
  |exact absurd rfl hp
  |(rename_i xs av J U;exact bM.wh J U)
  |(simp only[Value.cells];refine bM.cons ?_ (bM.nil ι);constructor<;>assumption)
end Go.ak
namespace Go.ak
section
variable{α β:Type}{r z:β}
variable{v:be}{x:β}{k:α->β}{a b:Nat}{l:ac α}{n:Nat}{st:ay}{o:am α}
def pE{k:am Addr->β}(h:il v k z=r)(aJ:z≠r):∃p,v= .pointer p∧k p=r:=by
 cases v<;>first|exact absurd h aJ|exact⟨_,rfl,h⟩
def iW{k:d7->Int->β}(h:gj v k z=r)(aJ:z≠r):∃a n,v= .int a n∧k a n=r:=by
 cases v<;>first|exact absurd h aJ|exact⟨_,_,rfl,h⟩
def PM{k:Bool->β}(h:nd v k z=r)(aJ:z≠r):∃b,v= .bool b∧k b=r:=by
 cases v<;>first|exact absurd h aJ|exact⟨_,rfl,h⟩
def oF{k:f5->β}(h:hE v k z=r)(aJ:z≠r):∃s,v= .string s∧k s=r:=by
 cases v<;>first|exact absurd h aJ|exact⟨_,rfl,h⟩
def uU{k:am Addr->Nat->Nat->β}(h:hD v k z=r)(aJ:z≠r):∃a n c,v= .slice a n c∧k a n c=r:=by
 cases v<;>first|exact absurd h aJ|exact⟨_,_,_,rfl,h⟩
def BF{k:ap be->β}(h:rR v k z=r)(aJ:z≠r):∃a,v= .agg a∧k a=r:=by
 cases v<;>first|exact absurd h aJ|exact⟨_,rfl,h⟩
def acw{k:ap be->β}(h:qD v k z=r)(aJ:z≠r):∃a,v= .tuple a∧k a=r:=by
 cases v<;>first|exact absurd h aJ|exact⟨_,rfl,h⟩
def PN{k:Fn->ap be->ap be->β}(h:yX v k z=r)(aJ:z≠r):∃f a b,v= .func f a b∧k f a b=r:=by
 cases v<;>first|exact absurd h aJ|exact⟨_,_,_,rfl,h⟩
def E1{k:ce->be->β}(h:s4 v k z=r)(aJ:z≠r):∃t x,v= .iface t x∧k t x=r:=by
 cases v<;>first|exact absurd h aJ|exact⟨_,_,rfl,h⟩
def fp(h:bm o k z=r)(aJ:z≠r):∃a,o=some a∧k a=r:=by
 cases o<;>first|exact absurd h aJ|exact⟨_,rfl,h⟩
def yt(h:bm o k z=r)(ab:∀a,k a≠r):o=none∧z=r:=by
 cases o<;>first|exact⟨rfl,h⟩|exact absurd h (ab _)
def lS{n:Int}{k:Nat->β}(h:g9 n k z=r)(aJ:z≠r):∃m:Nat,n=(m:Int)∧k m=r:=by
 cases n with
 |ofNat m=>exact⟨m,rfl,h⟩
 |negSucc m=>exact absurd h aJ
def pN:Nat.ble a b=true↔a<=b:=by simp
def qi(a b:Nat)(x y:β):ed a b x y=if a<=b then x else y:=by
 unfold ed;by_cases h:a<=b
 ·rw[zab h,pN.2 h];rfl
 ·rw[zaa h];have:Nat.ble a b=false:=by rw[zbR];intro hh;exact h (pN.1 hh)
  rw[this];rfl
def o1(a b:Nat)(x y:β):dV a b x y=if a=b then x else y:=by
 unfold dV;by_cases h:a=b
 ·rw[zab h,h,zaP];rfl
 ·rw[zaa h];have:Nat.beq a b=false:=by rw[zbR];intro hh;exact h (eL hh)
  rw[this];rfl
def iB(h:ed a b x z=r)(aJ:z≠r):a<=b∧x=r:=by
 rw[qi]at h;split at h
 ·exact⟨by assumption,h⟩
 ·exact absurd h aJ
def k3(h:dV a b x z=r)(aJ:z≠r):a=b∧x=r:=by
 rw[o1]at h;split at h
 ·exact⟨by assumption,h⟩
 ·exact absurd h aJ
def iv{b:Bool}(h:cond b x z=r)(aJ:z≠r):b=true∧x=r:=by
 cases b
 ·exact absurd h aJ
 ·exact⟨rfl,h⟩
def AH{b:Bool}(h:cond b z x=r)(aJ:z≠r):b=false∧x=r:=by
 cases b
 ·exact⟨rfl,h⟩
 ·exact absurd h aJ
@[simp] theorem fo:∀l:ac α,dk l=l.length
 |[]=>rfl
 |x::xs=>by show Nat.succ (dk xs)=_;rw[fo xs];rfl
@[simp] theorem qM (m:ac α):∀l:ac α,gC l m=l++m
 |[]=>rfl
 |x::xs=>by show x::gC xs m=_;rw[qM m xs];rfl
@[simp] theorem zI:∀(n:Nat) (l:ac α),F8 n l=l.drop n
 |0,l=>rfl
 |n+1,[]=>rfl
 |n+1,x::xs=>by show F8 n xs=_;rw[zI n xs];rfl
theorem EU:∀(n:Nat) (l:ac α),Py n l=if n<=l.length then some (l.take n)else none
 |0,l=>by rw[zab (zaf _)];rfl
 |n+1,[]=>rfl
 |n+1,x::xs=>by
  show Option.rec (motive:=fun _=>am (ac α)) none (fun r=>some (x::r)) (Py n xs)=_;rw[EU n xs];by_cases h:n<=xs.length
  ·rw[zab h,zab (by simpa using h)];rfl
  ·rw[zaa h,zaa (by simpa using h)]
def AV(h:one l k z=r)(aJ:z≠r):∃x,l=[x]∧k x=r:=by
 cases l with
 |nil=>exact absurd h aJ
 |cons x xs=>
  cases xs with
  |nil=>exact⟨x,rfl,h⟩
  |cons y av=>exact absurd h aJ
def vk{off:Nat}{k:ac α->β}(h:iw l off n k z=r)(aJ:z≠r):n<=(l.drop off).length∧k ((l.drop off).take n)=r:=by
 unfold iw at h;rw[zI,EU]at h;split at h
 ·exact⟨by assumption,h⟩
 ·exact absurd h aJ
theorem rB:∀(l:ac α) (n:Nat) (vs:ac α) (k:ac α->β) (z:β),
 qv l n vs k z=if n+vs.length<=l.length then k (l.take n++(vs++l.drop (n+vs.length)))else if vs=[]then k l else z
 |[],n,[],k,z=>by
  by_cases h:n=0
  ·subst h;rfl
  ·rw[zaa (by simpa using h),zab rfl];rfl
 |[],n,v::vs,k,z=>by rw[zaa (by simp),zaa (by simp)];rfl
 |y::av,0,[],k,z=>by rw[zab (by simp)];rfl
 |y::av,0,v::vs,k,z=>by
  show qv av 0 vs (fun l'=>k (v::l')) z=_;rw[rB av 0 vs];by_cases h:vs.length<=av.length
  ·have J:0+vs.length<=av.length:=by omega
   have U:0+(v::vs).length<=(y::av).length:=by simp only[zaD];omega
   rw[zab J,zab U];simp
  ·have J:¬0+vs.length<=av.length:=by omega
   have U:¬0+(v::vs).length<=(y::av).length:=by simp only[zaD];omega
   have af:vs≠[]:=by intro e;subst e;simp at h
   rw[zaa J,zaa U,zaa af,zaa (by simp)]
 |y::av,n+1,vs,k,z=>by
  show qv av n vs (fun l'=>k (y::l')) z=_;rw[rB av n vs];by_cases h:n+vs.length<=av.length
  ·have U:n+1+vs.length<=(y::av).length:=by simp only[zaD];omega
   rw[zab h,zab U];rw[show n+1+vs.length=(n+vs.length)+1 by omega];simp
  ·have U:¬n+1+vs.length<=(y::av).length:=by simp only[zaD];omega
   rw[zaa h,zaa U]
def Oq{vs:ac α}{k:ac α->β}(h:qv l n vs k z=r)(aJ:z≠r):
 (n+vs.length<=l.length∧k (l.take n++(vs++l.drop (n+vs.length)))=r)∨(vs=[]∧k l=r):=by
 rw[rB]at h;split at h
 ·exact .inl ⟨by assumption,h⟩
 ·split at h
  ·exact .inr ⟨by assumption,h⟩
  ·exact absurd h aJ
def vh{a:Addr}{k:ac be->ce->Nat×Nat->Bool->β}(h:st.gE a k z=r)(aJ:z≠r):
 a.spot=none∧∃cs elem bd a3,st.h.get a.block=some (.cells cs elem bd a3)∧k cs elem bd a3=r:=by
 unfold ay.gE at h;obtain⟨J,U⟩:=yt h (fun _=>aJ);refine⟨J,?_⟩;unfold Cd at U;obtain⟨o,ao,af⟩:=fp U aJ;cases o<;>first|exact absurd af aJ|exact⟨_,_,_,_,ao,af⟩
def As{a:Addr}{k:ac be->β}(h:st.load a n k z=r)(aJ:z≠r):
 a.spot=none∧∃cs elem bd a3,st.h.get a.block=some (.cells cs elem bd a3)∧n<=(cs.drop a.off).length∧k ((cs.drop a.off).take n)=r:=by
 obtain⟨J,cs,e,bd,a3,U,af⟩:=vh h aJ;obtain⟨ax,a0⟩:=vk af aJ;exact⟨J,cs,e,bd,a3,U,ax,a0⟩
def jT(st:ay)(id:Nat)(o:bH)(k:ay->β):st.g3 id o k=k ⟨st.h.set id o,st.al⟩:=by
 unfold ay.g3;rw[ar.wv,ar.qY]
def zT(n:Nat)(k:Nat->β):fX n k=k n:=by unfold fX;rw[zaP];rfl
def gw(st:ay)(o:bH)(k:Nat->ay->β):st.iT o k=k st.al ⟨st.h.set st.al o,st.al+1⟩:=by
 unfold ay.iT;rw[zT,ar.wv,ar.qY]
def agZ(n:Int)(k:Int->β):Sr n k=k n:=by
 cases n with
 |ofNat m=>exact zT m (fun m=>k (.ofNat m))
 |negSucc m=>exact zT m (fun m=>k (.negSucc m))
def h3(a:d7)(n:Int)(c:be->β):hP a n c=c (.int a n):=agZ _ _
def abK{a:Addr}{vs:ac be}{k:ay->β}(h:st.store a vs k z=r)(aJ:z≠r):
 a.spot=none∧∃cs elem bd a3,st.h.get a.block=some (.cells cs elem bd a3)∧bd.2<=bd.1∧
  ((a.off+vs.length<=cs.length∧k ⟨st.h.set a.block (.cells (cs.take a.off++(vs++cs.drop (a.off+vs.length))) elem bd a3),st.al⟩=r)∨
   (vs=[]∧k ⟨st.h.set a.block (.cells cs elem bd a3),st.al⟩=r)):=by
 obtain⟨J,cs,e,bd,a3,U,af⟩:=vh h aJ;obtain⟨ax,a0⟩:=iB af aJ;refine⟨J,cs,e,bd,a3,U,ax,?_⟩;rcases Oq a0 aJ with⟨aY,hb⟩|⟨aY,hb⟩
 ·left;refine⟨aY,?_⟩;rw[jT]at hb;exact hb
 ·right;refine⟨aY,?_⟩;rw[jT]at hb;exact hb
end
structure ta(P:d9)(ι:bC)(w:co)(cs:ac be)(elem:ce)(bd:Nat×Nat)(a3:Bool)(l:Loc)(C:ap be)(eP:Nat×Nat):Prop where
 there:w.heap[l.cG]? =some (.cells C elem eP)
 room:l.sh+cs.length+l.ex*P.cellsOf elem<=C.size
 cell:∀(i:Nat) (h:i<cs.length),∃c,C[l.sh+i]? =some c∧bs ι cs[i] c
 y3:bd.2<=bd.1->∀i,l.sh<=i->i<l.sh+cs.length+l.ex*P.cellsOf elem->¬(eP.1<=i∧i<eP.2)
 plain:a3=false->l.ex=0∧l.sh=0∧C.size=cs.length
def BA(t:ar be)(n:Nat):be:=Option.rec (motive:=fun _=>be) (.chan (some 0)) (fun v=>v) (t.get n)
def Fm:am dT->am Code->Prop
 |none,none=>True
 |some (.exit i),some (.exit j)=>i=j
 |some .ret,some .ret=>True
 |_,_=>False
structure adg(ca:Nat->Nat)(clock:Nat):Prop where
 inj:∀s t,s<clock->t<clock->ca s=ca t->s=t
 lt:∀s,s<clock->ca s<ca clock
 up:∀j,ca (clock+j)=ca clock+j
structure kk(ι:bC)(ca:Nat->Nat)(es:ac d8)(clock:Nat)(C:ac d8)(ko:Nat):Prop where
 tq:ko=ca clock
 Br:adg ca clock
 born:∀e∈es,e.born<clock
 keys:es.Pairwise (fun a b=>a.key≠b.key)
 zp:es.Pairwise (fun a b=>a.born≠b.born)
 same:∃l:ac d8,l.Perm es∧l.length=C.length∧∀(i:Nat) (h:i<l.length) (aB:i<C.length),bs ι l[i].key C[i].key∧bs ι l[i].val C[i].val∧C[i].born=ca l[i].born
def kk.mono{ι aU:bC}{ca:Nat->Nat}{es:ac d8}{clock:Nat}{C:ac d8}{ko:Nat}(hle:ι.le aU)(h:kk ι ca es clock C ko):kk aU ca es clock C ko:=
 ⟨h.tq,h.Br,h.born,h.keys,h.zp,let⟨l,J,U,af⟩:=h.same;⟨l,J,U,fun i a b=>⟨(af i a b).1.mono hle,(af i a b).2.1.mono hle,(af i a b).2.2⟩⟩⟩
structure Ctx where
 P:d9
 ok:ci->Code->dq->Prop
 aD:Nat
 jN:ci->Bool
 kc:ci->Bool
 D0:∀f,jN f=true->∀x w,(callFunc f #[x]).run P w= .ok (.value x) w
 DB:∀f,kc f=true->∀s c w,(callFunc f #[.string s,.int .u8 c]).run P w= .ok (.value (goInt (match(List.range s.size).find? (fun i=>s[i]! ==c.toNat.toUInt8)with|some i=>(i:Int)|none=> -1))) w
 keys:ce->am fN
 su:∀k c8,keys k=some c8->Maps.Keyed P k∧∀v,c8.ok v=true->∃l,keyOf P k v=some l
 pS:ci->Bool
 Cj:∀f,pS f=true->∀s c w,(callFunc f #[.string s,.int .u8 c]).run P w= .ok (.value (goInt (s.data.toList.countP (fun b=>b==c.toNat.toUInt8):Nat))) w
 qg:ci->Bool
 lQ:Nat
 DV:lQ<aD
 DD:∀f,qg f=true->∀(s b:f5) (m:Int) w,(load ⟨lQ,0,none⟩).run P w= .ok (.int .i64 m) w->2<=b.size->(b.size:Int)<=m->s.size<=1000000->
  (callFunc f #[.string s,.string b]).run P w= .ok (.value (goInt (match oE b.data.toList s.data.toList with|some i=>(i:Int)|none=> -1))) w
 eqs:ce->am Nat
 xr:∀t n,eqs t=some n->P.eqGuardType P.depth t=false∧∀xs av b w,xs.size=n%100+n/100->av.size=n%100+n/100->kL (n%100) xs.toList av.toList=some b->(Op.equalIn 10000 t (.agg xs) (.agg av)).run P w= .ok b w
 qm:ci->am ce
 DU:∀f e,qm f=some e->∀(n:Nat) (w:co),n<=281474976710656->∃(cs:ap be) (w':co),n<=cs.size∧P.cellsOf e=1∧(callFunc f #[.int .i64 (n:Int)]).run P w= .ok (.value (.slice (some ⟨w.heap.size,0,none⟩) n cs.size)) w'∧w'.heap=w.heap.push (.cells cs e)∧(w'.os=w.os∧w'.output=w.output)
variable(X:Ctx)
def jl(ι:bC)(w:co)(o:bH)(l:Loc):Prop:=
 match o with
 |.cells cs elem bd a3=>∃C eP,ta X.P ι w cs elem bd a3 l C eP
 |.map es clock=>l.sh=0∧l.ex=0∧∃C ko,w.heap[l.cG]? =some (.map C ko)∧kk ι l.ca es clock C.toList ko
 |.yT s pos=>l.sh=0∧l.ex=0∧w.heap[l.cG]? =some (.stringIter s pos)
 |.uj m since seen Bx=>l.sh=0∧l.ex=0∧∃fi Po Bp HJ,w.heap[l.cG]? =some (.mapIter fi Po Bp HJ)∧
  (m=none∧fi=none∨∃r b ca,m=some r∧fi=some b∧ι r=some ⟨b,0,0,ca⟩∧Po=ca since∧Bp.toList=seen.map ca∧HJ=ca Bx)
 |.loop s gh fn t ps dn body d=>l.sh=0∧l.ex=0∧∃L:Loop,w.heap[l.cG]? =some (.loop L)∧L.state=s∧Fm gh L.pending∧L.fn=fn∧
  (∀n,bs ι (BA t n) (L.tmps.getD n undef))∧L.params.toList=ps∧X.ok fn L.assign dn∧X.ok fn L.body body∧ι d=some ⟨L.defers,0,0,id⟩∧
  (∃F,X.P.funcs[fn]? =some F∧L.tmps.size=F.ntmps)∧∀t∈ps,t<L.tmps.size
 |.iJ calls=>l.sh=0∧l.ex=0∧((calls=some []∧w.heap[l.cG]? =some (.deferred (some [])))∨(calls=none∧w.heap[l.cG]? =some (.deferred none)))
 |.dead=>True
def bH.vv:bH->Prop
 |.cells _ _ bd a3=>a3=false∧bd.1<bd.2
 |_=>False
structure bx(ι:bC)(st:ay)(w:co):Prop where
 eD:∀id o,st.h.get id=some o->o≠.dead->∃l,ι id=some l∧jl X ι w o l
 inj:∀i j o p l m,st.h.get i=some o->o≠.dead->st.h.get j=some p->p≠.dead->ι i=some l->ι j=some m->(l.ca≠ix∨m.ca≠ix)->l.cG=m.cG->i=j
 fresh:∀id,st.al<=id->ι id=none∧st.h.get id=none
 gP:∀id l,ι id=some l->l.cG<w.heap.size
 me:∀g,g<X.aD->ι g=some ⟨g,0,0,ix⟩
 p2:X.aD<=st.al
 my:∀i l o,ι i=some l->l.ca=ix->st.h.get i=some o->o≠.dead->o.vv
def rY(w w':co):Prop:=w'.os=w.os∧w'.output=w.output
structure fv(ι aU:bC)(w w':co):Prop where
 le:ι.le aU
 size:w.heap.size<=w'.heap.size
 kept:∀b,b<w.heap.size->(∀id l,ι id=some l->l.ca≠ix->l.cG≠b)->w'.heap[b]? =w.heap[b]?
 new:∀id l,aU id=some l->ι id=some l∨w.heap.size<=l.cG∨∃j m,ι j=some m∧m.ca≠ix∧m.cG=l.cG
 gJ:rY w w'
variable{w:co}{ι:bC}{w':co}{aU:bC}{l:Loc}{st:ay}
def fv.refl(ι:bC)(w:co):fv ι ι w w:=⟨.refl ι,b5 _,fun _ _ _=>rfl,fun _ _ h=>.inl h,⟨rfl,rfl⟩⟩
def fv.trans{ff:bC}{jj:co}(h:fv ι aU w w')(aB:fv aU ff w' jj):fv ι ff w jj:=by
 refine⟨h.le.trans aB.le,zaj h.size aB.size,fun b hb hi=> ?_,fun id l hl=> ?_,⟨aB.gJ.1.trans h.gJ.1,aB.gJ.2.trans h.gJ.2⟩⟩
 ·rw[aB.kept b (fy hb h.size) ?_,h.kept b hb hi];intro id l hl ai e;rcases h.new id l hl with hn|hn|⟨j,m,hj,eZ,hm⟩
  ·exact hi id l hn ai e
  ·omega
  ·exact hi j m hj eZ (by omega)
 ·rcases aB.new id l hl with hn|hn|⟨j,m,hj,ai,hm⟩
  ·exact h.new id l hn
  ·exact .inr (.inl (zaj h.size hn))
  ·rcases h.new j m hj with J|J|⟨M5,fi,J,U,af⟩
   ·exact .inr (.inr ⟨j,m,J,ai,hm⟩)
   ·exact .inr (.inl (by omega))
   ·exact .inr (.inr ⟨M5,fi,J,U,by omega⟩)
def ta.mono{P:d9}{cs:ac be}{elem:ce}{bd:Nat×Nat}{a3:Bool}{C:ap be}{eP:Nat×Nat}
 (h:ta P ι w cs elem bd a3 l C eP) (hle:ι.le aU) (e:w'.heap[l.cG]? =w.heap[l.cG]?):ta P aU w' cs elem bd a3 l C eP:=
 ⟨by rw[e];exact h.there,h.room,fun i hi=>let⟨c,J,U⟩:=h.cell i hi;⟨c,J,U.mono hle⟩,h.y3,h.plain⟩
def jl.mono{o:bH}(h:jl X ι w o l)(hle:ι.le aU)(e:w'.heap[l.cG]? =w.heap[l.cG]?):jl X aU w' o l:=by
 cases o with
 |cells cs elem bd a3=>obtain⟨C,eP,hc⟩:=h;exact⟨C,eP,hc.mono hle e⟩
 |map es clock=>
  obtain⟨h0,j7,C,b6,J,U⟩:=h;exact⟨h0,j7,C,b6,by rw[e];exact J,U.mono hle⟩
 |yT s pos=>obtain⟨h0,j7,J⟩:=h;exact⟨h0,j7,by rw[e];exact J⟩
 |uj m since seen Bx=>
  obtain⟨h0,j7,fi,bz,cc,hd,J,U⟩:=h;refine⟨h0,j7,fi,bz,cc,hd,by rw[e];exact J,?_⟩;rcases U with U|⟨r,b,ca,af,ax,a0,ck⟩
  ·exact .inl U
  ·exact .inr ⟨r,b,ca,af,ax,hle _ _ a0,ck⟩
 |loop s gh fn t ps dn body d=>
  obtain⟨h0,j7,L,J,U,af,ax,a0,ck,dx,gF,hZ,tB⟩:=h;exact⟨h0,j7,L,by rw[e];exact J,U,af,ax,fun n=>(a0 n).mono hle,ck,dx,gF,hle _ _ hZ,tB⟩
 |iJ calls=>
  obtain⟨h0,j7,J⟩:=h;refine⟨h0,j7,?_⟩;rw[e];exact J
 |dead=>trivial
def bx.Js(h:bx X ι st w)(e:w'.heap=w.heap):bx X ι st w':=by
 refine⟨fun id o ao aq=> ?_,h.inj,h.fresh,fun id l hl=>by rw[e];exact h.gP id l hl,h.me,h.p2,h.my⟩;obtain⟨l,hl,hm⟩:=h.eD id o ao aq;exact⟨l,hl,jl.mono X hm (.refl ι) (by rw[e])⟩
def fv.Js(ι:bC)(e:w'.heap=w.heap)(gJ:rY w w':=by exact⟨rfl,rfl⟩):fv ι ι w w':=
 ⟨.refl ι,by rw[e];exact b5 _,fun _ _ _=>by rw[e],fun _ _ h=>.inl h,gJ⟩
def hM(ι:bC)(id:Nat)(l:Loc):bC:=fun i=>if i=id then some l else ι i
def bx.alloc(h:bx X ι st w)(o:bH)(O:Obj)(ex:Nat)
 (hm:∀aU w',ι.le aU->aU st.al=some ⟨w.heap.size,0,ex,id⟩->w'.heap[w.heap.size]? =some O->jl X aU w' o ⟨w.heap.size,0,ex,id⟩) (w':co) (hw:w'.heap=w.heap.push O) (gJ:rY w w':=by exact⟨rfl,rfl⟩):
 ∃aU,bx X aU ⟨st.h.set st.al o,st.al+1⟩ w'∧fv ι aU w w'∧aU st.al=some ⟨w.heap.size,0,ex,id⟩∧aU=hM ι st.al ⟨w.heap.size,0,ex,id⟩:=by
 refine⟨fun i=>if i=st.al then some ⟨w.heap.size,0,ex,id⟩else ι i,?_,?_,zab rfl,rfl⟩
 ·have hle:ι.le (fun i=>if i=st.al then some ⟨w.heap.size,0,ex,id⟩else ι i):=by
   intro i l hl;show(if i=st.al then _ else ι i)=_;rw[zaa];exact hl;intro e;subst e;rw[(h.fresh _ (b5 _)).1]at hl;cases hl
  refine⟨fun id p hp aq=> ?_,fun i j p q l m hi hB hj hN gS h2 aO e=> ?_,fun id om=> ?_,fun id l hl=> ?_,fun g aO=> ?_,zdt h.p2,fun i l p hl ai hp aq=> ?_⟩
  ·rw[ar.eo]at hp;by_cases e:id=st.al
   ·rw[zab e]at hp;cases hp;subst e;exact⟨_,zab rfl,hm _ _ hle (zab rfl) (by rw[hw];simp)⟩
   ·rw[zaa e]at hp;obtain⟨l,hl,ao⟩:=h.eD id p hp aq;refine⟨l,hle _ _ hl,jl.mono X ao hle ?_⟩;have:=h.gP id l hl;rw[hw,zcT,zaa (by omega)]
  ·rw[ar.eo]at hi hj;by_cases nw:i=st.al<;>by_cases jm:j=st.al
   ·rw[nw,jm]
   ·exfalso;simp only[zaa jm]at h2;simp only[zab nw]at gS;have:=h.gP j m h2;cases gS;simp only at e;omega
   ·exfalso;simp only[zaa nw]at gS;simp only[zab jm]at h2;have:=h.gP i l gS;cases h2;simp only at e;omega
   ·simp only[zaa nw]at gS hi;simp only[zaa jm]at h2 hj;exact h.inj i j p q l m hi hB hj hN gS h2 aO e
  ·have ak8:st.al+1<=id:=om;have:=h.fresh id (by omega);refine⟨?_,?_⟩
   ·show(if id=st.al then _ else ι id)=_;rw[zaa (by omega)];exact this.1
   ·rw[ar.eo,zaa (by omega)];exact this.2
  ·rw[hw,Array.size_push];by_cases e:id=st.al
   ·simp only[zab e]at hl;cases hl;simp
   ·simp only[zaa e]at hl;have:=h.gP id l hl;omega
  ·exact hle _ _ (h.me g aO)
  ·rw[ar.eo]at hp;by_cases e:i=st.al
   ·simp only[zab e]at hl;cases hl;exact absurd ai MU
   ·simp only[zaa e]at hl hp;exact h.my i l p hl ai hp aq
 ·refine⟨?_,by rw[hw];simp,fun b hb _=>by rw[hw,zcT,zaa (by omega)],fun id l hl=> ?_,gJ⟩
  ·intro i l hl;show(if i=st.al then _ else ι i)=_;rw[zaa];exact hl;intro e;subst e;rw[(h.fresh _ (b5 _)).1]at hl;cases hl
  ·by_cases e:id=st.al
   ·simp only[zab e]at hl;cases hl;exact .inr (.inl (b5 _))
   ·simp only[zaa e]at hl;exact .inl hl
def bx.uS(h:bx X ι st w){id:Nat}{mw:bH}(h₀:st.h.get id=some mw)(tI:mw≠.dead)(Mu:¬mw.vv)(hl:ι id=some l)(o:bH)(O:Obj)
 (w':co) (hw:w'.heap=w.heap.setIfInBounds l.cG O) (hm:o≠.dead->w'.heap[l.cG]? =some O->jl X ι w' o l) (gJ:rY w w':=by exact⟨rfl,rfl⟩):
 bx X ι ⟨st.h.set id o,st.al⟩ w'∧fv ι ι w w':=by
 have hb:=h.gP id l hl;have k9:l.ca≠ix:=fun e=>Mu (h.my id l mw hl e h₀ tI);refine⟨⟨fun j p hp aq=> ?_,fun i j p q a b hi hB hj hN gS h2 aO e=> ?_,fun j hj=> ?_,fun j a aY=> ?_,h.me,h.p2,fun j a p aY ai hp aq=> ?_⟩,?_⟩
 ·rw[ar.eo]at hp;by_cases e:j=id
  ·rw[zab e]at hp;cases hp;subst e;exact⟨l,hl,hm aq (by rw[hw];simp[hb])⟩
  ·rw[zaa e]at hp;obtain⟨m,lH,ao⟩:=h.eD j p hp aq;refine⟨m,lH,jl.mono X ao (.refl ι) ?_⟩;have cx:m.cG≠l.cG:=fun o0=>e (h.inj j id p mw m l hp aq h₀ tI lH hl (.inr k9) o0);rw[hw,zbH (Ne.symm cx)]
 ·rw[ar.eo]at hi hj;have ajx:∃dA,st.h.get i=some dA∧dA≠.dead:=by
   by_cases e:i=id
   ·subst e;exact⟨mw,h₀,tI⟩
   ·rw[zaa e]at hi;exact⟨p,hi,hB⟩
  have ajz:∃dA,st.h.get j=some dA∧dA≠.dead:=by
   by_cases e:j=id
   ·subst e;exact⟨mw,h₀,tI⟩
   ·rw[zaa e]at hj;exact⟨q,hj,hN⟩
  obtain⟨dA,vK,alE⟩:=ajx;obtain⟨fJ,xT,vL⟩:=ajz;exact h.inj i j dA fJ a b vK alE xT vL gS h2 aO e
 ·have:=h.fresh j hj;refine⟨this.1,?_⟩;rw[ar.eo,zaa];exact this.2;intro e;subst e;rw[this.2]at h₀;cases h₀
 ·rw[hw];simpa using h.gP j a aY
 ·rw[ar.eo]at hp;by_cases e:j=id
  ·subst e;rw[hl]at aY;cases aY;exact absurd ai k9
  ·rw[zaa e]at hp;exact h.my j a p aY ai hp aq
 ·refine⟨.refl ι,by rw[hw];simp,fun b _ hi=> ?_,fun _ _ hh=>.inl hh,gJ⟩;rw[hw,zbH (hi id l hl k9)]
end Go.ak
namespace Go.ak
mutual
def jX:be->Bool
 |.bool _|.int _ _|.float _ _|.string _|.pointer none|.slice none _ _|.map none|.nilFunc|.nilIface=>true
 |.func (.func _) x y=>E4 x&&E4 y
 |.iface _ v=>jX v
 |.agg a|.tuple a=>E4 a
 |_=>false
def E4:ap be->Bool
 |⟨a⟩=>mL a
def mL:ac be->Bool
 |[]=>true
 |a::as=>jX a&&mL as
end
mutual
theorem bs.pure(ι:bC):∀v:be,jX v=true->bs ι v v
 |.bool b,_=>.bool b
 |.int k n,_=>.int k n
 |.float k n,_=>.float k n
 |.complex _ _ _,h=>by simp[jX]at h
 |.string s,_=>.string s
 |.pointer none,_=>.nQ
 |.pointer (some _),h=>by simp[jX]at h
 |.slice none n c,_=>.nU n c
 |.slice (some _) _ _,h=>by simp[jX]at h
 |.map none,_=>.ql
 |.map (some _),h=>by simp[jX]at h
 |.chan _,h=>by simp[jX]at h
 |.func (.func f) x y,h=>by
  simp only[jX,b3]at h;exact bs.Ie (.inl ⟨rfl,by simp⟩) (bM.qu ι x h.1) (bM.qu ι y h.2)
 |.func (.method _) _ _,h=>by simp[jX]at h
 |.func (.methodOf _ _) _ _,h=>by simp[jX]at h
 |.func (.via _ _ _ _) _ _,h=>by simp[jX]at h
 |.func (.yield _) _ _,h=>by simp[jX]at h
 |.nilFunc,_=>.nilFunc
 |.iface t v,h=>.iface t v v (bs.pure ι v (by simpa[jX]using h))
 |.nilIface,_=>.nilIface
 |.agg a,h=>bs.AT (bM.qu ι a (by simpa[jX]using h))
 |.tuple a,h=>bs.po (bM.qu ι a (by simpa[jX]using h))
theorem bM.qu(ι:bC):∀v:ap be,E4 v=true->bM ι v.toList v.toList
 |⟨a⟩,h=>bM.yB ι a (by simpa[E4]using h)
theorem bM.yB(ι:bC):∀v:ac be,mL v=true->bM ι v v
 |[],_=>bM.nil ι
 |a::as,h=>by
  simp only[mL,b3]at h;exact bM.cons (bs.pure ι a h.1) (bM.yB ι as h.2)
end
theorem bs.undef(ι:bC):bs ι undef undef:=bs.pure ι _ rfl
def cC(aD:Nat):bi->Bool
 |.tmp _=>true
 |.const v=>jX v
 |.global g=>Nat.ble (Nat.succ g) aD
 |.func _=>true
def Fi(ι:bC)(d e:Deferred):Prop:=
 bM ι d.args.toList e.args.toList∧
 match d.target,e.target with
 |.fn f c,.fn g b6=>zc ι f g∧bM ι c.toList b6.toList
 |.collected r,.collected b=>ι r=some ⟨b,0,0,id⟩
 |_,_=>False
variable{ι aU:bC}
def tc(ι:bC):ac Deferred->ac Deferred->Prop
 |[],[]=>True
 |d::ds,e::es=>Fi ι d e∧tc ι ds es
 |_,_=>False
def Fi.mono(hle:ι.le aU){d e:Deferred}(h:Fi ι d e):Fi aU d e:=by
 obtain⟨J,U⟩:=h;refine⟨J.mono hle,?_⟩;cases aq:d.target<;>cases he:e.target<;>simp only[aq,he]at U⊢
 ·exact⟨U.1.mono hle,U.2.mono hle⟩
 ·exact hle _ _ U
def tc.mono(hle:ι.le aU):∀{ds es:ac Deferred},tc ι ds es->tc aU ds es
 |[],[],_=>trivial
 |_::_,_::_,h=>⟨h.1.mono hle,tc.mono hle h.2⟩
 |[],_::_,h=>h.elim
 |_::_,[],h=>h.elim
structure cz(ι:bC)(fr:aR)(a:Act)(aQ:Nat):Prop where
 tmp:∀t,bs ι (fr.tmp t) (a.tmps.getD t undef)
 size:a.tmps.size=aQ
 c7:tc ι fr.c7 a.defers
def cz.mono(hle:ι.le aU){fr:aR}{a:Act}{aQ:Nat}(h:cz ι fr a aQ):cz aU fr a aQ:=
 ⟨fun t=>(h.tmp t).mono hle,h.size,h.c7.mono hle⟩
variable{X:Ctx}
variable{fr:aR}{a:Act}{aQ:Nat}
def cz.aj{st:ay}{w:co}(h:cz ι fr a aQ)(hw:bx X ι st w){x:bi}(aa:cC X.aD x=true):bs ι (fr.aj x) (a.eval x):=by
 cases x with
 |tmp t=>exact h.tmp t
 |const v=>exact bs.pure ι v aa
 |global g=>
  have aO:g<X.aD:=pN.1 aa;have:=bs.ptr (ι:=ι) ⟨g,0,none⟩ ⟨g,0,0,ix⟩ (hw.me g aO) rfl;show bs ι (.pointer (some ⟨g,0,none⟩)) (.pointer (some ⟨g,0,none⟩));simpa using this
 |func f=>exact bs.Ie (.inl ⟨rfl,by simp⟩) (bM.nil ι) (bM.nil ι)
def cz.put(h:cz ι fr a aQ){d:am Tmp}(aq:∀t,d=some t->t<aQ){v v':be}(aI:bs ι v v'):cz ι (fr.put d v) (a.put d v') aQ:=by
 cases d with
 |none=>exact h
 |some d=>
  refine⟨fun t=> ?_,by simp[Act.put,h.size],by rw[(wx fr (some d) v).1];exact h.c7⟩;rw[rP];have a4:d<a.tmps.size:=by rw[h.size];exact aq d rfl
  simp only[Act.put,Option.some.injEq];by_cases e:d=t
  ·subst e;rw[zab rfl];simp[Array.getD,a4];exact aI
  ·rw[zaa e];have:=h.tmp t;simp only[Array.getD_eq_getD_getElem?]at this⊢;rw[zbH e];exact this
def ac7(aU:bC)(v:be)(n:Next):Prop:=(∃v',n= .value v'∧bs aU v v')∨(n= .skip∧v=undef)
def jA(X:Ctx)(ι:bC)(w:co)(v:be)(st':ay)(s:Sem Next):Prop:=
 ∃aU n w',s.run X.P w= .ok n w'∧ac7 aU v n∧bx X aU st' w'∧fv ι aU w w'
def cg(X:Ctx)(ι:bC)(w:co)(v:be)(st st':ay)(s:Sem Next):Prop:=
 st'=st∧bx X ι st w∧∃v',s.run X.P w= .ok (.value v') w∧bs ι v v'
variable{w:co}{v:be}{st:ay}{s:Sem Next}
def cg.same{v':be}(hw:bx X ι st w)(hr:s.run X.P w= .ok (.value v') w)(aI:bs ι v v'):cg X ι w v st st s:=
 ⟨rfl,hw,v',hr,aI⟩
def cg.Pn{st':ay}(h:cg X ι w v st st' s):jA X ι w v st' s:=by
 obtain⟨rfl,hw,v',hr,aI⟩:=h;exact⟨ι,_,w,hr,.inl ⟨v',rfl,aI⟩,hw,.refl ι w⟩
def te(X:Ctx)(ι:bC)(w:co)(v:be)(st st':ay)(s:Sem Next):Prop:=
 ∃o O ex v' w',st'=⟨st.h.set st.al o,st.al+1⟩∧o≠.dead∧s.run X.P w= .ok (.value v') w'∧w'.heap=w.heap.push O∧
  bs (hM ι st.al ⟨w.heap.size,0,ex,id⟩) v v'∧bx X (hM ι st.al ⟨w.heap.size,0,ex,id⟩) st' w'∧fv ι (hM ι st.al ⟨w.heap.size,0,ex,id⟩) w w'
def te.Pn{st':ay}(h:te X ι w v st st' s):jA X ι w v st' s:=by
 obtain⟨o,O,ex,v',w',_,_,hr,_,aI,hw,ab⟩:=h;exact⟨_,_,w',hr,.inl ⟨v',rfl,aI⟩,hw,ab⟩
def jA.same{v':be}(hw:bx X ι st w)(hr:s.run X.P w= .ok (.value v') w)(aI:bs ι v v'):jA X ι w v st s:=
 ⟨ι,_,w,hr,.inl ⟨v',rfl,aI⟩,hw,.refl ι w⟩
section
variable{ι:bC}{fr aK:aR}{a:Act}{aQ:Nat}{st st':ay}{w:co}{o:Oper}{v:be}{call:bO}
variable{x:bi}
def abu(aa:cC X.aD x=true)(ao:o.op= .move x∨o.op= .assign x)(ae:cz ι fr a aQ)(hw:bx X ι st w)(h:Y9 x call fr st= .ok v aK st'):
 aK=fr∧cg X ι w v st st' (execOp a.eval o):=by
 cases h;refine⟨rfl,cg.same (v':=a.eval x) hw ?_ (ae.aj hw aa)⟩;unfold execOp;rcases ao with ao|ao<;>rw[ao]<;>rfl
def arP{c y:bi}(hc:cC X.aD c=true)(aa:cC X.aD x=true)(aF:cC X.aD y=true)(ao:o.op= .pick c x y)(ae:cz ι fr a aQ)(hw:bx X ι st w)(h:Zc c x y call fr st= .ok v aK st'):
 aK=fr∧cg X ι w v st st' (execOp a.eval o):=by
 obtain⟨t,aV,h⟩:=PM h (by simp);cases h;have mW:=ae.aj hw hc;rw[aV]at mW;generalize L7:a.eval c=FW at mW;cases mW;refine⟨rfl,cg.same (v':=if t then a.eval x else a.eval y) hw ?_ ?_⟩
 ·unfold execOp;rw[ao];simp[L7,asBool]
 ·cases t
  ·exact ae.aj hw aF
  ·exact ae.aj hw aa
end
end Go.ak
namespace Go.ak
variable{X:Ctx}
variable{w:co}{bd:Nat×Nat}{b o:Nat}{e:ce}{P:d9}
def cell_of{C:ap be}(h:w.heap[b]? =some (.cells C e bd)):w.cell? ⟨b,o,none⟩=C[o]? :=by
 simp[World.cell?,h]
def ag3{C:ap be}(h:w.heap[b]? =some (.cells C e bd)):w.frozen? ⟨b,o,none⟩=(decide (bd.1<=o)&&decide (o<bd.2)):=by
 obtain⟨aL,hi⟩:=bd;simp[World.frozen?,h]
def ta.row{ι:bC}{cs:ac be}{elem:ce}{a3:Bool}{l:Loc}{C:ap be}{eP:Nat×Nat}
 (h:ta P ι w cs elem bd a3 l C eP) (off n:Nat) (hn:n<=(cs.drop off).length):bM ι ((cs.drop off).take n) ((C.toList.drop (l.sh+off)).take n):=by
 have hlen:(cs.drop off).length=cs.length-off:=by simp
 have qd:=h.room;refine⟨by simp;omega,fun i a b=> ?_⟩;simp only[zay,zaH]at a b;obtain⟨c,J,U⟩:=h.cell (off+i) (by omega);have hi:l.sh+(off+i)<C.size:=(zbk.1 J).1;rw[zco hi]at J;cases J;simp only[List.getElem_take,zdZ,zaC];have e:l.sh+off+i=l.sh+(off+i):=by omega
 simp only[e];exact U
def EJ{n:Nat}{C:ap be}(h:w.heap[b]? =some (.cells C e bd))(hn:o+n<=C.size):
 (loadCells ⟨b,o,none⟩ n).run P w= .ok ((C.toList.drop o).take n).toArray w:=by
 have hl:((C.toList.drop o).take n).length=n:=by simp;omega
 have:=run_loadCells_list (P:=P) w ⟨b,o,none⟩ ((C.toList.drop o).take n) (fun j v hj=>by
  have alc:j<n:=by
   have:=(zah.1 hj).1;omega
  have aw:(Addr.add ⟨b,o,none⟩ j)=⟨b,o+j,none⟩:=by unfold Addr.add;split<;>simp_all
  rw[aw,cell_of h];rw[zaK,zab alc,zaI]at hj;simpa using hj)
 rwa [hl]at this
theorem Pe{P:d9}{b o:Nat}{e:ce}{bd:Nat×Nat}:∀(vs:ac be) (i:Nat) (C:ap be) (w:co),w.heap[b]? =some (.cells C e bd)->o+i+vs.length<=C.size->
 (∀v∈vs,v.oneCell'=true)->(∀j,o+i<=j->j<o+i+vs.length->¬(bd.1<=j∧j<bd.2))->
 ∃w',(storeCells ⟨b,o,none⟩ vs i).run P w= .ok () w'∧
  w'.heap=w.heap.setIfInBounds b (.cells (C.toList.take (o+i)++(vs++C.toList.drop (o+i+vs.length))).toArray e bd)∧rY w w'
 |[],i,C,w,h,hn,_,_=>by
  refine⟨w,rfl,?_,⟨rfl,rfl⟩⟩;have:(C.toList.take (o+i)++([]++C.toList.drop (o+i+([]:ac be).length))).toArray=C:=by simp
  rw[this];apply zdu;intro j;by_cases jm:b=j
  ·subst jm;have:=(zbk.1 h).1;rw[zea];simp[this];exact(zbk.1 h).2
  ·rw[zbH jm]
 |v::vs,i,C,w,h,hn,J,ae=>by
  simp only[zaD]at hn ae;have aw:(Addr.add ⟨b,o,none⟩ i)=⟨b,o+i,none⟩:=by unfold Addr.add;split<;>simp_all
  have a4:o+i<C.size:=by omega
  have hc:w.cell? ⟨b,o+i,none⟩=some C[o+i]:=by rw[cell_of h,zco a4]
  have p6:w.frozen? ⟨b,o+i,none⟩=false:=by
   rw[ag3 h];have:=ae (o+i) (by omega) (by omega);simp only[Bool.and_eq_false_iff,decide_eq_false_iff_not];omega
  have ai:(store ⟨b,o+i,none⟩ v).run P w= .ok () (w.setCell ⟨b,o+i,none⟩ v):=by
   rw[run_store P w _ v _ (J v (by simp)),hc];simp[p6]
  have hb:=(zbk.1 h).1;have hh:(w.setCell ⟨b,o+i,none⟩ v).heap=w.heap.setIfInBounds b (.cells (C.setIfInBounds (o+i) v) e bd):=by
   simp only[World.setCell];apply zdu;intro j;rw[zeb];by_cases jm:b=j
   ·subst jm;rw[zab rfl,h,zea];simp[hb]
   ·rw[zaa jm,zbH jm]
  have aB:(w.setCell ⟨b,o+i,none⟩ v).heap[b]? =some (.cells (C.setIfInBounds (o+i) v) e bd):=by rw[hh];simp[hb]
  obtain⟨w',hr,eg,gJ⟩:=Pe (P:=P) (o:=o) vs (i+1) (C.setIfInBounds (o+i) v) (w.setCell ⟨b,o+i,none⟩ v) aB (by simp;omega) (fun x aa=>J x (by simp[aa])) (fun j a c=>ae j (by omega) (by omega));refine⟨w',?_,?_,gJ⟩
  ·unfold storeCells;rw[aw,Sem.run_bind,ai];exact hr
  ·rw[eg,hh];rw[Array.setIfInBounds_setIfInBounds];congr 3;have k8:(C.setIfInBounds (o+i) v).toList=C.toList.set (o+i) v:=by simp
   rw[k8];have hl:o+i<C.toList.length:=by simpa using a4
   have t1:(C.toList.set (o+i) v).take (o+(i+1))=C.toList.take (o+i)++[v]:=by
    rw[show o+(i+1)=(o+i)+1 by omega,zbs (by simpa using a4),zba (b5 _)];simp
   have t2:(C.toList.set (o+i) v).drop (o+(i+1)+vs.length)=C.toList.drop (o+i+(v::vs).length):=by
    rw[zcU (by omega)];congr 1;simp only[zaD];omega
   rw[t1,t2];simp
section
variable{ι:bC}{fr aK:aR}{a:Act}{aQ:Nat}{st st':ay}{w:co}{o:Oper}{v:be}{call:bO}
variable{t:ce}{d:TypeDesc}{i:f6}{x:bi}
def qL:TypeDesc->Bool
 |.struct _|.array _ _=>true
 |_=>false
def DH(h:P.underlying t=some d)(w:co):(isAgg t).run P w= .ok (qL d) w:=by
 unfold isAgg;rw[Sem.run_bind,run_underlying h];cases d<;>rfl
def ju(h:P.info? t=some i)(w:co):(sizeOf t).run P w= .ok i.size w:=by
 simp[sizeOf,typeInfo,h]
def abq(aa:cC X.aD x=true)(ao:o.op= .load t x)(aq:X.P.underlying t=some d)(o8:qL d=false)
 (ae:cz ι fr a aQ) (hw:bx X ι st w) (h:Im x call fr st= .ok v aK st'):
 aK=fr∧cg X ι w v st st' (execOp a.eval o):=by
 obtain⟨p,hp,h⟩:=pE h (by simp);obtain⟨ad,rfl,h⟩:=fp h (by simp);obtain⟨ai,cs,elem,bd,a3,aO,hn,h⟩:=As h (by simp);obtain⟨v1,pc,h⟩:=AV h (by simp);cases h;obtain⟨l,hl,C,eP,hc⟩:=hw.eD _ _ aO (by simp);have bS:=ae.aj hw aa;rw[hp]at bS;generalize cu:a.eval x=e3 at bS;cases bS with
 |ptr _ l' cn eZ=>
  rw[hl]at cn;cases cn;have hlen:ad.off<cs.length:=by simp at hn;omega
  have jL:=hc.row ad.off 1 hn;rw[pc]at jL;obtain⟨y,av,aF,amd,_⟩:=jL.cons_inv;have qd:=hc.room;have vS:C[l.sh+ad.off]? =some y:=by
   have:=congrArg (fun z=>z[0]?) aF;simpa using this
  refine⟨rfl,cg.same (v':=y) hw ?_ amd⟩;unfold execOp;rw[ao];simp only[cu,Instr.loadAt,Instr.sureAddr,loadVar,Sem.run_bind,Sem.run_pure,Result.andThen,DH aq,o8,zaU,if_false,run_load];rw[cell_of hc.there,vS]
def abr(aa:cC X.aD x=true)(ao:o.op= .load t x)(aq:X.P.underlying t=some d)(o8:qL d=true)
 (hi:X.P.info? t=some i) (ae:cz ι fr a aQ) (hw:bx X ι st w) (h:Io i.size x call fr st= .ok v aK st'):
 aK=fr∧cg X ι w v st st' (execOp a.eval o):=by
 obtain⟨p,hp,h⟩:=pE h (by simp);obtain⟨ad,rfl,h⟩:=fp h (by simp);obtain⟨ai,cs,elem,bd,a3,aO,hn,h⟩:=As h (by simp);cases h;obtain⟨l,hl,C,eP,hc⟩:=hw.eD _ _ aO (by simp);have bS:=ae.aj hw aa;rw[hp]at bS;generalize cu:a.eval x=e3 at bS;cases bS with
 |ptr _ l' cn eZ=>
  rw[hl]at cn;cases cn;have jL:=hc.row ad.off i.size hn;have qd:=hc.room;simp only[zaH]at hn;by_cases aJ:i.size=0
  ·refine⟨rfl,cg.same (v':=.agg #[]) hw ?_ ?_⟩
   ·unfold execOp;rw[ao];simp only[cu,Instr.loadAt,Instr.sureAddr,loadVar,Sem.run_bind,Sem.run_pure,Result.andThen,DH aq,o8,if_true,ju hi,aJ];rfl
   ·rw[aJ];exact bs.AT (by simpa using bM.nil ι)
  refine⟨rfl,cg.same (v':=.agg ((C.toList.drop (l.sh+ad.off)).take i.size).toArray) hw ?_ (bs.AT (by simpa using jL))⟩;unfold execOp;rw[ao];simp only[cu,Instr.loadAt,Instr.sureAddr,loadVar,Sem.run_bind,Sem.run_pure,Result.andThen,DH aq,o8,if_true,ju hi];rw[EJ hc.there (by omega)]
end
variable{ι:bC}{cs:ac be}{elem:ce}{a3:Bool}{l:Loc}{v:be}{st:ay}
def Pt{α:Type}(l vs:ac α)(n i:Nat)(h:n+vs.length<=l.length):
 (l.take n++(vs++l.drop (n+vs.length)))[i]? =if i<n then l[i]? else if i<n+vs.length then vs[i-n]? else l[i]? :=by
 by_cases J:i<n
 ·rw[zab J,zbc (by simp;omega),zaK,zab J]
 ·rw[zaa J,zaQ (by simp;omega)];have e:i-(l.take n).length=i-n:=by simp;omega
  rw[e];by_cases U:i<n+vs.length
  ·rw[zab U,zbc (by omega)]
  ·rw[zaa U,zaQ (by omega),zaI];congr 1;omega
def ta.store{w':co}{C:ap be}{eP:Nat×Nat}
 (h:ta P ι w cs elem bd a3 l C eP) {off:Nat} {vs fS:ac be} (hle:off+vs.length<=cs.length) (aI:bM ι vs fS)
 (hw:w'.heap[l.cG]? =some (.cells (C.toList.take (l.sh+off)++(fS++C.toList.drop (l.sh+off+fS.length))).toArray elem eP)):
 ta P ι w' (cs.take off++(vs++cs.drop (off+vs.length))) elem bd a3 l (C.toList.take (l.sh+off)++(fS++C.toList.drop (l.sh+off+fS.length))).toArray eP:=by
 have hlen:=aI.1;have qd:=h.room;have Dm:l.sh+cs.length<=C.size:=by
  have:=zcA (l.sh+cs.length) (l.ex*P.cellsOf elem);omega
 have Da:(cs.take off++(vs++cs.drop (off+vs.length))).length=cs.length:=by simp;omega
 have eI:((C.toList.take (l.sh+off)++(fS++C.toList.drop (l.sh+off+fS.length))).toArray).size=C.size:=by simp;omega
 refine⟨hw,by rw[Da,eI];exact qd,fun i hi=> ?_,fun ae j=>by rw[Da];exact h.y3 ae j,fun aO=>by rw[Da,eI];exact h.plain aO⟩;have dX:i<cs.length:=by omega
 have aw:=Pt cs vs off i hle;have e2:=Pt C.toList fS (l.sh+off) (l.sh+i) (by simp;omega);rw[bV hi]at aw;simp only[zcB];rw[e2];obtain⟨c,J,U⟩:=h.cell i dX;by_cases ee:i<off
 ·rw[zab ee,bV dX]at aw;rw[zab (by omega)];refine⟨c,by simpa using J,?_⟩;rw[Option.some.inj aw];exact U
 ·by_cases fa:i<off+vs.length
  ·rw[zaa ee,zab fa,bV (by omega)]at aw;rw[zaa (by omega),zab (by omega)];have bW:l.sh+i-(l.sh+off)=i-off:=by omega
   rw[bW,bV (by omega)];refine⟨_,rfl,?_⟩;rw[Option.some.inj aw];exact aI.2 (i-off) (by omega) (by omega)
  ·rw[zaa ee,zaa fa,bV dX]at aw;rw[zaa (by omega),zaa (by omega)];refine⟨c,by simpa using J,?_⟩;rw[Option.some.inj aw];exact U
def aoA{c:be}(h:bs ι v c)(aI:mO v=true):c.oneCell'=true:=by
 cases h<;>first|rfl|(simp[mO,h7]at aI)
theorem NV{ι:bC}:∀{vs cs:ac be},bM ι vs cs->gZ vs=true->∀c∈cs,c.oneCell'=true
 |[],cs,h,_,c,hc=>by rw[h.wb]at hc;simp at hc
 |v::vs,cs,h,aY,c,hc=>by
  obtain⟨y,av,rfl,J,U⟩:=h.cons_inv;have tD:cond (mO v) (gZ vs) false=true:=aY;obtain⟨fC,gO⟩:=iv tD (by simp);rcases zar.1 hc with rfl|hc
  ·exact aoA J fC
  ·exact NV U gO c hc
def bx.store(hw:bx X ι st w){id off:Nat}
 (aO:st.h.get id=some (.cells cs elem bd a3)) (hl:ι id=some l) (p6:bd.2<=bd.1) {vs fS:ac be} (hle:off+vs.length<=cs.length) (aI:bM ι vs fS) (bE:gZ vs=true):
 ∃w',(storeCells ⟨l.cG,l.sh+off,none⟩ fS).run X.P w= .ok () w'∧bx X ι ⟨st.h.set id (.cells (cs.take off++(vs++cs.drop (off+vs.length))) elem bd a3),st.al⟩ w'∧fv ι ι w w':=by
 obtain⟨l',cn,C,eP,hc⟩:=hw.eD _ _ aO (by simp);rw[hl]at cn;cases cn;have qd:=hc.room;have hlen:=aI.1;have Dm:l.sh+cs.length<=C.size:=by
  have:=zcA (l.sh+cs.length) (l.ex*X.P.cellsOf elem);omega
 obtain⟨w',hr,hh,gJ⟩:=Pe (P:=X.P) (o:=l.sh+off) fS 0 C w hc.there (by omega) (NV aI bE) (fun j J U=>hc.y3 p6 j (by omega) (by
  have:=zcA (l.sh+cs.length) (l.ex*X.P.cellsOf elem);omega))
 simp only[zaJ]at hh;obtain⟨t1,t2⟩:=bx.uS X hw aO (by simp) (fun ae=>by have:=ae.2;omega) hl (.cells (cs.take off++(vs++cs.drop (off+vs.length))) elem bd a3) _ w' hh (fun _ aV=>⟨_,eP,hc.store hle aI aV⟩) gJ;exact⟨w',hr,t1,t2⟩
def bx.Pj(hw:bx X ι st w){id:Nat}{o:bH}(aO:st.h.get id=some o):bx X ι ⟨st.h.set id o,st.al⟩ w:=by
 have e:∀j,(st.h.set id o).get j=st.h.get j:=by
  intro j;rw[ar.eo];split
  ·subst_vars;exact aO.symm
  ·rfl
 exact⟨fun j p hp aq=>hw.eD j p (by rw[<-e];exact hp) aq,fun i j p q l m hi J hj U=>hw.inj i j p q l m (by rw[<-e];exact hi) J (by rw[<-e];exact hj) U,
  fun j hj=>⟨(hw.fresh j hj).1,by rw[e];exact(hw.fresh j hj).2⟩,hw.gP,hw.me,hw.p2,fun j l p hl ai hp aq=>hw.my j l p hl ai (by rw[<-e];exact hp) aq⟩
def aen(h:gZ v.cells.toList=true):v≠h7:=by
 intro e;subst e;simp[h7,Value.cells]at h;have aB:cond (mO (.chan (some 0))) true false=true:=h;simp[mO]at aB
section
variable{ι:bC}{fr aK:aR}{a:Act}{aQ:Nat}{st st':ay}{w:co}{o:Oper}{v:be}{call:bO}
variable{t:ce}{i:f6}{x:bi}{z:be}
def arW{y:bi}(aa:cC X.aD x=true)(aF:cC X.aD y=true)(ao:o.op= .store t x y)(hi:X.P.info? t=some i)
 (ae:cz ι fr a aQ) (hw:bx X ι st w) (h:Zg i.size x y call fr st= .ok v aK st'):
 aK=fr∧jA X ι w v st' (execOp a.eval o):=by
 obtain⟨p,hp,h⟩:=pE h (by simp);obtain⟨ad,rfl,h⟩:=fp h (by simp);obtain⟨hn,h⟩:=k3 h (by simp);obtain⟨bE,h⟩:=iv h (by simp);obtain⟨ai,cs,elem,bd,a3,aO,p6,h⟩:=abK h (by simp);rw[fo]at hn;obtain⟨l,hl,hm⟩:=hw.eD _ _ aO (by simp);have bS:=ae.aj hw aa;rw[hp]at bS;generalize cu:a.eval x=e3 at bS;cases bS with
 |ptr _ l' cn eZ=>
  rw[hl]at cn;cases cn;have fR:=ae.aj hw aF;have MR:=bM.cells fR (aen bE);have eI:(a.eval y).cells.size=i.size:=by have:=MR.1;simp[iu]at this hn;omega
  have fQ:∀w',(storeCells ⟨l.cG,l.sh+ad.off,none⟩ (a.eval y).cells.toList).run X.P w= .ok () w'->(execOp a.eval o).run X.P w= .ok .skip w':=by
   intro w' hr;unfold execOp;rw[ao];simp only[cu,Instr.storeAt,Instr.sureAddr,storeVar,Sem.run_bind,Sem.run_pure,Result.andThen,ju hi];rw[zaa (by simp[eI])];simp[hr]
  rcases h with⟨hle,h⟩|⟨he,h⟩
  ·cases h;obtain⟨w',hr,J,U⟩:=hw.store aO hl p6 hle MR bE;exact⟨rfl,ι,.skip,w',fQ w' hr,.inr ⟨rfl,rfl⟩,J,U⟩
  ·cases h;have:(a.eval y).cells.toList=[]:=by
    have:=MR.1;rw[show(fr.aj y).cells.toList=[]from he]at this;exact zbz this.symm
   refine⟨rfl,ι,.skip,w,fQ w ?_,.inr ⟨rfl,rfl⟩,hw.Pj aO,.refl ι w⟩;rw[this];rfl
def bx.H7{cs':ac be}(hw:bx X ι st w)(elem:ce)(aI:bM ι cs cs')(w':co)(hh:w'.heap=w.heap.push (.cells cs'.toArray elem))(gJ:rY w w':=by exact⟨rfl,rfl⟩):
 ∃aU,bx X aU ⟨st.h.set st.al (.cells cs elem (0,0) false),st.al+1⟩ w'∧fv ι aU w w'∧aU st.al=some ⟨w.heap.size,0,0,id⟩∧aU=hM ι st.al ⟨w.heap.size,0,0,id⟩:=by
 refine bx.alloc X hw _ _ 0 (fun aU jj hle _ aV=> ?_) w' hh gJ;refine⟨cs'.toArray,(0,0),⟨aV,by simp[aI.1],fun i hi=> ?_,fun _ j _ _=>by simp,fun _=>⟨rfl,rfl,by simp[aI.1]⟩⟩⟩;have dX:i<cs'.length:=by rw[<-aI.1];exact hi
 exact⟨cs'[i],by simp[dX],(aI.2 i hi dX).mono hle⟩
def u0(h:P.info? t=some i)(aJ:i.zero=some z)(w:co):(zeroValue t).run P w= .ok z w:=by
 simp[zeroValue,typeInfo,h,aJ]
def aq2(ao:o.op= .alloc t)(hi:X.P.info? t=some i)(aJ:i.zero=some z)(hp:mL z.cells.toList=true)
 (hw:bx X ι st w) (h:yv z.cells.toList t call fr st= .ok v aK st'):
 aK=fr∧te X ι w v st st' (execOp a.eval o):=by
 unfold yv at h;rw[gw]at h;cases h;obtain⟨aU,J,U,af,nJ⟩:=hw.H7 t (bM.yB ι _ hp) {w with heap:=w.heap.push (.cells z.cells t)} (by simp);rw[nJ]at J U af;refine⟨rfl,_,_,_,.pointer (some ⟨w.heap.size,0,none⟩),_,rfl,by simp,?_,rfl,?_,J,U⟩
 ·unfold execOp;rw[ao];simp[Instr.alloc,u0 hi aJ,newVar,newRow,Result.andThen]
 ·have:=bs.ptr (ι:=hM ι st.al ⟨w.heap.size,0,0,id⟩) ⟨st.al,0,none⟩ ⟨w.heap.size,0,0,id⟩ af rfl;simpa using this
def aq5(aa:cC X.aD x=true)(ao:o.op= .box t x)(ae:cz ι fr a aQ)(hw:bx X ι st w)(h:AX t x call fr st= .ok v aK st'):
 aK=fr∧te X ι w v st st' (execOp a.eval o):=by
 obtain⟨hp,h⟩:=AH h (by simp);rw[gw]at h;cases h;have cx:fr.aj x≠h7:=by intro e;rw[e]at hp;simp[ub,h7]at hp
 obtain⟨aU,J,U,af,nJ⟩:=hw.H7 t (bM.cells (ae.aj hw aa) cx) {w with heap:=w.heap.push (.cells (a.eval x).cells t)} (by simp);rw[nJ]at J U af;refine⟨rfl,_,_,_,.pointer (some ⟨w.heap.size,0,none⟩),_,rfl,by simp,?_,rfl,?_,J,U⟩
 ·unfold execOp;rw[ao];simp[Instr.box,newVar,newRow,Result.andThen]
 ·have:=bs.ptr (ι:=hM ι st.al ⟨w.heap.size,0,0,id⟩) ⟨st.al,0,none⟩ ⟨w.heap.size,0,0,id⟩ af rfl;simpa using this
end
def agA{op:BinOp}{x y:be}{c:be->aX}{r:aX}(h:CD op x y c=r)(hr:aX.no≠r):
 (∃k a k' b,x= .int k a∧y= .int k' b∧zO op k a k' b c=r)∨(∃s t,x= .string s∧y= .string t∧B8 op s t c=r):=by
 cases x with
 |int k a=>
  cases y with
  |int k' b=>exact .inl ⟨k,a,k',b,rfl,rfl,h⟩
  |_=>exact absurd h hr
 |string s=>
  cases y with
  |string t=>exact .inr ⟨s,t,rfl,rfl,h⟩
  |_=>exact absurd h hr
 |_=>exact absurd h hr
def sv{a b:d7}(h:jr a b=true):a=b:=by
 cases a<;>cases b<;>first|rfl|(exact absurd h (by decide))
def adY(k:d7)(m n:Nat):(BitVec.ofInt k.bits (m:Int)&&&BitVec.ofInt k.bits (n:Int)).toNat=Nat.land (m%2^k.bits) (n%2^k.bits):=by
 rw[zbI,zbI,BitVec.toNat_and];simp
def adZ(k:d7)(m n:Nat):(BitVec.ofInt k.bits (m:Int)|||BitVec.ofInt k.bits (n:Int)).toNat=Nat.lor (m%2^k.bits) (n%2^k.bits):=by
 rw[zbI,zbI,BitVec.toNat_or];simp
def ad0(k:d7)(m n:Nat):(BitVec.ofInt k.bits (m:Int)^^^BitVec.ofInt k.bits (n:Int)).toNat=Nat.xor (m%2^k.bits) (n%2^k.bits):=by
 rw[zbI,zbI,BitVec.toNat_xor];simp
def KS(f:Nat->Nat->Nat)(g:Int)(k:d7)(a b:Int)(c:be->aX)(aO:∀m n:Nat,a=m->b=n->g=k.wrap (f (m%2^k.bits) (n%2^k.bits):Nat)):
 B9 f g k a b c=c (.int k g):=by
 unfold B9;cases a with
 |ofNat m=>
  cases b with
  |ofNat n=>
   show hP k (n0 k (.ofNat (f (Nat.mod m (2^k.bits)) (Nat.mod n (2^k.bits))))) c=_;rw[h3,ki,aO m n rfl rfl];rfl
  |negSucc n=>exact h3 _ _ _
 |negSucc m=>exact h3 _ _ _
def rj(op:BinOp)(k:d7)(a b:Int):am be:=
 match op with
 |.add=>some (.int k (k.wrap (a+b)))
 |.sub=>some (.int k (k.wrap (a-b)))
 |.mul=>some (.int k (k.wrap (a*b)))
 |.quo=>if b=0 then none else some (.int k (k.wrap (a.tdiv b)))
 |.rem=>if b=0 then none else some (.int k (a.tmod b))
 |.and=>some (.int k (k.wrap (BitVec.ofInt k.bits a&&&BitVec.ofInt k.bits b).toNat))
 |.or=>some (.int k (k.wrap (BitVec.ofInt k.bits a|||BitVec.ofInt k.bits b).toNat))
 |.xor=>some (.int k (k.wrap (BitVec.ofInt k.bits a^^^BitVec.ofInt k.bits b).toNat))
 |.andNot=>some (.int k (k.wrap (BitVec.ofInt k.bits a&&& ~~~(BitVec.ofInt k.bits b)).toNat))
 |.eql=>some (.bool (a==b))
 |.neq=>some (.bool (a != b))
 |.lss=>some (.bool (decide (a<b)))
 |.leq=>some (.bool (decide (a<=b)))
 |.gtr=>some (.bool (decide (b<a)))
 |.geq=>some (.bool (decide (b<=a)))
 |_=>none
def KR(op:BinOp)(k:d7)(a b:Int)(c:be->aX):zo op k a b c=match rj op k a b with|some v=>c v|none=>.no:=by
 cases op<;>simp only[zo,QQ,Q3,QY,Q1,Q2,QR,Q0,Q4,QS,QT,QZ,QX,QW,QV,QU,KQ,rj]
 ·rw[h3,ki,Qk]
 ·rw[h3,ki,Qk,NH];rfl
 ·rw[h3,ki,ND]
 ·rw[CC];by_cases h:b=0
  ·subst h;rfl
  ·rw[zaa h,show(b==0)=false by simpa using h];cases a with
   |ofNat m=>
    cases b with
    |ofNat n=>
     show hP k (n0 k (.ofNat (m/n))) c=c (.int k (k.wrap ((m:Int).tdiv (n:Int))));rw[h3,ki];rfl
    |negSucc n=>exact h3 _ _ _
   |negSucc m=>exact h3 _ _ _
 ·rw[CC];by_cases h:b=0
  ·subst h;rfl
  ·rw[zaa h,show(b==0)=false by simpa using h];cases a with
   |ofNat m=>
    cases b with
    |ofNat n=>exact h3 k (Int.ofNat (m%n)) c
    |negSucc n=>exact h3 k ((Int.ofNat m).tmod (Int.negSucc n)) c
   |negSucc m=>exact h3 k ((Int.negSucc m).tmod b) c
 ·exact KS _ _ _ _ _ _ (fun m n aY hb=>by subst aY hb;rw[adY])
 ·exact KS _ _ _ _ _ _ (fun m n aY hb=>by subst aY hb;rw[adZ])
 ·exact KS _ _ _ _ _ _ (fun m n aY hb=>by subst aY hb;rw[ad0])
 ·exact h3 _ _ _
 ·rw[CC]
 ·rw[CC];rfl
 ·rw[sx];congr 2;rw[zbb];simp
 ·rw[sx]
 ·rw[sx];congr 2;rw[zbb];simp
 ·rw[sx]
def aqR(k:d7)(a:Int)(n:Nat):yS k a n=k.wrap (a*2^(min n k.bits)):=by
 unfold yS;rw[ki,ND];congr 2
def aqY(k:d7)(a:Int)(n:Nat):uO k a n=a.fdiv (2^(min n k.bits)):=by
 unfold uO;cases a with
 |ofNat m=>
  show((m/2^(min n k.bits):Nat):Int)=Int.fdiv (m:Int) _;rw[Int.fdiv_eq_ediv_of_nonneg _ (Int.pow_nonneg (by decide))]
  push_cast;rfl
 |negSucc m=>rfl
section
variable{ι:bC}{fr aK:aR}{a:Act}{aQ:Nat}{st st':ay}{w:co}{o:Oper}{v:be}{call:bO}
variable{op:BinOp}
def ux{v':be}(h:aX.ok v fr st=aX.ok v' aK st'):v=v'∧fr=aK∧st=st':=by cases h;exact⟨rfl,rfl,rfl⟩
def agl(P:d9)(w:co)(op:BinOp)(t:ce)(x y:bi)(k k':d7)(m n:Int):(eqGuard op t x y (.int k m) (.int k' n)).run P w= .ok () w:=by
 cases op<;>simp[eqGuard]
def Gc(P:d9)(w:co)(op:BinOp)(t:ce)(x y:bi)(s u:f5):(eqGuard op t x y (.string s) (.string u)).run P w= .ok () w:=by
 cases op<;>simp[eqGuard]
def aqv(P:d9)(w:co)(op:BinOp)(t:ce)(k:d7)(m n:Int)(ai:op≠.shl)(eZ:op≠.shr)(h:rj op k m n=some v):(binOp op t (.int k m) (.int k n)).run P w= .ok v w:=by
 cases op<;>simp only[rj]at h<;>first
  |(exact absurd rfl ai)|(exact absurd rfl eZ)
  |(cases h;simp[binOp,Op.intArith,Op.intBits,Op.intCmp];done)
  |(split at h
    ·cases h
    ·cases h;rename_i hb;simp[binOp,Op.intDiv,hb])
  |(simp at h)
def toList_eq(x y:f5):(x.toList==y.toList)=(x.data.toList==y.data.toList):=by
 rw[Lib.toList_data,Lib.toList_data]
def agD{k k':d7}{m n:Int}{c:be->aX}{r:aX}(h:zO op k m k' n c=r)(hr:aX.no≠r):
 ∃v,c v=r∧∀(P:d9) (w:co) (t:ce),(binOp op t (.int k m) (.int k' n)).run P w= .ok v w:=by
 by_cases J:op= .shl
 ·subst J;obtain⟨b,hb,h⟩:=lS h hr;rw[h3,aqR]at h;exact⟨_,h,fun P w t=>by subst hb;simp[binOp,Op.shift,show¬((b:Int)<0) by omega]⟩
 ·by_cases U:op= .shr
  ·subst U;obtain⟨b,hb,h⟩:=lS h hr;rw[h3,aqY]at h;exact⟨_,h,fun P w t=>by subst hb;simp[binOp,Op.shift,show¬((b:Int)<0) by omega]⟩
  ·have aB:cond (jr k k') (zo op k m n c) .no=r:=by
    rw[<-h];cases op<;>first|rfl|(exact absurd rfl J)|(exact absurd rfl U)
   obtain⟨ab,af⟩:=iv aB hr;have:=sv ab;subst this;rw[KR]at af;cases hi:rj op k m n with
   |none=>rw[hi]at af;exact absurd af hr
   |some v=>rw[hi]at af;exact⟨v,af,fun P w t=>aqv P w op t k m n J U hi⟩
def aq4{t y7:ce}{x y:bi}(aa:cC X.aD x=true)(aF:cC X.aD y=true)(ao:o.op= .binOp op t x y y7)(ae:cz ι fr a aQ)(hw:bx X ι st w)
 (h:N0 op x y call fr st= .ok v aK st'):aK=fr∧cg X ι w v st st' (execOp a.eval o):=by
 have bS:=ae.aj hw aa;have vR:=ae.aj hw aF;unfold N0 at h;rcases agA h (by simp)with⟨k,m,k',n,ex,tA,h⟩|⟨s,u,ex,tA,h⟩
 ·rw[ex]at bS;rw[tA]at vR;generalize cu:a.eval x=e3 at bS;generalize fR:a.eval y=qF at vR;cases bS;cases vR;obtain⟨v1,pc,fQ⟩:=agD h (by simp);obtain⟨aw,e2,bW⟩:=ux pc;subst aw e2 bW;refine⟨rfl,cg.same (v':=v1) hw ?_ ?_⟩
  ·unfold execOp;rw[ao];simp[cu,fR,agl,fQ,Result.andThen]
  ·have:jX v1=true:=by
    clear fQ pc ae hw aa aF ex tA cu fR ao;rw[show zO op k m k' n (fun v=>aX.ok v fr st)=(match op with
     |.shl=>g9 n (fun b=>hP k (yS k m b) (fun v=>aX.ok v fr st)) .no
     |.shr=>g9 n (fun b=>hP k (uO k m b) (fun v=>aX.ok v fr st)) .no
     |op=>cond (jr k k') (zo op k m n (fun v=>aX.ok v fr st)) .no) by cases op<;>rfl]at h
    split at h
    ·obtain⟨b,_,h⟩:=lS h (by simp);rw[h3]at h;cases h;rfl
    ·obtain⟨b,_,h⟩:=lS h (by simp);rw[h3]at h;cases h;rfl
    ·obtain⟨_,h⟩:=iv h (by simp);rw[KR]at h;split at h
     ·rename_i v2 lK;cases h;unfold rj at lK;split at lK<;>first|(cases lK;rfl)|(split at lK<;>first|(cases lK;done)|(cases lK;rfl))|(cases lK)
     ·cases h
   exact bs.pure ι v1 this
 ·rw[ex]at bS;rw[tA]at vR;generalize cu:a.eval x=e3 at bS;generalize fR:a.eval y=qF at vR;cases bS;cases vR;unfold B8 at h;split at h
  ·obtain⟨hle,h⟩:=iB h (by simp);cases h;simp only[fo]at hle;refine⟨rfl,cg.same (v':=.string (s++u)) hw ?_ ?_⟩
   ·unfold execOp;rw[ao];have eI:¬(((s.size+u.size:Nat):Int)>IntKind.i64.max):=by
     have J:s.size=s.data.toList.length:=(zbl (xs:=s.data)).symm;have U:u.size=u.data.toList.length:=(zbl (xs:=u.data)).symm;have af:IntKind.i64.max=9223372036854775807:=by decide
     have ax:s.data.toList.length+u.data.toList.length<=1099511627776:=hle;rw[af,J,U];omega
    simp only[cu,fR,Sem.run_bind,Gc,Result.andThen,binOp,Op.stringOp];rw[zaa eI];rfl
   ·have:(⟨⟨gC s.data.toList u.data.toList⟩⟩:f5)=s++u:=by
     rw[qM];apply ByteArray.ext;simp[ByteArray.data_append]
    rw[this];exact .string _
  ·cases h;refine⟨rfl,cg.same (v':=.bool (s.data.toList==u.data.toList)) hw ?_ (.bool _)⟩;unfold execOp;rw[ao];simp only[cu,fR,Sem.run_bind,Gc,Result.andThen,binOp,Op.stringOp,toList_eq];rfl
  ·cases h;refine⟨rfl,cg.same (v':=.bool (!(s.data.toList==u.data.toList))) hw ?_ (.bool _)⟩;unfold execOp;rw[ao];simp only[cu,fR,Sem.run_bind,Gc,Result.andThen,binOp,Op.stringOp,toList_eq];rfl
  ·cases h
end
def add_eq(b o n:Nat):Addr.add ⟨b,o,none⟩ n=⟨b,o+n,none⟩:=by unfold Addr.add;split<;>simp_all
def BY(a:Addr)(n:Nat):(a.add n).block=a.block:=by unfold Addr.add;split<;>rfl
def B0(a:Addr)(n:Nat)(h:a.spot=none):(a.add n).spot=none:=by unfold Addr.add;split<;>simp_all
def Fv(a:Addr)(n:Nat):(a.add n).off=a.off+n:=by unfold Addr.add;split<;>simp_all
def bs.On{a:Addr}(h:ι a.block=some l)(ai:a.spot=none)(n:Nat):bs ι (.pointer (some (a.add n))) (.pointer (some (Addr.add ⟨l.cG,l.sh+a.off,none⟩ n))):=by
 have:=bs.ptr (ι:=ι) (a.add n) l (by rw[BY];exact h) (B0 a n ai);rw[Fv]at this;rw[add_eq,show l.sh+a.off+n=l.sh+(a.off+n) by omega];exact this
section
variable{ι:bC}{fr aK:aR}{a:Act}{aQ:Nat}{st st':ay}{w:co}{o:Oper}{v:be}{call:bO}
variable{x:bi}{t s:ce}{n:Nat}{i:bi}{cw:f6}{EL:TypeDesc}{d:ce}
def arq{f:Nat}{fields:ap Field}{fd:Field}{i:f6}(aa:cC X.aD x=true)(ao:o.op= .fieldAddr s x f)(hu:X.P.underlying s=some (.struct fields))(tL:fields[f]? =some fd)
 (hi:X.P.info? fd.type=some i) (aJ:i.size≠0) (ae:cz ι fr a aQ) (hw:bx X ι st w) (h:YZ fd.offset x call fr st= .ok v aK st'):
 aK=fr∧cg X ι w v st st' (execOp a.eval o):=by
 obtain⟨p,hp,h⟩:=pE h (by simp);obtain⟨ad,rfl,h⟩:=fp h (by simp);cases h;have bS:=ae.aj hw aa;rw[hp]at bS;generalize cu:a.eval x=e3 at bS;cases bS with
 |ptr _ l hl ai=>
  refine⟨rfl,cg.same (v':=.pointer (some (Addr.add ⟨l.cG,l.sh+ad.off,none⟩ fd.offset))) hw ?_ (bs.On hl ai _)⟩;unfold execOp;rw[ao];simp[cu,Instr.fieldAt,run_underlying hu,tL,Instr.sureAddr,fieldPlace,ju hi,aJ,Result.andThen]
def art(aa:cC X.aD x=true)(dX:cC X.aD i=true)(ao:o.op= .indexAddr t x i)(hu:X.P.underlying t=some (.array n e))(hi:X.P.info? e=some cw)
 (ae:cz ι fr a aQ) (hw:bx X ι st w) (h:wk n cw.size x i call fr st= .ok v aK st'):
 aK=fr∧cg X ι w v st st' (execOp a.eval o):=by
 obtain⟨p,hp,h⟩:=pE h (by simp);obtain⟨ad,rfl,h⟩:=fp h (by simp);obtain⟨k,m,hm,h⟩:=iW h (by simp);obtain⟨j,rfl,h⟩:=lS h (by simp);obtain⟨hj,h⟩:=iB h (by simp);cases h;have bS:=ae.aj hw aa;rw[hp]at bS;generalize cu:a.eval x=e3 at bS;have jb:=ae.aj hw dX;rw[hm]at jb;generalize xJ:a.eval i=lN at jb;cases jb;cases bS with
 |ptr _ l hl ai=>
  refine⟨rfl,cg.same (v':=.pointer (some (Addr.add ⟨l.cG,l.sh+ad.off,none⟩ (j*cw.size)))) hw ?_ (bs.On hl ai _)⟩;unfold execOp;rw[ao];have lE:j<n:=by omega
  simp[cu,xJ,Instr.indexAt,asIntOf,run_underlying hu,Instr.sureAddr,ju hi,Result.andThen,lE]
def aru(aa:cC X.aD x=true)(dX:cC X.aD i=true)(ao:o.op= .indexAddr t x i)(hu:X.P.underlying t=some (.slice e))(hi:X.P.info? e=some cw)
 (ae:cz ι fr a aQ) (hw:bx X ι st w) (h:Y1 cw.size x i call fr st= .ok v aK st'):
 aK=fr∧cg X ι w v st st' (execOp a.eval o):=by
 obtain⟨b,len,cap,hp,h⟩:=uU h (by simp);obtain⟨ad,rfl,h⟩:=fp h (by simp);obtain⟨k,m,hm,h⟩:=iW h (by simp);obtain⟨j,rfl,h⟩:=lS h (by simp);obtain⟨hj,h⟩:=iB h (by simp);cases h;have bS:=ae.aj hw aa;rw[hp]at bS;generalize cu:a.eval x=e3 at bS;have jb:=ae.aj hw dX;rw[hm]at jb;generalize xJ:a.eval i=lN at jb;cases jb;cases bS with
 |gx _ l off _ _ hl ai iP=>
  have tQ:off=l.sh+ad.off:=by rcases iP with h|⟨h,_⟩<;>omega
  subst tQ;refine⟨rfl,cg.same (v':=.pointer (some (Addr.add ⟨l.cG,l.sh+ad.off,none⟩ (j*cw.size)))) hw ?_ (bs.On hl ai _)⟩;unfold execOp;rw[ao];have lE:j<len:=by omega
  simp[cu,xJ,Instr.indexAt,asIntOf,run_underlying hu,ju hi,Result.andThen,lE]
def arc{k:d7}(aa:cC X.aD x=true)(ao:o.op= .convert s t x)(ai:X.P.underlying s=some EL)(aV:X.P.underlying t=some (.int k))
 (ae:cz ι fr a aQ) (hw:bx X ι st w) (h:YV k x call fr st= .ok v aK st'):
 aK=fr∧cg X ι w v st st' (execOp a.eval o):=by
 obtain⟨k',n,hp,h⟩:=iW h (by simp);rw[h3,ki]at h;cases h;have bS:=ae.aj hw aa;rw[hp]at bS;generalize cu:a.eval x=e3 at bS;cases bS;refine⟨rfl,cg.same (v':=.int k (k.wrap n)) hw ?_ (.int _ _)⟩;unfold execOp;rw[ao];simp[cu,convert,run_underlying ai,run_underlying aV,Result.andThen,Conv.intToInt]
def arb(aa:cC X.aD x=true)(ao:o.op= .convert s t x)(ai:X.P.underlying s=some EL)(aV:X.P.underlying t=some .string)
 (ae:cz ι fr a aQ) (hw:bx X ι st w) (h:YU x call fr st= .ok v aK st'):
 aK=fr∧cg X ι w v st st' (execOp a.eval o):=by
 obtain⟨bz,hp,h⟩:=oF h (by simp);cases h;have bS:=ae.aj hw aa;rw[hp]at bS;generalize cu:a.eval x=e3 at bS;cases bS;refine⟨rfl,cg.same (v':=.string bz) hw ?_ (.string _)⟩;unfold execOp;rw[ao];simp[cu,convert,run_underlying ai,run_underlying aV,Result.andThen]
def arF{d:TypeDesc}(aa:cC X.aD x=true)(ao:o.op= .makeInterface t x)(aV:X.P.underlying t=some d)(aq:∀ms,d≠.interface ms)
 (ae:cz ι fr a aQ) (hw:bx X ι st w) (h:Y7 t x call fr st= .ok v aK st'):
 aK=fr∧cg X ι w v st st' (execOp a.eval o):=by
 cases h;refine⟨rfl,cg.same (v':=.iface t (a.eval x)) hw ?_ (.iface _ _ _ (ae.aj hw aa))⟩;unfold execOp;rw[ao];simp only[Instr.makeInterface,Sem.run_bind,run_underlying aV,Result.andThen];cases d<;>first|rfl|(exact absurd rfl (aq _))
theorem vp(ae:cz ι fr a aQ)(hw:bx X ι st w):∀xs:ac bi,(∀x∈xs,cC X.aD x=true)->bM ι (eA fr xs) (xs.map a.eval)
 |[],_=>bM.nil ι
 |x::xs,h=>bM.cons (ae.aj hw (h x (by simp))) (vp ae hw xs (fun y aF=>h y (by simp[aF])))
def abt{f:Fn}(mY:∀l,f≠.yield l){first fl:ap bi}(J:∀x∈first.toList,cC X.aD x=true)(U:∀x∈fl.toList,cC X.aD x=true)(ao:o.op= .makeFunc f first fl)
 (ae:cz ι fr a aQ) (hw:bx X ι st w) (h:Y6 f first.toList fl.toList call fr st= .ok v aK st'):
 aK=fr∧cg X ι w v st st' (execOp a.eval o):=by
 cases h;refine⟨rfl,cg.same (v':=.func f (first.map a.eval) (fl.map a.eval)) hw ?_ (bs.Ie (.inl ⟨rfl,mY⟩) ?_ ?_)⟩
 ·unfold execOp;rw[ao];simp[Instr.makeFunc]
 ·simpa using vp ae hw first.toList J
 ·simpa using vp ae hw fl.toList U
def arp{i:Nat}(aa:cC X.aD x=true)(ao:o.op= .extract x i)(ae:cz ι fr a aQ)(hw:bx X ι st w)(h:YY x i call fr st= .ok v aK st'):
 aK=fr∧cg X ι w v st st' (execOp a.eval o):=by
 obtain⟨vs,hp,h⟩:=acw h (by simp);obtain⟨hn,h⟩:=vk h (by simp);obtain⟨y,aF,h⟩:=AV h (by simp);cases h;have bS:=ae.aj hw aa;rw[hp]at bS;generalize cu:a.eval x=e3 at bS;cases bS with
 |tuple _ av J U=>
  have hlen:i<vs.size:=by simp at hn;omega
  have hi:vs[i]=v:=by
   have:=congrArg (fun l=>l[0]?) aF;simpa[hlen]using this
  refine⟨rfl,cg.same (v':=av[i]'(by omega)) hw ?_ ?_⟩
  ·unfold execOp;rw[ao];simp[cu,Instr.extract,show i<av.size by omega]
  ·rw[<-hi];exact U i hlen (by omega)
def arz(ao:o.op= .call {callee:=.builtin .len,args:= #[x],argTypes:= #[t]})(hu:X.P.underlying t=some (.array n d))(hw:bx X ι st w)
 (h:N2 n call fr st= .ok v aK st'):aK=fr∧cg X ι w v st st' (execOp a.eval o):=by
 cases h;refine⟨rfl,cg.same (v':=.int .i64 (.ofNat n)) hw ?_ (.int _ _)⟩;unfold execOp;rw[ao];simp[resolve,invoke,builtin,Builtin.len_,run_underlying hu,Result.andThen,goInt]
def arA{u:ce}(ao:o.op= .call {callee:=.builtin .len,args:= #[x],argTypes:= #[t]})(hu:X.P.underlying t=some (.pointer u))(Dt:X.P.underlying u=some (.array n d))(hw:bx X ι st w)
 (h:N2 n call fr st= .ok v aK st'):aK=fr∧cg X ι w v st st' (execOp a.eval o):=by
 cases h;refine⟨rfl,cg.same (v':=.int .i64 (.ofNat n)) hw ?_ (.int _ _)⟩;unfold execOp;rw[ao];simp[resolve,invoke,builtin,Builtin.len_,run_underlying hu,run_underlying Dt,Result.andThen,goInt]
def anz(h:Il x call fr st= .ok v aK st'):(∃b n c,fr.aj x= .slice b n c∧aX.ok (.int .i64 (.ofNat n)) fr st= .ok v aK st')∨(fr.aj x= .chan none∧aX.ok (.int .i64 (.ofNat 0)) fr st= .ok v aK st'):=by
 unfold Il at h;cases aI:fr.aj x with
 |slice b n c=>rw[aI]at h;exact .inl ⟨b,n,c,rfl,h⟩
 |chan p=>
  rw[aI]at h;cases p with
  |none=>exact .inr ⟨rfl,h⟩
  |some _=>cases h
 |_=>rw[aI]at h;cases h
def arB(aa:cC X.aD x=true)(ao:o.op= .call {callee:=.builtin .len,args:= #[x],argTypes:= #[t]})(hu:X.P.underlying t=some (.slice e))
 (ae:cz ι fr a aQ) (hw:bx X ι st w) (h:Il x call fr st= .ok v aK st'):aK=fr∧cg X ι w v st st' (execOp a.eval o):=by
 rcases anz h with⟨b,n,c,hp,h⟩|⟨hp,h⟩
 ·cases h;have bS:=ae.aj hw aa;rw[hp]at bS;generalize cu:a.eval x=e3 at bS;refine⟨rfl,cg.same (v':=.int .i64 (.ofNat n)) hw ?_ (.int _ _)⟩;unfold execOp;rw[ao];cases bS<;>simp[cu,resolve,invoke,builtin,Builtin.len_,run_underlying hu,Result.andThen,goInt]
 ·cases h;have bS:=ae.aj hw aa;rw[hp]at bS;generalize cu:a.eval x=e3 at bS;refine⟨rfl,cg.same (v':=.int .i64 (.ofNat 0)) hw ?_ (.int _ _)⟩;unfold execOp;rw[ao];cases bS<;>simp[cu,resolve,invoke,builtin,Builtin.len_,run_underlying hu,Result.andThen,goInt]
def arC(aa:cC X.aD x=true)(ao:o.op= .call {callee:=.builtin .len,args:= #[x],argTypes:= #[t]})(hu:X.P.underlying t=some .string)
 (ae:cz ι fr a aQ) (hw:bx X ι st w) (h:Y5 x call fr st= .ok v aK st'):aK=fr∧cg X ι w v st st' (execOp a.eval o):=by
 obtain⟨s,hp,h⟩:=oF h (by simp);rw[zT,fo]at h;cases h;have bS:=ae.aj hw aa;rw[hp]at bS;generalize cu:a.eval x=e3 at bS;cases bS;have e:Int.ofNat s.data.toList.length=(s.size:Int):=by rw[zbl];rfl
 rw[e];refine⟨rfl,cg.same (v':=.int .i64 s.size) hw ?_ (.int _ _)⟩;unfold execOp;rw[ao];simp[cu,resolve,invoke,builtin,Builtin.len_,run_underlying hu,Result.andThen,goInt]
end
def Zr{t:ce}{d:TypeDesc}{i:f6}{off:Nat}{cs cs':ap be}(aq:P.underlying t=some d)(hi:P.info? t=some i)
 (hr:bM ι cs.toList cs'.toList) (h:uy off i.size (qL d) cs.toList=some v) (w:co):∃v',(part t cs' off).run P w= .ok v' w∧bs ι v v':=by
 unfold uy at h;obtain⟨hn,h⟩:=vk h (by simp);have m1:=(hr.drop off).take i.size;cases aO:qL d with
 |true=>
  rw[aO]at h;cases h;refine⟨.agg (cs'.extract off (off+i.size)),?_,bs.AT ?_⟩
  ·simp only[part,Sem.run_bind,DH aq,aO,Result.andThen,if_true,ju hi,Sem.run_pure]
  ·have e:(cs'.extract off (off+i.size)).toList=(cs'.toList.drop off).take i.size:=by
    rw[zcV,zdv];congr 1;omega
   rw[e];simpa using m1
 |false=>
  rw[aO]at h;obtain⟨y,aF,h⟩:=AV h (by simp);cases h;rw[aF]at m1;obtain⟨z,im,aJ,aI,re⟩:=m1.cons_inv;have e:cs'[off]? =some z:=by
   have:=congrArg (fun l=>l[0]?) aJ;simp only[zaK,zaI,zcC,zaJ]at this;split at this
   ·simpa using this
   ·cases this
  refine⟨z,?_,aI⟩;simp only[part,Sem.run_bind,DH aq,aO,Result.andThen,zaU,if_false,e,Sem.run_pure]
theorem abD(off:Nat):∀(vs:ac be) (k:Nat) (C:ap be),off+k+vs.length<=C.size->
 (vs.zipIdx k).foldl (fun cs (p:be×Nat)=>cs.setIfInBounds (off+p.2) p.1) C=(C.toList.take (off+k)++(vs++C.toList.drop (off+k+vs.length))).toArray
 |[],k,C,_=>by simp
 |v::vs,k,C,h=>by
  simp only[zaD]at h;have hl:off+k<C.toList.length:=by simp;omega
  rw[List.zipIdx_cons,zdw,abD off vs (k+1) _ (by simp;omega)];have k8:(C.setIfInBounds (off+k) v).toList=C.toList.set (off+k) v:=by simp
  rw[k8];have t1:(C.toList.set (off+k) v).take (off+(k+1))=C.toList.take (off+k)++[v]:=by
   rw[show off+(k+1)=(off+k)+1 by omega,zbs (by simpa using hl),zba (b5 _)];simp
  have t2:(C.toList.set (off+k) v).drop (off+(k+1)+vs.length)=C.toList.drop (off+k+(v::vs).length):=by
   rw[zcU (by omega)];congr 1;simp only[zaD];omega
  rw[t1,t2];simp
def bM.ar6{cs' vs fS:ac be}(h:bM ι cs cs')(aI:bM ι vs fS)(n:Nat):
 bM ι (cs.take n++(vs++cs.drop (n+vs.length))) (cs'.take n++(fS++cs'.drop (n+fS.length))):=by
 rw[aI.1];exact(h.take n).append (aI.append (h.drop _))
section
variable{ι:bC}{fr aK:aR}{a:Act}{aQ:Nat}{st st':ay}{w:co}{o:Oper}{v:be}{call:bO}
variable{t:ce}{x:bi}{d:TypeDesc}{i:f6}
theorem Gl(place:Nat->am (Nat×Nat))(ae:cz ι fr a aQ)(hw:bx X ι st w){c:ac be->aX}{r:aX}(hr:aX.no≠r):
 ∀(parts:ac (Nat×bi)) (ps:ac (Nat×Nat×bi)),ps=parts.map (fun p=>(((place p.1).getD (0,0)).1,((place p.1).getD (0,0)).2,p.2))->(∀p∈parts,(place p.1).isSome∧cC X.aD p.2=true)->
 ∀(cs:ac be) (cs':ap be),bM ι cs cs'.toList->ob fr ps cs c=r->
  ∃out nP,Instr.fill place cs' (parts.map fun p=>(p.1,a.eval p.2))=some nP∧bM ι out nP.toList∧c out=r
 |[],_,rfl,_,cs,cs',eN,h=>⟨cs,cs',rfl,eN,h⟩
 |(i,x)::parts,_,rfl,bE,cs,cs',eN,h=>by
  obtain⟨al0,aa⟩:=bE (i,x) (by simp);obtain⟨⟨off,a9⟩,ie⟩:=zeP.1 al0;simp only[zaR,ie,zdx]at h;obtain⟨m0,h⟩:=AH h hr;obtain⟨eI,h⟩:=k3 h hr;obtain⟨hle,h⟩:=iB h hr;simp only[fo]at eI hle;have auI:off+a9<=cs.length:=hle;have cx:fr.aj x≠h7:=by intro e;rw[e]at m0;simp[ub,h7]at m0
  have Wp:=bM.cells (ae.aj hw aa) cx;have eZ:(iu (fr.aj x)).length=a9:=eI;have hlen:(a.eval x).cells.size=a9:=by have:=Wp.1;simp at this;rw[<-this];simpa[iu]using eZ
  have Ml:cs'.size=cs.length:=by have:=eN.1;simp at this;omega
  have U:ob fr (parts.map (fun p=>(((place p.1).getD (0,0)).1,((place p.1).getD (0,0)).2,p.2))) (cs.take off++(iu (fr.aj x)++cs.drop (off+(iu (fr.aj x)).length))) c=r:=by
   rcases Oq h hr with⟨_,h⟩|⟨he,h⟩
   ·exact h
   ·rw[he];simp;exact h
  obtain⟨out,nP,af,ax,a0⟩:=Gl place ae hw hr parts _ rfl (fun p hp=>bE p (by simp[hp])) _ ((a.eval x).cells.zipIdx.foldl (fun cs (p:be×Nat)=>cs.setIfInBounds (off+p.2) p.1) cs') (by
   rw[<-Array.foldl_toList,Array.toList_zipIdx,abD off _ 0 cs' (by simp;omega)];have:=eN.ar6 Wp off;simpa[iu]using this) U
  refine⟨out,nP,?_,ax,a0⟩;simp only[zaR,Instr.fill,ie];rw[zaa (by simp;omega)];exact af
def ars{f:Nat}{fields:ap Field}{fd:Field}(aa:cC X.aD x=true)(ao:o.op= .field t x f)(hu:X.P.underlying t=some (.struct fields))(tL:fields[f]? =some fd)
 (aq:X.P.underlying fd.type=some d) (hi:X.P.info? fd.type=some i) (ae:cz ι fr a aQ) (hw:bx X ι st w) (h:Y0 fd.offset i.size (qL d) x call fr st= .ok v aK st'):
 aK=fr∧cg X ι w v st st' (execOp a.eval o):=by
 obtain⟨cs,hp,h⟩:=BF h (by simp);obtain⟨v1,pc,h⟩:=fp h (by simp);cases h;have bS:=ae.aj hw aa;rw[hp]at bS;generalize cu:a.eval x=e3 at bS;cases bS with
 |agg _ av J U=>
  obtain⟨v',hr,aI⟩:=Zr aq hi (bM.wh J U) pc w;refine⟨rfl,cg.same (v':=v') hw ?_ aI⟩;unfold execOp;rw[ao];simp[cu,Instr.field,run_underlying hu,tL,asAgg,hr,Result.andThen]
def arx{i:bi}{n:Nat}{cw:f6}(aa:cC X.aD x=true)(dX:cC X.aD i=true)(ao:o.op= .index t x i)(hu:X.P.underlying t=some (.array n e))
 (aq:X.P.underlying e=some d) (hi:X.P.info? e=some cw) (ae:cz ι fr a aQ) (hw:bx X ι st w) (h:Y2 n cw.size (qL d) x i call fr st= .ok v aK st'):
 aK=fr∧cg X ι w v st st' (execOp a.eval o):=by
 obtain⟨cs,hp,h⟩:=BF h (by simp);obtain⟨k,m,hm,h⟩:=iW h (by simp);obtain⟨j,rfl,h⟩:=lS h (by simp);obtain⟨hj,h⟩:=iB h (by simp);obtain⟨v1,pc,h⟩:=fp h (by simp);cases h;have bS:=ae.aj hw aa;rw[hp]at bS;generalize cu:a.eval x=e3 at bS;have jb:=ae.aj hw dX;rw[hm]at jb;generalize xJ:a.eval i=lN at jb;cases jb;cases bS with
 |agg _ av J U=>
  obtain⟨v',hr,aI⟩:=Zr aq hi (bM.wh J U) pc w;refine⟨rfl,cg.same (v':=v') hw ?_ aI⟩;unfold execOp;rw[ao];have lE:j<n:=by omega
  have m1:(part e av (j*cw.size)).run X.P w= .ok v' w:=hr;simp[cu,xJ,Instr.index,asIntOf,run_underlying hu,ju hi,m1,lE,Result.andThen]
def ary{i:bi}(aa:cC X.aD x=true)(dX:cC X.aD i=true)(ao:o.op= .index t x i)(hu:X.P.underlying t=some .string)
 (ae:cz ι fr a aQ) (hw:bx X ι st w) (h:Y3 x i call fr st= .ok v aK st'):
 aK=fr∧cg X ι w v st st' (execOp a.eval o):=by
 obtain⟨s,hp,h⟩:=oF h (by simp);obtain⟨k,m,hm,h⟩:=iW h (by simp);obtain⟨j,rfl,h⟩:=lS h (by simp);obtain⟨hn,h⟩:=vk h (by simp);obtain⟨b,hb,h⟩:=AV h (by simp);cases h;have bS:=ae.aj hw aa;rw[hp]at bS;generalize cu:a.eval x=e3 at bS;have jb:=ae.aj hw dX;rw[hm]at jb;generalize xJ:a.eval i=lN at jb;cases jb;cases bS;have a4:j<s.data.size:=by rw[zaH,zbl]at hn;omega
 have cY:s[j]? =some b:=by
  have:=congrArg (fun l=>l[0]?) hb;simp only[zaK,zaI,zcC,zaJ]at this;rw[zab (by omega)]at this;have J:s.data[j]? =some b:=by simpa using this
  rw[zco a4]at J;have tO:j<s.size:=a4;rw[getElem?_pos s j tO];exact J
 refine⟨rfl,cg.same (v':=.int .u8 b.toNat) hw ?_ (.int _ _)⟩;unfold execOp;rw[ao];simp[cu,xJ,Instr.index,asIntOf,run_underlying hu,cY,Result.andThen]
def arX{kC:ce}{z:be}{ok:Bool}(aa:cC X.aD x=true)(ao:o.op= .typeAssert x kC t ok)(aq:X.P.underlying t=some d)(hB:∀ms,d≠.interface ms)
 (hi:X.P.info? t=some i) (aJ:i.zero=some z) (hp:jX z=true) (ae:cz ι fr a aQ) (hw:bx X ι st w) (h:N5 t z ok x call fr st= .ok v aK st'):
 aK=fr∧cg X ι w v st st' (execOp a.eval o):=by
 have bS:=ae.aj hw aa;generalize cu:a.eval x=e3 at bS;unfold N5 at h;generalize aI:fr.aj x=j6 at h bS;have Ht:bs ι (.tuple #[z,.bool false]) (.tuple #[z,.bool false]):=bs.po (bM.cons (bs.pure ι z hp) (bM.cons (.bool _) (bM.nil ι)));cases j6 with
 |iface u y=>
  have hZ:dV u t (aX.ok (cond ok (.tuple #[y,.bool true]) y) fr st) (cond ok (aX.ok (.tuple #[z,.bool false]) fr st) aX.no)=aX.ok v aK st':=h;cases bS with
  |iface _ _ mM aF=>
   rw[o1]at hZ;clear h;split at hZ
   ·rename_i e;subst e;cases hZ;refine⟨rfl,cg.same (v':=if ok then .tuple #[mM,.bool true]else mM) hw ?_ ?_⟩
    ·unfold execOp;rw[ao];simp only[cu,Instr.typeAssert,Sem.run_bind,run_underlying aq,Result.andThen];cases d<;>first|(exact absurd rfl (hB _))|(simp)
    ·cases ok
     ·exact aF
     ·exact bs.po (bM.cons aF (bM.cons (.bool _) (bM.nil ι)))
   ·rename_i e;obtain⟨bE,hZ⟩:=iv hZ (by simp);cases hZ;refine⟨rfl,cg.same (v':=.tuple #[z,.bool false]) hw ?_ Ht⟩;unfold execOp;rw[ao];simp only[cu,Instr.typeAssert,Sem.run_bind,run_underlying aq,Result.andThen];cases d<;>first|(exact absurd rfl (hB _))|(simp[e,bE,u0 hi aJ,Result.andThen])
 |nilIface=>
  have h:cond ok (aX.ok (.tuple #[z,.bool false]) fr st) aX.no=aX.ok v aK st':=h;obtain⟨bE,h⟩:=iv h (by simp);cases h;cases bS;refine⟨rfl,cg.same (v':=.tuple #[z,.bool false]) hw ?_ Ht⟩;unfold execOp;rw[ao];simp only[cu,Instr.typeAssert,Sem.run_bind,run_underlying aq,Result.andThen];cases d<;>first|(exact absurd rfl (hB _))|(simp[bE,u0 hi aJ,Result.andThen])
 |_=>exact absurd h (by simp[s4])
end
theorem Yb{α β:Type}(P:d9)(w:co)(f:α->Sem β)(g:α->β):∀(l:ac α),(∀x∈l,(f x).run P w= .ok (g x) w)->(l.mapM f).run P w= .ok (l.map g) w
 |[],_=>by simp
 |x::xs,h=>by
  rw[zdy];simp[h x (by simp),Yb P w f g xs (fun y aF=>h y (by simp[aF])),Result.andThen]
section
variable{ι:bC}{fr aK:aR}{a:Act}{aQ:Nat}{st st':ay}{w:co}{o:Oper}{v:be}{call:bO}
variable{t:ce}{z:be}{parts:ap (Nat×bi)}{ps:ac (Nat×Nat×bi)}{cw i:f6}
def aq8{fields:ap Field}(ao:o.op= .build t parts)(hu:X.P.underlying t=some (.struct fields))
 (hi:X.P.info? t=some i) (aJ:i.zero=some z) (hp:mL z.cells.toList=true) (akX:∀f∈fields.toList,(X.P.info? f.type).isSome)
 (jc:ps=parts.toList.map (fun p=>((((fields.map fun f=>(f.offset,X.P.cellsOf f.type))[p.1]?).getD (0,0)).1,(((fields.map fun f=>(f.offset,X.P.cellsOf f.type))[p.1]?).getD (0,0)).2,p.2)))
 (bE:∀p∈parts.toList,((fields.map fun f=>(f.offset,X.P.cellsOf f.type))[p.1]?).isSome∧cC X.aD p.2=true) (ae:cz ι fr a aQ) (hw:bx X ι st w)
 (h:N1 z.cells.toList ps call fr st= .ok v aK st'):aK=fr∧cg X ι w v st st' (execOp a.eval o):=by
 obtain⟨out,nP,J,U,af⟩:=Gl (fun j=>(fields.map fun f=>(f.offset,X.P.cellsOf f.type))[j]?) ae hw (by simp) parts.toList ps jc bE z.cells.toList z.cells (bM.yB ι _ hp) h;cases af;refine⟨rfl,cg.same (v':=.agg nP) hw ?_ (bs.AT U)⟩;unfold execOp;rw[ao];have hm:(fields.mapM fun f=>do pure (f.offset,<-sizeOf f.type):Sem (ap (Nat×Nat))).run X.P w= .ok (fields.map fun f=>(f.offset,X.P.cellsOf f.type)) w:=by
  rw[zeQ];rw[Sem.run_map,Yb X.P w _ (fun f:Field=>(f.offset,X.P.cellsOf f.type)) fields.toList (fun f akU=>by
   obtain⟨aun,Wu⟩:=zeP.1 (akX f akU);simp[ju Wu,Result.andThen,Program.cellsOf,Wu])]
  simp only[Result.andThen];congr 1;apply Array.ext';simp
 simp only[Instr.build,Sem.run_bind,u0 hi aJ,Result.andThen,run_underlying hu,hm];have kM:Instr.fill (fun x=>(Array.map (fun f:Field=>(f.offset,X.P.cellsOf f.type)) fields)[x]?) z.cells (parts.map fun x=>(x.1,a.eval x.2)).toList=some nP:=by
  rw[<-J];simp
 rw[kM];rfl
def aq7{n:Nat}(ao:o.op= .build t parts)(hu:X.P.underlying t=some (.array n e))
 (hi:X.P.info? t=some i) (aJ:i.zero=some z) (hp:mL z.cells.toList=true) (gH:X.P.info? e=some cw)
 (jc:ps=parts.toList.map (fun p=>(p.1*cw.size,cw.size,p.2))) (bE:∀p∈parts.toList,cC X.aD p.2=true) (ae:cz ι fr a aQ) (hw:bx X ι st w)
 (h:N1 z.cells.toList ps call fr st= .ok v aK st'):aK=fr∧cg X ι w v st st' (execOp a.eval o):=by
 obtain⟨out,nP,J,U,af⟩:=Gl (fun j=>some (j*cw.size,cw.size)) ae hw (by simp) parts.toList ps (by rw[jc];simp) (fun p hp=>⟨by simp,bE p hp⟩) z.cells.toList z.cells (bM.yB ι _ hp) h;cases af;refine⟨rfl,cg.same (v':=.agg nP) hw ?_ (bs.AT U)⟩;unfold execOp;rw[ao];simp only[Instr.build,Sem.run_bind,u0 hi aJ,Result.andThen,run_underlying hu,ju gH];have kM:Instr.fill (fun i=>some (i*cw.size,cw.size)) z.cells (parts.map fun x=>(x.1,a.eval x.2)).toList=some nP:=by
  rw[<-J];simp
 rw[kM];rfl
def aq6{len:Nat}{im:ac be}(ao:o.op= .buildSlice t len parts)(hu:X.P.underlying t=some (.slice e))
 (gH:X.P.info? e=some cw) (aJ:cw.zero=some z) (WK:len*cw.size<=2^24) (re:im=(List.range (len*cw.size)).map (fun j=>(if len*cw.size=0 then(#[]:ap be)else z.cells)[j%(if len*cw.size=0 then(#[]:ap be)else z.cells).size]!))
 (hp:mL im=true) (jc:ps=parts.toList.map (fun p=>(p.1*cw.size,cw.size,p.2))) (bE:∀p∈parts.toList,cC X.aD p.2=true) (ae:cz ι fr a aQ) (hw:bx X ι st w)
 (h:AY e len im ps call fr st= .ok v aK st'):aK=fr∧te X ι w v st st' (execOp a.eval o):=by
 obtain⟨out,nP,J,U,af⟩:=Gl (fun j=>some (j*cw.size,cw.size)) ae hw (by simp) parts.toList ps (by rw[jc];simp) (fun p hp=>⟨by simp,bE p hp⟩) im im.toArray (by simpa using bM.yB ι _ hp) h;rw[gw]at af;cases af;obtain⟨aU,a5,bD,dt,nJ⟩:=hw.H7 e U {w with heap:=w.heap.push (.cells nP e)} (by simp);rw[nJ]at a5 bD dt;refine⟨rfl,_,_,_,.slice (some ⟨w.heap.size,0,none⟩) len len,_,rfl,by simp,?_,rfl,?_,a5,bD⟩
 ·unfold execOp;rw[ao];simp only[Instr.buildSlice,Sem.run_bind,Result.andThen,run_underlying hu,ju gH];rw[zaa (by omega)];have kM:Instr.fill (fun i=>some (i*cw.size,cw.size)) ((Array.range (len*cw.size)).map ((if len*cw.size=0 then(#[]:ap be)else z.cells)[· %(if len*cw.size=0 then(#[]:ap be)else z.cells).size]!)) (parts.map fun x=>(x.1,a.eval x.2)).toList=some nP:=by
   rw[<-J];congr 1
   ·rw[re];apply Array.ext';simp
   ·simp
  by_cases h0:len*cw.size=0
  ·simp only[h0,if_true]at kM⊢;simp only[Sem.run_pure,Result.andThen,Sem.run_bind,kM,newRow,run_newObj]
  ·simp only[h0,if_false]at kM⊢;simp only[Sem.run_pure,Sem.run_bind,u0 gH aJ,Result.andThen,kM,newRow,run_newObj]
 ·have:=bs.gx (ι:=hM ι st.al ⟨w.heap.size,0,0,id⟩) ⟨st.al,0,none⟩ ⟨w.heap.size,0,0,id⟩ 0 len len dt rfl (.inl rfl);simpa using this
theorem Ry(z:ac be):∀(n:Nat),z≠[]->k2 z n=(List.range (n*z.length)).map (fun j=>z.toArray[j%z.toArray.size]!)
 |0,_=>by simp only[zas,List.range_zero,zbY];rfl
 |n+1,aJ=>by
  show gC z (k2 z n)=_;rw[qM,Ry z n aJ];have auT:0<z.length:=zbg.2 aJ;rw[zbZ,zbt,List.range_add,zcW,zcp];congr 1
  ·apply zbJ;intro j;by_cases hj:j<z.length
   ·simp[hj,dH hj]
   ·simp[hj]
  ·apply List.map_congr_left;intro j _;simp
def arH{l c:bi}(hl:cC X.aD l=true)(hc:cC X.aD c=true)(ao:o.op= .makeSlice t l c)(hu:X.P.underlying t=some (.slice e))(gH:X.P.info? e=some cw)
 (aJ:cw.zero=some z) (eI:z.cells.toList.length=cw.size) (cx:cw.size≠0) (hp:mL z.cells.toList=true) (ae:cz ι fr a aQ) (hw:bx X ι st w)
 (h:wm e cw.bytes z.cells.toList l c call fr st= .ok v aK st'):aK=fr∧te X ι w v st st' (execOp a.eval o):=by
 obtain⟨k,avb,Aa,aM⟩:=iW h (by simp);obtain⟨k',aui,L7,aN⟩:=iW aM (by simp);obtain⟨cI,aw,bf⟩:=lS aN (by simp);obtain⟨hs,e2,cb⟩:=lS bf (by simp);clear h aM aN bf;subst aw e2;obtain⟨hle,cQ⟩:=iB cb (by simp);obtain⟨hb,ei⟩:=iB cQ (by simp);rw[gw]at ei;cases ei;have cn:=ae.aj hw hl;rw[Aa]at cn;generalize alf:a.eval l=Nr at cn;have mW:=ae.aj hw hc;rw[L7]at mW;generalize akv:a.eval c=FW at mW;cases cn;cases mW;have amn:z.cells.toList≠[]:=by intro e;rw[e]at eI;simp at eI;omega
 have fZ:=Ry z.cells.toList hs amn;have alK:bM ι (k2 z.cells.toList hs) (k2 z.cells.toList hs):=by
  have:∀n,bM ι (k2 z.cells.toList n) (k2 z.cells.toList n):=by
   intro n
   induction n with
   |zero=>exact bM.nil ι
   |succ n a8=>show bM ι (gC _ _) (gC _ _);rw[qM];exact(bM.yB ι _ hp).append a8
  exact this hs
 obtain⟨aU,a5,bD,dt,nJ⟩:=hw.H7 e alK {w with heap:=w.heap.push (.cells (k2 z.cells.toList hs).toArray e)} (by simp);rw[nJ]at a5 bD dt;refine⟨rfl,_,_,_,.slice (some ⟨w.heap.size,0,none⟩) cI hs,_,rfl,by simp,?_,rfl,?_,a5,bD⟩
 ·have cY:hs*(cw.bytes+1)<=1099511627776:=hb;have z3:hs<=1099511627776:=zaj (zeR hs (by omega)) cY;have Wn:cw.bytes*hs<=1099511627776:=by
   have:cw.bytes*hs<=hs*(cw.bytes+1):=by rw[zai];exact lp _ (by omega)
   omega
  have wl:IntKind.i64.wrap (cI:Int)=cI:=by rw[<-ki];simp only[n0];rw[wV _ _ _ (by decide)];rw[zaa]<;>omega
  have atO:IntKind.i64.wrap (hs:Int)=hs:=by rw[<-ki];simp only[n0];rw[wV _ _ _ (by decide)];rw[zaa]<;>omega
  unfold execOp;rw[ao];have zZ:¬((cw.bytes:Int)*(hs:Int)>2^48):=by
   have:((cw.bytes*hs:Nat):Int)<=1099511627776:=by omega
   rw[zam]at this;omega
  have aO:(decide ((hs:Int)<0)||decide ((cw.bytes:Int)*(hs:Int)>2^48)||decide ((cI:Int)<0)||decide ((cI:Int)>(hs:Int)))=false:=by
   simp only[Bool.or_eq_false_iff,decide_eq_false_iff_not];omega
  have lA:(Array.range (hs*cw.size)).map (z.cells[· %z.cells.size]!)=(k2 z.cells.toList hs).toArray:=by
   rw[fZ];apply Array.ext';simp[eI]
  have ka:¬(hs*cw.size=0)∨hs*cw.size=0:=by omega
  simp only[Instr.makeSlice,Sem.run_bind,Result.andThen,run_underlying hu,alf,akv,asInt,asIntOf,Sem.run_pure,typeInfo,run_program,gH,wl,atO,aO,zaU,if_false,run_askRoom,ju gH,zca];by_cases h0:hs*cw.size=0
  ·have oj:hs=0:=by rcases Nat.mul_eq_zero.1 h0 with h|h;exact h;exact absurd h cx
   subst oj;have a7:k2 z.cells.toList 0=[]:=rfl;simp[Result.andThen,newRow,a7];congr 2;apply Array.ext';simp
  ·rw[zaa h0];simp only[Sem.run_bind,u0 gH aJ,Result.andThen,Sem.run_pure,lA,newRow,run_newObj]
 ·have:=bs.gx (ι:=hM ι st.al ⟨w.heap.size,0,0,id⟩) ⟨st.al,0,none⟩ ⟨w.heap.size,0,0,id⟩ 0 cI hs dt rfl (.inl rfl);simpa using this
end
section
variable{ι:bC}{fr aK:aR}{a:Act}{aQ:Nat}{st st':ay}{w:co}{o:Oper}{v:be}{call:bO}
variable{x:bi}{xs:ac bi}
def arY{op:UnOp}{t:ce}(aa:cC X.aD x=true)(ao:o.op= .unOp op t x)(ae:cz ι fr a aQ)(hw:bx X ι st w)(h:N6 op x call fr st= .ok v aK st'):
 aK=fr∧cg X ι w v st st' (execOp a.eval o):=by
 have bS:=ae.aj hw aa;generalize cu:a.eval x=e3 at bS;unfold N6 at h;cases op with
 |neg=>
  obtain⟨k,n,hp,g⟩:=iW h (by simp);rw[h3,ki,NH]at g;rw[hp]at bS;cases bS;cases g;refine⟨rfl,cg.same (v':=.int k (k.wrap (-n))) hw ?_ (.int _ _)⟩;unfold execOp;rw[ao];simp[cu,Op.unary,Op.intArith]
 |xor=>
  obtain⟨k,n,hp,g⟩:=iW h (by simp);rw[h3]at g;rw[hp]at bS;cases bS;cases g;refine⟨rfl,cg.same (v':=.int k _) hw ?_ (.int _ _)⟩;unfold execOp;rw[ao];simp[cu,Op.unary,Op.intBits]
 |not=>
  obtain⟨b,hp,g⟩:=PM h (by simp);rw[hp]at bS;cases bS;cases g;refine⟨rfl,cg.same (v':=.bool (!b)) hw ?_ (.bool _)⟩;unfold execOp;rw[ao];simp[cu,Op.unary]
 |_=>cases h
def arM(aa:cC X.aD x=true)(ao:o.op= .nilCheck x)(ae:cz ι fr a aQ)(hw:bx X ι st w)(h:N3 x call fr st= .ok v aK st'):
 aK=fr∧cg X ι w v st st' (execOp a.eval o):=by
 have bS:=ae.aj hw aa;generalize cu:a.eval x=e3 at bS;unfold N3 at h;generalize q4:fr.aj x=j6 at h bS;cases j6 with
 |pointer p=>
  cases p with
  |none=>cases h
  |some ad=>
   have h:aX.ok (.pointer (some ad)) fr st= .ok v aK st':=h;cases h;cases bS with
   |ptr _ l hl ai=>
    refine⟨rfl,cg.same (v':=.pointer (some ⟨l.cG,l.sh+ad.off,none⟩)) hw ?_ (.ptr _ _ hl ai)⟩;unfold execOp;rw[ao];simp[cu]
 |func f dR wW=>
  cases f with
  |func g=>
   have h:aX.ok (.func (.func g) dR wW) fr st= .ok v aK st':=h;cases h;cases bS with
   |func _ gr _ av _ vs fG J U af ax=>
    rcases fG with⟨rfl,_⟩|⟨l,b,e,_⟩
    ·refine⟨rfl,cg.same (v':=.func (.func g) av vs) hw ?_ (.func _ _ _ _ _ _ (.inl ⟨rfl,by simp⟩) J U af ax)⟩;unfold execOp;rw[ao];simp[cu]
    ·cases e
  |_=>cases h
 |_=>cases h
theorem Yc(k:d7)(ae:cz ι fr a aQ)(hw:bx X ι st w):∀(xs:ac bi) (m r:Int),(∀x∈xs,cC X.aD x=true)->DS k fr xs m=some r->
 ((xs.map a.eval).foldlM Builtin.max2 (.int k m)).run X.P w= .ok (.int k r) w
 |[],m,r,_,h=>by cases h;simp
 |x::xs,m,r,bE,h=>by
  obtain⟨k',y,aF,J⟩:=iW h (by simp);obtain⟨ab,U⟩:=iv J (by simp);have fh:=sv ab;have bS:=ae.aj hw (bE x (by simp));rw[aF]at bS;generalize cu:a.eval x=e3 at bS;cases bS;have a8:=Yc k ae hw xs _ r (fun z aJ=>bE z (by simp[aJ])) U;simp only[zaR,List.foldlM_cons,Sem.run_bind,cu,Builtin.max2,Sem.run_pure,Result.andThen];have e:(if y>m then y else m)=cond (mq y m) m y:=by
   rw[sx];by_cases c:y<=m
   ·rw[zaa (by omega)];simp[c]
   ·rw[zab (by omega)];simp[c]
  rw[e];exact a8
theorem Yf(k:d7)(ae:cz ι fr a aQ)(hw:bx X ι st w):∀(xs:ac bi) (m r:Int),(∀x∈xs,cC X.aD x=true)->DT k fr xs m=some r->
 ((xs.map a.eval).foldlM Builtin.min2 (.int k m)).run X.P w= .ok (.int k r) w
 |[],m,r,_,h=>by cases h;simp
 |x::xs,m,r,bE,h=>by
  obtain⟨k',y,aF,J⟩:=iW h (by simp);obtain⟨ab,U⟩:=iv J (by simp);have fh:=sv ab;have bS:=ae.aj hw (bE x (by simp));rw[aF]at bS;generalize cu:a.eval x=e3 at bS;cases bS;have a8:=Yf k ae hw xs _ r (fun z aJ=>bE z (by simp[aJ])) U;simp only[zaR,List.foldlM_cons,Sem.run_bind,cu,Builtin.min2,Sem.run_pure,Result.andThen];have e:(if y<m then y else m)=cond (mq m y) m y:=by
   rw[sx];by_cases c:m<=y
   ·rw[zaa (by omega)];simp[c]
   ·rw[zab (by omega)];simp[c]
  rw[e];exact a8
def arL{ts:ap ce}(bE:∀y∈x::xs,cC X.aD y=true)(ao:o.op= .call {callee:=.builtin .max,args:=(x::xs).toArray,argTypes:=ts})(ae:cz ι fr a aQ)(hw:bx X ι st w)
 (h:Za x xs call fr st= .ok v aK st'):aK=fr∧cg X ι w v st st' (execOp a.eval o):=by
 obtain⟨k,n,hp,J⟩:=iW h (by simp);obtain⟨m,hm,U⟩:=fp J (by simp);rw[h3]at U;have bS:=ae.aj hw (bE x (by simp));rw[hp]at bS;generalize cu:a.eval x=e3 at bS;cases bS;cases U;have hr:=Yc k ae hw xs n m (fun y aF=>bE y (by simp[aF])) hm;refine⟨rfl,cg.same (v':=.int k m) hw ?_ (.int _ _)⟩;unfold execOp;rw[ao];simp[cu,resolve,invoke,builtin,Builtin.max_,hr,Result.andThen]
def arJ{ts:ap ce}(bE:∀y∈x::xs,cC X.aD y=true)(ao:o.op= .call {callee:=.builtin .min,args:=(x::xs).toArray,argTypes:=ts})(ae:cz ι fr a aQ)(hw:bx X ι st w)
 (h:Y8 x xs call fr st= .ok v aK st'):aK=fr∧cg X ι w v st st' (execOp a.eval o):=by
 obtain⟨k,n,hp,J⟩:=iW h (by simp);obtain⟨m,hm,U⟩:=fp J (by simp);rw[h3]at U;have bS:=ae.aj hw (bE x (by simp));rw[hp]at bS;generalize cu:a.eval x=e3 at bS;cases bS;cases U;have hr:=Yf k ae hw xs n m (fun y aF=>bE y (by simp[aF])) hm;refine⟨rfl,cg.same (v':=.int k m) hw ?_ (.int _ _)⟩;unfold execOp;rw[ao];simp[cu,resolve,invoke,builtin,Builtin.min_,hr,Result.andThen]
def oR(ae:cz ι fr a aQ)(hw:bx X ι st w){x:am bi}(aa:∀y,x=some y->cC X.aD y=true){d y:Nat}{k:Nat->aX}{r:aX}(h:e5 fr x d y k=r)(hr:aX.no≠r):
 ∃n,k n=r∧((x=none∧n=d)∨(∃z cp,x=some z∧a.eval z= .int cp (n:Int)∧n<=y)):=by
 cases x with
 |none=>exact⟨d,h,.inl ⟨rfl,rfl⟩⟩
 |some z=>
  obtain⟨cp,m,hp,J⟩:=iW (h:gj (fr.aj z) _ _=r) hr;obtain⟨n,e,U⟩:=lS J hr;obtain⟨hle,af⟩:=iB U hr;have aJ:=ae.aj hw (aa z rfl);rw[hp]at aJ;generalize rf:a.eval z=s9 at aJ;cases aJ;exact⟨n,af,.inr ⟨z,cp,rfl,by rw[rf,e],hle⟩⟩
end
def abx(P:d9)(w:co)(cp:d7)(n y:Nat)(c:BoundsCode)(h:n<=y):(Instr.sliceBound (.int cp (n:Int)) y c).run P w= .ok n w:=by
 have:(n:Int)<=(y:Int):=by omega
 simp[Instr.sliceBound,asIntOf,h]
def Fh(v:am be)(d y n:Nat):Prop:=(v=none∧n=d)∨∃cp,v=some (.int cp (n:Int))∧n<=y
def EO(P:d9)(w:co)(is:Bool)(len cap l h m:Nat)(aL hi eR:am be)(hm:Fh eR cap cap m)(hh:Fh hi len m h)(hl:Fh aL 0 h l)(aa:eR≠none->hi≠none):
 (Instr.sliceBounds is len cap aL hi eR).run P w= .ok (l,h,m) w:=by
 unfold Instr.sliceBounds;rcases hm with⟨rfl,rfl⟩|⟨au7,rfl,hm⟩
 ·clear aa;rcases hh with⟨rfl,rfl⟩|⟨am5,rfl,hh⟩<;>rcases hl with⟨rfl,rfl⟩|⟨am9,rfl,hl⟩<;>simp[abx,Result.andThen, *]
 ·rcases hh with⟨rfl,rfl⟩|⟨am5,rfl,hh⟩
  ·exact absurd rfl (aa (by simp))
  ·clear aa;rcases hl with⟨rfl,rfl⟩|⟨am9,rfl,hl⟩<;>simp[abx,Result.andThen, *]
section
variable{ι:bC}{fr aK:aR}{a:Act}{aQ:Nat}{st st':ay}{w:co}{o:Oper}{v:be}{call:bO}
variable{n:Nat}{t:ce}{x:bi}{aL hi:am bi}{d y:Nat}{eR:am bi}{cw:f6}
def oQ{x:am bi}(h:(x=none∧n=d)∨(∃z cp,x=some z∧a.eval z= .int cp (n:Int)∧n<=y)):Fh (x.map a.eval) d y n:=by
 rcases h with⟨rfl,rfl⟩|⟨z,cp,rfl,J,U⟩
 ·exact .inl ⟨rfl,rfl⟩
 ·exact .inr ⟨cp,by simp[J],U⟩
def agJ(s:f5)(l h:Nat)(_hl:l<=h)(_hh:h<=s.data.toList.length):(⟨⟨(s.data.toList.drop l).take (h-l)⟩⟩:f5)=s.extract l h:=by
 apply ByteArray.ext;rw[ByteArray.data_extract];apply Array.ext';rw[zcV,zdv]
def zq{x:am bi}(h:(x=none∧n=d)∨(∃z cp,x=some z∧a.eval z= .int cp (n:Int)∧n<=y))(aq:d<=y):n<=y:=by
 rcases h with⟨_,rfl⟩|⟨_,_,_,_,h⟩<;>omega
def arT(aa:cC X.aD x=true)(J:∀y,aL=some y->cC X.aD y=true)(U:∀y,hi=some y->cC X.aD y=true)(ao:o.op= .slice t x aL hi none)
 (hu:X.P.underlying t=some .string) (ae:cz ι fr a aQ) (hw:bx X ι st w) (h:Zf x aL hi call fr st= .ok v aK st'):aK=fr∧cg X ι w v st st' (execOp a.eval o):=by
 obtain⟨s,hp,aM⟩:=oF h (by simp);obtain⟨hn,aN,cD⟩:=oR ae hw U aM (by simp);obtain⟨cI,bf,db⟩:=oR ae hw J aN (by simp);obtain⟨hc,cb⟩:=vk bf (by simp);cases cb;rw[fo]at cD;have Wx:hn<=s.data.toList.length:=zq cD (b5 _);have lG:cI<=hn:=zq db (zaf _);have bS:=ae.aj hw aa;rw[hp]at bS;generalize cu:a.eval x=e3 at bS;cases bS;refine⟨rfl,cg.same (v':=.string (s.extract cI hn)) hw ?_ ?_⟩
 ·unfold execOp;rw[ao];have eI:s.data.toList.length=s.size:=by rw[zbl];rfl
  rw[eI]at cD;have hb:=EO X.P w false s.size s.size cI hn s.size (aL.map a.eval) (hi.map a.eval) none (.inl ⟨rfl,rfl⟩) (oQ cD) (oQ db) (by simp);simp[cu,Instr.sliceAt,Instr.slice,run_underlying hu,Result.andThen,hb]
 ·have e:=agJ s cI hn lG Wx;have:(Nat.sub hn cI)=hn-cI:=rfl;rw[this,e];exact .string _
def arR(aa:cC X.aD x=true)(J:∀y,aL=some y->cC X.aD y=true)(U:∀y,hi=some y->cC X.aD y=true)(af:∀y,eR=some y->cC X.aD y=true)
 (Dg:eR≠none->hi≠none) (ao:o.op= .slice t x aL hi eR) (hu:X.P.underlying t=some (.array n e)) (gH:X.P.info? e=some cw) (ae:cz ι fr a aQ) (hw:bx X ι st w)
 (h:A1 n cw.size x aL hi eR call fr st= .ok v aK st'):aK=fr∧cg X ι w v st st' (execOp a.eval o):=by
 obtain⟨p,hp,aM⟩:=pE h (by simp);obtain⟨ad,aw,aN⟩:=fp aM (by simp);subst aw;obtain⟨ai,cs,elem,bd,a3,aO,bf⟩:=vh aN (by simp);obtain⟨vB,cb⟩:=AH bf (by simp);obtain⟨m,cQ,km⟩:=oR ae hw af cb (by simp);obtain⟨hn,ei,cD⟩:=oR ae hw U cQ (by simp);obtain⟨cI,gn,db⟩:=oR ae hw J ei (by simp);cases gn;subst vB;obtain⟨l,hl,C,eP,hc⟩:=hw.eD _ _ aO (by simp);have bS:=ae.aj hw aa;rw[hp]at bS;generalize cu:a.eval x=e3 at bS;cases bS with
 |ptr _ l' cn eZ=>
  rw[hl]at cn;cases cn;have ie:=hc.plain rfl;refine⟨rfl,cg.same (v':=.slice (some (if m=cI then⟨l.cG,l.sh+ad.off,none⟩else Addr.add ⟨l.cG,l.sh+ad.off,none⟩ (cI*cw.size))) (hn-cI) (m-cI)) hw ?_ ?_⟩
  ·unfold execOp;rw[ao];have hb:=EO X.P w false n n cI hn m (aL.map a.eval) (hi.map a.eval) (eR.map a.eval) (oQ km) (oQ cD) (oQ db) (by simpa using Dg);simp[cu,Instr.sliceAt,Instr.sureAddr,run_underlying hu,Result.andThen,hb,ju gH]
  ·rw[o1];by_cases c:m=cI
   ·rw[zab c,zab c];have:=bs.gx (ι:=ι) ad l (l.sh+ad.off) (Nat.sub hn cI) (Nat.sub m cI) hl ai (.inl rfl);rw[ie.1]at this;exact this
   ·rw[zaa c,zaa c,add_eq];have:=bs.gx (ι:=ι) (ad.add (Nat.mul cI cw.size)) l (l.sh+(ad.add (Nat.mul cI cw.size)).off) (Nat.sub hn cI) (Nat.sub m cI) (by rw[BY];exact hl) (B0 _ _ ai) (.inl rfl);rw[ie.1,Fv,<-zbS]at this;exact this
def arS(aa:cC X.aD x=true)(J:∀y,aL=some y->cC X.aD y=true)(U:∀y,hi=some y->cC X.aD y=true)(af:∀y,eR=some y->cC X.aD y=true)
 (Dg:eR≠none->hi≠none) (ao:o.op= .slice t x aL hi eR) (hu:X.P.underlying t=some (.slice e)) (gH:X.P.info? e=some cw) (ae:cz ι fr a aQ) (hw:bx X ι st w)
 (h:Ze cw.size x aL hi eR call fr st= .ok v aK st'):aK=fr∧cg X ι w v st st' (execOp a.eval o):=by
 obtain⟨b,len,cap,hp,aM⟩:=uU h (by simp);have bS:=ae.aj hw aa;rw[hp]at bS;generalize cu:a.eval x=e3 at bS;cases b with
 |none=>
  have aM:e5 fr eR cap cap (fun m=>e5 fr hi len m fun h=>e5 fr aL 0 h fun l=>.ok (.slice none (Nat.sub h l) (Nat.sub m l)) fr st)=aX.ok v aK st':=aM;obtain⟨m,cQ,km⟩:=oR ae hw af aM (by simp);obtain⟨hn,ei,cD⟩:=oR ae hw U cQ (by simp);obtain⟨cI,gn,db⟩:=oR ae hw J ei (by simp);cases gn;cases bS;refine⟨rfl,cg.same (v':=.slice none (hn-cI) (m-cI)) hw ?_ (.nU _ _)⟩;unfold execOp;rw[ao];have hb:=EO X.P w true len cap cI hn m (aL.map a.eval) (hi.map a.eval) (eR.map a.eval) (oQ km) (oQ cD) (oQ db) (by simpa using Dg);simp[cu,Instr.sliceAt,Instr.slice,run_underlying hu,Result.andThen,hb,ju gH]
 |some ad=>
  obtain⟨ai,cs,elem,bd,a3,aO,bf⟩:=vh (aM:ay.gE st ad _ _=_) (by simp);obtain⟨l,hl,C,eP,hc⟩:=hw.eD _ _ aO (by simp);cases bS with
  |gx _ l' off _ _ cn eZ iP=>
   rw[hl]at cn;cases cn;cases a3 with
   |false=>
    have ie:=hc.plain rfl;obtain⟨m,cQ,km⟩:=oR ae hw af (bf:e5 fr eR cap cap _=_) (by simp);obtain⟨hn,ei,cD⟩:=oR ae hw U cQ (by simp);obtain⟨cI,gn,db⟩:=oR ae hw J ei (by simp);cases gn;have auL:m<=cap:=zq km (b5 _);refine⟨rfl,cg.same (v':=.slice (some (if m=cI then⟨l.cG,off,none⟩else Addr.add ⟨l.cG,off,none⟩ (cI*cw.size))) (hn-cI) (m-cI)) hw ?_ ?_⟩
    ·unfold execOp;rw[ao];have hb:=EO X.P w true len cap cI hn m (aL.map a.eval) (hi.map a.eval) (eR.map a.eval) (oQ km) (oQ cD) (oQ db) (by simpa using Dg);have hex:cap+l.ex=cap:=by rw[ie.1];rfl
     rw[hex]at cu;simp only[cu,Instr.sliceAt,Instr.slice,Sem.run_bind,run_underlying hu,Result.andThen,hb,ju gH,Sem.run_pure];by_cases c:m=cI<;>simp[c]
    ·rw[o1];by_cases c:m=cI
     ·rw[zab c,zab c];have:=bs.gx (ι:=ι) ad l off (Nat.sub hn cI) (Nat.sub m cI) hl ai (by
       rcases iP with h|⟨J,U,af⟩
       ·exact .inl h
       ·right;subst J U;have aw:Nat.sub m cI=m-cI:=rfl;have e2:Nat.sub hn cI=hn-cI:=rfl;have hh:hn<=m:=by
         rcases cD with⟨_,e⟩|⟨_,_,_,_,e⟩<;>omega
        refine⟨by omega,by omega,af⟩)
      rw[ie.1]at this;exact this
     ·rw[zaa c,zaa c,add_eq];have tQ:off=l.sh+ad.off:=by
       rcases iP with h|⟨J,U,af⟩
       ·exact h
       ·exfalso;subst J U;have hh:hn<=m:=by
         rcases cD with⟨_,e⟩|⟨_,_,_,_,e⟩<;>omega
        have lG:cI<=hn:=zq db (zaf _);omega
      subst tQ;have:=bs.gx (ι:=ι) (ad.add (Nat.mul cI cw.size)) l (l.sh+(ad.add (Nat.mul cI cw.size)).off) (Nat.sub hn cI) (Nat.sub m cI) (by rw[BY];exact hl) (B0 _ _ ai) (.inl rfl);rw[ie.1,Fv,<-zbS]at this;exact this
   |true=>
    obtain⟨alp,cb⟩:=yt (bf:bm eR (fun _=>aX.no) _=aX.ok v aK st') (fun _=>by simp);obtain⟨Ml,cQ⟩:=iB cb (by simp);obtain⟨hn,ei,cD⟩:=oR ae hw U cQ (by simp);obtain⟨cI,gn,db⟩:=oR ae hw J ei (by simp);cases gn;subst alp;have Wx:hn<=len:=zq cD (b5 _);have lG:cI<=hn:=zq db (zaf _);have adT:(hi=none∧hn=len)∨(∃z cp,hi=some z∧a.eval z= .int cp (hn:Int)∧hn<=cap+l.ex):=by
     rcases cD with h|⟨z,cp,J,U,af⟩
     ·exact .inl h
     ·exact .inr ⟨z,cp,J,U,by omega⟩
    refine⟨rfl,cg.same (v':=.slice (some (if cap+l.ex=cI then⟨l.cG,off,none⟩else Addr.add ⟨l.cG,off,none⟩ (cI*cw.size))) (hn-cI) (cap+l.ex-cI)) hw ?_ ?_⟩
    ·unfold execOp;rw[ao];have hb:=EO X.P w true len (cap+l.ex) cI hn (cap+l.ex) (aL.map a.eval) (hi.map a.eval) none (.inl ⟨rfl,rfl⟩) (oQ adT) (oQ db) (by simp);simp only[cu,Instr.sliceAt,Instr.slice,Sem.run_bind,run_underlying hu,Result.andThen,Option.map_none,hb,ju gH,Sem.run_pure];by_cases c:cap+l.ex=cI<;>simp[c]
    ·have aw:Nat.sub cap cI=cap-cI:=rfl;have e2:cap+l.ex-cI=(cap-cI)+l.ex:=by omega
     rw[e2];by_cases c:cap+l.ex=cI
     ·rw[zab c];exact bs.gx (ι:=ι) (ad.add (Nat.mul cI cw.size)) l off (Nat.sub hn cI) (Nat.sub cap cI) (by rw[BY];exact hl) (B0 _ _ ai) (.inr ⟨by show hn-cI=0;omega,by show cap-cI=0;omega,by omega⟩)
     ·rw[zaa c,add_eq];refine bs.gx (ι:=ι) (ad.add (Nat.mul cI cw.size)) l (off+cI*cw.size) (Nat.sub hn cI) (Nat.sub cap cI) (by rw[BY];exact hl) (B0 _ _ ai) ?_;rcases iP with h|⟨J,U,af⟩
      ·left;rw[Fv,h,zbS];rfl
      ·exfalso;omega
end
variable{mw:bH}
def bx.kill(h:bx X ι st w){id:Nat}(h₀:st.h.get id=some mw):bx X ι ⟨st.h.set id .dead,st.al⟩ w:=by
 have om:id<st.al:=by
  rcases zao id st.al with c|c
  ·exact c
  ·rw[(h.fresh id c).2]at h₀;cases h₀
 refine⟨fun j p hp aq=> ?_,fun i j p q l m hi hB hj hN=> ?_,fun j hj=> ?_,h.gP,h.me,h.p2,fun j l p hl ai hp aq=> ?_⟩
 ·rw[ar.eo]at hp;split at hp
  ·cases hp;exact absurd rfl aq
  ·exact h.eD j p hp aq
 ·rw[ar.eo]at hi hj;split at hi
  ·cases hi;exact absurd rfl hB
  ·split at hj
   ·cases hj;exact absurd rfl hN
   ·exact h.inj i j p q l m hi hB hj hN
 ·have lE:st.al<=j:=hj;refine⟨(h.fresh j lE).1,?_⟩;rw[ar.eo,zaa (by omega)];exact(h.fresh j lE).2
 ·rw[ar.eo]at hp;split at hp
  ·cases hp;exact absurd rfl aq
  ·exact h.my j l p hl ai hp aq
def bx.aqg(h:bx X ι st w){id:Nat}{l':Loc}(h₀:st.h.get id=some mw)(tI:mw≠.dead)(Mu:¬mw.vv)(eZ:l'.ca≠ix)(hl:ι id=some l)(o:bH)(cY:l'.cG=l.cG)(O:Obj)
 (w':co) (hw:w'.heap=w.heap.setIfInBounds l.cG O) (hm:∀aU:bC,ι.le aU->w'.heap[l'.cG]? =some O->jl X aU w' o l') (gJ:rY w w':=by exact⟨rfl,rfl⟩):
 ∃aU,bx X aU ⟨(st.h.set id .dead).set st.al o,st.al+1⟩ w'∧fv ι aU w w'∧aU st.al=some l':=by
 have hb:=h.gP id l hl;have k9:l.ca≠ix:=fun e=>Mu (h.my id l mw hl e h₀ tI);have om:id<st.al:=by
  rcases zao id st.al with c|c
  ·exact c
  ·rw[(h.fresh id c).2]at h₀;cases h₀
 have hle:ι.le (fun i=>if i=st.al then some l' else ι i):=by
  intro i m lH;show(if i=st.al then _ else ι i)=_;rw[zaa];exact lH;intro e;subst e;rw[(h.fresh _ (b5 _)).1]at lH;cases lH
 refine⟨fun i=>if i=st.al then some l' else ι i,⟨fun j p hp aq=> ?_,fun i j p q ue HK hi hB hj hN gS h2 aO e=> ?_,fun j hj=> ?_,fun j ue lF=> ?_,fun g aO=>hle _ _ (h.me g aO),zdt h.p2,fun j ue p lF ai hp aq=> ?_⟩,⟨hle,by rw[hw];simp,fun b _ hi=> ?_,fun j ue lF=> ?_,gJ⟩,zab rfl⟩
 ·rw[ar.eo]at hp;by_cases e:j=st.al
  ·rw[zab e]at hp;cases hp;exact⟨l',by simp[e],hm _ hle (by rw[hw,cY];simp[hb])⟩
  ·rw[zaa e,ar.eo]at hp;split at hp
   ·cases hp;exact absurd rfl aq
   ·rename_i ne;obtain⟨m,lH,ao⟩:=h.eD j p hp aq;refine⟨m,hle _ _ lH,jl.mono X ao hle ?_⟩;have cx:m.cG≠l.cG:=fun o0=>ne (h.inj j id p mw m l hp aq h₀ tI lH hl (.inr k9) o0);rw[hw,zbH (Ne.symm cx)]
 ·have key:∀j p m,((st.h.set id .dead).set st.al o).get j=some p->p≠.dead->(if j=st.al then some l' else ι j)=some m->
   (j=st.al∧m=l')∨(j≠st.al∧j≠id∧st.h.get j=some p∧ι j=some m):=by
   intro j p m hj aq lH;rw[ar.eo]at hj;by_cases c:j=st.al
   ·rw[zab c]at lH;cases lH;exact .inl ⟨c,rfl⟩
   ·rw[zaa c,ar.eo]at hj;rw[zaa c]at lH;split at hj
    ·cases hj;exact absurd rfl aq
    ·rename_i ne;exact .inr ⟨c,ne,hj,lH⟩
  rcases key i p ue hi hB gS with⟨aw,rfl⟩|⟨iS,gI,aM,aN⟩<;>rcases key j q HK hj hN h2 with⟨e2,rfl⟩|⟨fc,hQ,f1,f2⟩
  ·rw[aw,e2]
  ·exact absurd (h.inj j id q mw HK l f1 hN h₀ tI f2 hl (.inr k9) (by omega)) hQ
  ·exact absurd (h.inj i id p mw ue l aM hB h₀ tI aN hl (.inr k9) (by omega)) gI
  ·exact h.inj i j p q ue HK aM hB f1 hN aN f2 aO e
 ·have lE:st.al+1<=j:=hj;have:=h.fresh j (by omega);refine⟨?_,?_⟩
  ·show(if j=st.al then _ else ι j)=_;rw[zaa (by omega)];exact this.1
  ·rw[ar.eo,zaa (by omega),ar.eo,zaa (by omega)];exact this.2
 ·rw[hw];simp only[Array.size_setIfInBounds];by_cases e:j=st.al
  ·simp only[zab e]at lF;cases lF;omega
  ·simp only[zaa e]at lF;exact h.gP j ue lF
 ·rw[ar.eo]at hp;by_cases e:j=st.al
  ·simp only[zab e]at lF;cases lF;exact absurd ai eZ
  ·rw[zaa e,ar.eo]at hp;simp only[zaa e]at lF;split at hp
   ·cases hp;exact absurd rfl aq
   ·exact h.my j ue p lF ai hp aq
 ·rw[hw,zbH (hi id l hl k9)]
 ·by_cases e:j=st.al
  ·simp only[zab e]at lF;cases lF;exact .inr (.inr ⟨id,l,hl,k9,cY.symm⟩)
  ·simp only[zaa e]at lF;exact .inl lF
theorem V5(n B:Nat)(bb:n+(n+768)/4<=B):∀r c,c<=B->Builtin.growBy n r c<=B
 |0,c,h=>h
 |r+1,c,h=>by
  unfold Builtin.growBy;split
  ·exact h
  ·rename_i hc;exact V5 n B bb r _ (by omega)
def aoa(n c:Nat)(h:c<n):Builtin.nextslicecap n c<=n+n/4+448:=by
 unfold Builtin.nextslicecap;split
 ·omega
 ·split
  ·omega
  ·exact V5 n _ (by omega) 4 c (by omega)
def P3(z:ap be)(n:Nat):(Builtin.zeroCells z n).size=n*z.size:=by simp[Builtin.zeroCells]
def bx.H8{cs':ac be}(hw:bx X ι st w)(elem:ce)(aI:bM ι cs cs')(rest:ac be)(ex:Nat)(hr:ex*X.P.cellsOf elem<=rest.length)(bd:Nat×Nat)
 (p6:∀i,i<cs.length+rest.length->¬(bd.1<=i∧i<bd.2)) (w':co) (hh:w'.heap=w.heap.push (.cells (cs'++rest).toArray elem bd)) (gJ:rY w w':=by exact⟨rfl,rfl⟩):
 ∃aU,bx X aU ⟨st.h.set st.al (.cells cs elem (0,0) true),st.al+1⟩ w'∧fv ι aU w w'∧aU st.al=some ⟨w.heap.size,0,ex,id⟩∧aU=hM ι st.al ⟨w.heap.size,0,ex,id⟩:=by
 refine bx.alloc X hw _ _ ex (fun aU jj hle _ aV=> ?_) w' hh gJ;refine⟨(cs'++rest).toArray,bd,⟨aV,by simp[aI.1];omega,fun i hi=> ?_,fun _ j _ hj=> ?_,fun h=>by cases h⟩⟩
 ·have dX:i<cs'.length:=by rw[<-aI.1];exact hi
  refine⟨cs'[i],?_,(aI.2 i hi dX).mono hle⟩;simp[zbc dX,dX]
 ·refine p6 j ?_;have:0+cs.length+ex*X.P.cellsOf elem<=cs.length+rest.length:=by omega
  exact fy hj this
structure Src(P:d9)(w:co)(x:be)(n size:Nat)(new:ac be):Prop where
 len:(Builtin.lenOf x).run P w= .ok n w
 cells:∀tape drawn,(Builtin.firstCells size n x).run P {w with tape:=tape,drawn:=drawn}= .ok new.toArray {w with tape:=tape,drawn:=drawn}
section
variable{P:d9}{w:co}{ln kC elem:ce}{d:TypeDesc}{i:f6}{x:be}{n len cap:Nat}{new:ac be}
def Jr{base:am Addr}(hu:P.underlying ln=some (.slice elem))(aa:P.underlying kC=some d)(aq:∀k,d≠.int k)(hi:P.info? elem=some i)(ai:Src P w x n i.size new)(hn:len+n<=cap)(ty:ce)(w':co)
 (e0:∀a,base=some a->(storeCells (a.add (len*i.size)) new).run P w= .ok () w') (gb:base=none->w'=w):
 (Builtin.append_ #[ln,kC] ty #[.slice base len cap,x]).run P w= .ok (.slice base (len+n) cap) w':=by
 have Am:(d matches .int _)=false:=by cases d<;>first|rfl|(exact absurd rfl (aq _))
 have hc:=ai.cells w.tape w.drawn;simp only[Builtin.append_,zcB,zcC,zec,Sem.run_bind,run_underlying hu,Result.andThen,ju hi,run_underlying aa,Sem.run_pure,zaU,if_false,ai.len,hn,if_true,zed];rw[hc];cases base with
 |none=>simp only[Sem.run_pure];rw[gb rfl]
 |some a=>
  simp only[Result.andThen,Sem.run_bind,Sem.run_pure];rw[e0 a rfl]
def Pd{base:am Addr}{z:be}{old:ac be}(hu:P.underlying ln=some (.slice elem))(aa:P.underlying kC=some d)(aq:∀k,d≠.int k)(hi:P.info? elem=some i)(aJ:i.zero=some z)(ai:Src P w x n i.size new)
 (hn:cap<len+n) (hb:(5*(len+n)+1792)*(i.bytes+1)<=1125899906842624) (ty:ce)
 (hold:∀tape drawn,(Builtin.firstCells i.size len (.slice base len cap)).run P {w with tape:=tape,drawn:=drawn}= .ok old.toArray {w with tape:=tape,drawn:=drawn}):
 ∃dF w',len+n<=dF∧(Builtin.append_ #[ln,kC] ty #[.slice base len cap,x]).run P w= .ok (.slice (some ⟨w.heap.size,0,none⟩) (len+n) dF) w'∧
  w'.heap=w.heap.push (.cells (old++new++(Builtin.zeroCells z.cells (dF-(len+n))).toList).toArray elem)∧rY w w':=by
 have Am:(d matches .int _)=false:=by cases d<;>first|rfl|(exact absurd rfl (aq _))
 have L5:=aoa (len+n) cap hn;have hmul:Builtin.nextslicecap (len+n) cap*i.bytes<=281474976710656:=by
  have J:4*Builtin.nextslicecap (len+n) cap*i.bytes<=(5*(len+n)+1792)*i.bytes:=fq _ (by omega);have U:(5*(len+n)+1792)*i.bytes<=(5*(len+n)+1792)*(i.bytes+1):=lp _ (by omega);rw[zat]at J;omega
 have auQ:len+n<=1125899906842624:=by
  have:5*(len+n)+1792<=(5*(len+n)+1792)*(i.bytes+1):=zeR _ (by omega);omega
 have alk:¬(((len+n:Nat):Int)>IntKind.i64.max∧((false=true)∨i.bytes=0)):=by
  have:IntKind.i64.max=9223372036854775807:=by decide
  rw[this];omega
 have akq:¬(Builtin.nextslicecap (len+n) cap*i.bytes>2^48):=by omega
 let q:Question:=.appendCap (len+n) cap elem
 refine⟨q.cut (w.tape w.drawn q),{w with drawn:=w.drawn+1,heap:=w.heap.push (.cells (old++new++(Builtin.zeroCells z.cells (q.cut (w.tape w.drawn q)-(len+n))).toList).toArray elem)},?_,?_,rfl,⟨rfl,rfl⟩⟩
 ·show len+n<=(len+n)+_;omega
 ·have hc:=ai.cells w.tape (w.drawn+1);have ao:=hold w.tape (w.drawn+1);have Hu:=u0 (P:=P) hi aJ {w with drawn:=w.drawn+1};simp only[Builtin.append_,zcB,zcC,zec,Sem.run_bind,run_underlying hu,Result.andThen,ju hi,run_underlying aa,Sem.run_pure,zaU,if_false,ai.len,typeInfo,zed];rw[zaa (by omega)];simp only[Sem.run_bind,Sem.run_pure,run_program,Result.andThen,hi];rw[zaa (by simpa using alk)];simp only[Sem.run_bind,Sem.run_pure,run_program,Result.andThen,hi];rw[zaa akq];simp only[Sem.run_bind,Sem.run_pure,run_program,Result.andThen,hi,run_choose,Question.forced,zaU,if_false,run_askRoom,if_true];rw[ao];simp only[];rw[hc];simp only[Result.andThen,Sem.run_bind,Hu,Sem.run_pure,newRow,run_newObj];simp[q];congr 2;apply Array.ext';simp
end
section
variable{ι:bC}{fr aK:aR}{a:Act}{aQ:Nat}{st st':ay}{w:co}{o:Oper}{v:be}{call:bO}
def agG{ln kC:ce}{s x:bi}{v':be}{w':co}(ao:o.op= .call {callee:=.builtin .append,args:= #[s,x],argTypes:= #[ln,kC]})
 (hr:(Builtin.append_ #[ln,kC] o.type #[a.eval s,a.eval x]).run X.P w= .ok v' w'):(execOp a.eval o).run X.P w= .ok (.value v') w':=by
 unfold execOp;rw[ao];simp only[resolve,zcq,zaR,zbY,Sem.run_bind,Sem.run_pure,Result.andThen,invoke,builtin,hr]
def JC{ln kC:ce}{d:TypeDesc}{i:f6}{z:be}{s x:bi}{base:am Addr}{len cap n:Nat}{new new':ac be}
 (ao:o.op= .call {callee:=.builtin .append,args:= #[s,x],argTypes:= #[ln,kC]}) (hu:X.P.underlying ln=some (.slice elem)) (aa:X.P.underlying kC=some d) (aq:∀k,d≠.int k) (hi:X.P.info? elem=some i) (aJ:i.zero=some z)
 (re:z.cells.size=i.size) (hw:bx X ι st w) (tT:bs ι (.slice base len cap) (a.eval s)) (xX:Src X.P w (a.eval x) n i.size new') (sg:bM ι new new') (qa:new.length=n*i.size) (bE:gZ new=true)
 (h:iK fr st elem i.size i.bytes base len cap n new= .ok v aK st'):aK=fr∧jA X ι w v st' (execOp a.eval o):=by
 obtain⟨hb,g⟩:=iB h (by simp);have cY:(5*(len+n)+1792)*(i.bytes+1)<=1125899906842624:=hb;have lA:X.P.cellsOf elem=i.size:=by simp[Program.cellsOf,hi]
 have Da:new'.length=n*i.size:=by rw[<-sg.1];exact qa
 generalize al2:a.eval s=asM at tT;have kb:= @agG X a w o ln kC s x;rw[al2]at kb;cases base with
 |none=>
  obtain⟨z7,aM⟩:=k3 (g:dV len 0 _ _=_) (by simp);obtain⟨oj,aN⟩:=k3 aM (by simp);subst z7 oj;cases tT;rw[o1]at aN;split at aN
  ·rename_i ka;subst ka;cases aN;refine⟨rfl,jA.same (v':=.slice none 0 0) hw ?_ (.nU _ _)⟩;exact kb ao (Jr hu aa aq hi xX (by omega) o.type w (fun a h=>by cases h) (fun _=>rfl))
  ·rename_i ka;rw[gw]at aN;cases aN;obtain⟨dF,w',kv,hr,hh,gJ⟩:=Pd (base:=none) (len:=0) (cap:=0) (old:=[]) hu aa aq hi aJ xX (by omega) cY o.type (fun _ _=>rfl);obtain⟨aU,a5,bD,dt,_⟩:=hw.H8 elem sg (Builtin.zeroCells z.cells (dF-(0+n))).toList (dF-(0+n)) (by
    rw[zbl,P3,re,lA];exact b5 _) (0,0) (fun i _=>by simp) w' (by rw[hh];simp) gJ
   refine⟨rfl,aU,.value _,w',kb ao hr,.inl ⟨_,rfl,?_⟩,a5,bD⟩;have:=bs.gx (ι:=aU) ⟨st.al,0,none⟩ ⟨w.heap.size,0,dF-(0+n),id⟩ 0 (0+n) (0+n) dt rfl (.inl rfl);rw[show 0+n+(dF-(0+n))=dF by omega]at this;exact this
 |some ad=>
  obtain⟨ai,cs,el,bd,a3,aO,aM⟩:=vh (g:ay.gE st ad _ _=_) (by simp);obtain⟨p6,aN⟩:=iB aM (by simp);obtain⟨Ml,bf⟩:=iB aN (by simp);obtain⟨Dn,cb⟩:=iB bf (by simp);obtain⟨xH,cQ⟩:=k3 cb (by simp);rw[fo]at Dn;have auU:ad.off+cap*i.size<=cs.length:=Dn;subst xH;obtain⟨l,hl,C,eP,hc⟩:=hw.eD _ _ aO (by simp);have qd:=hc.room;rw[lA]at qd;cases tT with
  |gx _ l' off _ _ cn eZ iP=>
   rw[hl]at cn;cases cn;have hmul:len*i.size<=cap*i.size:=fq _ Ml;rw[o1]at cQ;split at cQ
   ·rename_i ka;subst ka;cases cQ;have Dh:new'=[]:=by
     have:new'.length=0:=by rw[Da];simp
     exact zbz this
    refine⟨rfl,jA.same (v':=.slice (some ⟨l.cG,off,none⟩) (len+0) (cap+l.ex)) hw ?_ (.gx _ _ _ _ _ hl ai iP)⟩;refine kb ao (Jr hu aa aq hi xX (by omega) o.type w (fun a h=> ?_) (fun h=>by cases h));rw[Dh];rfl
   ·rename_i ka;have hold:∀tape drawn,(Builtin.firstCells i.size len (.slice (some ⟨l.cG,off,none⟩) len (cap+l.ex))).run X.P {w with tape:=tape,drawn:=drawn}= .ok ((C.toList.drop off).take (len*i.size)).toArray {w with tape:=tape,drawn:=drawn}:=by
     intro tape drawn;simp only[Builtin.firstCells];rcases iP with h|⟨J,_,_⟩
     ·exact EJ (by exact hc.there) (by rw[h];omega)
     ·subst J;simp[loadCells,loadCellsFrom]
    have tP:∀(a5:len+n<=cap+l.ex),off=l.sh+ad.off:=by
     intro a5;rcases iP with h|⟨J,U,af⟩
     ·exact h
     ·omega
    have jL:bM ι ((cs.drop ad.off).take (len*i.size)) ((C.toList.drop off).take (len*i.size)):=by
     rcases iP with h|⟨J,_,_⟩
     ·rw[h];exact hc.row ad.off (len*i.size) (by simp;omega)
     ·subst J;simpa using bM.nil ι
    cases a3 with
    |true=>
     obtain⟨p5,ei⟩:=vk (cQ:iw cs ad.off _ _ _=_) (by simp);rw[jT,gw,qM]at ei;cases ei;by_cases nC:len+n<=cap+l.ex
     ·have tQ:=tP nC;subst tQ;have Hd:n*i.size+len*i.size<=(cap+l.ex)*i.size:=by rw[<-zan];exact fq _ (by omega)
      rw[zan]at Hd;obtain⟨w',hr,hh,gJ⟩:=Pe (P:=X.P) (o:=l.sh+ad.off+len*i.size) new' 0 C w hc.there (by omega) (NV sg bE) (fun j J U=>hc.y3 p6 j (by omega) (by rw[lA];omega));simp only[zaJ]at hh;have MJ:=kb ao (Jr (base:=some ⟨l.cG,l.sh+ad.off,none⟩) hu aa aq hi xX nC o.type w' (fun a h=>by cases h;rw[add_eq];exact hr) (fun h=>by cases h));obtain⟨aU,a5,bD,dt⟩:=bx.aqg (X:=X) hw aO (by simp) (fun ae=>by cases ae.1) MU hl (.cells ((cs.drop ad.off).take (len*i.size)++new) el (0,0) true) (l':=⟨l.cG,l.sh+ad.off,cap+l.ex-(len+n),id⟩) rfl _ w' hh (fun aU hle aV=>by
       have V9:(C.toList.take (l.sh+ad.off+len*i.size)++(new'++C.toList.drop (l.sh+ad.off+len*i.size+new'.length))).length=C.size:=by simp;omega
       have gT:((cs.drop ad.off).take (len*i.size)).length=len*i.size:=by simp;omega
       have Ws:(cap+l.ex-(len+n))*i.size=(cap*i.size+l.ex*i.size)-(len*i.size+n*i.size):=by rw[Nat.sub_mul,zan,zan]
       refine⟨_,eP,⟨aV,?_,fun j hj=> ?_,fun _ j J U=> ?_,fun h=>by cases h⟩⟩
       ·rw[List.size_toArray,V9,lA,zaL,gT,qa];simp only;rw[Ws];omega
       ·simp only[zcB];rw[zaL,gT,qa]at hj;rw[Pt C.toList new' (l.sh+ad.off+len*i.size) (l.sh+ad.off+j) (by simp;omega)];by_cases c:j<len*i.size
        ·rw[zab (by omega)];obtain⟨FW,aw,e2⟩:=hc.cell (ad.off+j) (by omega);refine⟨FW,by rw[<-aw];simp[zbS],?_⟩;rw[zee (by omega)];simp only[List.getElem_take,zdZ];exact e2.mono hle
        ·rw[zaa (by omega),zab (by omega)];rw[show l.sh+ad.off+j-(l.sh+ad.off+len*i.size)=j-len*i.size by omega];rw[bV (by omega)];refine⟨_,rfl,?_⟩;rw[zef (by omega)];simp only[gT];exact(sg.2 _ (by omega) (by omega)).mono hle
       ·refine hc.y3 p6 j ?_ ?_
        ·simp only at J;omega
        ·rw[lA]at U⊢;rw[zaL,gT,qa]at U;simp only at U;rw[Ws]at U;omega) gJ
      refine⟨rfl,aU,.value _,w',MJ,.inl ⟨_,rfl,?_⟩,a5,bD⟩;have:=bs.gx (ι:=aU) ⟨st.al,0,none⟩ ⟨l.cG,l.sh+ad.off,cap+l.ex-(len+n),id⟩ (l.sh+ad.off) (len+n) (len+n) dt rfl (.inl rfl);rw[show len+n+(cap+l.ex-(len+n))=cap+l.ex by omega]at this;exact this
     ·obtain⟨dF,w',kv,hr,hh,gJ⟩:=Pd (base:=some ⟨l.cG,off,none⟩) (len:=len) (cap:=cap+l.ex) hu aa aq hi aJ xX (by omega) cY o.type hold;have ab:=hw.kill aO;obtain⟨aU,a5,bD,dt,_⟩:=ab.H8 el (jL.append sg) (Builtin.zeroCells z.cells (dF-(len+n))).toList (dF-(len+n)) (by
       rw[zbl,P3,re,lA];exact b5 _) (0,0) (fun i _=>by simp) w' (by rw[hh]) gJ
      refine⟨rfl,aU,.value _,w',kb ao hr,.inl ⟨_,rfl,?_⟩,a5,bD⟩;have:=bs.gx (ι:=aU) ⟨st.al,0,none⟩ ⟨w.heap.size,0,dF-(len+n),id⟩ 0 (len+n) (len+n) dt rfl (.inl rfl);rw[show len+n+(dF-(len+n))=dF by omega]at this;exact this
    |false=>
     have ie:=hc.plain rfl;have Wt:cap+l.ex=cap:=by rw[ie.1];rfl
     rw[Wt]at kb hold tP;have cQ:ed (len+n) cap (qv cs (Nat.add ad.off (Nat.mul len i.size)) new (fun cs'=>st.g3 ad.block (.cells cs' el bd false) fun st=>aX.ok (.slice (some ad) (len+n) cap) fr st) .no)
      (iw cs ad.off (Nat.mul len i.size) (fun old=>st.iT (.cells (gC old new) el (0,0) true) fun id st=>.ok (.slice (some ⟨id,0,none⟩) (len+n) (len+n)) fr st) .no)=aX.ok v aK st':=cQ
     rw[qi]at cQ;split at cQ
     ·rename_i nC;have tQ:=tP nC;subst tQ;have Hd:n*i.size+len*i.size<=cap*i.size:=by rw[<-zan];exact fq _ (by omega)
      have Mm:ad.off+len*i.size+new.length<=cs.length:=by rw[qa];omega
      have ei:st.g3 ad.block (.cells (cs.take (ad.off+len*i.size)++(new++cs.drop (ad.off+len*i.size+new.length))) el bd false) (fun st=>aX.ok (.slice (some ad) (len+n) cap) fr st)=aX.ok v aK st':=by
       rcases Oq cQ (by simp)with⟨_,ei⟩|⟨he,ei⟩
       ·exact ei
       ·rw[he];simp;exact ei
      rw[jT]at ei;cases ei;obtain⟨w',hr,a5,bD⟩:=hw.store aO hl p6 Mm sg bE;have MJ:=kb ao (Jr (base:=some ⟨l.cG,l.sh+ad.off,none⟩) hu aa aq hi xX nC o.type w' (fun a h=>by cases h;rw[add_eq,zbS];exact hr) (fun h=>by cases h));refine⟨rfl,ι,.value _,w',MJ,.inl ⟨_,rfl,?_⟩,a5,bD⟩;have:=bs.gx (ι:=ι) ad l (l.sh+ad.off) (len+n) cap hl ai (.inl rfl);rw[Wt]at this;exact this
     ·rename_i nC;obtain⟨p5,ei⟩:=vk cQ (by simp);rw[gw,qM]at ei;cases ei;obtain⟨dF,w',kv,hr,hh,gJ⟩:=Pd (base:=some ⟨l.cG,off,none⟩) (len:=len) (cap:=cap) hu aa aq hi aJ xX (by omega) cY o.type hold;obtain⟨aU,a5,bD,dt,_⟩:=hw.H8 el (jL.append sg) (Builtin.zeroCells z.cells (dF-(len+n))).toList (dF-(len+n)) (by
       rw[zbl,P3,re,lA];exact b5 _) (0,0) (fun i _=>by simp) w' (by rw[hh]) gJ
      refine⟨rfl,aU,.value _,w',kb ao hr,.inl ⟨_,rfl,?_⟩,a5,bD⟩;have:=bs.gx (ι:=aU) ⟨st.al,0,none⟩ ⟨w.heap.size,0,dF-(len+n),id⟩ 0 (len+n) (len+n) dt rfl (.inl rfl);rw[show len+n+(dF-(len+n))=dF by omega]at this;exact this
end
theorem E0:∀bU:ac bv,kZ bU=bU.map fun b=>Value.int .u8 (b.toNat:Int)
 |[]=>rfl
 |b::bU=>by show _::kZ bU=_;rw[E0 bU];rfl
theorem acp:∀bU:ac bv,gZ (kZ bU)=true
 |[]=>rfl
 |_::bU=>acp bU
theorem PF(ι:bC):∀bU:ac bv,bM ι (kZ bU) (kZ bU)
 |[]=>bM.nil ι
 |_::bU=>bM.cons (.int _ _) (PF ι bU)
theorem K0:∀{vs:ac be} {bU:ac bv},bytesOf vs=some bU->∃bt:ac Int,vs=bt.map (Value.int .u8)∧bU=bt.map (fun n=>UInt8.ofNat n.toNat)
 |[],bU,h=>by cases h;exact⟨[],rfl,rfl⟩
 |v::vs,bU,h=>by
  obtain⟨k,n,e,aM⟩:=iW (h:gj v _ _=_) (by simp);obtain⟨ab,aN⟩:=iv aM (by simp);obtain⟨r,hr,bf⟩:=fp aN (by simp);cases bf;obtain⟨bt,aw,e2⟩:=K0 (vs:=vs) hr;have:=sv ab;subst this;exact⟨n::bt,by simp[e,aw],by simp[e2]⟩
section
variable{ι:bC}{fr aK:aR}{a:Act}{aQ:Nat}{st st':ay}{w:co}{o:Oper}{v:be}{call:bO}
def ar8(P:d9)(w:co)(s:f5)(size:Nat):Src P w (.string s) s.data.toList.length size (kZ s.data.toList):=by
 have eI:s.size=s.data.toList.length:=(zbl (xs:=s.data)).symm;refine⟨by rw[<-eI];rfl,fun tape drawn=> ?_⟩;simp only[Builtin.firstCells,Sem.run_pure];congr 1;apply Array.ext';have:(s.extract 0 s.data.toList.length).data=s.data:=by
  rw[ByteArray.data_extract];apply Array.ext';rw[zcV,zdv,zap,Nat.sub_zero,zcb]
 rw[this,E0];simp
def aq3{ln kC:ce}{d:TypeDesc}{i:f6}{z:be}{s x:bi}(ai:cC X.aD s=true)(bS:cC X.aD x=true)(ao:o.op= .call {callee:=.builtin .append,args:= #[s,x],argTypes:= #[ln,kC]})
 (hu:X.P.underlying ln=some (.slice elem)) (aa:X.P.underlying kC=some d) (aq:∀k,d≠.int k) (hi:X.P.info? elem=some i) (aJ:i.zero=some z) (re:z.cells.size=i.size)
 (ae:cz ι fr a aQ) (hw:bx X ι st w) (h:YT elem i.size i.bytes s x call fr st= .ok v aK st'):aK=fr∧jA X ι w v st' (execOp a.eval o):=by
 obtain⟨base,len,cap,tT,g⟩:=uU h (by simp);have rb:=ae.aj hw ai;rw[tT]at rb;have cV:=ae.aj hw bS;generalize cu:fr.aj x=e3 at g cV;cases e3 with
 |slice b n c=>
  cases b with
  |none=>
   obtain⟨ka,aN⟩:=k3 (g:dV n 0 (iK fr st elem i.size i.bytes base len cap 0 []) _=aX.ok v aK st') (by simp);subst ka;generalize ks:a.eval x=th at cV;cases cV;refine JC (n:=0) (new:=[]) (new':=[]) ao hu aa aq hi aJ re hw rb ?_ (bM.nil ι) (by simp) rfl aN;rw[ks];exact⟨rfl,fun _ _=>rfl⟩
  |some b=>
   obtain⟨Wm,cs,el,bd,a3,aO,hn,aN⟩:=As (g:ay.load st b _ _ _=_) (by simp);obtain⟨bE,bf⟩:=iv aN (by simp);obtain⟨l,hl,C,eP,hc⟩:=hw.eD _ _ aO (by simp);generalize ks:a.eval x=th at cV;cases cV with
   |gx _ l' off _ _ cn eZ iP=>
    rw[hl]at cn;cases cn;have jI:n*i.size<=(cs.drop b.off).length:=hn;have qd:=hc.room;rw[zaH]at jI;refine JC (n:=n) (new:=(cs.drop b.off).take (n*i.size)) (new':=(C.toList.drop off).take (n*i.size)) ao hu aa aq hi aJ re hw rb ?_ ?_ ?_ bE bf
    ·rw[ks];refine⟨rfl,fun tape drawn=> ?_⟩;simp only[Builtin.firstCells];rcases iP with h|⟨J,_,_⟩
     ·by_cases h0:n*i.size=0
      ·rw[h0];simp[loadCells,loadCellsFrom]
      ·exact EJ (by exact hc.there) (by rw[h];omega)
     ·subst J;simp[loadCells,loadCellsFrom]
    ·rcases iP with h|⟨J,_,_⟩
     ·rw[h];exact hc.row b.off (n*i.size) hn
     ·subst J;simpa using bM.nil ι
    ·simp;omega
 |string gy=>
  obtain⟨k8,aN⟩:=k3 (g:dV i.size 1 (iK fr st elem i.size i.bytes base len cap (dk gy.data.toList) (kZ gy.data.toList)) _=aX.ok v aK st') (by simp);rw[fo]at aN;generalize ks:a.eval x=th at cV;cases cV;refine JC (n:=gy.data.toList.length) (new:=kZ gy.data.toList) (new':=kZ gy.data.toList) ao hu aa aq hi aJ re hw rb ?_ (PF ι _) ?_ (acp _) aN
  ·rw[ks];exact ar8 X.P w gy i.size
  ·rw[E0,zbA,k8,zaE]
 |chan p=>
  cases p with
  |none=>
   have aw:∀(k:am Addr->Nat->Nat->aX) (z:aX),hD (.chan none) k z=z:=fun _ _=>rfl;have e2:∀a z:aX,s3 (.chan none) a z=a:=fun _ _=>rfl;simp only[aw,e2]at g;have aN:=g;generalize ks:a.eval x=th at cV;cases cV;refine JC (n:=0) (new:=[]) (new':=[]) ao hu aa aq hi aJ re hw rb ?_ (bM.nil ι) (by simp) rfl aN;rw[ks];refine⟨rfl,fun tape drawn=> ?_⟩;simp only[Builtin.firstCells];rw[show 0*i.size=0 from zas _];simp[loadCells,loadCellsFrom]
  |some _=>exact absurd g (by simp[hD,hE,s3])
 |_=>exact absurd g (by simp[hD,hE,s3])
end
section
variable{ι:bC}{fr aK:aR}{a:Act}{aQ:Nat}{st st':ay}{w:co}{o:Oper}{v:be}{call:bO}
def arh{ln kC:ce}{i:f6}{d s:bi}(aq:cC X.aD d=true)(ai:cC X.aD s=true)(ao:o.op= .call {callee:=.builtin .copy,args:= #[d,s],argTypes:= #[ln,kC]})
 (hu:X.P.underlying ln=some (.slice elem)) (hi:X.P.info? elem=some i) (ae:cz ι fr a aQ) (hw:bx X ι st w) (h:YW i.size d s call fr st= .ok v aK st'):
 aK=fr∧jA X ι w v st' (execOp a.eval o):=by
 obtain⟨pT,dl,afz,akF,aM⟩:=uU h (by simp);obtain⟨aqC,bj,ll,tT,aN⟩:=uU aM (by simp);have C2:=ae.aj hw aq;rw[akF]at C2;have rb:=ae.aj hw ai;rw[tT]at rb;have aa:∀{v':be} {w':co},(Builtin.copy_ #[ln,kC] o.type #[a.eval d,a.eval s]).run X.P w= .ok v' w'->(execOp a.eval o).run X.P w= .ok (.value v') w':=by
  intro v' w' hr;unfold execOp;rw[ao];simp only[resolve,zcq,zaR,zbY,Sem.run_bind,Sem.run_pure,Result.andThen,invoke,builtin,hr]
 generalize o8:a.eval d=aul at C2 aa;generalize sl:a.eval s=asM at rb aa;cases pT with
 |none=>
  obtain⟨h0,bf⟩:=k3 (aN:dV dl 0 _ _=_) (by simp);subst h0;cases bf;cases C2;refine⟨rfl,jA.same (v':=.int .i64 0) hw (aa ?_) (.int _ _)⟩;cases rb<;>simp[Builtin.copy_,run_underlying hu,Result.andThen,Builtin.lenOf,ju hi,Builtin.firstCells,loadCells,loadCellsFrom,goInt]
 |some ad=>
  cases aqC with
  |none=>
   obtain⟨h0,bf⟩:=k3 (aN:dV bj 0 _ _=_) (by simp);subst h0;cases bf;cases rb;refine⟨rfl,jA.same (v':=.int .i64 0) hw (aa ?_) (.int _ _)⟩;cases C2;simp[Builtin.copy_,run_underlying hu,Result.andThen,Builtin.lenOf,ju hi,Builtin.firstCells,goInt,Nat.min_def,storeCells]
  |some EK=>
   have bf:st.load EK (Nat.mul (ed bj dl bj dl) i.size) (fun vs=>cond (gZ vs) (st.store ad vs (fun st=>aX.ok (.int .i64 (.ofNat (ed bj dl bj dl))) fr st) .no) .no) .no=aX.ok v aK st':=aN;rw[show ed bj dl bj dl=Nat.min bj dl by rw[qi];show _=min bj dl;rw[Nat.min_def]]at bf;rw[show Nat.mul (Nat.min bj dl) i.size=Nat.min bj dl*i.size from rfl]at bf;obtain⟨auY,cs,el,bd,a3,aO,hn,cb⟩:=As bf (by simp);obtain⟨bE,cQ⟩:=iv cb (by simp);obtain⟨ga,auj,aum,Gv,aup,se,ak0,ei⟩:=abK cQ (by simp);obtain⟨l,hl,C,eP,hc⟩:=hw.eD _ _ aO (by simp);obtain⟨g1,p8,Ha⟩:=hw.eD _ _ se (by simp);have jI:Nat.min bj dl*i.size<=(cs.drop EK.off).length:=hn;have qd:=hc.room;rw[zaH]at jI;cases rb with
   |gx _ l' off _ _ cn eZ iP=>
    rw[hl]at cn;cases cn;cases C2 with
    |gx _ au9 NU _ _ WJ auW alz=>
     rw[p8]at WJ;cases WJ;have Mr:bj=0∨dl=0->Nat.min bj dl=0:=by
      intro hh;show min bj dl=0;omega
     have jL:bM ι ((cs.drop EK.off).take (Nat.min bj dl*i.size)) ((C.toList.drop off).take (Nat.min bj dl*i.size)):=by
      rcases iP with h|⟨J,_,_⟩
      ·rw[h];exact hc.row EK.off _ hn
      ·rw[Mr (.inl J)];simpa using bM.nil ι
     have akP:(Builtin.firstCells i.size (Nat.min bj dl) (.slice (some ⟨l.cG,off,none⟩) bj (ll+l.ex))).run X.P w= .ok ((C.toList.drop off).take (Nat.min bj dl*i.size)).toArray w:=by
      simp only[Builtin.firstCells];rcases iP with h|⟨J,_,_⟩
      ·by_cases h0:Nat.min bj dl*i.size=0
       ·rw[h0];simp[loadCells,loadCellsFrom]
       ·exact EJ hc.there (by rw[h];omega)
      ·rw[Mr (.inl J)];simp[loadCells,loadCellsFrom]
     have fQ:∀w',(storeCells ⟨g1.cG,NU,none⟩ ((C.toList.drop off).take (Nat.min bj dl*i.size))).run X.P w= .ok () w'->
      (Builtin.copy_ #[ln,kC] o.type #[.slice (some ⟨g1.cG,NU,none⟩) dl (afz+g1.ex),.slice (some ⟨l.cG,off,none⟩) bj (ll+l.ex)]).run X.P w= .ok (.int .i64 (Nat.min bj dl:Nat)) w':=by
      intro w' hr;simp only[Builtin.copy_,zcB,zcC,zec,Sem.run_bind,run_underlying hu,Result.andThen,ju hi,Builtin.lenOf,Sem.run_pure];rw[akP];simp only[];simp only[hr,goInt]
     rcases ei with⟨hle,gn⟩|⟨he,gn⟩
     ·cases gn;by_cases aJ:(cs.drop EK.off).take (Nat.min bj dl*i.size)=[]
      ·have pe:(C.toList.drop off).take (Nat.min bj dl*i.size)=[]:=by
        have:=jL.1;rw[aJ]at this;exact zbz this.symm
       refine⟨rfl,ι,.value _,w,aa (fQ w (by rw[pe];rfl)),.inl ⟨_,rfl,.int _ _⟩,?_,.refl ι w⟩;have:=hw.Pj se;rw[aJ];simpa using this
      ·have alA:NU=g1.sh+ad.off:=by
        rcases alz with h|⟨J,_,_⟩
        ·exact h
        ·exfalso;apply aJ;rw[Mr (.inr J)];simp
       subst alA;obtain⟨w',hr,a5,bD⟩:=hw.store se p8 ak0 hle jL bE;exact⟨rfl,ι,.value _,w',aa (fQ w' hr),.inl ⟨_,rfl,.int _ _⟩,a5,bD⟩
     ·cases gn;have pe:(C.toList.drop off).take (Nat.min bj dl*i.size)=[]:=by
       have:=jL.1;rw[he]at this;exact zbz this.symm
      exact⟨rfl,ι,.value _,w,aa (fQ w (by rw[pe];rfl)),.inl ⟨_,rfl,.int _ _⟩,hw.Pj se,.refl ι w⟩
theorem Zy(P:d9)(w:co)(f:be->f5->Sem (ForInStep f5))(ae:∀n s,f (.int .u8 n) s=pure (.yield (s.push (UInt8.ofNat n.toNat)))):∀(bt:ac Int) (s:f5),
 (forIn (bt.map (Value.int .u8)).toArray s f:Sem f5).run P w= .ok ⟨⟨s.data.toList++bt.map (fun n=>UInt8.ofNat n.toNat)⟩⟩ w
 |[],s=>by simp
 |n::bt,s=>by
  simp only[zaR,List.forIn_toArray,List.forIn_cons,Sem.run_bind,ae,Sem.run_pure,Result.andThen];have:=Zy P w f ae bt (s.push (UInt8.ofNat n.toNat));simp only[List.forIn_toArray]at this;rw[this];congr 1;simp[ByteArray.data_push]
def ara{rL rO:ce}{x:bi}(aa:cC X.aD x=true)(ao:o.op= .convert rL rO x)(ai:X.P.underlying rL=some (.slice e))(aV:X.P.underlying rO=some .string)(he:X.P.underlying e=some (.int .u8))
 (ae:cz ι fr a aQ) (hw:bx X ι st w) (h:Ih x call fr st= .ok v aK st'):aK=fr∧cg X ι w v st st' (execOp a.eval o):=by
 obtain⟨b,n,c,hp,aM⟩:=uU h (by simp);have cV:=ae.aj hw aa;rw[hp]at cV;generalize cu:a.eval x=e3 at cV;cases b with
 |none=>
  cases aM;cases cV;refine⟨rfl,cg.same (v':=.string .empty) hw ?_ (.string _)⟩;unfold execOp;rw[ao];simp[cu,convert,run_underlying ai,run_underlying aV,run_underlying he,Result.andThen,Conv.bytesToString]
 |some b=>
  obtain⟨Wm,cs,el,bd,a3,aO,hn,aN⟩:=As (aM:ay.load st b _ _ _=_) (by simp);obtain⟨bU,hb,bf⟩:=fp aN (by simp);cases bf;obtain⟨l,hl,C,eP,hc⟩:=hw.eD _ _ aO (by simp);have qd:=hc.room;obtain⟨bt,aw,e2⟩:=K0 hb;cases cV with
  |gx _ l' off _ _ cn eZ iP=>
   rw[hl]at cn;cases cn;have jL:bM ι ((cs.drop b.off).take n) ((C.toList.drop off).take n):=by
    rcases iP with h|⟨J,_,_⟩
    ·rw[h];exact hc.row b.off _ hn
    ·subst J;simpa using bM.nil ι
   have eN:(C.toList.drop off).take n=bt.map (Value.int .u8):=by
    rw[aw]at jL;have key:∀(bt:ac Int) (av:ac be),bM ι (bt.map (Value.int .u8)) av->av=bt.map (Value.int .u8):=by
     intro bt
     induction bt with
     |nil=>intro av aF;rw[aF.wb];rfl
     |cons m ms a8=>
      intro av aF;obtain⟨y,iZ,rfl,J,U⟩:=aF.cons_inv;cases J;rw[a8 iZ U];rfl
    exact key bt _ jL
   have z8:(loadCells ⟨l.cG,off,none⟩ n).run X.P w= .ok (bt.map (Value.int .u8)).toArray w:=by
    rw[<-eN];rcases iP with h|⟨J,_,_⟩
    ·by_cases h0:n=0
     ·subst h0;simp[loadCells,loadCellsFrom]
     ·rw[zaH]at hn;exact EJ hc.there (by rw[h];omega)
    ·subst J;simp[loadCells,loadCellsFrom]
   refine⟨rfl,cg.same (v':=.string ⟨⟨bU⟩⟩) hw ?_ (.string _)⟩;unfold execOp;rw[ao];simp only[cu,convert,Sem.run_bind,run_underlying ai,run_underlying aV,run_underlying he,Result.andThen,Conv.bytesToString,z8];rw[Zy X.P w _ (fun _ _=>rfl) bt ByteArray.empty];simp[e2]
end
def XO(P:d9)(e:ce)(count off n:Nat)(ai:P.cellsOf e≠0)(h0:off%P.cellsOf e=0)(hn:off/P.cellsOf e+n<=count):liesAt P P.depth e count off e n=true:=by
 have aq:P.depth=(2*(P.types.size+Made.depth)+1)+1:=rfl;rw[aq];have Hk:sameLayout P (2*(P.types.size+Made.depth)+1+1) e e=true:=by simp[sameLayout]
 have hr:rowAt P (sameLayout P P.depth · e) P.depth e count off n=true:=by
  rw[aq];simp only[rowAt];rw[zaa ai];simp[h0,hn,Hk]
 simp only[liesAt];rw[hr];rfl
theorem Xi(c:bv):∀(l:ac bv),qf c l=(List.range l.length).find? (fun i=>l[i]! ==c)
 |[]=>rfl
 |b::bU=>by
  show cond (Nat.beq b.toNat c.toNat) (some 0) (bm (qf c bU) (fun i=>some (Nat.succ i)) none)=_;rw[zaD,zeg,zeh];by_cases hb:b=c
  ·subst hb;simp
  ·have J:Nat.beq b.toNat c.toNat=false:=by
    rw[zbR];intro hh;exact hb (zcD.1 (eL hh))
   have U:((b::bU)[0]! ==c)=false:=by simpa using hb
   rw[J,U,List.find?_map,Xi c bU];show bm _ _ _=_;have:((fun i=>(b::bU)[i]! ==c)∘Nat.succ)=(fun i=>bU[i]! ==c):=by
    funext i;simp
   rw[this];cases(List.range bU.length).find? (fun i=>bU[i]! ==c)<;>rfl
section
variable{ι:bC}{fr aK:aR}{a:Act}{aQ:Nat}{st st':ay}{w:co}{o:Oper}{v:be}{call:bO}
variable{x:bi}{f:ci}{t rL rO:ce}{i:f6}
def CF{args:ap bi}{ts:ap ce}(ao:o.op= .call {callee:=.value (.func f),args:=args,argTypes:=ts}):
 (execOp a.eval o).run X.P w=(callFunc f (args.map a.eval)).run X.P w:=by
 unfold execOp;rw[ao];simp[resolve,Act.eval,Deferred.ofValue,invoke]
def arO{ts:ap ce}(aa:cC X.aD x=true)(eU:X.jN f=true)(ao:o.op= .call {callee:=.value (.func f),args:= #[x],argTypes:=ts})(ae:cz ι fr a aQ)(hw:bx X ι st w)
 (h:Zb x call fr st= .ok v aK st'):aK=fr∧cg X ι w v st st' (execOp a.eval o):=by
 cases h;refine⟨rfl,cg.same (v':=a.eval x) hw ?_ (ae.aj hw aa)⟩;rw[CF ao];simpa using X.D0 f eU (a.eval x) w
def arv{y:bi}{ts:ap ce}(aa:cC X.aD x=true)(aF:cC X.aD y=true)(eU:X.kc f=true)(ao:o.op= .call {callee:=.value (.func f),args:= #[x,y],argTypes:=ts})(ae:cz ι fr a aQ)(hw:bx X ι st w)
 (h:Ik x y call fr st= .ok v aK st'):aK=fr∧cg X ι w v st st' (execOp a.eval o):=by
 obtain⟨s,ai,aM⟩:=oF h (by simp);obtain⟨k,oU,hc,aN⟩:=iW aM (by simp);obtain⟨ab,bf⟩:=iv aN (by simp);obtain⟨c,aw,cb⟩:=lS bf (by simp);have fh:=sv ab;clear h aM aN bf;subst aw fh;have cV:=ae.aj hw aa;rw[ai]at cV;generalize cu:a.eval x=e3 at cV;have fm:=ae.aj hw aF;rw[hc]at fm;generalize fR:a.eval y=qF at fm;cases cV;cases fm;obtain⟨e2,bW,e6⟩:=ux cb;subst e2 bW e6;refine⟨rfl,cg.same (v':=.int .i64 (bm (qf (UInt8.ofNat c) s.data.toList) (fun i=>.ofNat i) (.negSucc 0))) hw ?_ (.int _ _)⟩;rw[CF ao];have:=X.DB f eU s (c:Int) w;simp only[zcq,zaR,zbY,cu,fR];rw[this];congr 2;have eI:s.size=s.data.toList.length:=(zbl (xs:=s.data)).symm;rw[Xi,eI];have akZ:(fun i:Nat=>s[i]! ==(c:Int).toNat.toUInt8)=(fun i:Nat=>s.data.toList[i]! ==UInt8.ofNat c):=by
  funext i;have:s[i]! =s.data.toList[i]! :=by
   have aw:s[i]! =s.data[i]! :=by
    by_cases hi:i<s.size
    ·rw[getElem!_pos s i hi,getElem!_pos s.data i hi];rfl
    ·rw[getElem!_neg s i hi,getElem!_neg s.data i hi]
   rw[aw];simp[Array.getElem!_eq_getD]
  rw[this];rfl
 rw[akZ];cases(List.range s.data.toList.length).find? (fun i=>s.data.toList[i]! ==UInt8.ofNat c)<;>rfl
def aqF(ts:ap ce)(t:ce)(n c:Nat):Builtin.unsafeSliceData_ ts t #[.slice none n c]=pure (.pointer none):=rfl
def aqG(ts:ap ce)(t:ce)(b:Addr)(n c:Nat)(hc:c≠0):Builtin.unsafeSliceData_ ts t #[.slice (some b) n c]=pure (.pointer (some b)):=by
 have:Builtin.unsafeSliceData_ ts t #[.slice (some b) n c]=(if c≠0 then pure (.pointer (some b))else do
  if(<-viewAt b.block).isSome then pure (.pointer (some b))
  else pure (.pointer (some ⟨<-newObj (.view b (<-elemOf t)),0,none⟩))):=rfl
 rw[this,zab hc]
def arQ(aa:cC X.aD x=true)(ao:o.op= .call {callee:=.builtin .unsafeSliceData,args:= #[x],argTypes:= #[t]})(ae:cz ι fr a aQ)(hw:bx X ι st w)
 (h:Ip x call fr st= .ok v aK st'):aK=fr∧cg X ι w v st st' (execOp a.eval o):=by
 obtain⟨b,n,c,hp,aM⟩:=uU h (by simp);have cV:=ae.aj hw aa;rw[hp]at cV;generalize cu:a.eval x=e3 at cV;cases b with
 |none=>
  cases aM;cases cV;refine⟨rfl,cg.same (v':=.pointer none) hw ?_ .nQ⟩;unfold execOp;rw[ao];simp[resolve,invoke,builtin,aqF,cu]
 |some b=>
  have aN:dV c 0 aX.no (aX.ok (.pointer (some b)) fr st)=aX.ok v aK st':=aM;rw[o1]at aN;split at aN
  ·cases aN
  ·rename_i oj;cases aN;cases cV with
   |gx _ l off _ _ hl ai iP=>
    have tQ:off=l.sh+b.off:=by rcases iP with h|⟨_,h,_⟩;exact h;exact absurd h oj
    subst tQ;refine⟨rfl,cg.same (v':=.pointer (some ⟨l.cG,l.sh+b.off,none⟩)) hw ?_ (.ptr _ _ hl ai)⟩;unfold execOp;rw[ao];simp[resolve,invoke,builtin,aqG _ _ _ _ (c+l.ex) (by omega),cu]
def Jy{C:ap be}(h:w.heap[b]? =some (.cells C e bd)):w.shape? b=some (e,C.size):=by simp[World.shape?,h]
def aba(P:d9){ad:Addr}{C:ap be}(h:w.heap[ad.block]? =some (.cells C e bd)):(Conv.seenAt ad).run P w= .ok ad w:=by
 simp[Conv.seenAt,viewAt,Jy h,Result.andThen]
def arf(aa:cC X.aD x=true)(ao:o.op= .convert rL rO x)(ai:X.P.underlying rL=some (.pointer t))(aV:X.P.underlying rO=some .unsafePointer)(hi:X.P.info? t=some i)(aJ:i.size≠0)
 (ae:cz ι fr a aQ) (hw:bx X ι st w) (h:Ii x call fr st= .ok v aK st'):aK=fr∧cg X ι w v st st' (execOp a.eval o):=by
 obtain⟨p,hp,aM⟩:=pE h (by simp);obtain⟨ad,aw,aN⟩:=fp aM (by simp);subst aw;obtain⟨vO,cs,elem,bd,a3,aO,bf⟩:=vh aN (by simp);obtain⟨a4,cb⟩:=iB bf (by simp);rw[fo]at a4;cases cb;obtain⟨l,hl,C,eP,hc⟩:=hw.eD _ _ aO (by simp);have qd:=hc.room;have cV:=ae.aj hw aa;rw[hp]at cV;generalize cu:a.eval x=e3 at cV;cases cV with
 |ptr _ l' cn eZ=>
  rw[hl]at cn;cases cn;refine⟨rfl,cg.same (v':=.pointer (some ⟨l.cG,l.sh+ad.off,none⟩)) hw ?_ (.ptr _ _ hl vO)⟩;unfold execOp;rw[ao];have Mv:¬(C.size<=l.sh+ad.off):=by omega
  simp[cu,convert,run_underlying ai,run_underlying aV,Result.andThen,Conv.unsafePointer,aba X.P (ad:=⟨l.cG,l.sh+ad.off,none⟩) hc.there,cellsIn,Jy hc.there,ju hi,aJ,Mv]
def arj(aa:cC X.aD x=true)(ao:o.op= .convert rL rO x)(ai:X.P.underlying rL=some .unsafePointer)(aV:X.P.underlying rO=some (.pointer t))(hi:X.P.info? t=some i)(aJ:i.size≠0)
 (ae:cz ι fr a aQ) (hw:bx X ι st w) (h:Ij t i.size x call fr st= .ok v aK st'):aK=fr∧cg X ι w v st st' (execOp a.eval o):=by
 obtain⟨p,hp,aM⟩:=pE h (by simp);obtain⟨ad,aw,aN⟩:=fp aM (by simp);subst aw;obtain⟨vO,cs,elem,bd,a3,aO,bf⟩:=vh aN (by simp);obtain⟨vB,cb⟩:=AH bf (by simp);obtain⟨h0,cQ⟩:=k3 cb (by simp);obtain⟨xH,ei⟩:=k3 cQ (by simp);obtain⟨q7,gn⟩:=k3 ei (by simp);rw[fo]at q7;cases gn;subst vB xH;obtain⟨l,hl,C,eP,hc⟩:=hw.eD _ _ aO (by simp);have ie:=hc.plain rfl;have cV:=ae.aj hw aa;rw[hp]at cV;generalize cu:a.eval x=e3 at cV;cases cV with
 |ptr _ l' cn eZ=>
  rw[hl]at cn;cases cn;have lA:X.P.cellsOf elem=i.size:=by simp[Program.cellsOf,hi]
  have iP:l.sh+ad.off=0:=by omega
  have MP:(variablesAt ⟨l.cG,l.sh+ad.off,none⟩ elem 1).run X.P w= .ok true w:=by
   simp only[variablesAt,Sem.run_bind,run_program,Result.andThen,run_shape,Jy hc.there,Sem.run_pure];rw[XO X.P elem _ _ 1 (by rw[lA];exact aJ) (by rw[iP];simp) (by
    rw[iP,lA,ie.2.2,q7];simp[Nat.div_self (zaV aJ)])]
  refine⟨rfl,cg.same (v':=.pointer (some ⟨l.cG,l.sh+ad.off,none⟩)) hw ?_ (.ptr _ _ hl vO)⟩;unfold execOp;rw[ao];simp[cu,convert,run_underlying ai,run_underlying aV,Result.andThen,Conv.unsafePointer,aba X.P (ad:=⟨l.cG,l.sh+ad.off,none⟩) hc.there,ju hi,aJ,MP]
end
section
variable{ι:bC}{fr aK:aR}{a:Act}{aQ:Nat}{st st':ay}{w:co}{o:Oper}{v:be}{call:bO}
variable{x:bi}{i:f6}
def ari{rL rO:ce}(aa:cC X.aD x=true)(ao:o.op= .convert rL rO x)(ai:X.P.underlying rL=some .string)(aV:X.P.underlying rO=some (.slice e))(he:X.P.underlying e=some (.int .u8))
 (hi:X.P.info? e=some i) (aJ:i.size=1) (ae:cz ι fr a aQ) (hw:bx X ι st w) (h:A0 e x call fr st= .ok v aK st'):aK=fr∧te X ι w v st st' (execOp a.eval o):=by
 obtain⟨s,hp,aM⟩:=oF h (by simp);obtain⟨hle,aN⟩:=iB aM (by simp);rw[gw]at aN;simp only[fo]at hle aN;cases aN;have cV:=ae.aj hw aa;rw[hp]at cV;generalize cu:a.eval x=e3 at cV;cases cV;have eI:s.size=s.data.toList.length:=(zbl (xs:=s.data)).symm
 let q:Question:=.appendCap s.size 0 e
 have L5:s.size<=q.cut (w.tape w.drawn q):=by show s.size<=s.size+_;omega
 let C:ap be:=(s.data.map fun b=>Value.int .u8 b.toNat)++Array.replicate (q.cut (w.tape w.drawn q)-s.size) (.int .u8 0)
 have V9:C.size=q.cut (w.tape w.drawn q):=by
  simp only[C,Array.size_append,Array.size_map,Array.size_replicate];have:s.data.size=s.size:=rfl;omega
 have lA:X.P.cellsOf e=1:=by simp[Program.cellsOf,hi,aJ]
 let w':co:={w with drawn:=w.drawn+1,heap:=w.heap.push (.cells C e (C.size,C.size+1))}
 have fQ:(execOp a.eval o).run X.P w= .ok (.value (.slice (some ⟨w.heap.size,0,none⟩) s.size (q.cut (w.tape w.drawn q)))) w':=by
  unfold execOp;rw[ao];have alo:(markStringish ⟨w.heap.size,0,none⟩).run X.P {w with drawn:=w.drawn+1,heap:=w.heap.push (.cells C e)}= .ok () w':=by
   simp[markStringish,World.shape?,World.freeze,Result.andThen,w'];apply zdu;intro j;rw[zeb];by_cases hj:w.heap.size=j
   ·subst hj;simp
   ·rw[zaa hj,zcT,zcT,zaa (Ne.symm hj),zaa (Ne.symm hj)]
  simp only[cu,convert,Sem.run_bind,run_underlying ai,run_underlying aV,Result.andThen,run_underlying he,Conv.stringToBytes,run_choose,Question.forced,zaU,if_false,newRow,run_newObj,Sem.run_pure];rw[alo]
 obtain⟨aU,a5,bD,dt,nJ⟩:=hw.H8 e (cs:=kZ s.data.toList) (cs':=kZ s.data.toList) (PF ι _) (List.replicate (q.cut (w.tape w.drawn q)-s.size) (.int .u8 0)) (q.cut (w.tape w.drawn q)-s.size) (by
  rw[lA];simp) (C.size,C.size+1) (fun j hj=>by
   rw[E0]at hj;simp only[zbA,zcc]at hj;simp only;omega) w' (by
   show w.heap.push (.cells C e (C.size,C.size+1))=_;congr 2;apply Array.ext';rw[E0];simp[C])
 rw[nJ]at a5 bD dt;refine⟨rfl,_,_,_,_,w',rfl,by simp,fQ,rfl,?_,a5,bD⟩;have:=bs.gx (ι:=hM ι st.al ⟨w.heap.size,0,q.cut (w.tape w.drawn q)-s.size,id⟩) ⟨st.al,0,none⟩ ⟨w.heap.size,0,q.cut (w.tape w.drawn q)-s.size,id⟩ 0 s.data.toList.length s.data.toList.length dt rfl (.inl rfl);rw[<-eI]at this⊢;rw[show s.size+(q.cut (w.tape w.drawn q)-s.size)=q.cut (w.tape w.drawn q) by omega]at this;exact this
theorem XP(P:d9)(w:co)(b:Nat)(C:ap be)(e:ce)(bd:Nat×Nat)(h:w.heap[b]? =some (.cells C e bd)):∀(bt:ac Int) (o:Nat) (acc:f5),(C.toList.drop o).take bt.length=bt.map (Value.int .u8)->
 (loadBytes ⟨b,o,none⟩ acc bt.length).run P w= .ok ⟨⟨acc.data.toList++bt.map (fun n=>UInt8.ofNat n.toNat)⟩⟩ w
 |[],o,acc,_=>by simp[loadBytes]
 |n::bt,o,acc,hc=>by
  have j9:C[o]? =some (.int .u8 n):=by
   have:=congrArg (fun l=>l[0]?) hc;simpa using this
  have a4:o<C.toList.length:=by
   have:=(zbk.1 j9).1;simpa using this
  have x0:(C.toList.drop (o+1)).take bt.length=bt.map (Value.int .u8):=by
   rw[hk a4]at hc;simp only[zaD,List.take_succ_cons,zaR]at hc;exact(List.cons.inj hc).2
  simp only[zaD,loadBytes,Sem.run_bind,run_load,cell_of h,j9,Result.andThen,add_eq];rw[XP P w b C e bd h bt (o+1) _ x0];congr 1;simp[ByteArray.data_push,Nat.toUInt8]
def arZ{y:bi}{Ec t2:ce}(aa:cC X.aD x=true)(aF:cC X.aD y=true)(ao:o.op= .call {callee:=.builtin .unsafeString,args:= #[x,y],argTypes:= #[Ec,t2]})(k6:X.P.underlying Ec=some (.pointer e))
 (hi:X.P.info? e=some i) (aJ:i.size=1) (ae:cz ι fr a aQ) (hw:bx X ι st w) (h:Iq e x y call fr st= .ok v aK st'):aK=fr∧jA X ι w v st' (execOp a.eval o):=by
 obtain⟨p,hp,aM⟩:=pE h (by simp);obtain⟨k,sB,hn,aN⟩:=iW aM (by simp);obtain⟨n,aw,bf⟩:=lS aN (by simp);clear h aM aN;subst aw;have cV:=ae.aj hw aa;rw[hp]at cV;generalize cu:a.eval x=e3 at cV;have fm:=ae.aj hw aF;rw[hn]at fm;generalize fR:a.eval y=qF at fm;cases fm;have lA:X.P.cellsOf e=1:=by simp[Program.cellsOf,hi,aJ]
 have tW:∀{v':be} {w':co},(Builtin.unsafeString_ #[Ec,t2] o.type #[a.eval x,a.eval y]).run X.P w= .ok v' w'->(execOp a.eval o).run X.P w= .ok (.value v') w':=by
  intro v' w' hr;unfold execOp;rw[ao];simp only[resolve,zcq,zaR,zbY,Sem.run_bind,Sem.run_pure,Result.andThen,invoke,builtin,hr]
 rw[cu,fR]at tW;have Hc:¬((n:Int)<0):=by omega
 have MO:∀p:am Addr,∃(fc:String) (hQ:RuntimeError) (yd:Unsupported) (v5:RuntimeError) (v7:Unsupported),Builtin.unsafeString_ #[Ec,t2] o.type #[.pointer p,.int k (n:Int)]=(do
  let r<-asInt (.int k (n:Int))
  let some e:=(#[Ec,t2]:ap ce)[0]? |stuck fc
  if r<0 then runtimePanic hQ
  if r>IntKind.i64.max then unsupported yd
  match p with
  |none=>if r=0 then pure (.string .empty)else runtimePanic v5
  |some q=>if r=0 then pure (.string .empty)else if<-variablesAt q (<-elemOf e) r.toNat then do let s<-loadBytes q .empty r.toNat;freeze q r.toNat;pure (.string s)else unsupported v7):=fun p=>⟨default,_,_,_,_,rfl⟩
 rw[o1]at bf;split at bf
 ·rename_i h0;subst h0;cases bf;have Dg:¬(((0:Nat):Int)>IntKind.i64.max):=by decide
  cases cV with
  |nQ=>
   refine⟨rfl,jA.same (v':=.string .empty) hw (tW ?_) (.string _)⟩;obtain⟨fc,hQ,yd,v5,v7,hu⟩:=MO _;rw[hu];simp[asInt,asIntOf]
  |ptr ad l hl ai=>
   refine⟨rfl,jA.same (v':=.string .empty) hw (tW ?_) (.string _)⟩;obtain⟨fc,hQ,yd,v5,v7,hu⟩:=MO _;rw[hu];simp[asInt,asIntOf]
 ·rename_i h0;obtain⟨ad,aw,cb⟩:=fp bf (by simp);subst aw;obtain⟨WK,cQ⟩:=iB cb (by simp);obtain⟨vO,cs,el,bd,a3,aO,ei⟩:=vh cQ (by simp);obtain⟨p6,gn⟩:=iB ei (by simp);obtain⟨xH,od⟩:=k3 gn (by simp);obtain⟨hlen,r9⟩:=vk od (by simp);obtain⟨bU,hb,vw⟩:=fp r9 (by simp);rw[jT]at vw;cases vw;clear bf cb cQ ei gn od r9;subst xH;obtain⟨l,hl,C,eP,hc⟩:=hw.eD _ _ aO (by simp);have qd:=hc.room;obtain⟨bt,aw,e2⟩:=K0 hb;have auJ:n<=1099511627776:=WK;rw[zaH]at hlen;cases cV with
  |ptr _ l' cn eZ=>
   rw[hl]at cn;cases cn;have jL:=hc.row ad.off n (by rw[zaH];exact hlen);have eN:(C.toList.drop (l.sh+ad.off)).take n=bt.map (Value.int .u8):=by
    rw[aw]at jL;have key:∀(bt:ac Int) (av:ac be),bM ι (bt.map (Value.int .u8)) av->av=bt.map (Value.int .u8):=by
     intro bt
     induction bt with
     |nil=>intro av aF;rw[aF.wb];rfl
     |cons m ms a8=>
      intro av aF;obtain⟨y,iZ,rfl,J,U⟩:=aF.cons_inv;cases J;rw[a8 iZ U];rfl
    exact key bt _ jL
   have qa:bt.length=n:=by
    have:=congrArg List.length aw;simp at this;omega
   have z8:=XP X.P w l.cG C el eP hc.there bt (l.sh+ad.off) .empty (by rw[qa];exact eN);rw[qa]at z8;have MP:(variablesAt ⟨l.cG,l.sh+ad.off,none⟩ el n).run X.P w= .ok true w:=by
    simp only[variablesAt,Sem.run_bind,run_program,Result.andThen,run_shape,Jy hc.there,Sem.run_pure];rw[XO X.P el _ _ n (by rw[lA];omega) (by rw[lA];omega) (by rw[lA];simp;omega)]
   have cY:=(zbk.1 hc.there).1
   let Gv:Nat×Nat:=if eP.1==eP.2 then(l.sh+ad.off,l.sh+ad.off+n)else(min eP.1 (l.sh+ad.off),max eP.2 (l.sh+ad.off+n))
   have GY:(w.freeze ⟨l.cG,l.sh+ad.off,none⟩ n).heap=w.heap.setIfInBounds l.cG (.cells C el Gv):=by
    simp only[World.freeze,zaa h0];apply zdu;intro j;rw[zeb];by_cases jm:l.cG=j
    ·subst jm;rw[zab rfl,hc.there,zea];simp[cY,Gv]
    ·rw[zaa jm,zbH jm]
   obtain⟨t1,t2⟩:=bx.uS X hw aO (by simp) (fun ae=>by have:=ae.2;omega) hl (.cells cs el (ad.off,Nat.add ad.off n) a3) _ (w.freeze ⟨l.cG,l.sh+ad.off,none⟩ n) GY (fun _ aV=>⟨C,Gv,⟨aV,hc.room,hc.cell,fun eg=>by
    exfalso;have:ad.off+n<=ad.off:=eg;omega,hc.plain⟩⟩) (by constructor<;>simp only[World.freeze,zaa h0])
   refine⟨rfl,ι,.value (.string ⟨⟨bU⟩⟩),_,tW ?_,.inl ⟨_,rfl,.string _⟩,t1,t2⟩;obtain⟨fc,hQ,yd,v5,v7,hu⟩:=MO _;rw[hu];have af:¬((n:Int)>IntKind.i64.max):=by
    have:IntKind.i64.max=9223372036854775807:=by decide
    rw[this];omega
   have ax:¬((n:Int)=0):=by omega
   simp only[asInt,asIntOf,Sem.run_bind,Sem.run_pure,Result.andThen,zcB,zcC,zaa Hc,zaa af,zaa ax,elemOf,run_underlying k6,MP,zca,if_true,z8,run_freeze];rw[e2];simp
end
section
variable{ι:bC}{fr aK:aR}{a:Act}{aQ:Nat}{st st':ay}{w:co}{o:Oper}{v:be}{call:bO}
variable{t:ce}{x y ez mM:be}
def vT:bi->Bool
 |.const _=>true
 |_=>false
def agH{neg:Bool}{y7:ce}{x y:bi}{b:Bool}(ao:o.op= .binOp (if neg then .neq else .eql) t x y y7)
 (aO:(eqGuard (if neg then .neq else .eql) t x y (a.eval x) (a.eval y)).run X.P w= .ok () w)
 (hb:∀op:BinOp,op= .eql∨op= .neq->binOp op t (a.eval x) (a.eval y)=(if op= .eql then do pure (.bool (<-Op.equal t (a.eval x) (a.eval y)))else do pure (.bool (!(<-Op.equal t (a.eval x) (a.eval y))))))
 (he:(Op.equal t (a.eval x) (a.eval y)).run X.P w= .ok b w):(execOp a.eval o).run X.P w= .ok (.value (.bool (cond neg (!b) b))) w:=by
 unfold execOp;rw[ao];simp only[Sem.run_bind,aO,Result.andThen];cases neg
 ·simp only[zaU,if_false];rw[hb .eql (.inl rfl),zab rfl];simp[he,Result.andThen]
 ·simp only[if_true];rw[hb .neq (.inr rfl),zaa (by simp)];simp[he,Result.andThen]
def agn(hu:P.underlying t=some .bool)(d:Nat)(x y:Bool):(Op.equalIn (d+1) t (.bool x) (.bool y)).run P w= .ok (x==y) w:=by
 simp[Op.equalIn,run_underlying hu,Result.andThen]
def agr{b:Bool}(n:Nat)(aa:bs ι x ez)(aF:bs ι y mM)(h:o2 x y=some b)(hu:X.P.underlying t=some (.slice e)):
 (Op.equalIn (n+1) t ez mM).run X.P w= .ok b w:=by
 unfold o2 at h;split at h
 ·cases h;cases aa;cases aF<;>simp[Op.equalIn,run_underlying hu,Result.andThen]
 ·cases h;cases aa;cases aF;simp[Op.equalIn,run_underlying hu,Result.andThen]
 ·cases h;cases aa;cases aF;simp[Op.equalIn,run_underlying hu,Result.andThen]
 ·cases h
def agq{b:Bool}{k:ce}(n:Nat)(aa:bs ι x ez)(aF:bs ι y mM)(h:CB x y=some b)(hu:X.P.underlying t=some (.map k e)):
 (Op.equalIn (n+1) t ez mM).run X.P w= .ok b w:=by
 unfold CB at h;split at h
 ·cases h;cases aa;cases aF<;>simp[Op.equalIn,run_underlying hu,Result.andThen]
 ·cases h;cases aa;cases aF;simp[Op.equalIn,run_underlying hu,Result.andThen]
 ·cases h
def ago{b:Bool}{p q:ap ce}{r:Bool}(n:Nat)(aa:bs ι x ez)(aF:bs ι y mM)(h:zM x y=some b)(hu:X.P.underlying t=some (.func p q r)):
 (Op.equalIn (n+1) t ez mM).run X.P w= .ok b w:=by
 unfold zM at h;split at h
 ·cases h;cases aa;cases aF;simp[Op.equalIn,run_underlying hu,Result.andThen]
 ·cases h;cases aa;cases aF;simp[Op.equalIn,run_underlying hu,Result.andThen]
 ·cases h;cases aa;cases aF;simp[Op.equalIn,run_underlying hu,Result.andThen]
 ·cases h
def agp{b:Bool}{ms:ap (String×ce)}(n:Nat)(aa:bs ι x ez)(aF:bs ι y mM)(h:CA x y=some b)(hu:X.P.underlying t=some (.interface ms)):
 (Op.equalIn (n+1) t ez mM).run X.P w= .ok b w:=by
 unfold CA at h;split at h
 ·cases h;cases aa;cases aF;simp[Op.equalIn,run_underlying hu,Result.andThen]
 ·cases h;cases aa;cases aF;simp[Op.equalIn,run_underlying hu,Result.andThen]
 ·cases h;cases aa;cases aF;simp[Op.equalIn,run_underlying hu,Result.andThen]
 ·cases h
def ags{b:Bool}{i:f6}(n:Nat)(aa:bs ι x ez)(aF:bs ι y mM)(h:r6 x y=some b)(hu:X.P.underlying t=some (.pointer e))(hi:X.P.info? e=some i)(aJ:i.size≠0):
 (Op.equalIn (n+1) t ez mM).run X.P w= .ok b w:=by
 unfold r6 at h;split at h
 ·cases h;cases aa;cases aF<;>simp[Op.equalIn,run_underlying hu,Result.andThen]
 ·cases h;cases aa;cases aF;simp[Op.equalIn,run_underlying hu,Result.andThen]
 ·split at h
  ·rename_i p q hc;cases h;cases aa with
   |ptr _ l hl ai=>
    cases aF with
    |ptr _ g1 p8 kx=>
     rw[hc.1,p8]at hl;cases hl;simp[Op.equalIn,run_underlying hu,ju hi,aJ,sameAddr,Result.andThen];rw[zbb];simp
  ·cases h
 ·cases h
inductive u3(P:Program)(t:TypeId)(x y:Operand):oJ->Prop
 |sI (h:P.underlying t=some .bool):u3 P t x y .sI
 |kA (e:TypeId) (h:P.underlying t=some (.slice e)):u3 P t x y .kA
 |yq (k e:TypeId) (h:P.underlying t=some (.map k e)):u3 P t x y .yq
 |wa (p q:Array TypeId) (r:Bool) (h:P.underlying t=some (.func p q r)):u3 P t x y .wa
 |yp (ms:Array (String×TypeId)) (h:P.underlying t=some (.interface ms)) (hc:vT x=true∨vT y=true):u3 P t x y .yp
 |ptr (e:TypeId) (i:TypeInfo) (h:P.underlying t=some (.pointer e)) (hi:P.info? e=some i) (aJ:i.size≠0):u3 P t x y .ptr
def agm(P:d9)(op:BinOp)(t:ce)(x y:bi)(hc:vT x=true∨vT y=true):(eqGuard op t x y .nilIface .nilIface).run P w= .ok () w:=by
 rcases hc with hc|hc
 ·cases x<;>simp[vT]at hc;cases op<;>simp[eqGuard]
 ·cases y<;>simp[vT]at hc;cases op<;>cases x<;>simp[eqGuard]
def arn{neg:Bool}{e:oJ}{y7:ce}{x y:bi}(aa:cC X.aD x=true)(aF:cC X.aD y=true)(ao:o.op= .binOp (if neg then .neq else .eql) t x y y7)(bE:u3 X.P t x y e)
 (ae:cz ι fr a aQ) (hw:bx X ι st w) (h:YX neg e x y call fr st= .ok v aK st'):aK=fr∧cg X ι w v st st' (execOp a.eval o):=by
 obtain⟨b,hb,g⟩:=fp h (by simp);have cV:=ae.aj hw aa;have fm:=ae.aj hw aF;obtain⟨aw,e2,bW⟩:=ux g;subst aw e2 bW;clear g h;generalize cu:a.eval x=e3 at cV;generalize fR:a.eval y=qF at fm;have key:∀(_:(Op.equal t e3 qF).run X.P w= .ok b w) (_:(eqGuard (if neg then .neq else .eql) t x y e3 qF).run X.P w= .ok () w)
  (_:∀op:BinOp,op= .eql∨op= .neq->binOp op t e3 qF=(if op= .eql then do pure (.bool (<-Op.equal t e3 qF))else do pure (.bool (!(<-Op.equal t e3 qF))))),
  fr=fr∧cg X ι w (.bool (cond neg (!b) b)) st st (execOp a.eval o):=by
  intro J U af;exact⟨rfl,cg.same (v':=.bool (cond neg (!b) b)) hw (agH ao (by rw[cu,fR];exact U) (by rw[cu,fR];exact af) (by rw[cu,fR];exact J)) (.bool _)⟩
 cases bE with
 |sI hu=>
  have cY:zN (fr.aj x) (fr.aj y)=some b:=hb;generalize fr.aj x=CM at cY cV;generalize fr.aj y=CN at cY fm;unfold zN at cY;split at cY
  ·cases cY;cases cV;cases fm;exact key (agn hu 9999 _ _) (by cases neg<;>simp[eqGuard]) (by intro op dr;rcases dr with rfl|rfl<;>rfl)
  ·split at cY
   ·cases cY;cases cV;cases fm;rename_i a5 iS bD gI ab;subst ab;refine⟨rfl,cg.same (v':=.bool (cond neg (!(iS==gI)) (iS==gI))) hw ?_ (.bool _)⟩;unfold execOp;rw[ao];cases neg<;>simp[cu,fR,eqGuard,binOp,Op.intCmp]<;>rfl
   ·cases cY
  ·cases cY;cases cV;cases fm;rename_i s1 s2;refine⟨rfl,cg.same (v':=.bool (cond neg (!(s1.data.toList==s2.data.toList)) (s1.data.toList==s2.data.toList))) hw ?_ (.bool _)⟩;unfold execOp;rw[ao];cases neg<;>simp only[cu,fR,Sem.run_bind,zaU,if_false,if_true,Gc,Result.andThen,binOp,Op.stringOp,toList_eq]<;>rfl
  ·cases cY
 |kA e hu=>
  have cY:o2 (fr.aj x) (fr.aj y)=some b:=hb;have J:=agr (w:=w) 9999 cV fm cY hu;generalize fr.aj x=CM at cY cV;generalize fr.aj y=CN at cY fm;unfold o2 at cY;split at cY<;>first|(cases cY;done)|(cases cY;cases cV;cases fm<;>exact key J (by cases neg<;>simp[eqGuard]) (by intro op dr;rcases dr with rfl|rfl<;>rfl))
 |yq k e hu=>
  have cY:CB (fr.aj x) (fr.aj y)=some b:=hb;have J:=agq (w:=w) 9999 cV fm cY hu;generalize fr.aj x=CM at cY cV;generalize fr.aj y=CN at cY fm;unfold CB at cY;split at cY<;>first|(cases cY;done)|(cases cY;cases cV;cases fm<;>exact key J (by cases neg<;>simp[eqGuard]) (by intro op dr;rcases dr with rfl|rfl<;>rfl))
 |wa p q r hu=>
  have cY:zM (fr.aj x) (fr.aj y)=some b:=hb;have J:=ago (w:=w) 9999 cV fm cY hu;generalize fr.aj x=CM at cY cV;generalize fr.aj y=CN at cY fm;unfold zM at cY;split at cY<;>first|(cases cY;done)|(cases cY;cases cV;cases fm;exact key J (by cases neg<;>simp[eqGuard]) (by intro op dr;rcases dr with rfl|rfl<;>rfl))
 |yp ms hu hc=>
  have cY:CA (fr.aj x) (fr.aj y)=some b:=hb;have J:=agp (w:=w) 9999 cV fm cY hu;generalize fr.aj x=CM at cY cV;generalize fr.aj y=CN at cY fm;unfold CA at cY;split at cY
  ·cases cY;cases cV;cases fm;exact key J (agm X.P _ t x y hc) (by intro op dr;rcases dr with rfl|rfl<;>rfl)
  ·cases cY;cases cV;cases fm;exact key J (by cases neg<;>simp[eqGuard]) (by intro op dr;rcases dr with rfl|rfl<;>rfl)
  ·cases cY;cases cV;cases fm;exact key J (by cases neg<;>simp[eqGuard]) (by intro op dr;rcases dr with rfl|rfl<;>rfl)
  ·cases cY
 |ptr e i hu hi aJ=>
  have cY:r6 (fr.aj x) (fr.aj y)=some b:=hb;have J:=ags (w:=w) 9999 cV fm cY hu hi aJ;generalize fr.aj x=CM at cY cV;generalize fr.aj y=CN at cY fm;unfold r6 at cY;split at cY
  ·cases cY;cases cV;cases fm<;>exact key J (by cases neg<;>simp[eqGuard]) (by intro op dr;rcases dr with rfl|rfl<;>rfl)
  ·cases cY;cases cV;cases fm;exact key J (by cases neg<;>simp[eqGuard]) (by intro op dr;rcases dr with rfl|rfl<;>rfl)
  ·cases cV;cases fm;exact key J (by cases neg<;>simp[eqGuard]) (by intro op dr;rcases dr with rfl|rfl<;>rfl)
  ·cases cY
end
end Go.ak
namespace Go.ak
variable{a b:bi}{aD:Nat}
def N7:bi->bi->Bool
 |.tmp a,.tmp b=>Nat.beq a b
 |.const v,.const w=>dC v w
 |.global a,.global b=>Nat.beq a b
 |.func a,.func b=>Nat.beq a b
 |_,_=>false
def aoT(h:N7 a b=true):a=b:=by
 cases a<;>cases b<;>simp only[N7]at h<;>first|(cases h;done)|(rw[eL h])|(rw[ng _ _ h])
def b1(aD:Nat)(a b:bi):Bool:=N7 a b&&cC aD b
def cR(h:b1 aD a b=true):a=b∧cC aD b=true:=by
 unfold b1 at h;rw[b3]at h;exact⟨aoT h.1,h.2⟩
def jQ(aD:Nat):ac bi->ac bi->Bool
 |[],[]=>true
 |a::as,b::bU=>b1 aD a b&&jQ aD as bU
 |_,_=>false
theorem qs{aD:Nat}:∀{as bU:ac bi},jQ aD as bU=true->as=bU∧∀x∈bU,cC aD x=true
 |[],[],_=>⟨rfl,by simp⟩
 |a::as,b::bU,h=>by
  simp only[jQ,b3]at h;obtain⟨J,U⟩:=cR h.1;obtain⟨af,ax⟩:=qs h.2;exact⟨by rw[J,af],fun x aa=>by rcases zar.1 aa with rfl|aa;exact U;exact ax x aa⟩
 |[],_::_,h=>by simp[jQ]at h
 |_::_,[],h=>by simp[jQ]at h
def lX(aD:Nat):am bi->am bi->Bool
 |none,none=>true
 |some a,some b=>b1 aD a b
 |_,_=>false
def wo{a b:am bi}(h:lX aD a b=true):a=b∧∀y,b=some y->cC aD y=true:=by
 cases a<;>cases b<;>simp only[lX]at h<;>first|(cases h;done)|skip
 ·exact⟨rfl,by simp⟩
 ·obtain⟨J,U⟩:=cR h;exact⟨by rw[J],fun y aF=>by cases aF;exact U⟩
def rz(aD:Nat)(place:Nat->am (Nat×Nat)):ac (Nat×Nat×bi)->ac (Nat×bi)->Bool
 |[],[]=>true
 |(off,a9,x)::ps,(i,y)::dh=>
  (match place i with
   |some (o,s)=>Nat.beq off o&&Nat.beq a9 s
   |none=>false)&&b1 aD x y&&rz aD place ps dh
 |_,_=>false
theorem Iu{aD:Nat}{place:Nat->am (Nat×Nat)}:∀{ps:ac (Nat×Nat×bi)} {dh:ac (Nat×bi)},rz aD place ps dh=true->
 ps=dh.map (fun p=>(((place p.1).getD (0,0)).1,((place p.1).getD (0,0)).2,p.2))∧∀p∈dh,(place p.1).isSome∧cC aD p.2=true
 |[],[],_=>⟨rfl,by simp⟩
 |(off,a9,x)::ps,(i,y)::dh,h=>by
  simp only[rz,b3]at h;obtain⟨⟨J,U⟩,af⟩:=h;obtain⟨aw,e2⟩:=cR U;obtain⟨f1,f2⟩:=Iu af;cases hp:place i with
  |none=>rw[hp]at J;cases J
  |some q=>
   obtain⟨o,s⟩:=q;rw[hp]at J;simp only[b3]at J;have fC:=eL J.1;have gO:=eL J.2;refine⟨by rw[f1,aw,fC,gO];simp[hp],fun p k6=> ?_⟩;rcases zar.1 k6 with rfl|k6
   ·exact⟨by simp[hp],e2⟩
   ·exact f2 p k6
 |[],_::_,h=>by simp[rz]at h
 |_::_,[],h=>by simp[rz]at h
section
def sy(P:d9)(t:Nat)(name:String)(g:ci):Bool:=
 match P.info? t,P.underlying t,P.funcs[g]? with
 |some i,some d,some fn=>fn.body.isSome&& !(fn.name== "runtime.NumGoroutine")&&(match i.methods.find? (·.name==name)with
  |some m=>m.path.toList.isEmpty&&(match m.func with
   |some (f,ptr)=>Nat.beq f g&&(match d with|.pointer _=>ptr|_=> !ptr)
   |none=>false)
  |none=>false)
 |_,_,_=>false
variable(P:d9)(aD:Nat)(jN kc:ci->Bool)(keys:ce->am fN)(pS:ci->Bool)(eqs:ce->am Nat)(qg:ci->Bool)(lQ:Nat)(qm:ci->am ce)
def pJ(t:ce):am Bool:=(P.underlying t).map qL
def gq(t:ce):am Nat:=(P.info? t).map (·.size)
def rV(t:ce):am be:=(P.info? t).bind (·.zero)
def Gf(t:ce)(e:oJ)(x y:bi):Bool:=
 match e,P.underlying t with
 |.sI,some .bool=>true
 |.kA,some (.slice _)=>true
 |.yq,some (.map _ _)=>true
 |.wa,some (.func _ _ _)=>true
 |.yp,some (.interface _)=>vT x||vT y
 |.ptr,some (.pointer el)=>match gq P el with
  |some n=> !Nat.beq n 0
  |none=>false
 |_,_=>false
def agu{t:ce}{e:oJ}{x y:bi}(h:Gf P t e x y=true):u3 P t x y e:=by
 unfold Gf at h;split at h
 ·rename_i hu;exact .sI hu
 ·rename_i hu;exact .kA _ hu
 ·rename_i hu;exact .yq _ _ hu
 ·rename_i hu;exact .wa _ _ _ hu
 ·rename_i hu;exact .yp _ hu (by simpa using h)
 ·rename_i hu;split at h
  ·rename_i n hn;unfold gq at hn;obtain⟨i,hi,e⟩:=zbm.1 hn;refine .ptr _ i hu hi ?_;intro aJ;rw[<-e,aJ]at h;simp at h
  ·cases h
 ·cases h
def Nb:fN->fN->Bool
 |.int k,.int k'=>decide (k=k')
 |.str,.str=>true
 |.arr k n,.arr k' cc=>decide (k=k')&&Nat.beq n cc
 |_,_=>false
def DI(t:ce)(c8:fN):Bool:=
 match P.underlying t with
 |some (.map fb _)=>(match keys fb with|some XC=>Nb c8 XC|none=>false)
 |_=>false
def PZ(op:Op)(y:vc):Bool:=
 match y,op with
 |.look c8 z ok m k,.lookup t fi k' wi=>b1 aD m fi&&b1 aD k k'&&(ok==wi)&&DI P keys t c8&&
  (match P.underlying t with|some (.map _ e)=>(match rV P e with|some v=>dC z v&&jX z|none=>false)|_=>false)
 |.gL c8 m k v,.mapUpdate t fi k' v'|.gL c8 m k v,.insert t fi k' v'=>b1 aD m fi&&b1 aD k k'&&b1 aD v v'&&DI P keys t c8
 |.del c8 m k,.call {callee:=.builtin .delete,args:=⟨[fi,k']⟩,argTypes:=⟨[t,_]⟩}=>b1 aD m fi&&b1 aD k k'&&DI P keys t c8
 |.AB m,.call {callee:=.builtin .len,args:=⟨[fi]⟩,argTypes:=⟨[t]⟩}=>b1 aD m fi&&(match P.underlying t with|some (.map _ _)=>true|_=>false)
 |.AD m,.range t fi=>b1 aD m fi&&(match P.underlying t with|some (.map _ _)=>true|_=>false)
 |.Az i,.entry ig=>b1 aD i ig
 |.uw i,.next ig false=>b1 aD i ig
 |.Bv m,.range t fi=>b1 aD m fi&&(match P.underlying t with|some .string=>true|_=>false)
 |.Bu i,.next ig true=>b1 aD i ig
 |.AA e a,.call {callee:=.value (.func f),args:=⟨[b]⟩,.. }=>b1 aD a b&&(match qm f with|some cy=>Nat.beq e cy|none=>false)
 |.zs a,.call {callee:=.builtin .cap,args:=⟨[b]⟩,argTypes:=⟨[t]⟩}=>b1 aD a b&&(match P.underlying t with|some (.slice _)=>true|_=>false)
 |.xe gt a b,.binOp br t a' fU _=>decide (br=(if gt then .gtr else .leq))&&b1 aD a a'&&b1 aD b fU&&(match P.underlying t with|some (.int .i64)=>true|_=>false)
 |.idxs g a c,.call {callee:=.value (.func f),args:=⟨[b,d]⟩,.. }=>b1 aD a b&&b1 aD c d&&qg f&&Nat.beq g lQ
 |.bn a c,.call {callee:=.value (.func f),args:=⟨[b,d]⟩,.. }=>b1 aD a b&&b1 aD c d&&pS f
 |.qW neg n a b,.binOp br t a' fU _=>decide (br=(if neg then .neq else .eql))&&b1 aD a a'&&b1 aD b fU&&(match eqs t with|some cc=>Nat.beq n cc|none=>false)
 |_,_=>false
def at4(op:Op)(x:dg):Bool:=
 match x,op with
 |.lR a,.move b|.lR a,.assign b=>b1 aD a b
 |.pick c a b,.pick b6 a' fU=>b1 aD c b6&&b1 aD a a'&&b1 aD b fU
 |.alloc z e,.alloc t=>Nat.beq e t&&(match rV P t with|some v=>lo z v.cells.toList&&mL z|none=>false)
 |.box e a,.box t b=>Nat.beq e t&&b1 aD a b
 |.build z ps,.build t parts=>
  (match rV P t with|some v=>lo z v.cells.toList&&mL z|none=>false)&&
  (match P.underlying t with
   |some (.struct fields)=>fields.toList.all (fun f=>(P.info? f.type).isSome)&&rz aD (fun j=>(fields.map fun f=>(f.offset,P.cellsOf f.type))[j]?) ps parts.toList
   |some (.array _ e)=>(match gq P e with|some s=>rz aD (fun j=>some (j*s,s)) ps parts.toList|none=>false)
   |_=>false)
 |.oS e n z ps,.buildSlice t m parts=>
  Nat.beq n m&&(match P.underlying t with
   |some (.slice el)=>Nat.beq e el&&(match gq P el,rV P el with
    |some s,some v=>Nat.ble (m*s) (2^24)&&lo z ((List.range (m*s)).map (fun j=>(if m*s=0 then(#[]:ap be)else v.cells)[j%(if m*s=0 then(#[]:ap be)else v.cells).size]!))&&mL z&&
     rz aD (fun j=>some (j*s,s)) ps parts.toList
    |_,_=>false)
   |_=>false)
 |.lP a,.load t b=>b1 aD a b&&(match pJ P t with|some g=> !g|none=>false)
 |.qj n a,.load t b=>b1 aD a b&&(match pJ P t,gq P t with|some g,some s=>g&&Nat.beq n s|_,_=>false)
 |.store n a x,.store t b y=>b1 aD a b&&b1 aD x y&&(match gq P t with|some s=>Nat.beq n s|none=>false)
 |.sC a,.nilCheck b=>b1 aD a b
 |.H9 name hv a,.nilCheck b=>b1 aD a b&&hv.all (fun p=>sy P p.1 name p.2)
 |.bin o a b,.binOp br _ a' fU _=>decide (o=br)&&b1 aD a a'&&b1 aD b fU
 |.eqv neg e a b,.binOp br t a' fU _=>decide (br=(if neg then .neq else .eql))&&b1 aD a a'&&b1 aD b fU&&Gf P t e a' fU
 |.un o a,.unOp br _ b=>decide (o=br)&&b1 aD a b
 |.tn k a,.convert s t b=>b1 aD a b&&(match P.underlying s,P.underlying t with|some _,some (.int k')=>decide (k=k')|_,_=>false)
 |.xc a,.convert s t b=>b1 aD a b&&(match P.underlying s,P.underlying t with|some _,some .string=>true|_,_=>false)
 |.zt a,.convert s t b=>b1 aD a b&&(match P.underlying s,P.underlying t with|some (.slice e),some .string=>(match P.underlying e with|some (.int .u8)=>true|_=>false)|_,_=>false)
 |.vj e a,.convert s t b=>b1 aD a b&&(match P.underlying s,P.underlying t with|some .string,some (.slice cy)=>Nat.beq e cy&&(match P.underlying cy,gq P cy with|some (.int .u8),some 1=>true|_,_=>false)|_,_=>false)
 |.HV t a,.makeInterface hd b=>Nat.beq t hd&&b1 aD a b&&(match P.underlying hd with|some (.interface _)=>false|some _=>true|none=>false)
 |.uk (.func f) a c,.makeFunc (.func g) b d=>Nat.beq f g&&jQ aD a b.toList&&jQ aD c d.toList
 |.uk (.method f) a c,.makeFunc (.method g) b d=>f==g&&jQ aD a b.toList&&jQ aD c d.toList
 |.rr e bU z l c,.makeSlice t l' b6=>b1 aD l l'&&b1 aD c b6&&(match P.underlying t with
  |some (.slice el)=>Nat.beq e el&&(match P.info? el with
   |some i=>Nat.beq bU i.bytes&& !Nat.beq i.size 0&&(match i.zero with|some v=>lo z v.cells.toList&&mL z&&Nat.beq v.cells.toList.length i.size|none=>false)
   |none=>false)
  |_=>false)
 |.sV a aL hi,.slice t b rp dX none=>b1 aD a b&&lX aD aL rp&&lX aD hi dX&&(match P.underlying t with|some .string=>true|_=>false)
 |.Bt n s a aL hi eR,.slice t b rp dX pj=>b1 aD a b&&lX aD aL rp&&lX aD hi dX&&lX aD eR pj&&(pj.isNone||dX.isSome)&&
  (match P.underlying t with|some (.array cc e)=>Nat.beq n cc&&(match gq P e with|some bz=>Nat.beq s bz|none=>false)|_=>false)
 |.na s a aL hi eR,.slice t b rp dX pj=>b1 aD a b&&lX aD aL rp&&lX aD hi dX&&lX aD eR pj&&(pj.isNone||dX.isSome)&&
  (match P.underlying t with|some (.slice e)=>(match gq P e with|some bz=>Nat.beq s bz|none=>false)|_=>false)
 |.xu off a,.fieldAddr t b f=>b1 aD a b&&(match P.underlying t with
  |some (.struct fields)=>(match fields[f]? with|some fd=>Nat.beq off fd.offset&&(match gq P fd.type with|some s=> !Nat.beq s 0|none=>false)|none=>false)
  |_=>false)
 |.o3 off a9 hy a,.field t b f=>b1 aD a b&&(match P.underlying t with
  |some (.struct fields)=>(match fields[f]? with|some fd=>Nat.beq off fd.offset&&(match gq P fd.type,pJ P fd.type with|some s,some g=>Nat.beq a9 s&&(hy==g)|_,_=>false)|none=>false)
  |_=>false)
 |.so n a9 a i,.indexAddr t b j=>b1 aD a b&&b1 aD i j&&(match P.underlying t with|some (.array cc e)=>Nat.beq n cc&&(match gq P e with|some s=>Nat.beq a9 s|none=>false)|_=>false)
 |.lL a9 a i,.indexAddr t b j=>b1 aD a b&&b1 aD i j&&(match P.underlying t with|some (.slice e)=>(match gq P e with|some s=>Nat.beq a9 s|none=>false)|_=>false)
 |.uc a i,.index t b j=>b1 aD a b&&b1 aD i j&&(match P.underlying t with|some .string=>true|_=>false)
 |.HE n a9 hy a i,.index t b j=>b1 aD a b&&b1 aD i j&&(match P.underlying t with|some (.array cc e)=>Nat.beq n cc&&(match gq P e,pJ P e with|some s,some g=>Nat.beq a9 s&&(hy==g)|_,_=>false)|_=>false)
 |.JS t z ok a,.typeAssert b _ hd wi=>b1 aD a b&&Nat.beq t hd&&(ok==wi)&&(match P.underlying hd with|some (.interface _)=>false|some _=>true|none=>false)&&(match rV P hd with|some v=>dC z v&&jX z|none=>false)
 |.xt a i,.extract b j=>b1 aD a b&&Nat.beq i j
 |.call f as,.call {callee:=.value g,args,.. }=>b1 aD f g&&jQ aD as args.toList&&(match g with|.func k=>((P.funcs[k]?).map (fun fn=>fn.body.isSome&& !(fn.name== "runtime.NumGoroutine"))).getD false|_=>true)
 |.inv hv f as,.call {callee:=.invoke g name,args,.. }=>b1 aD f g&&jQ aD as args.toList&&hv.all (fun p=>sy P p.1 name p.2)
 |.ot a,.call {callee:=.builtin .len,args:=⟨[b]⟩,argTypes:=⟨[t]⟩}=>b1 aD a b&&(match P.underlying t with|some (.slice _)=>true|_=>false)
 |.ug a,.call {callee:=.builtin .len,args:=⟨[b]⟩,argTypes:=⟨[t]⟩}=>b1 aD a b&&(match P.underlying t with|some .string=>true|_=>false)
 |.x9 n,.call {callee:=.builtin .len,args:=⟨[_]⟩,argTypes:=⟨[t]⟩}=>(match P.underlying t with|some (.array m _)=>Nat.beq n m|some (.pointer u)=>(match P.underlying u with|some (.array m _)=>Nat.beq n m|_=>false)|_=>false)
 |.app e a9 bU s a,.call {callee:=.builtin .append,args:=⟨[bz,b]⟩,argTypes:=⟨[t,u]⟩}=>b1 aD s bz&&b1 aD a b&&(match P.underlying t,P.underlying u with
  |some (.slice el),some d=>Nat.beq e el&&(match d with|.int _=>false|_=>true)&&(match P.info? el with
   |some i=>Nat.beq a9 i.size&&Nat.beq bU i.bytes&&(match i.zero with|some v=>Nat.beq v.cells.size i.size|none=>false)
   |none=>false)
  |_,_=>false)
 |.eR a as,.call {callee:=.builtin .max,args:=⟨b::bU⟩,.. }=>b1 aD a b&&jQ aD as bU
 |.yk a as,.call {callee:=.builtin .min,args:=⟨b::bU⟩,.. }=>b1 aD a b&&jQ aD as bU
 |.qR a9 d s,.call {callee:=.builtin .copy,args:=⟨[j4,bz]⟩,argTypes:=⟨[t,_]⟩}=>b1 aD d j4&&b1 aD s bz&&(match P.underlying t with|some (.slice e)=>(match gq P e with|some n=>Nat.beq a9 n|none=>false)|_=>false)
 |.wH,.call {callee:=.builtin .recover,args:=⟨[]⟩,.. }=>true
 |.qS f as,.defer {callee:=.value g,args,.. }=>b1 aD f g&&jQ aD as args.toList
 |.rA a,.panic b=>b1 aD a b
 |.Ck a,.convert s t b=>b1 aD a b&&(match P.underlying s,P.underlying t with|some (.pointer e),some .unsafePointer=>(match gq P e with|some n=> !Nat.beq n 0|none=>false)|_,_=>false)
 |.Cl e n a,.convert s t b=>b1 aD a b&&(match P.underlying s,P.underlying t with|some .unsafePointer,some (.pointer cy)=>Nat.beq e cy&&(match gq P cy with|some m=>Nat.beq n m&& !Nat.beq m 0|none=>false)|_,_=>false)
 |.Bo a,.call {callee:=.builtin .unsafeSliceData,args:=⟨[b]⟩,argTypes:=⟨[_]⟩}=>b1 aD a b
 |.s0 e a n,.call {callee:=.builtin .unsafeString,args:=⟨[b,m]⟩,argTypes:=⟨[t,_]⟩}=>b1 aD a b&&b1 aD n m&&(match P.underlying t with|some (.pointer cy)=>Nat.beq e cy&&(match gq P cy with|some 1=>true|_=>false)|_=>false)
 |.kc a c,.call {callee:=.value (.func f),args:=⟨[b,d]⟩,.. }=>b1 aD a b&&b1 aD c d&&kc f
 |.jN a,.call {callee:=.value (.func f),args:=⟨[b]⟩,.. }=>b1 aD a b&&jN f
 |.um,.makeMap _ none=>true
 |.v3 _,_=>true
 |.ext y,op=>PZ P aD keys pS eqs qg lQ qm op y
 |.refuse,_=>true
 |_,_=>false
end
end Go.ak
namespace Go.ak
variable{X:Ctx}
section
variable{α β:Type}{r z:β}
variable{o:am bH}
def E2{v:be}{k:am Nat->β}(h:yY v k z=r)(aJ:z≠r):∃p,v= .map p∧k p=r:=by
 cases v<;>first|exact absurd h aJ|exact⟨_,rfl,h⟩
def Ax{k:ac d8->Nat->β}(h:rq o k z=r)(aJ:z≠r):∃es c,o=some (.map es c)∧k es c=r:=by
 unfold rq at h;obtain⟨o,rfl,h⟩:=fp h aJ;cases o<;>first|exact absurd h aJ|exact⟨_,_,rfl,h⟩
def ar0{k:f5->Nat->β}(h:Pp o k z=r)(aJ:z≠r):∃s p,o=some (.yT s p)∧k s p=r:=by
 unfold Pp at h;obtain⟨o,rfl,h⟩:=fp h aJ;cases o<;>first|exact absurd h aJ|exact⟨_,_,rfl,h⟩
def amT{k:am Nat->Nat->ac Nat->Nat->β}(h:M4 o k z=r)(aJ:z≠r):∃a b c d,o=some (.uj a b c d)∧k a b c d=r:=by
 unfold M4 at h;obtain⟨o,rfl,h⟩:=fp h aJ;cases o<;>first|exact absurd h aJ|exact⟨_,_,_,_,rfl,h⟩
end
variable{es:ac d8}{k:be}{ι:bC}{c8:fN}{clock ko:Nat}{v v':be}{e:d8}{j:Nat}{c:d8}
def fN.same(h:c8.ok v=true)(hr:bs ι v v'):v'=v:=by
 cases c8 with
 |int k=>
  obtain⟨k',n,rfl,_⟩:=iW (v:=v) (z:=false) (r:=true) h (by decide);cases hr;rfl
 |str=>
  obtain⟨s,rfl,_⟩:=oF (v:=v) (z:=false) (r:=true) h (by decide);cases hr;rfl
 |arr k n=>
  obtain⟨xs,rfl,U⟩:=BF (v:=v) (z:=false) (r:=true) h (by decide);rw[b3,zbn]at U;cases hr with
  |agg _ av J hh=>
   congr 1;apply Array.ext
   ·exact J.symm
   ·intro i a b;have aa:=U.2 xs[i] (by simp);obtain⟨k',m,he,_⟩:=iW (v:=xs[i]) (z:=false) (r:=true) aa (by decide);have:=hh i b a;rw[he]at this⊢;generalize av[i]=y at this⊢;cases this;rfl
def uniq(h:es.Pairwise (fun a b=>a.key≠b.key)){a b:d8}(aY:a∈es)(hb:b∈es)(e:a.key=b.key):a=b:=by
 induction es with
 |nil=>cases aY
 |cons x xs a8=>
  rw[zei]at h;rcases zar.1 aY with rfl|tD<;>rcases zar.1 hb with rfl|cY
  ·rfl
  ·exact absurd e (h.1 b cY)
  ·exact absurd e.symm (h.1 a tD)
  ·exact a8 h.2 tD cY
def Ya(h:qk k es=some e):e∈es∧e.key=k:=by
 unfold qk at h;refine⟨zdz h,?_⟩;have:=zdA h;exact(ng _ _ this).symm
def Nx(h:qk k es=none):∀e∈es,e.key≠k:=by
 intro e he age;unfold qk at h;have:=List.find?_eq_none.1 h e he;rw[age,BH]at this;exact this rfl
def HH(h:vW c8 es=true)(he:e∈es):c8.ok e.key=true:=
 zbn.1 h e he
def kk.find{ca:Nat->Nat}{C:ac d8}(h:kk ι ca es clock C ko){fb:ce}(ec:X.keys fb=some c8)(ab:c8.ok k=true)(he:vW c8 es=true)(w:co):
 ((Instr.findKey fb k C).run X.P w= .ok none w∧qk k es=none∧∀c∈C,c.key≠k)∨
 ∃e j c,(Instr.findKey fb k C).run X.P w= .ok (some (j,c.val)) w∧C[j]? =some c∧c.key=k∧qk k es=some e∧e∈es∧e.key=k∧bs ι e.val c.val∧c.born=ca e.born:=by
 obtain⟨K,bE⟩:=X.su fb c8 ec;obtain⟨l,hp,hlen,hl⟩:=h.same;have vF:∀(i:Nat) (a:i<l.length) (b:i<C.length),C[i].key=l[i].key:=by
  intro i a b;exact fN.same (HH he (hp.mem_iff.1 (ea a))) (hl i a b).1
 have eQ:∀c∈C,∃l,keyOf X.P fb c.key=some l:=by
  intro c hc;obtain⟨i,hi,rfl⟩:=zdB hc;have dX:i<l.length:=by omega
  rw[vF i dX hi];exact bE _ (HH he (hp.mem_iff.1 (ea dX)))
 obtain⟨DQ,xN⟩:=bE k ab;rcases K.find w xN C eQ with⟨J,U⟩|⟨j,c,J,U,af⟩
 ·left;refine⟨J,?_,U⟩;cases ae:qk k es with
  |none=>rfl
  |some e=>
   exfalso;obtain⟨fc,hQ⟩:=Ya ae;obtain⟨i,hi,gH⟩:=zdB (hp.mem_iff.2 fc);have dX:i<C.length:=by omega
   exact U C[i] (ea dX) (by rw[vF i hi dX,gH,hQ])
 ·right;obtain⟨hj,vD⟩:=zah.1 U;have lE:j<l.length:=by omega
  have Db:l[j].key=k:=by rw[<-vF j lE hj,vD,af]
  have Ac:l[j]∈es:=hp.mem_iff.1 (ea lE);cases ae:qk k es with
  |none=>exact absurd Db (Nx ae _ Ac)
  |some e=>
   obtain⟨fc,hQ⟩:=Ya ae;have:e=l[j]:=uniq h.keys fc Ac (by rw[hQ,Db]);subst this;have:=hl j lE hj;rw[vD]at this;exact⟨_,j,c,J,U,af,rfl,Ac,Db,this.2.1,this.2.2⟩
def kk.put{ca:Nat->Nat}{C:ac d8}(h:kk ι ca es clock C ko)(he:vW c8 es=true)(hj:C[j]? =some c)(hc:c.key=k)(aI:bs ι v v'):
 kk ι ca (Ay k v es) clock (C.set j {c with key:=k,val:=v'}) ko:=by
 obtain⟨l,hp,hlen,hl⟩:=h.same;have az:∀e:d8,(cond (dC k e.key) (⟨e.key,v,e.born⟩:d8) e).key=e.key:=by
  intro e;cases dC k e.key<;>rfl
 have bb:∀e:d8,(cond (dC k e.key) (⟨e.key,v,e.born⟩:d8) e).born=e.born:=by
  intro e;cases dC k e.key<;>rfl
 have vF:∀(i:Nat) (a:i<l.length) (b:i<C.length),C[i].key=l[i].key:=by
  intro i a b;exact fN.same (HH he (hp.mem_iff.1 (ea a))) (hl i a b).1
 obtain⟨hO,vD⟩:=zah.1 hj;refine⟨h.tq,h.Br,?_,?_,?_,l.map (fun e=>cond (dC k e.key) ⟨e.key,v,e.born⟩ e),hp.map _,by simp[hlen],?_⟩
 ·intro e hm;obtain⟨cy,mh,rfl⟩:=List.mem_map.1 hm;rw[bb];exact h.born cy mh
 ·unfold Ay;rw[List.pairwise_map];exact h.keys.imp (fun{a b} iN=>by rw[az,az];exact iN)
 ·unfold Ay;rw[List.pairwise_map];exact h.zp.imp (fun{a b} iN=>by rw[bb,bb];exact iN)
 ·intro i a b;have a':i<l.length:=by simpa using a
  have fU:i<C.length:=by simpa using b
  rw[List.getElem_map,List.getElem_set];by_cases e:j=i
  ·subst e;rw[zab rfl];have ab:l[j].key=k:=by rw[<-vF j a' fU,vD,hc]
   have:dC k l[j].key=true:=by rw[ab];exact BH k
   rw[this];have hh:=hl j a' fU;rw[vD]at hh;refine⟨?_,aI,hh.2.2⟩;have:=hh.1;rw[hc]at this;exact this
  ·rw[zaa e];have cx:dC k l[i].key=false:=by
    rw[zbR];intro hq;have ab:=ng _ _ hq;have xK:j<l.length:=by omega
    have J:l[i].key=l[j].key:=by rw[<-ab,<-vF j xK hO,vD,hc]
    have qb:=(hp.symm.pairwise_iff (R:=fun a b:d8=>a.key≠b.key) (fun{a b} h=>h.symm)).1 h.keys;have U:i=j:=by
     rcases zcE i j with h|h|h
     ·exact absurd J (zcX.1 qb i j a' xK h)
     ·exact h
     ·exact absurd J.symm (zcX.1 qb j i xK a' h)
    exact e U.symm
   rw[cx];exact hl i a' fU
def kk.push{ca:Nat->Nat}{C:ac d8}(h:kk ι ca es clock C ko)(ab:bs ι k k)(hn:qk k es=none)(aI:bs ι v v'):
 kk ι ca (es++[⟨k,v,clock⟩]) (clock+1) (C++[⟨k,v',ko⟩]) (ko+1):=by
 obtain⟨l,hp,hlen,hl⟩:=h.same;have ai:=h.Br;refine⟨?_,⟨fun s t eZ aV e=> ?_,fun s eZ=> ?_,fun j=> ?_⟩,?_,?_,?_,l++[⟨k,v,clock⟩],hp.append_right _,by simp[hlen],?_⟩
 ·rw[h.tq,ai.up 1]
 ·rcases zao s clock with a|a<;>rcases zao t clock with b|b
  ·exact ai.inj s t a b e
  ·have:t=clock:=by omega
   subst this;have:=ai.lt s a;omega
  ·have:s=clock:=by omega
   subst this;have:=ai.lt t b;omega
  ·omega
 ·rw[ai.up 1];rcases zao s clock with a|a
  ·have:=ai.lt s a;omega
  ·have:s=clock:=by omega
   subst this;omega
 ·rw[show clock+1+j=clock+(1+j) by omega,ai.up,ai.up 1];omega
 ·intro e he;rcases zcd.1 he with he|he
  ·have:=h.born e he;omega
  ·have:e=⟨k,v,clock⟩:=by simpa using he
   subst this;exact zce _
 ·rw[List.pairwise_append];refine⟨h.keys,by simp,fun a aY b hb=> ?_⟩;have:b=⟨k,v,clock⟩:=by simpa using hb
  subst this;exact Nx hn a aY
 ·rw[List.pairwise_append];refine⟨h.zp,by simp,fun a aY b hb=> ?_⟩;have:b=⟨k,v,clock⟩:=by simpa using hb
  subst this;have:=h.born a aY;exact Nat.ne_of_lt this
 ·intro i a b;by_cases e:i<l.length
  ·rw[zee e,zee (by omega)];exact hl i e (by omega)
  ·have hi:i=l.length:=by simp at a;omega
   subst hi;rw[zef (by omega),zef (by omega)];simp only[hlen,Nat.sub_self,List.getElem_cons_zero];exact⟨ab,aI,h.tq⟩
def kk.del{ca:Nat->Nat}{C:ac d8}(h:kk ι ca es clock C ko)(he:vW c8 es=true)(hj:C[j]? =some c)(hc:c.key=k):
 kk ι ca (Aw k es) clock (C.eraseIdx j) ko:=by
 obtain⟨l,hp,hlen,hl⟩:=h.same;have vF:∀(i:Nat) (a:i<l.length) (b:i<C.length),C[i].key=l[i].key:=by
  intro i a b;exact fN.same (HH he (hp.mem_iff.1 (ea a))) (hl i a b).1
 obtain⟨hO,vD⟩:=zah.1 hj;have xK:j<l.length:=by omega
 have Db:l[j].key=k:=by rw[<-vF j xK hO,vD,hc]
 have qb:l.Pairwise (fun a b=>a.key≠b.key):=(hp.symm.pairwise_iff (R:=fun a b:d8=>a.key≠b.key) (fun{a b} h=>h.symm)).1 h.keys;have akS:∀(l:ac d8) (j:Nat) (hj:j<l.length),l.Pairwise (fun a b=>a.key≠b.key)->l[j].key=k->l.filter (fun e=> !dC k e.key)=l.eraseIdx j:=by
  intro l
  induction l with
  |nil=>intro j hj;simp at hj
  |cons x xs a8=>
   intro j hj qb ab;rw[zei]at qb;cases j with
   |zero=>
    have aa:dC k x.key=true:=by rw[show x.key=k from ab];exact BH k
    rw[List.filter_cons];simp only[aa,Bool.not_true,zaU,if_false,List.eraseIdx_cons_zero];rw[List.filter_eq_self];intro a aY;have:=qb.1 a aY;rw[show x.key=k from ab]at this;cases aI:dC k a.key
    ·rfl
    ·exact absurd (ng _ _ aI) this
   |succ j=>
    have lE:j<xs.length:=by simpa using hj
    have fh:xs[j].key=k:=by simpa using ab
    have aa:dC k x.key=false:=by
     rw[zbR];intro hq;exact qb.1 xs[j] (ea lE) (by rw[fh,ng _ _ hq])
    rw[List.filter_cons];simp only[aa,zed,if_true,List.eraseIdx_cons_succ];rw[a8 j lE qb.2 fh]
 refine⟨h.tq,h.Br,fun e hm=>h.born e (List.mem_filter.1 hm).1,h.keys.filter _,h.zp.filter _,l.eraseIdx j,?_,?_,?_⟩
 ·rw[<-akS l j xK qb Db];exact hp.filter _
 ·rw[zeS xK,zeS hO,hlen]
 ·intro i a b;rw[List.getElem_eraseIdx,List.getElem_eraseIdx];split
  ·exact hl i _ _
  ·exact hl (i+1) _ _
section
variable{ι:bC}{fr aK:aR}{a:Act}{aQ:Nat}{st st':ay}{w:co}{o:Oper}{v:be}{call:bO}
open Go.MapKept
variable{fb:ce}{m:bi}{t jn:ce}
def agT(ec:X.keys fb=some c8)(ab:c8.ok k=true)(w:co):(Instr.findKey fb k []).run X.P w= .ok none w:=by
 obtain⟨K,bE⟩:=X.su fb c8 ec;obtain⟨DQ,xN⟩:=bE k ab;rcases K.find w xN [] (by simp)with⟨J,_⟩|⟨j,c,_,U,_⟩
 ·exact J
 ·simp at U
def xb(ec:X.keys fb=some c8)(ab:c8.ok k=true)(em:Bool)(w:co):(Instr.checkKey em 10000 fb k).run X.P w= .ok () w:=by
 obtain⟨K,bE⟩:=X.su fb c8 ec;obtain⟨DQ,xN⟩:=bE k ab;exact K.check w em xN
def arD{z:be}{ok:Bool}{k:bi}{i:f6}(hm:cC X.aD m=true)(ab:cC X.aD k=true)(ao:o.op= .lookup t m k ok)(hu:X.P.underlying t=some (.map fb jn))
 (ec:X.keys fb=some c8) (hi:X.P.info? jn=some i) (aJ:i.zero=some z) (Al:jX z=true) (ae:cz ι fr a aQ) (hw:bx X ι st w)
 (h:mU fr st (.look c8 z ok m k)= .ok v aK st'):aK=fr∧cg X ι w v st st' (execOp a.eval o):=by
 obtain⟨h1,h⟩:=iv h (by simp);obtain⟨r,hr,h⟩:=E2 h (by simp);have vG:a.eval k=fr.aj k:=fN.same h1 (ae.aj hw ab);have iO:=ae.aj hw hm;rw[hr]at iO;generalize k5:a.eval m=lR at iO;have Hu:=u0 (P:=X.P) hi aJ w;have Am:bs ι z z:=bs.pure ι z Al;cases r with
 |none=>
  cases iO;have h:aX.ok (cond ok (.tuple #[z,.bool false]) z) fr st= .ok v aK st':=h;cases h;refine⟨rfl,cg.same (v':=cond ok (.tuple #[z,.bool false]) z) hw ?_ ?_⟩
  ·unfold execOp;rw[ao];simp only[k5,vG,Instr.lookup,Sem.run_bind,run_underlying hu,Result.andThen,Sem.run_pure,xb ec h1,agT ec h1,Hu];cases ok<;>rfl
  ·cases ok
   ·exact Am
   ·exact bs.po (bM.cons Am (bM.cons (.bool _) (bM.nil ι)))
 |some id=>
  have h:rq (st.h.get id) (fun es _=>cond (vW c8 es) (bm (qk (fr.aj k) es) (fun e=>.ok (cond ok (.tuple #[e.val,.bool true]) e.val) fr st) (.ok (cond ok (.tuple #[z,.bool false]) z) fr st)) .no) .no=aX.ok v aK st':=h;obtain⟨es,c,aO,h⟩:=Ax h (by simp);obtain⟨q6,h⟩:=iv h (by simp);obtain⟨l,hl,h0,j7,C,b6,hC,dm⟩:=hw.eD _ _ aO (by simp);cases iO with
  |map _ b ca hb=>
   rw[hl]at hb;cases hb;have hC:w.heap[b]? =some (.map C b6):=hC;rcases dm.find (X:=X) ec h1 q6 w with⟨J,U,_⟩|⟨e,j,oU,J,U,af,ax,a0,ck,dx,gF⟩
   ·rw[U]at h;cases h;refine⟨rfl,cg.same (v':=cond ok (.tuple #[z,.bool false]) z) hw ?_ ?_⟩
    ·unfold execOp;rw[ao];simp only[k5,vG,Instr.lookup,Sem.run_bind,run_underlying hu,Result.andThen,Sem.run_pure,MapKept.run_getObj_map hC,xb ec h1,J,Hu];cases ok<;>rfl
    ·cases ok
     ·exact Am
     ·exact bs.po (bM.cons Am (bM.cons (.bool _) (bM.nil ι)))
   ·rw[ax]at h;cases h;refine⟨rfl,cg.same (v':=cond ok (.tuple #[oU.val,.bool true]) oU.val) hw ?_ ?_⟩
    ·unfold execOp;rw[ao];simp only[k5,vG,Instr.lookup,Sem.run_bind,run_underlying hu,Result.andThen,Sem.run_pure,MapKept.run_getObj_map hC,xb ec h1,J];cases ok<;>rfl
    ·cases ok
     ·exact dx
     ·exact bs.po (bM.cons dx (bM.cons (.bool _) (bM.nil ι)))
def arI(hm:cC X.aD m=true)(ao:o.op= .call {callee:=.builtin .len,args:= #[m],argTypes:= #[t]})(hu:X.P.underlying t=some (.map fb jn))(ae:cz ι fr a aQ)(hw:bx X ι st w)
 (h:mU fr st (.AB m)= .ok v aK st'):aK=fr∧cg X ι w v st st' (execOp a.eval o):=by
 obtain⟨r,hr,h⟩:=E2 h (by simp);have iO:=ae.aj hw hm;rw[hr]at iO;generalize k5:a.eval m=lR at iO;cases r with
 |none=>
  cases iO;have h:aX.ok (.int .i64 0) fr st= .ok v aK st':=h;cases h;refine⟨rfl,cg.same (v':=.int .i64 0) hw ?_ (.int _ _)⟩;unfold execOp;rw[ao];simp[resolve,invoke,builtin,k5,Builtin.len_,run_underlying hu,Result.andThen,goInt]
 |some id=>
  have h:rq (st.h.get id) (fun es _=>fX (dk es) fun n=>aX.ok (.int .i64 (.ofNat n)) fr st) .no= .ok v aK st':=h;obtain⟨es,c,aO,h⟩:=Ax h (by simp);rw[zT,fo]at h;cases h;obtain⟨l,hl,h0,j7,C,b6,hC,dm⟩:=hw.eD _ _ aO (by simp);cases iO with
  |map _ b ca hb=>
   rw[hl]at hb;cases hb;have hC:w.heap[b]? =some (.map C b6):=hC;obtain⟨l,hp,hlen,_⟩:=dm.same;have e:es.length=C.size:=by rw[<-hp.length_eq,hlen];simp
   refine⟨rfl,cg.same (v':=.int .i64 es.length) hw ?_ (.int _ _)⟩;unfold execOp;rw[ao];simp[resolve,invoke,builtin,k5,Builtin.len_,run_underlying hu,Result.andThen,goInt,MapKept.run_getObj_map hC,e]
end
