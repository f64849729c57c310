/- An abstract machine, and that its evaluations stand for runs of the model (part 1); no condition. -/
import Derived.Calls
import Derived.Laws.Cells
import Derived.Maps.Keyed
import Derived.Lib.Strings
import Derived.KernelRfl
noncomputable section
set_option linter.all false
namespace Go.aj
universe u
def zaa:=@if_neg
def zab:=@if_pos
def zac:=@decide_eq_false
def zad:=@decide_eq_true
def zae:=@List.getElem?_eq_some_iff
def zaf:=@Nat.mod_lt
def zag:=@Nat.zero_le
def zah:=@Nat.two_pow_pos
def zai:=@Nat.le_trans
def zaj:=@Nat.mul_comm
def zak:=@Nat.pow_succ
def zal:=@Nat.pow_add
def zam:=@Nat.add_mul
def zan:=@Nat.lt_or_ge
def zao:=@List.mem_cons
def zap:=@Int.natCast_mul
def zaq:=@List.drop_zero
def zar:=@Nat.mul_assoc
def zas:=@List.length_take
def zat:=@Nat.pow_le_pow_right
def zau:=@List.length_cons
def zav:=@Nat.zero_mul
def zaw:=@Nat.zero_add
def zax:=@Nat.div_le_self
def zay:=@List.take_of_length_le
def zaz:=@List.mem_of_getElem?
def zaA:=@Nat.min_eq_left
def zaB:=@Nat.mul_add
def zaC:=@Int.natAbs_natCast
def zaD:=@Array.getElem_toList
def zaE:=@List.length_drop
def zaF:=@List.getElem?_drop
def zaG:=@List.length_append
def zaH:=@Nat.one_mul
def zaI:=@Nat.mul_one
def zaJ:=@List.getElem?_take
def zaK:=@List.mem_cons_of_mem
def zaL:=@Nat.beq_refl
def zaM:=@List.getElem?_append_right
def zaN:=@List.length_map
def zaO:=@beq_eq_false_iff_ne
def zaP:=@List.map_cons
def zaQ:=@Nat.add_zero
def zaR:=@List.getElem_set_self
def zaS:=@Nat.div_add_mod
def zaT:=@Nat.div_div_eq_div_mul
def zaU:=@List.take_set_of_le
def zaV:=@List.getElem?_append_left
def zaW:=@Nat.div_eq_of_lt
def zaX:=@Nat.lt_of_le_of_lt
def zaY:=@Nat.le_of_lt
def zaZ:=@Bool.eq_iff_iff
def zba:=@List.take_succ_eq_append_getElem
def zbb:=@Bool.false_eq_true
def zbc:=@Nat.pos_of_ne_zero
def zbd:=@Nat.mul_ne_zero
def zbe:=@Int.neg_mul
def zbf:=@List.length_pos_iff
def zbg:=@List.all_eq_true
def zbh:=@Nat.le_succ
def zbi:=@Nat.div_lt_iff_lt_mul
def zbj:=@List.drop_eq_nil_of_le
def zbk:=@Array.getElem?_eq_some_iff
def zbl:=@Array.length_toList
def zbm:=@Option.map_eq_some_iff
def zbn:=@List.take_append_drop
def zbo:=@List.getElem?_set_ne
def zbp:=@List.length_reverse
def zbq:=@List.length_replicate
def zbr:=@List.getElem?_set
def zbs:=@Nat.pow_zero
def zbt:=@List.mem_cons_self
def zbu:=@List.drop_drop
def zbv:=@List.length_set
def zbw:=@Nat.pow_mul
def zbx:=@Nat.mul_zero
def zby:=@Int.sign_eq_one_of_pos
def zbz:=@Int.mul_assoc
def zbA:=@Array.getElem?_setIfInBounds_ne
def zbB:=@List.eq_nil_of_length_eq_zero
def zbC:=@BitVec.ofInt_natCast
def zbD:=@List.ext_getElem?
def zbE:=@List.mem_append
def zbF:=@of_decide_eq_true
def zbG:=@List.getElem?_eq_none
def zbH:=@List.mem_of_mem_take
def zbI:=@Nat.le_div_iff_mul_le
def zbJ:=@Nat.mul_pos
def zbK:=@Rat.neg_num
def zbL:=@Int.natAbs_neg
def zbM:=@Int.sign_eq_zero_iff_zero
def zbN:=@Int.natAbs_mul
def zbO:=@List.append_assoc
def zbP:=@List.reverse_append
def zbQ:=@Nat.eq_of_beq_eq_true
def zbR:=@Bool.eq_false_iff
def zbS:=@Nat.add_comm
def zbT:=@Nat.add_assoc
def zbU:=@List.eq_nil_or_concat
def zbV:=@List.concat_eq_append
def zbW:=@List.map_nil
def zbX:=@Int.toNat_natCast
def zbY:=@List.take_length
def zbZ:=@Nat.lt_succ_self
def zca:=@List.drop_of_length_le
def zcb:=@Nat.div_one
def zcc:=@Int.sign_eq_neg_one_of_neg
def zcd:=@Rat.neg_den
def zce:=@Nat.sub_le
def zcf:=@Int.one_mul
def zcg:=@Int.mul_nonneg
def zch:=@Nat.le_refl
def zci:=@Array.getElem?_eq_getElem
def zcj:=@Nat.succ_mul
def zck:=@List.map_map
def zcl:=@List.map_toArray
def zcm:=@Option.bind_eq_some_iff
def zcn:=@eq_of_beq
def zco:=@List.getElem?_map
def zcp:=@List.mem_iff_getElem?
def zcq:=@Nat.mul_lt_mul_of_pos_right
def zcr:=@Rat.mkRat_self
def zcs:=@List.append_nil
def zct:=@Nat.le_of_not_lt
def zcu:=@Int.not_lt
def zcv:=@Nat.le_add_right
def zcw:=@List.getElem?_toArray
def zcx:=@List.getElem?_cons_zero
def zcy:=@UInt8.toNat_inj
def zcz:=@Nat.lt_trichotomy
def zcA:=@List.pairwise_iff_getElem
def zcB:=@List.getElem_inj
def zcC:=@Nat.eq_zero_or_pos
def zcD:=@List.drop_length
def zcE:=@Nat.or_comm
def zcF:=@List.mem_of_mem_drop
def zcG:=@Nat.add_mul_div_left
def zcH:=@Nat.pow_pos
def zcI:=@Int.sign_mul_natAbs
def zcJ:=@Rat.sub_eq_add_neg
def zcK:=@Rat.not_lt
def zcL:=@Int.le_refl
def zcM:=@Int.le_of_lt
def zcN:=@Nat.le_of_mul_le_mul_right
def zcO:=@Bool.and_eq_true
def zcP:=@Nat.lt_of_lt_of_le
def zcQ:=@Nat.ble_eq_true_of_le
def zcR:=@Int.mul_neg
def zcS:=@Array.getElem?_push
def zcT:=@List.drop_set_of_lt
def zcU:=@Array.toList_extract
def zcV:=@Nat.not_lt_zero
def zcW:=@List.mem_range
def zcX:=@Nat.le_of_eq
def zcY:=@List.take_append_of_le_length
def zcZ:=@Nat.add_eq
def zda:=@Nat.mul_eq
def zdb:=@List.mem_append_left
def zdc:=@List.getElem?_set_self
def zdd:=@Nat.add_mul_mod_self_left
def zde:=@Nat.pow_lt_pow_iff_right
def zdf:=@Nat.mul_div_cancel
def zdg:=@Nat.div_pos
def zdh:=@Nat.gcd_dvd_left
def zdi:=@Rat.mkRat_eq_iff
def zdj:=@Rat.add_def'
def zdk:=@Nat.pow_le_pow_left
def zdl:=@Rat.zero_mkRat
def zdm:=@List.getD_eq_getElem?_getD
def zdn:=@List.getElem?_eq_getElem
def zdo:=@List.drop_eq_getElem_cons
def zdp:=@Nat.le_succ_of_le
def zdq:=@Array.ext_getElem?
def zdr:=@List.extract_eq_take_drop
def zds:=@List.foldl_cons
def zdt:=@Option.getD_some
def zdu:=@List.mapM_cons
def zdv:=@List.map_append
def zdw:=@List.mem_of_find?_eq_some
def zdx:=@List.find?_some
def zdy:=@List.getElem_of_mem
def zdz:=@Bool.or_eq_true
def zdA:=@Int.natCast_add
def zdB:=@BitVec.toNat_ofNat
def zdC:=@List.isEmpty_eq_false_iff
def zdD:=@List.take_take
def zdE:=@List.nodup_nil
def zdF:=@List.flatMap_cons
def zdG:=@List.drop_left'
def zdH:=@Nat.mul_le_mul
def zdI:=@Nat.mul_add_div
def zdJ:=@Nat.mod_mod
def zdK:=@List.drop_set
def zdL:=@Nat.gcd_comm
def zdM:=@Int.natAbs_pow
def zdN:=@Rat.le_refl
def zdO:=@Nat.div_lt_of_lt_mul
def zdP:=@Nat.lt_trans
def zdQ:=@List.dropWhile_cons
def zdR:=@List.count_cons
def zdS:=@Int.natCast_ediv
def zdT:=@Nat.mul_le_mul_right
def zdU:=@List.getElem_mem
def zdV:=@List.getElem_drop
def zdW:=@Array.getElem?_setIfInBounds
def zdX:=@Array.getElem?_modify
def zdY:=@List.getElem?_cons_succ
def zdZ:=@Bool.not_false
def zea:=@List.getElem_append_left
def zeb:=@List.getElem_append_right
def zec:=@List.range_succ_eq_map
def zed:=@List.find?_cons
def zee:=@List.pairwise_cons
def zef:=@List.pairwise_append
def zeg:=@List.countP_cons
def zeh:=@List.any_eq_true
def zei:=@List.flatten_cons
def zej:=@Nat.mul_mod_left
def zek:=@List.drop_take
def zel:=@List.drop_append_of_le_length
def zem:=@List.replicate_succ
def zen:=@List.take_left'
def zeo:=@List.length_nil
def zep:=@List.mem_append_right
def zeq:=@List.length_range
def zer:=@List.map_drop
def zes:=@Nat.mod_add_div
def zet:=@Nat.two_pow_add_eq_or_of_lt
def zeu:=@List.getElem?_replicate
def zev:=@List.length_eq_one_iff
def zew:=@Nat.mod_mul_right_mod
def zex:=@Nat.mod_mul_right_div_self
def zey:=@Nat.add_mul_mod_self_right
def zez:=@Nat.div_mul_le_self
def zeA:=@Nat.mul_lt_mul''
def zeB:=@Nat.gcd_pos_of_pos_left
def zeC:=@Nat.mul_div_cancel_left
def zeD:=@List.length_eq_zero_iff
def zeE:=@Nat.gcd_one_right
def zeF:=@Nat.gcd_le_right
def zeG:=@Int.natCast_pow
def zeH:=@Nat.gcd_zero_left
def zeI:=@Int.sign_neg_iff
def zeJ:=@List.mem_reverse
def zeK:=@List.all_append
def zeL:=@Int.ediv_nonneg
def zeM:=@Rat.neg_mkRat
def zeN:=@List.not_mem_nil
def zeO:=@Option.isSome_iff_exists
def zeP:=@Array.mapM_eq_mapM_toList
def zeQ:=@Nat.le_mul_of_pos_right
def zeR:=@List.length_eraseIdx_of_lt
def zeS:=@List.getElem?_eq_none_iff
def zeT:=@Nat.add_sub_cancel_left
def zeU:=@List.isPrefixOf_iff_prefix
def zeV:=@Nat.gcd_pos_of_pos_right
def zeW:=@Int.mul_ediv_mul_of_pos_left
def zeX:=@Int.mul_le_mul_of_nonneg_left
abbrev ac(α:Type u):=List α
abbrev am(α:Type u):=Option α
abbrev ap(α:Type u):=Array α
abbrev be:=Value
abbrev bi:=Operand
abbrev bv:=UInt8
abbrev ce:=TypeId
abbrev ci:=FuncId
abbrev co:=World
abbrev d7:=IntKind
abbrev d8:=MapEntry
abbrev d9:=Program
abbrev f5:=ByteArray
abbrev f6:=TypeInfo
variable{n m:Nat}{α:Type u}{i:Nat}{l:ac α}
def bF(h:i<l.length):l[i]? =some l[i]:=zdn h
def bX(a b:Bool):((a&&b)=true)=(a=true∧b=true):=zcO a b
def ek(h:Nat.beq n m=true):n=m:=zbQ h
def fC{k:Nat}(h:n<m)(g:m<=k):n<k:=zcP h g
def fK(k:Nat)(h:m<=n):m*k<=n*k:=zdT k h
def lF(k:Nat)(h:m<=n):k*m<=k*n:=Nat.mul_le_mul_left k h
def dJ{a b:Nat}(h:a<b):a%b=a:=Nat.mod_eq_of_lt h
def bY(n:Nat):n<=n:=zch n
def hB(h:i<l.length):l.drop i=l[i]::l.drop (i+1):=zdo h
def dV(h:n<l.length):l[n]∈l:=zdU h
def jN(h:Nat.ble n m=true):n<=m:=Nat.le_of_ble_eq_true h
inductive an(α:Type)where
 |nil:an α
 |node (l:an α) (v:Option α) (r:an α):an α
namespace an
variable{α β:Type}
def get(t:an α):Nat->am α:=
 an.rec (motive:=fun _=>Nat->am α) (fun _=>none)
  (fun _ v _ ajx aX n=>Nat.rec (motive:=fun _=>am α) v (fun m _=>Nat.rec (motive:=fun _=>am α) (ajx (Nat.div m 2)) (fun _ _=>aX (Nat.div m 2)) (Nat.mod m 2)) n) t
def ik(f:Nat):an α->Nat->α->(an α->β)->β:=
 Nat.rec (motive:=fun _=>an α->Nat->α->(an α->β)->β) (fun t _ _ k=>k t)
  (fun _ aZ t n x k=>
   an.rec (motive:=fun _=>β)
    (Nat.rec (motive:=fun _=>β) (k (.node .nil (some x) .nil))
     (fun m _=>Nat.rec (motive:=fun _=>β) (aZ .nil (Nat.div m 2) x fun l'=>k (.node l' none .nil)) (fun _ _=>aZ .nil (Nat.div m 2) x fun dG=>k (.node .nil none dG)) (Nat.mod m 2)) n)
    (fun l v r _ _=>
     Nat.rec (motive:=fun _=>β) (k (.node l (some x) r))
      (fun m _=>Nat.rec (motive:=fun _=>β) (aZ l (Nat.div m 2) x fun l'=>k (.node l' v r)) (fun _ _=>aZ r (Nat.div m 2) x fun dG=>k (.node l v dG)) (Nat.mod m 2)) n) t) f
def set(t:an α)(n:Nat)(x:α):an α:=ik (Nat.succ n) t n x id
def XS(v:am α)(r:an α)(l:an α):an α:=
 an.rec (motive:=fun _=>an α) (.node .nil v r) (fun a b c _ _=>.node (.node a b c) v r) l
def XT(l:an α)(v:am α)(r:an α):an α:=
 an.rec (motive:=fun _=>an α) (.node l v .nil) (fun a b c _ _=>.node l v (.node a b c)) r
def Ir(aZ:an α->Nat->α->an α)(l:an α)(v:am α)(r:an α)(m:Nat)(x:α):an α:=
 Nat.rec (motive:=fun _=>an α) (XS v r (aZ l (Nat.div m 2) x)) (fun _ _=>XT l v (aZ r (Nat.div m 2) x)) (Nat.mod m 2)
def Iq(aZ:an α->Nat->α->an α)(l:an α)(v:am α)(r:an α)(n:Nat)(x:α):an α:=
 Nat.rec (motive:=fun _=>an α) (.node l (some x) r) (fun m _=>Ir aZ l v r m x) n
def api(aZ:an α->Nat->α->an α)(t:an α)(n:Nat)(x:α):an α:=
 an.rec (motive:=fun _=>an α) (Iq aZ .nil none .nil n x) (fun l v r _ _=>Iq aZ l v r n x) t
def kn(f:Nat):an α->Nat->α->an α:=
 Nat.rec (motive:=fun _=>an α->Nat->α->an α) (fun t _ _=>t) (fun _ aZ=>api aZ) f
def fin(t:an α)(k:an α->β):β:=
 an.rec (motive:=fun _=>β) (k .nil) (fun a b c _ _=>k (.node a b c)) t
end an
inductive oP where
 |sC
 |kF
 |yg
 |v3
 |yf
 |ptr
 |agg (ps:List (Nat×Nat×Bool×oP))
inductive fL where
 |int (k:IntKind)
 |str
 |arr (k:IntKind) (n:Nat)
inductive u0 where
 |look (c4:fL) (zero:Value) (ok:Bool) (m k:Operand)
 |gP (c4:fL) (m k v:Operand)
 |del (c4:fL) (m k:Operand)
 |Aq (m:Operand)
 |Ar (m:Operand)
 |Ao (it:Operand)
 |bb (s c:Operand)
 |qV (neg:Bool) (n:Nat) (x y:Operand)
 |ui (it:Operand)
 |xa (gt:Bool) (x y:Operand)
 |idxs (g:Nat) (s b:Operand)
 |A9 (x:Operand)
 |A8 (it:Operand)
 |Ap (e:TypeId) (n:Operand)
 |zm (x:Operand)
inductive c7 where
 |l1 (x:Operand)
 |pick (c a b:Operand)
 |alloc (z:List Value) (elem:TypeId)
 |box (elem:TypeId) (x:Operand)
 |build (z:List Value) (ps:List (Nat×Nat×Operand))
 |oX (elem:TypeId) (len:Nat) (z:List Value) (ps:List (Nat×Nat×Operand))
 |lZ (a:Operand)
 |qk (n:Nat) (a:Operand)
 |store (n:Nat) (a x:Operand)
 |sw (x:Operand)
 |HX (name:String) (hz:List (Nat×FuncId)) (x:Operand)
 |bin (op:BinOp) (x y:Operand)
 |eqv (neg:Bool) (e:oP) (x y:Operand)
 |un (op:UnOp) (x:Operand)
 |tb (k:IntKind) (x:Operand)
 |w7 (x:Operand)
 |zn (x:Operand)
 |u9 (elem:TypeId) (x:Operand)
 |HJ (t:TypeId) (x:Operand)
 |uc (fn:Fn) (first fm:List Operand)
 |ud
 |po (elem:TypeId) (bytes:Nat) (z:List Value) (len cap:Operand)
 |sL (x:Operand) (aM hi:Option Operand)
 |A7 (n a7:Nat) (x:Operand) (aM hi eX:Option Operand)
 |nm (a7:Nat) (x:Operand) (aM hi eX:Option Operand)
 |xp (off:Nat) (x:Operand)
 |o7 (off a7:Nat) (agg:Bool) (x:Operand)
 |si (n a7:Nat) (x i:Operand)
 |lW (a7:Nat) (x i:Operand)
 |tU (x i:Operand)
 |Hq (n a7:Nat) (agg:Bool) (x i:Operand)
 |Jv (t:TypeId) (zero:Value) (ok:Bool) (x:Operand)
 |xo (x:Operand) (i:Nat)
 |call (f:Operand) (args:List Operand)
 |inv (hz:List (Nat×FuncId)) (x:Operand) (args:List Operand)
 |oE (x:Operand)
 |tY (x:Operand)
 |x2 (n:Nat)
 |vV (x:Operand)
 |app (elem:TypeId) (a7 bytes:Nat) (s x:Operand)
 |eX (x:Operand) (xs:List Operand)
 |yb (x:Operand) (xs:List Operand)
 |qR (a7:Nat) (d s:Operand)
 |wB
 |qS (f:Operand) (args:List Operand)
 |rC (x:Operand)
 |BW (x:Operand)
 |BX (elem n:Nat) (x:Operand)
 |A1 (x:Operand)
 |sO (elem:TypeId) (x n:Operand)
 |kl (s c:Operand)
 |jZ (x:Operand)
 |ext (y:u0)
 |refuse
structure bE where
 d:am Tmp
 o:c7
 g:am (Tmp×Bool)
inductive cw where
 |ez
 |hG (ts:List Tmp)
 |read (back:Nat) (ts:List Tmp)
inductive dp where
 |skip
 |yD (ops:List bE)
 |tk (ops:List (bE×cw)) (b6:List Nat) (dU:List Tmp) (ms:List Nat)
 |seq (a b:dp)
 |cond (c:Operand) (a b:dp)
 |block (id:Nat) (b:dp)
 |loop (b:dp)
 |I2 (f:Operand) (params:List Tmp) (assign body:dp)
 |exit (id:Nat)
 |scope (b:dp)
 |ret
 |refuse
inductive dM where
 |norm
 |exit (id:Nat)
 |ret
 |ba (v:Value)
inductive iU where
 |tmp (t:Tmp)
 |cell (a:Tmp) (agg:Bool) (n:Nat)
structure dh where
 aO:Nat
 res:ac iU
 body:dp
inductive bD where
 |cells (cs:List Value) (elem:TypeId) (a8:Nat×Nat) (aX:Bool)
 |map (es:List MapEntry) (clock:Nat)
 |yJ (s:ByteArray) (pos:Nat)
 |ub (m:Option Nat) (since:Nat) (seen:List Nat) (Ba:Nat)
 |loop (st:LoopState) (pending:Option dM) (fn:FuncId) (tmps:an Value) (params:List Tmp) (assign body:dp) (defers:Nat)
 |iV (calls:Option (List Deferred))
 |dead
structure aw where
 h:an bD
 ag:Nat
structure aP where
 t:an be
 c1:ac Deferred
 ba:am be
 cF:Bool
 b3:am Nat
def aP.tmp(fr:aP)(n:Nat):be:=
 Option.rec (motive:=fun _=>be) (.chan (some 0)) (fun v=>v) (fr.t.get n)
def aP.af(fr:aP)(x:bi):be:=
 Operand.rec (motive:=fun _=>be) (fun t=>fr.tmp t) (fun v=>v) (fun g=>.pointer (some ⟨g,0,none⟩)) (fun f=>.func (.func f) #[] #[]) x
def aP.XB(t:an be)(c1:ac Deferred)(ba:am be)(cF:Bool)(b3:am Nat):aP:=
 an.rec (motive:=fun _=>aP) ⟨.nil,c1,ba,cF,b3⟩ (fun a b c _ _=>⟨.node a b c,c1,ba,cF,b3⟩) t
def aP.Iq(d:Nat)(v:be)(fr:aP):aP:=
 aP.rec (motive:=fun _=>aP) (fun t c1 ba cF b3=>aP.XB (an.kn (Nat.succ d) t d v) c1 ba cF b3) fr
def aP.put(fr:aP)(d:am Tmp)(v:be):aP:=
 Option.rec (motive:=fun _=>aP) fr (fun d=>aP.Iq d v fr) d
inductive aS where
 |ok (v:Value) (fr:aP) (st:aw)
 |ba (v:Value) (st:aw)
 |no
inductive dL where
 |ret (v:Value) (st:aw) (eF:Bool)
 |ba (v:Value) (st:aw) (eF:Bool)
 |no
section lists
variable{α β:Type}
def O5(n:Nat):ac α->am (ac α):=
 Nat.rec (motive:=fun _=>ac α->am (ac α)) (fun _=>some [])
  (fun _ aZ l=>List.rec (motive:=fun _=>am (ac α)) none
   (fun x xs _=>Option.rec (motive:=fun _=>am (ac α)) none (fun r=>some (x::r)) (aZ xs)) l) n
def FU(n:Nat):ac α->ac α:=
 Nat.rec (motive:=fun _=>ac α->ac α) (fun l=>l)
  (fun _ aZ l=>List.rec (motive:=fun _=>ac α) [] (fun _ xs _=>aZ xs) l) n
def qw(l:ac α):Nat->ac α->(ac α->β)->β->β:=
 List.rec (motive:=fun _=>Nat->ac α->(ac α->β)->β->β) (fun _ vs k z=>List.rec (motive:=fun _=>β) (k []) (fun _ _ _=>z) vs)
  (fun y ao aZ n vs k z=>
   Nat.rec (motive:=fun _=>β)
    (List.rec (motive:=fun _=>β) (k (y::ao)) (fun v vs _=>aZ 0 vs (fun l'=>k (v::l')) z) vs)
    (fun m _=>aZ m vs (fun l'=>k (y::l')) z) n) l
end lists
variable{β:Type}
def gd(n:Nat)(k:Nat->β):β:=cond (Nat.beq n n) (k n) (k n)
def RX(n:Int)(k:Int->β):β:=
 Int.rec (motive:=fun _=>β) (fun m=>gd m fun m=>k (.ofNat m)) (fun m=>gd m fun m=>k (.negSucc m)) n
def aw.jg(st:aw)(o:bD)(k:Nat->aw->β):β:=
 gd st.ag fun n=>an.fin (an.kn (Nat.succ n) st.h n o) fun h=>k n ⟨h,Nat.succ n⟩
def iB(v:be):ac be:=v.cells.toList
def tT:be->Bool
 |.chan (some _)=>true
 |_=>false
def mY:be->Bool
 |.agg _|.tuple _|.chan (some _)=>false
 |_=>true
def gZ(vs:ac be):Bool:=List.rec (motive:=fun _=>Bool) true (fun v _ r=>cond (mY v) r false) vs
mutual
def dA:be->be->Bool
 |.bool a,.bool b=>a==b
 |.int k a,.int k' b=>decide (k=k')&&a==b
 |.float k a,.float k' b=>decide (k=k')&&a==b
 |.complex k a c,.complex k' b d=>decide (k=k')&&a==b&&c==d
 |.string a,.string b=>a.data.toList==b.data.toList
 |.pointer a,.pointer b=>a==b
 |.slice a l c,.slice b l' bT=>a==b&&l==l'&&c==bT
 |.map a,.map b=>a==b
 |.chan a,.chan b=>a==b
 |.func f x y,.func g u v=>decide (f=g)&&wN x u&&wN y v
 |.nilFunc,.nilFunc=>true
 |.iface t v,.iface u w=>t==u&&dA v w
 |.nilIface,.nilIface=>true
 |.agg a,.agg b=>wN a b
 |.tuple a,.tuple b=>wN a b
 |_,_=>false
def wN:ap be->ap be->Bool
 |⟨a⟩,⟨b⟩=>lE a b
def lE:ac be->ac be->Bool
 |[],[]=>true
 |a::as,b::bS=>dA a b&&lE as bS
 |_,_=>false
end
mutual
theorem Bk:∀v:be,dA v v=true
 |.bool a=>by simp[dA]
 |.int k a=>by simp[dA]
 |.float k a=>by simp[dA]
 |.complex k a c=>by simp[dA]
 |.string a=>by simp[dA]
 |.pointer a=>by simp[dA]
 |.slice a l c=>by simp[dA]
 |.map a=>by simp[dA]
 |.chan a=>by simp[dA]
 |.func f x y=>by simp[dA,JC x,JC y]
 |.nilFunc=>by simp[dA]
 |.iface t v=>by simp[dA,Bk v]
 |.nilIface=>by simp[dA]
 |.agg a=>by simp[dA,JC a]
 |.tuple a=>by simp[dA,JC a]
theorem JC:∀v:ap be,wN v v=true
 |⟨a⟩=>by simp[wN,abO a]
theorem abO:∀v:ac be,lE v v=true
 |[]=>by simp[lE]
 |a::as=>by simp[lE,Bk a,abO as]
end
mutual
theorem nt:∀v w:be,dA v w=true->v=w
 |.bool a,w,h=>by cases w<;>simp_all [dA]
 |.int k a,w,h=>by cases w<;>simp_all [dA]
 |.float k a,w,h=>by cases w<;>simp_all [dA]
 |.complex k a c,w,h=>by cases w<;>simp_all [dA]
 |.string a,w,h=>by
  cases w<;>simp_all [dA];rename_i b;cases a;cases b;simp_all
 |.pointer a,w,h=>by cases w<;>simp_all [dA]
 |.slice a l c,w,h=>by cases w<;>simp_all [dA]
 |.map a,w,h=>by cases w<;>simp_all [dA]
 |.chan a,w,h=>by cases w<;>simp_all [dA]
 |.func f x y,w,h=>by
  cases w<;>simp[dA]at h;rename_i g u v;simp[h.1.1,JB x u h.1.2,JB y v h.2]
 |.nilFunc,w,h=>by cases w<;>simp_all [dA]
 |.iface t v,w,h=>by
  cases w<;>simp[dA]at h;rename_i u x;simp[h.1,nt v x h.2]
 |.nilIface,w,h=>by cases w<;>simp_all [dA]
 |.agg a,w,h=>by
  cases w<;>simp[dA]at h;rename_i b;simp[JB a b h]
 |.tuple a,w,h=>by
  cases w<;>simp[dA]at h;rename_i b;simp[JB a b h]
theorem JB:∀v w:ap be,wN v w=true->v=w
 |⟨a⟩,⟨b⟩,h=>by simp[wN]at h;simp[yQ a b h]
theorem yQ:∀v w:ac be,lE v w=true->v=w
 |[],[],_=>rfl
 |a::as,b::bS,h=>by simp[lE]at h;simp[nt a b h.1,yQ as bS h.2]
 |[],_::_,h=>by simp[lE]at h
 |_::_,[],h=>by simp[lE]at h
end
end Go.aj
namespace Go.aj
def ue(n:Int)(M:Nat):Nat:=
 Int.rec (motive:=fun _=>Nat) (fun m=>Nat.mod m M) (fun m=>Nat.sub (Nat.sub M 1) (Nat.mod m M)) n
def yS(M:Nat)(n:Int):Int:=.ofNat (ue n M)
def wO(M H:Nat)(n:Int):Int:=
 gd (ue n M) fun r=>cond (Nat.ble (Nat.succ r) H) (.ofNat r) (.negSucc (Nat.sub (Nat.sub M 1) r))
def oh(k:d7)(n:Int):Int:=
 IntKind.rec (motive:=fun _=>Int->Int) (wO 256 128) (wO 65536 32768) (wO 4294967296 2147483648) (wO 18446744073709551616 9223372036854775808)
  (yS 256) (yS 65536) (yS 4294967296) (yS 18446744073709551616) k n
def XF(n:Int)(M:Nat)(h:0<M):(ue n M:Int)=n%M:=by
 cases n with
 |ofNat m=>rfl
 |negSucc m=>
  show((M-1-m%M:Nat):Int)=_;rw[Int.negSucc_emod _ (by omega)];have:m%M<M:=zaf _ h;omega
def rP(M:Nat)(n:Int)(h:0<M):yS M n=n%M:=XF n M h
def wP(M H:Nat)(n:Int)(h:0<M):wO M H n=if n%M>=H then n%M-M else n%M:=by
 have e:=XF n M h;have aV:ue n M<M:=by have:=Int.emod_lt_of_pos n (show(0:Int)<M by omega);omega
 unfold wO gd;rw[zaL];rw[<-e];simp only[cond];by_cases c:ue n M<H
 ·rw[zcQ c];rw[zaa (by omega)];rfl
 ·have:Nat.ble (Nat.succ (ue n M)) H=false:=by
   rw[zbR];intro hh;exact c (jN hh)
  rw[this];rw[zab (by omega)];show Int.negSucc (M-1-ue n M)=_;omega
def kt(k:d7)(n:Int):oh k n=k.wrap n:=by
 cases k
 all_goals simp only[oh,IntKind.wrap,IntKind.bits,IntKind.signed]
 ·rw[wP 256 128 n (by decide)];simp
 ·rw[wP 65536 32768 n (by decide)];simp
 ·rw[wP 4294967296 2147483648 n (by decide)];simp
 ·rw[wP 18446744073709551616 9223372036854775808 n (by decide)];simp
 ·rw[rP 256 n (by decide)];rfl
 ·rw[rP 65536 n (by decide)];rfl
 ·rw[rP 4294967296 n (by decide)];rfl
 ·rw[rP 18446744073709551616 n (by decide)];rfl
def yL(m n:Nat):Int:=cond (Nat.ble n m) (.ofNat (Nat.sub m n)) (.negSucc (Nat.sub (Nat.sub n m) 1))
def Ex(m n:Nat):yL m n=(m:Int)-n:=by
 unfold yL;by_cases h:n<=m
 ·rw[zcQ h];show((m-n:Nat):Int)=_;omega
 ·have:Nat.ble n m=false:=by rw[zbR];intro hh;exact h (jN hh)
  rw[this];show Int.negSucc (n-m-1)=_;omega
def By(a b:Int):Int:=
 Int.rec (motive:=fun _=>Int)
  (fun m=>Int.rec (motive:=fun _=>Int) (fun n=>.ofNat (Nat.add m n)) (fun n=>yL m (Nat.succ n)) b)
  (fun m=>Int.rec (motive:=fun _=>Int) (fun n=>yL n (Nat.succ m)) (fun n=>.negSucc (Nat.succ (Nat.add m n))) b) a
def PT(a b:Int):By a b=a+b:=by
 cases a with
 |ofNat m=>
  cases b with
  |ofNat n=>rfl
  |negSucc n=>simp only[By,Ex];show(m:Int)-((n+1:Nat):Int)=(m:Int)+Int.negSucc n;omega
 |negSucc m=>
  cases b with
  |ofNat n=>simp only[By,Ex];show(n:Int)-((m+1:Nat):Int)=Int.negSucc m+(n:Int);omega
  |negSucc n=>rfl
def HT(a:Int):Int:=
 Int.rec (motive:=fun _=>Int) (fun m=>yL 0 m) (fun m=>.ofNat (Nat.succ m)) a
def Nu(a:Int):HT a= -a:=by
 cases a with
 |ofNat m=>simp only[HT,Ex];show((0:Nat):Int)-(m:Int)= -(m:Int);omega
 |negSucc m=>rfl
def At(a b:Int):Int:=
 Int.rec (motive:=fun _=>Int)
  (fun m=>Int.rec (motive:=fun _=>Int) (fun n=>.ofNat (Nat.mul m n)) (fun n=>yL 0 (Nat.mul m (Nat.succ n))) b)
  (fun m=>Int.rec (motive:=fun _=>Int) (fun n=>yL 0 (Nat.mul (Nat.succ m) n)) (fun n=>.ofNat (Nat.mul (Nat.succ m) (Nat.succ n))) b) a
def Nr(a b:Int):At a b=a*b:=by
 cases a with
 |ofNat m=>
  cases b with
  |ofNat n=>rfl
  |negSucc n=>
   simp only[At,Ex];show(0:Int)-((m*(n+1):Nat):Int)=(m:Int)* -((n:Int)+1);rw[zcR];push_cast;omega
 |negSucc m=>
  cases b with
  |ofNat n=>
   simp only[At,Ex];show(0:Int)-(((m+1)*n:Nat):Int)= -((m:Int)+1)*n;rw[zbe];push_cast;omega
  |negSucc n=>
   simp only[At];show(((m+1)*(n+1):Nat):Int)= -((m:Int)+1)* -((n:Int)+1);rw[Int.neg_mul_neg];push_cast;rfl
def mD(a b:Int):Bool:=
 Int.rec (motive:=fun _=>Bool)
  (fun m=>Int.rec (motive:=fun _=>Bool) (fun n=>Nat.ble m n) (fun _=>false) b)
  (fun m=>Int.rec (motive:=fun _=>Bool) (fun _=>true) (fun n=>Nat.ble n m) b) a
def sq(a b:Int):mD a b=decide (a<=b):=by
 cases a with
 |ofNat m=>
  cases b with
  |ofNat n=>simp only[mD];rw[zaZ];simp
  |negSucc n=>simp only[mD];rw[zaZ];simp;omega
 |negSucc m=>
  cases b with
  |ofNat n=>simp only[mD];rw[zaZ];simp;omega
  |negSucc n=>simp only[mD];rw[zaZ];simp;omega
def r4(a b:Int):Bool:=
 Int.rec (motive:=fun _=>Bool)
  (fun m=>Int.rec (motive:=fun _=>Bool) (fun n=>Nat.beq m n) (fun _=>false) b)
  (fun m=>Int.rec (motive:=fun _=>Bool) (fun _=>false) (fun n=>Nat.beq n m) b) a
def Cf(a b:Int):r4 a b=(a==b):=by
 cases a with
 |ofNat m=>
  cases b with
  |ofNat n=>simp only[r4];rw[zaZ];simp;omega
  |negSucc n=>simp only[r4];rw[zaZ];simp
 |negSucc m=>
  cases b with
  |ofNat n=>simp only[r4];rw[zaZ];simp
  |negSucc n=>simp only[r4];rw[zaZ];simp;omega
section
variable{β:Type}
def ns(v:be)(k:Bool->β)(z:β):β:=
 @Value.rec (fun _=>β) (fun _=>Unit) (fun _=>Unit) (fun h5=>k h5) (fun _ _=>z) (fun _ _=>z) (fun _ _ _=>z) (fun _=>z) (fun _=>z) (fun _ _ _=>z) (fun _=>z) (fun _=>z) (fun _ _ _ _ _=>z) z (fun _ _ _=>z) z (fun _ _=>z) (fun _ _=>z) (fun _ _=>()) () (fun _ _ _ _=>()) v
def gp(v:be)(k:d7->Int->β)(z:β):β:=
 @Value.rec (fun _=>β) (fun _=>Unit) (fun _=>Unit) (fun _=>z) (fun h5 dQ=>k h5 dQ) (fun _ _=>z) (fun _ _ _=>z) (fun _=>z) (fun _=>z) (fun _ _ _=>z) (fun _=>z) (fun _=>z) (fun _ _ _ _ _=>z) z (fun _ _ _=>z) z (fun _ _=>z) (fun _ _=>z) (fun _ _=>()) () (fun _ _ _ _=>()) v
def hM(v:be)(k:f5->β)(z:β):β:=
 @Value.rec (fun _=>β) (fun _=>Unit) (fun _=>Unit) (fun _=>z) (fun _ _=>z) (fun _ _=>z) (fun _ _ _=>z) (fun h5=>k h5) (fun _=>z) (fun _ _ _=>z) (fun _=>z) (fun _=>z) (fun _ _ _ _ _=>z) z (fun _ _ _=>z) z (fun _ _=>z) (fun _ _=>z) (fun _ _=>()) () (fun _ _ _ _=>()) v
def iy(v:be)(k:am Addr->β)(z:β):β:=
 @Value.rec (fun _=>β) (fun _=>Unit) (fun _=>Unit) (fun _=>z) (fun _ _=>z) (fun _ _=>z) (fun _ _ _=>z) (fun _=>z) (fun h5=>k h5) (fun _ _ _=>z) (fun _=>z) (fun _=>z) (fun _ _ _ _ _=>z) z (fun _ _ _=>z) z (fun _ _=>z) (fun _ _=>z) (fun _ _=>()) () (fun _ _ _ _=>()) v
def hL(v:be)(k:am Addr->Nat->Nat->β)(z:β):β:=
 @Value.rec (fun _=>β) (fun _=>Unit) (fun _=>Unit) (fun _=>z) (fun _ _=>z) (fun _ _=>z) (fun _ _ _=>z) (fun _=>z) (fun _=>z) (fun h5 dQ wQ=>k h5 dQ wQ) (fun _=>z) (fun _=>z) (fun _ _ _ _ _=>z) z (fun _ _ _=>z) z (fun _ _=>z) (fun _ _=>z) (fun _ _=>()) () (fun _ _ _ _=>()) v
def yO(v:be)(k:Fn->ap be->ap be->β)(z:β):β:=
 @Value.rec (fun _=>β) (fun _=>Unit) (fun _=>Unit) (fun _=>z) (fun _ _=>z) (fun _ _=>z) (fun _ _ _=>z) (fun _=>z) (fun _=>z) (fun _ _ _=>z) (fun _=>z) (fun _=>z) (fun h5 dQ wQ _ _=>k h5 dQ wQ) z (fun _ _ _=>z) z (fun _ _=>z) (fun _ _=>z) (fun _ _=>()) () (fun _ _ _ _=>()) v
def sQ(v:be)(k:ce->be->β)(z:β):β:=
 @Value.rec (fun _=>β) (fun _=>Unit) (fun _=>Unit) (fun _=>z) (fun _ _=>z) (fun _ _=>z) (fun _ _ _=>z) (fun _=>z) (fun _=>z) (fun _ _ _=>z) (fun _=>z) (fun _=>z) (fun _ _ _ _ _=>z) z (fun h5 dQ _=>k h5 dQ) z (fun _ _=>z) (fun _ _=>z) (fun _ _=>()) () (fun _ _ _ _=>()) v
def rO(v:be)(k:ap be->β)(z:β):β:=
 @Value.rec (fun _=>β) (fun _=>Unit) (fun _=>Unit) (fun _=>z) (fun _ _=>z) (fun _ _=>z) (fun _ _ _=>z) (fun _=>z) (fun _=>z) (fun _ _ _=>z) (fun _=>z) (fun _=>z) (fun _ _ _ _ _=>z) z (fun _ _ _=>z) z (fun h5 _=>k h5) (fun _ _=>z) (fun _ _=>()) () (fun _ _ _ _=>()) v
def qF(v:be)(k:ap be->β)(z:β):β:=
 @Value.rec (fun _=>β) (fun _=>Unit) (fun _=>Unit) (fun _=>z) (fun _ _=>z) (fun _ _=>z) (fun _ _ _=>z) (fun _=>z) (fun _=>z) (fun _ _ _=>z) (fun _=>z) (fun _=>z) (fun _ _ _ _ _=>z) z (fun _ _ _=>z) z (fun _ _=>z) (fun h5 _=>k h5) (fun _ _=>()) () (fun _ _ _ _=>()) v
def yP(v:be)(k:am Nat->β)(z:β):β:=
 @Value.rec (fun _=>β) (fun _=>Unit) (fun _=>Unit) (fun _=>z) (fun _ _=>z) (fun _ _=>z) (fun _ _ _=>z) (fun _=>z) (fun _=>z) (fun _ _ _=>z) (fun h5=>k h5) (fun _=>z) (fun _ _ _ _ _=>z) z (fun _ _ _=>z) z (fun _ _=>z) (fun _ _=>z) (fun _ _=>()) () (fun _ _ _ _=>()) v
end
def sP{β:Type}(v:be)(a z:β):β:=match v with|.chan none=>a|_=>z
def ih:be:=.chan (some 0)
abbrev bL:=be->ac be->am be->aw->dL
section elim
variable{α β:Type}
def bd(o:am α)(k:α->β)(z:β):β:=Option.rec (motive:=fun _=>β) z k o
def dY(a b:Nat)(x y:β):β:=cond (Nat.ble a b) x y
def dW(a b:Nat)(x y:β):β:=cond (Nat.beq a b) x y
def g9(n:Int)(k:Nat->β)(z:β):β:=Int.rec (motive:=fun _=>β) k (fun _=>z) n
def df(l:ac α):Nat:=List.rec (motive:=fun _=>Nat) 0 (fun _ _ n=>Nat.succ n) l
def gG(l m:ac α):ac α:=List.rec (motive:=fun _=>ac α) m (fun x _ r=>x::r) l
def iD(l:ac α)(off n:Nat)(k:ac α->β)(z:β):β:=bd (O5 n (FU off l)) k z
def one(l:ac α)(k:α->β)(z:β):β:=
 List.rec (motive:=fun _=>β) z (fun x xs _=>List.rec (motive:=fun _=>β) (k x) (fun _ _ _=>z) xs) l
end elim
variable{β:Type}
def hY(k:d7)(n:Int)(c:be->β):β:=RX n fun m=>c (.int k m)
def jE(a b:d7):Bool:=Nat.beq a.ctorIdx b.ctorIdx
def BJ(f:Nat->Nat->Nat)(g:Int)(k:d7)(a b:Int)(c:be->aS):aS:=
 g9 a (fun m=>g9 b (fun n=>hY k (oh k (.ofNat (f (ue (.ofNat m) (2^k.bits)) (ue (.ofNat n) (2^k.bits))))) c) (hY k g c)) (hY k g c)
def Qq(k:d7)(a b:Int)(c:be->aS):aS:=hY k (oh k (By a b)) c
def QD(k:d7)(a b:Int)(c:be->aS):aS:=hY k (oh k (By a (HT b))) c
def Qy(k:d7)(a b:Int)(c:be->aS):aS:=hY k (oh k (At a b)) c
def QB(k:d7)(a b:Int)(c:be->aS):aS:=cond (r4 b 0) .no (g9 a (fun m=>g9 b (fun n=>hY k (oh k (.ofNat (Nat.div m n))) c) (hY k (k.wrap (a.tdiv b)) c)) (hY k (k.wrap (a.tdiv b)) c))
def QC(k:d7)(a b:Int)(c:be->aS):aS:=cond (r4 b 0) .no (g9 a (fun m=>g9 b (fun n=>hY k (.ofNat (Nat.mod m n)) c) (hY k (a.tmod b) c)) (hY k (a.tmod b) c))
def Qr(k:d7)(a b:Int)(c:be->aS):aS:=BJ Nat.land (k.wrap (BitVec.ofInt k.bits a&&&BitVec.ofInt k.bits b).toNat) k a b c
def QA(k:d7)(a b:Int)(c:be->aS):aS:=BJ Nat.lor (k.wrap (BitVec.ofInt k.bits a|||BitVec.ofInt k.bits b).toNat) k a b c
def QE(k:d7)(a b:Int)(c:be->aS):aS:=BJ Nat.xor (k.wrap (BitVec.ofInt k.bits a^^^BitVec.ofInt k.bits b).toNat) k a b c
def Qs(k:d7)(a b:Int)(c:be->aS):aS:=hY k (k.wrap (BitVec.ofInt k.bits a&&& ~~~(BitVec.ofInt k.bits b)).toNat) c
def Qt(_k:d7)(a b:Int)(c:be->aS):aS:=c (.bool (r4 a b))
def Qz(_k:d7)(a b:Int)(c:be->aS):aS:=c (.bool (!r4 a b))
def Qx(_k:d7)(a b:Int)(c:be->aS):aS:=c (.bool (!mD b a))
def Qw(_k:d7)(a b:Int)(c:be->aS):aS:=c (.bool (mD a b))
def Qv(_k:d7)(a b:Int)(c:be->aS):aS:=c (.bool (!mD a b))
def Qu(_k:d7)(a b:Int)(c:be->aS):aS:=c (.bool (mD b a))
def Kr(_k:d7)(_a _b:Int)(_c:be->aS):aS:=.no
def zh(op:BinOp)(k:d7)(a b:Int)(c:be->aS):aS:=
 BinOp.rec (motive:=fun _=>d7->Int->Int->(be->aS)->aS) Qq QD Qy QB QC Qr QA QE Kr Kr Qs Qt Qz Qx Qw Qv Qu op k a b c
def BI(op:BinOp)(x y:f5)(c:be->aS):aS:=
 match op with
 |.add=>dY (Nat.add (df x.data.toList) (df y.data.toList)) (2^40) (c (.string ⟨⟨gG x.data.toList y.data.toList⟩⟩)) .no
 |.eql=>c (.bool (x.data.toList==y.data.toList))
 |.neq=>c (.bool (!(x.data.toList==y.data.toList)))
 |_=>.no
def yI(k:d7)(a:Int)(n:Nat):Int:=oh k (At a (.ofNat (Nat.pow 2 (min n k.bits))))
def uD(k:d7)(a:Int)(n:Nat):Int:=
 g9 a (fun m=>.ofNat (Nat.div m (Nat.pow 2 (min n k.bits)))) (a.fdiv (2^(min n k.bits)))
def afC(_op:BinOp)(k:d7)(a:Int)(_yk:d7)(b:Int)(c:be->aS):aS:=g9 b (fun n=>hY k (yI k a n) c) .no
def afD(_op:BinOp)(k:d7)(a:Int)(_yk:d7)(b:Int)(c:be->aS):aS:=g9 b (fun n=>hY k (uD k a n) c) .no
def nH(op:BinOp)(k:d7)(a:Int)(wR:d7)(b:Int)(c:be->aS):aS:=cond (jE k wR) (zh op k a b c) .no
def zH(op:BinOp)(k:d7)(a:Int)(wR:d7)(b:Int)(c:be->aS):aS:=
 BinOp.rec (motive:=fun _=>BinOp->d7->Int->d7->Int->(be->aS)->aS) nH nH nH nH nH nH nH nH afC afD nH nH nH nH nH nH nH op op k a wR b c
def Cg(op:BinOp)(x y:be)(c:be->aS):aS:=
 gp x (fun k a=>gp y (fun wR b=>zH op k a wR b c) .no)
 (hM x (fun a=>hM y (fun b=>BI op a b c) .no) .no)
def uk(off a7:Nat)(agg:Bool)(cs:ac be):am be:=
 iD cs off a7 (fun vs=>cond agg (some (.agg ⟨vs⟩)) (one vs (fun v=>some v) none)) none
def o6:be->be->am Bool
 |.slice none _ _,.slice b _ _=>some b.isNone
 |.slice (some _) _ _,.slice none _ _=>some false
 |.chan none,.slice none _ _=>some false
 |_,_=>none
def Ce:be->be->am Bool
 |.map none,.map b=>some b.isNone
 |.map (some _),.map none=>some false
 |_,_=>none
def zF:be->be->am Bool
 |.nilFunc,.nilFunc=>some true
 |.nilFunc,.func _ _ _=>some false
 |.func _ _ _,.nilFunc=>some false
 |_,_=>none
def Cd:be->be->am Bool
 |.nilIface,.nilIface=>some true
 |.nilIface,.iface _ _=>some false
 |.iface _ _,.nilIface=>some false
 |_,_=>none
def r3:be->be->am Bool
 |.pointer none,.pointer b=>some b.isNone
 |.pointer (some _),.pointer none=>some false
 |.pointer (some a),.pointer (some b)=>if a.block=b.block∧a.spot=none∧b.spot=none then some (a.off==b.off)else none
 |_,_=>none
def zG:be->be->am Bool
 |.bool a,.bool b=>some (a==b)
 |.int k a,.int k' b=>if k=k' then some (a==b)else none
 |.string a,.string b=>some (a.data.toList==b.data.toList)
 |_,_=>none
def kS:Nat->oP->be->be->am Bool
 |_,.sC,x,y=>zG x y
 |_,.kF,x,y=>o6 x y
 |_,.yg,x,y=>Ce x y
 |_,.v3,x,y=>zF x y
 |_,.yf,x,y=>Cd x y
 |_,.ptr,x,y=>r3 x y
 |0,.agg _,_,_=>none
 |n+1,.agg ps,.agg xs,.agg ao=>RG n xs.toList ao.toList ps
 |_,.agg _,_,_=>none
 where
 RG (n:Nat) (xs ao:ac be):ac (Nat×Nat×Bool×oP)->am Bool
  |[]=>some true
  |(off,a7,hF,e)::rest=>
   match uk off a7 hF xs,uk off a7 hF ao with
   |some x,some y=>
    match kS n e x y with
    |some true=>RG n xs ao rest
    |r=>r
   |_,_=>none
def zI(op:UnOp)(x:be)(c:be->aS):aS:=
 match op with
 |.neg=>gp x (fun k n=>hY k (oh k (HT n)) c) .no
 |.xor=>gp x (fun k n=>hY k (k.wrap (BitVec.ofInt k.bits (if k.signed then -1 else k.max)^^^BitVec.ofInt k.bits n).toNat) c) .no
 |.not=>ns x (fun b=>c (.bool (!b))) .no
 |_=>.no
def ou(fr:aP)(ps:ac (Nat×Nat×bi)):ac be->(ac be->aS)->aS:=
 List.rec (motive:=fun _=>ac be->(ac be->aS)->aS) (fun cs c=>c cs)
  (fun p _ aZ cs c=>
   (fun v=>cond (tT v) .no ((fun vs=>dW (df vs) p.2.1 (dY (Nat.add p.1 p.2.1) (df cs) (qw cs p.1 vs (fun cs'=>aZ cs' c) .no) .no) .no) (iB v))) (fr.af p.2.2)) ps
def bytesOf(vs:ac be):am (ac bv):=
 List.rec (motive:=fun _=>am (ac bv)) (some [])
  (fun v _ r=>gp v (fun k n=>cond (jE k .u8) (bd r (fun bS=>some (UInt8.ofNat n.toNat::bS)) none) none) none) vs
def lb(bS:ac bv):ac be:=
 List.rec (motive:=fun _=>ac be) [] (fun b _ r=>Value.int .u8 (.ofNat b.toNat)::r) bS
def e9(fr:aP)(x:am bi)(dflt y:Nat)(k:Nat->aS):aS:=
 bd x (fun x=>gp (fr.af x) (fun _ n=>g9 n (fun n=>dY n y (k n) .no) .no) .no) (k dflt)
def BN(o:am bD)(k:ac be->ce->Nat×Nat->Bool->β)(z:β):β:=
 bd o (fun o=>bD.rec (motive:=fun _=>β) k (fun _ _=>z) (fun _ _=>z) (fun _ _ _ _=>z) (fun _ _ _ _ _ _ _ _=>z) (fun _=>z) z o) z
def aw.gH(st:aw)(a:Addr)(k:ac be->ce->Nat×Nat->Bool->β)(z:β):β:=
 bd a.spot (fun _=>z) (BN (st.h.get a.block) k z)
def aw.load(st:aw)(a:Addr)(n:Nat)(k:ac be->β)(z:β):β:=
 st.gH a (fun cs _ _ _=>iD cs a.off n k z) z
def aw.g2(st:aw)(id:Nat)(o:bD)(k:aw->β):β:=
 an.fin (an.kn (Nat.succ id) st.h id o) fun h=>k ⟨h,st.ag⟩
def aw.store(st:aw)(a:Addr)(vs:ac be)(k:aw->β)(z:β):β:=
 st.gH a (fun cs elem a8 aX=>dY a8.2 a8.1 (qw cs a.off vs (fun cs'=>st.g2 a.block (.cells cs' elem a8 aX) k) z) z) z
def iX(fr:aP)(st:aw)(elem:ce)(a7 bytes:Nat)(base:am Addr)(len cap:Nat)(n:Nat)(new:ac be):aS:=
 (fun uh=>
  dY (Nat.mul (Nat.add (Nat.mul 5 uh) 1792) (Nat.succ bytes)) (2^50)
   (bd base
    (fun a=>st.gH a (fun cs el a8 aX=>
     dY a8.2 a8.1 (dY len cap (dY (Nat.add a.off (Nat.mul cap a7)) (df cs) (dW el elem
      (dW n 0 (.ok (.slice (some a) len cap) fr st)
       (cond aX
        (iD cs a.off (Nat.mul len a7) (fun old=>st.g2 a.block .dead fun st=>st.jg (.cells (gG old new) elem (0,0) true) fun id st=>.ok (.slice (some ⟨id,0,none⟩) uh uh) fr st) .no)
        (dY uh cap
         (qw cs (Nat.add a.off (Nat.mul len a7)) new (fun cs'=>st.g2 a.block (.cells cs' el a8 false) fun st=>.ok (.slice (some a) uh cap) fr st) .no)
         (iD cs a.off (Nat.mul len a7) (fun old=>st.jg (.cells (gG old new) elem (0,0) true) fun id st=>.ok (.slice (some ⟨id,0,none⟩) uh uh) fr st) .no))))
      .no) .no) .no) .no) .no)
    (dW len 0 (dW cap 0
     (dW n 0 (.ok (.slice none 0 0) fr st)
      (st.jg (.cells new elem (0,0) true) fun id st=>.ok (.slice (some ⟨id,0,none⟩) uh uh) fr st))
     .no) .no))
   .no) (Nat.add len n)
def Dz(k:d7)(fr:aP)(xs:ac bi):Int->am Int:=
 List.rec (motive:=fun _=>Int->am Int) (fun m=>some m)
  (fun x _ aZ m=>gp (fr.af x) (fun k' y=>cond (jE k k') (aZ (cond (mD y m) m y)) none) none) xs
def DA(k:d7)(fr:aP)(xs:ac bi):Int->am Int:=
 List.rec (motive:=fun _=>Int->am Int) (fun m=>some m)
  (fun x _ aZ m=>gp (fr.af x) (fun k' y=>cond (jE k k') (aZ (cond (mD m y) m y)) none) none) xs
def eC(fr:aP)(xs:ac bi):ac be:=
 List.rec (motive:=fun _=>ac be) [] (fun x _ r=>fr.af x::r) xs
def kQ(z:ac be)(n:Nat):ac be:=
 Nat.rec (motive:=fun _=>ac be) [] (fun _ r=>gG z r) n
def Hk(k:d7)(n:Int):Bool:=mD k.min n&&mD n k.max
def fL.ok(c4:fL)(v:be):Bool:=
 match c4 with
 |.int k=>gp v (fun k' n=>jE k k'&&Hk k n) false
 |.str=>hM v (fun s=>Nat.ble (df s.data.toList) (2^40)) false
 |.arr k n=>rO v (fun xs=>Nat.beq (df xs.toList) n&&xs.toList.all (fun x=>gp x (fun k' m=>jE k k'&&Hk k m) false)) false
def ru(o:am bD)(k:ac d8->Nat->β)(z:β):β:=
 bd o (fun o=>bD.rec (motive:=fun _=>β) (fun _ _ _ _=>z) k (fun _ _=>z) (fun _ _ _ _=>z) (fun _ _ _ _ _ _ _ _=>z) (fun _=>z) z o) z
def MT(o:am bD)(k:am Nat->Nat->ac Nat->Nat->β)(z:β):β:=
 bd o (fun o=>bD.rec (motive:=fun _=>β) (fun _ _ _ _=>z) (fun _ _=>z) (fun _ _=>z) k (fun _ _ _ _ _ _ _ _=>z) (fun _=>z) z o) z
def OX(o:am bD)(k:f5->Nat->β)(z:β):β:=
 bd o (fun o=>bD.rec (motive:=fun _=>β) (fun _ _ _ _=>z) (fun _ _=>z) k (fun _ _ _ _=>z) (fun _ _ _ _ _ _ _ _=>z) (fun _=>z) z o) z
def vQ(c4:fL)(es:ac d8):Bool:=es.all (fun e=>c4.ok e.key)
def ql(k:be)(es:ac d8):am d8:=es.find? (fun e=>dA k e.key)
def An(k v:be)(es:ac d8):ac d8:=es.map (fun e=>cond (dA k e.key) ⟨e.key,v,e.born⟩ e)
def Al(k:be)(es:ac d8):ac d8:=es.filter (fun e=> !dA k e.key)
def FZ:be->be->am Bool
 |.int k a,.int k' b=>if k=k' then some (a==b)else none
 |_,_=>none
def F0:be->be->am Bool
 |.string a,.string b=>some (a.data.toList==b.data.toList)
 |_,_=>none
def K7(i:Nat)(x y:be):am Bool:=match i with
 |0=>F0 x y
 |_=>FZ x y
def kT:Nat->ac be->ac be->am Bool
 |_,[],[]=>some true
 |i,x::xs,y::ao=>bd (K7 i x y) (fun b=>cond b (kT (i-1) xs ao) (bd (kT (i-1) xs ao) (fun _=>some false) none)) none
 |_,_,_=>none
def BS(n:Nat):be->am Bool
 |.chan (some c)=>if c%2=0 then(if 2<=c∧n<=(c-2)/2 then some true else none)else(if 3<=c∧(c-3)/2<=n then some false else none)
 |_=>none
def ML(n:Nat)(c:be):Bool:=match BS n c with|some true=>true|_=>false
def wi:ac bv->ac bv->Bool
 |[],_=>true
 |a::as,b::bS=>a==b&&wi as bS
 |_::_,[]=>false
def oM(b:ac bv):ac bv->am Nat
 |[]=>if b.isEmpty then some 0 else none
 |x::xs=>if wi b (x::xs)then some 0 else(oM b xs).map (· +1)
def ant(l:ac Nat):am Nat:=l.getLast?
def m4(fr:aP)(st:aw)(y:u0):aS:=
 match y with
 |.look c4 z ok m k=>(fun key=>cond (c4.ok key)
  (yP (fr.af m) (fun r=>bd r (fun id=>ru (st.h.get id) (fun es _=>cond (vQ c4 es) (bd (ql key es) (fun e=>.ok (cond ok (.tuple #[e.val,.bool true]) e.val) fr st) (.ok (cond ok (.tuple #[z,.bool false]) z) fr st)) .no) .no)
   (.ok (cond ok (.tuple #[z,.bool false]) z) fr st)) .no) .no) (fr.af k)
 |.gP c4 m k v=>(fun key=>cond (c4.ok key)
  (yP (fr.af m) (fun r=>bd r (fun id=>ru (st.h.get id) (fun es clock=>cond (vQ c4 es)
   (bd (ql key es) (fun _=>st.g2 id (.map (An key (fr.af v) es) clock) fun st=>.ok undef fr st)
    (st.g2 id (.map (es++[⟨key,fr.af v,clock⟩]) (Nat.succ clock)) fun st=>.ok undef fr st)) .no) .no) .no) .no) .no) (fr.af k)
 |.del c4 m k=>(fun key=>cond (c4.ok key)
  (yP (fr.af m) (fun r=>bd r (fun id=>ru (st.h.get id) (fun es clock=>cond (vQ c4 es) (st.g2 id (.map (Al key es) clock) fun st=>.ok undef fr st) .no) .no) .no) .no) .no) (fr.af k)
 |.Aq m=>yP (fr.af m) (fun r=>bd r (fun id=>ru (st.h.get id) (fun es _=>gd (df es) fun n=>.ok (.int .i64 (.ofNat n)) fr st) .no) (.ok (.int .i64 0) fr st)) .no
 |.Ar m=>yP (fr.af m) (fun r=>bd r (fun id=>ru (st.h.get id) (fun _ clock=>st.jg (.ub (some id) clock [] clock) fun id st=>.ok (.pointer (some ⟨id,0,none⟩)) fr st) .no)
  (st.jg (.ub none 0 [] 0) fun id st=>.ok (.pointer (some ⟨id,0,none⟩)) fr st)) .no
 |.Ao it=>iy (fr.af it) (fun p=>bd p (fun a=>bd a.spot (fun _=>.no) (dW a.off 0 (MT (st.h.get a.block) (fun m _ seen Ba=>
  bd m (fun id=>bd (ant seen) (fun s=>ru (st.h.get id) (fun es clock=>dW clock Ba (dY (Nat.succ s) clock (bd (es.find? (fun e=>Nat.beq e.born s)) (fun e=>.ok (.tuple #[e.key,e.val]) fr st) .no) .no) .no) .no) .no) .no) .no) .no)) .no) .no
 |.bb s c=>hM (fr.af s) (fun s=>gp (fr.af c) (fun k c=>cond (jE k .u8) (g9 c (fun c=>.ok (.int .i64 (.ofNat (s.data.toList.countP (fun b=>b==UInt8.ofNat c)))) fr st) .no) .no) .no) .no
 |.qV neg n x y=>rO (fr.af x) (fun xs=>rO (fr.af y) (fun ao=>dW (df xs.toList) (Nat.add (Nat.mod n 100) (Nat.div n 100)) (dW (df ao.toList) (Nat.add (Nat.mod n 100) (Nat.div n 100)) (bd (kT (Nat.mod n 100) xs.toList ao.toList) (fun b=>.ok (.bool (cond neg (!b) b)) fr st) .no) .no) .no) .no) .no
 |.ui _=>.no
 |.xa gt x y=>gp (fr.af x) (fun k n=>cond (jE k .i64) (g9 n (fun n=>bd (BS n (fr.af y)) (fun b=>.ok (.bool (cond gt (!b) b)) fr st) .no) .no) .no) .no
 |.idxs g s b=>hM (fr.af s) (fun s=>hM (fr.af b) (fun b=>BN (st.h.get g) (fun cs _ _ aX=>cond aX .no (one cs (fun c=>cond (ML (df b.data.toList) c) (dY 2 (df b.data.toList) (dY (df s.data.toList) 1000000
  (.ok (.int .i64 (bd (oM b.data.toList s.data.toList) (fun i=>.ofNat i) (.negSucc 0))) fr st) .no) .no) .no) .no)) .no) .no) .no
 |.A9 x=>hM (fr.af x) (fun s=>st.jg (.yJ s 0) fun id st=>.ok (.pointer (some ⟨id,0,none⟩)) fr st) .no
 |.A8 it=>iy (fr.af it) (fun p=>bd p (fun a=>bd a.spot (fun _=>.no) (dW a.off 0 (OX (st.h.get a.block) (fun s pos=>
  bd (FU pos s.data.toList).head? (fun b=>dY (Nat.succ b.toNat) 128 (st.g2 a.block (.yJ s (Nat.succ pos)) fun st=>.ok (.tuple #[.bool true,.int .i64 (.ofNat pos),.int .i32 (.ofNat b.toNat)]) fr st) .no) (.ok (.tuple #[.bool false]) fr st)) .no) .no)) .no) .no
 |.Ap e n=>gp (fr.af n) (fun k n=>cond (jE k .i64) (g9 n (fun n=>dY n 1000000 (st.jg (.cells (kQ [ih] n) e (0,0) true) fun id st=>.ok (.slice (some ⟨id,0,none⟩) n n) fr st) .no) .no) .no) .no
 |.zm x=>hL (fr.af x) (fun b _ c=>bd b (fun _=>.no) (.ok (.int .i64 (.ofNat c)) fr st)) .no
def wK(t:Nat)(hz:ac (Nat×ci)):am ci:=
 List.rec (motive:=fun _=>am ci) none (fun p _ aZ=>cond (Nat.beq p.1 t) (some p.2) aZ) hz
def qf(c:bv)(l:ac bv):am Nat:=
 List.rec (motive:=fun _=>am Nat) none (fun b _ r=>cond (Nat.beq b.toNat c.toNat) (some 0) (bd r (fun i=>some (Nat.succ i)) none)) l
def Yu(x:bi)(_call:bL)(fr:aP)(st:aw):aS:=
 .ok (fr.af x) fr st
def Yx(c:bi)(a:bi)(b:bi)(_call:bL)(fr:aP)(st:aw):aS:=
 ns (fr.af c) (fun t=>.ok (cond t (fr.af a) (fr.af b)) fr st) .no
def yo(z:ac be)(elem:ce)(_call:bL)(fr:aP)(st:aw):aS:=
 st.jg (.cells z elem (0,0) false) fun id st=>.ok (.pointer (some ⟨id,0,none⟩)) fr st
def AE(elem:ce)(x:bi)(_call:bL)(fr:aP)(st:aw):aS:=
 (fun v=>cond (tT v) .no (st.jg (.cells (iB v) elem (0,0) false) fun id st=>.ok (.pointer (some ⟨id,0,none⟩)) fr st)) (fr.af x)
def NP(z:ac be)(ps:ac (Nat×Nat×bi))(_call:bL)(fr:aP)(st:aw):aS:=
 ou fr ps z fun cs=>.ok (.agg ⟨cs⟩) fr st
def AF(elem:ce)(len:Nat)(z:ac be)(ps:ac (Nat×Nat×bi))(_call:bL)(fr:aP)(st:aw):aS:=
 ou fr ps z fun cs=>st.jg (.cells cs elem (0,0) false) fun id st=>.ok (.slice (some ⟨id,0,none⟩) len len) fr st
def H9(a:bi)(_call:bL)(fr:aP)(st:aw):aS:=
 iy (fr.af a) (fun p=>bd p (fun a=>st.load a 1 (fun vs=>one vs (fun v=>.ok v fr st) .no) .no) .no) .no
def Ia(n:Nat)(a:bi)(_call:bL)(fr:aP)(st:aw):aS:=
 iy (fr.af a) (fun p=>bd p (fun a=>st.load a n (fun vs=>.ok (.agg ⟨vs⟩) fr st) .no) .no) .no
def YB(n:Nat)(a:bi)(x:bi)(_call:bL)(fr:aP)(st:aw):aS:=
 iy (fr.af a) (fun p=>bd p (fun a=>(fun vs=>dW (df vs) n (cond (gZ vs) (st.store a vs (fun st=>.ok undef fr st) .no) .no) .no) (iB (fr.af x))) .no) .no
def NR(x:bi)(_call:bL)(fr:aP)(st:aw):aS:=
 iy (fr.af x) (fun p=>bd p (fun a=>.ok (.pointer (some a)) fr st) .no) (yO (fr.af x) (fun f a b=>match f with|.func g=>.ok (.func (.func g) a b) fr st|_=>.no) .no)
def NS(name:String)(hz:ac (Nat×ci))(x:bi)(_call:bL)(fr:aP)(st:aw):aS:=
 yO (fr.af x) (fun f a b=>match f with|.method n=>cond (n==name) (match a.toList with|[.iface t _]=>bd (wK t hz) (fun _=>.ok (.func (.method n) a b) fr st) .no|_=>.no) .no|_=>.no) .no
def NO(op:BinOp)(x:bi)(y:bi)(_call:bL)(fr:aP)(st:aw):aS:=
 Cg op (fr.af x) (fr.af y) fun v=>.ok v fr st
def Yi(neg:Bool)(e:oP)(x:bi)(y:bi)(_call:bL)(fr:aP)(st:aw):aS:=
 bd (kS 8 e (fr.af x) (fr.af y)) (fun b=>.ok (.bool (cond neg (!b) b)) fr st) .no
def NU(op:UnOp)(x:bi)(_call:bL)(fr:aP)(st:aw):aS:=
 zI op (fr.af x) fun v=>.ok v fr st
def Yg(k:d7)(x:bi)(_call:bL)(fr:aP)(st:aw):aS:=
 gp (fr.af x) (fun _ n=>hY k (oh k n) fun v=>.ok v fr st) .no
def Yf(x:bi)(_call:bL)(fr:aP)(st:aw):aS:=
 hM (fr.af x) (fun s=>.ok (.string s) fr st) .no
def H4(x:bi)(_call:bL)(fr:aP)(st:aw):aS:=
 hL (fr.af x) (fun a n _=>bd a (fun a=>st.load a n (fun vs=>bd (bytesOf vs) (fun bS=>.ok (.string ⟨⟨bS⟩⟩) fr st) .no) .no) (.ok (.string ⟨⟨[]⟩⟩) fr st)) .no
def AH(elem:ce)(x:bi)(_call:bL)(fr:aP)(st:aw):aS:=
 hM (fr.af x) (fun s=>(fun n=>dY n (2^40) (st.jg (.cells (lb s.data.toList) elem (0,0) true) fun id st=>.ok (.slice (some ⟨id,0,none⟩) n n) fr st) .no) (df s.data.toList)) .no
def Ys(t:ce)(x:bi)(_call:bL)(fr:aP)(st:aw):aS:=
 .ok (.iface t (fr.af x)) fr st
def Yr(fn:Fn)(first:ac bi)(fm:ac bi)(_call:bL)(fr:aP)(st:aw):aS:=
 .ok (.func fn ⟨eC fr first⟩ ⟨eC fr fm⟩) fr st
def yp(_call:bL)(fr:aP)(st:aw):aS:=
 st.jg (.map [] 0) fun id st=>.ok (.map (some id)) fr st
def sB(elem:ce)(bytes:Nat)(z:ac be)(len:bi)(cap:bi)(_call:bL)(fr:aP)(st:aw):aS:=
 gp (fr.af len) (fun _ l=>gp (fr.af cap) (fun _ c=>g9 l (fun l=>g9 c (fun c=>dY l c (dY (Nat.mul c (Nat.succ bytes)) (2^40) (st.jg (.cells (kQ z c) elem (0,0) false) fun id st=>.ok (.slice (some ⟨id,0,none⟩) l c) fr st) .no) .no) .no) .no) .no) .no
def YA(x:bi)(aM:am bi)(hi:am bi)(_call:bL)(fr:aP)(st:aw):aS:=
 hM (fr.af x) (fun s=>(fun n=>e9 fr hi n n fun h=>e9 fr aM 0 h fun l=>iD s.data.toList l (Nat.sub h l) (fun bS=>.ok (.string ⟨⟨bS⟩⟩) fr st) .no) (df s.data.toList)) .no
def AI(n:Nat)(a7:Nat)(x:bi)(aM:am bi)(hi:am bi)(eX:am bi)(_call:bL)(fr:aP)(st:aw):aS:=
 iy (fr.af x) (fun p=>bd p (fun a=>st.gH a (fun _ _ _ aX=>cond aX .no (e9 fr eX n n fun m=>e9 fr hi n m fun h=>e9 fr aM 0 h fun l=>.ok (.slice (some (dW m l a (a.add (Nat.mul l a7)))) (Nat.sub h l) (Nat.sub m l)) fr st)) .no) .no) .no
def Yz(a7:Nat)(x:bi)(aM:am bi)(hi:am bi)(eX:am bi)(_call:bL)(fr:aP)(st:aw):aS:=
 hL (fr.af x) (fun b len cap=>bd b (fun a=>st.gH a (fun _ _ _ aX=>cond aX (bd eX (fun _=>.no) (dY len cap (e9 fr hi len len fun h=>e9 fr aM 0 h fun l=>.ok (.slice (some (a.add (Nat.mul l a7))) (Nat.sub h l) (Nat.sub cap l)) fr st) .no)) (e9 fr eX cap cap fun m=>e9 fr hi len m fun h=>e9 fr aM 0 h fun l=>.ok (.slice (some (dW m l a (a.add (Nat.mul l a7)))) (Nat.sub h l) (Nat.sub m l)) fr st)) .no) (e9 fr eX cap cap fun m=>e9 fr hi len m fun h=>e9 fr aM 0 h fun l=>.ok (.slice none (Nat.sub h l) (Nat.sub m l)) fr st)) .no
def Yk(off:Nat)(x:bi)(_call:bL)(fr:aP)(st:aw):aS:=
 iy (fr.af x) (fun p=>bd p (fun a=>.ok (.pointer (some (a.add off))) fr st) .no) .no
def Yl(off:Nat)(a7:Nat)(agg:Bool)(x:bi)(_call:bL)(fr:aP)(st:aw):aS:=
 rO (fr.af x) (fun cs=>bd (uk off a7 agg cs.toList) (fun v=>.ok v fr st) .no) .no
def wc(n:Nat)(a7:Nat)(x:bi)(i:bi)(_call:bL)(fr:aP)(st:aw):aS:=
 iy (fr.af x) (fun p=>bd p (fun a=>gp (fr.af i) (fun _ j=>g9 j (fun j=>dY (Nat.succ j) n (.ok (.pointer (some (a.add (Nat.mul j a7)))) fr st) .no) .no) .no) .no) .no
def Ym(a7:Nat)(x:bi)(i:bi)(_call:bL)(fr:aP)(st:aw):aS:=
 hL (fr.af x) (fun b len _=>bd b (fun a=>gp (fr.af i) (fun _ j=>g9 j (fun j=>dY (Nat.succ j) len (.ok (.pointer (some (a.add (Nat.mul j a7)))) fr st) .no) .no) .no) .no) .no
def Yo(x:bi)(i:bi)(_call:bL)(fr:aP)(st:aw):aS:=
 hM (fr.af x) (fun s=>gp (fr.af i) (fun _ j=>g9 j (fun j=>iD s.data.toList j 1 (fun bS=>one bS (fun b=>.ok (.int .u8 (.ofNat b.toNat)) fr st) .no) .no) .no) .no) .no
def Yn(n:Nat)(a7:Nat)(agg:Bool)(x:bi)(i:bi)(_call:bL)(fr:aP)(st:aw):aS:=
 rO (fr.af x) (fun cs=>gp (fr.af i) (fun _ j=>g9 j (fun j=>dY (Nat.succ j) n (bd (uk (Nat.mul j a7) a7 agg cs.toList) (fun v=>.ok v fr st) .no) .no) .no) .no) .no
def NT(t:ce)(zero:be)(ok:Bool)(x:bi)(_call:bL)(fr:aP)(st:aw):aS:=
 sQ (fr.af x) (fun u v=>dW u t (.ok (cond ok (.tuple #[v,.bool true]) v) fr st) (cond ok (.ok (.tuple #[zero,.bool false]) fr st) .no)) (match fr.af x with|.nilIface=>cond ok (.ok (.tuple #[zero,.bool false]) fr st) .no|_=>.no)
def Yj(x:bi)(i:Nat)(_call:bL)(fr:aP)(st:aw):aS:=
 qF (fr.af x) (fun vs=>iD vs.toList i 1 (fun l=>one l (fun v=>.ok v fr st) .no) .no) .no
def aoN(f:bi)(args:ac bi)(call:bL)(fr:aP)(st:aw):aS:=
 dL.rec (motive:=fun _=>aS) (fun v st _=>.ok v fr st) (fun v st _=>.ba v st) .no (call (fr.af f) (eC fr args) none st)
def aoT(hz:ac (Nat×ci))(x:bi)(args:ac bi)(call:bL)(fr:aP)(st:aw):aS:=
 sQ (fr.af x) (fun t v=>bd (wK t hz) (fun g=>dL.rec (motive:=fun _=>aS) (fun v st _=>.ok v fr st) (fun v st _=>.ba v st) .no (call (.func (.func g) #[] #[]) (v::eC fr args) none st)) .no) .no
def H8(x:bi)(_call:bL)(fr:aP)(st:aw):aS:=
 hL (fr.af x) (fun _ n _=>.ok (.int .i64 (.ofNat n)) fr st) (sP (fr.af x) (.ok (.int .i64 (.ofNat 0)) fr st) .no)
def Yq(x:bi)(_call:bL)(fr:aP)(st:aw):aS:=
 hM (fr.af x) (fun s=>gd (df s.data.toList) fun n=>.ok (.int .i64 (.ofNat n)) fr st) .no
def NQ(n:Nat)(_call:bL)(fr:aP)(st:aw):aS:=
 .ok (.int .i64 (.ofNat n)) fr st
def aoU(_x:bi)(_call:bL)(_fr:aP)(_st:aw):aS:=
 .no
def Ye(elem:ce)(a7:Nat)(bytes:Nat)(s:bi)(x:bi)(_call:bL)(fr:aP)(st:aw):aS:=
 hL (fr.af s) (fun base len cap=>hL (fr.af x) (fun b n _=>bd b (fun b=>st.load b (Nat.mul n a7) (fun new=>cond (gZ new) (iX fr st elem a7 bytes base len cap n new) .no) .no) (dW n 0 (iX fr st elem a7 bytes base len cap 0 []) .no)) (sP (fr.af x) (iX fr st elem a7 bytes base len cap 0 []) (hM (fr.af x) (fun s=>dW a7 1 (iX fr st elem a7 bytes base len cap (df s.data.toList) (lb s.data.toList)) .no) .no))) .no
def Yv(x:bi)(xs:ac bi)(_call:bL)(fr:aP)(st:aw):aS:=
 gp (fr.af x) (fun k n=>bd (Dz k fr xs n) (fun m=>hY k m fun v=>.ok v fr st) .no) .no
def Yt(x:bi)(xs:ac bi)(_call:bL)(fr:aP)(st:aw):aS:=
 gp (fr.af x) (fun k n=>bd (DA k fr xs n) (fun m=>hY k m fun v=>.ok v fr st) .no) .no
def Yh(a7:Nat)(d:bi)(s:bi)(_call:bL)(fr:aP)(st:aw):aS:=
 hL (fr.af d) (fun a dl _=>hL (fr.af s) (fun b aY _=>bd a (fun a=>bd b (fun b=>(fun n=>st.load b (Nat.mul n a7) (fun vs=>cond (gZ vs) (st.store a vs (fun st=>.ok (.int .i64 (.ofNat n)) fr st) .no) .no) .no) (dY aY dl aY dl)) (dW aY 0 (.ok (.int .i64 0) fr st) .no)) (dW dl 0 (.ok (.int .i64 0) fr st) .no)) .no) .no
def aoZ(_call:bL)(fr:aP)(st:aw):aS:=
 bd fr.b3 (fun _=>.no) (bd fr.ba (fun v=>cond fr.cF (.ok .nilIface fr st) (.ok v ⟨fr.t,fr.c1,fr.ba,true,fr.b3⟩ st)) (.ok .nilIface fr st))
def aoP(f:bi)(args:ac bi)(_call:bL)(fr:aP)(st:aw):aS:=
 bd fr.b3 (fun _=>.no) (yO (fr.af f) (fun fn first fm=>match fn with|.func g=>.ok undef ⟨fr.t,{target:=.fn (.func g) fm,args:=⟨gG first.toList (eC fr args)⟩}::fr.c1,fr.ba,fr.cF,fr.b3⟩ st|_=>.no) .no)
def aoY(x:bi)(_call:bL)(fr:aP)(st:aw):aS:=
 sQ (fr.af x) (fun t v=>.ba (.iface t v) st) .no
def H5(x:bi)(_call:bL)(fr:aP)(st:aw):aS:=
 iy (fr.af x) (fun p=>bd p (fun a=>st.gH a (fun cs _ _ _=>dY (Nat.succ a.off) (df cs) (.ok (.pointer (some a)) fr st) .no) .no) .no) .no
def H6(elem:Nat)(n:Nat)(x:bi)(_call:bL)(fr:aP)(st:aw):aS:=
 iy (fr.af x) (fun p=>bd p (fun a=>st.gH a (fun cs el _ aX=>cond aX .no (dW a.off 0 (dW el elem (dW (df cs) n (.ok (.pointer (some a)) fr st) .no) .no) .no)) .no) .no) .no
def Ib(x:bi)(_call:bL)(fr:aP)(st:aw):aS:=
 hL (fr.af x) (fun b _ c=>bd b (fun a=>dW c 0 .no (.ok (.pointer (some a)) fr st)) (.ok (.pointer none) fr st)) .no
def Ic(elem:ce)(x:bi)(n:bi)(_call:bL)(fr:aP)(st:aw):aS:=
 iy (fr.af x) (fun p=>gp (fr.af n) (fun _ n=>g9 n (fun n=>dW n 0 (.ok (.string ⟨⟨[]⟩⟩) fr st) (bd p (fun a=>dY n (2^40) (st.gH a (fun cs el a8 aX=>dY a8.2 a8.1 (dW el elem (iD cs a.off n (fun vs=>bd (bytesOf vs) (fun bS=>st.g2 a.block (.cells cs el (a.off,Nat.add a.off n) aX) fun st=>.ok (.string ⟨⟨bS⟩⟩) fr st) .no) .no) .no) .no) .no) .no) .no)) .no) .no) .no
def H7(s:bi)(c:bi)(_call:bL)(fr:aP)(st:aw):aS:=
 hM (fr.af s) (fun s=>gp (fr.af c) (fun k c=>cond (jE k .u8) (g9 c (fun c=>.ok (.int .i64 (bd (qf (UInt8.ofNat c) s.data.toList) (fun i=>.ofNat i) (.negSucc 0))) fr st) .no) .no) .no) .no
def Yw(x:bi)(_call:bL)(fr:aP)(st:aw):aS:=
 .ok (fr.af x) fr st
def aoQ(y:u0)(_call:bL)(fr:aP)(st:aw):aS:=
 m4 fr st y
def ao0(_call:bL)(_fr:aP)(_st:aw):aS:=
 .no
def bP(call:bL)(o:c7)(fr:aP)(st:aw):aS:=
 c7.rec (motive:=fun _=>bL->aP->aw->aS) Yu Yx yo AE NP AF H9 Ia YB NR NS NO Yi NU Yg Yf H4 AH Ys Yr yp sB YA AI Yz Yk Yl wc Ym Yo Yn NT Yj aoN aoT H8 Yq NQ aoU Ye Yv Yt Yh aoZ aoP aoY H5 H6 Ib Ic H7 Yw aoQ ao0 o call fr st
inductive cW where
 |out (e:dM) (fr:aP) (st:aw)
 |no
def hs(fr:aP)(g:am (Tmp×Bool))(yes hy z:β):β:=
 bd g (fun p=>ns (fr.tmp p.1) (fun b=>cond b (cond p.2 yes hy) (cond p.2 hy yes)) (qF (fr.tmp p.1) (fun _=>hy) z)) yes
def c7.mX:c7->Bool
 |.call _ _|.inv _ _ _|.rC _=>true
 |_=>false
def iY(call:bL)(ops:ac bE):aP->aw->cW:=
 List.rec (motive:=fun _=>aP->aw->cW) (fun fr st=>.out .norm fr st)
  (fun x _ aZ fr st=>
   hs fr x.g
    (aS.rec (motive:=fun _=>cW) (fun v fr st=>aZ (fr.put x.d v) st) (fun v st=>cond x.o.mX (.out (.ba v) fr st) .no) .no (bP call x.o fr st))
    (aZ (fr.put x.d undef) st) .no) ops
def sameAt(call:bL)(o:c7)(fr:aP)(v:be)(ag:Nat)(n:Nat):ac (an bD)->Bool:=
 Nat.rec (motive:=fun _=>ac (an bD)->Bool) (fun _=>true)
  (fun _ aZ ae=>List.rec (motive:=fun _=>Bool) false
   (fun h ae _=>aS.rec (motive:=fun _=>Bool) (fun v' _ _=>cond (dA v v') (aZ ae) false) (fun _ _=>false) false (bP call o fr ⟨h,ag⟩)) ae) n
def l5(t:an be)(ts:ac Tmp)(k:an be->β):β:=
 List.rec (motive:=fun _=>an be->β) (fun m=>k m) (fun x _ aZ m=>bd (t.get x) (fun v=>an.ik (Nat.succ x) m x v aZ) (aZ m)) ts .nil
def pv(fr:aP)(ts:ac Tmp):aP:=
 List.rec (motive:=fun _=>aP->aP) (fun fr=>fr) (fun t _ aZ fr=>aZ (fr.put (some t) ih)) ts fr
def pR(call:bL)(ms:ac Nat)(n:Nat)(ops:ac (bE×cw)):Nat->ac (an bD)->aP->aw->Bool:=
 List.rec (motive:=fun _=>Nat->ac (an bD)->aP->aw->Bool) (fun _ _ _ _=>true)
  (fun x _ aZ p mQ fr st=>
   cond (Nat.testBit (ms.getD p 0) n)
    (cw.rec (motive:=fun _=>Bool) (aZ (Nat.succ p) (st.h::mQ) (fr.put x.1.d undef) st) (fun _=>aZ (Nat.succ p) mQ (fr.put x.1.d undef) st) (fun _ _=>aZ (Nat.succ p) mQ (fr.put x.1.d undef) st) x.2)
    (cw.rec (motive:=fun _=>Bool) false
     (fun ts=>l5 fr.t ts fun t=>hs ⟨t,[],none,false,none⟩ x.1.g
      (aS.rec (motive:=fun _=>Bool) (fun v _ st'=>aZ (Nat.succ p) mQ (fr.put x.1.d v) st') (fun _ _=>false) false (bP call x.1.o ⟨t,[],none,false,none⟩ st))
      (aZ (Nat.succ p) mQ (fr.put x.1.d undef) st) false)
     (fun back ts=>l5 fr.t ts fun t=>hs ⟨t,[],none,false,none⟩ x.1.g
      (aS.rec (motive:=fun _=>Bool) (fun v _ _=>cond (sameAt call x.1.o ⟨t,[],none,false,none⟩ v st.ag (Nat.succ back) mQ) (aZ (Nat.succ p) mQ (fr.put x.1.d v) st) false) (fun _ _=>false) false (bP call x.1.o ⟨t,[],none,false,none⟩ st))
      (aZ (Nat.succ p) mQ (fr.put x.1.d undef) st) false)
     x.2)) ops
abbrev sY:=ac (bE×cw)->ac (an bD)->aP->aw->Bool
def hT(call:bL)(dd:sY)(ops:ac (bE×cw)):ac (an bD)->aP->aw->cW:=
 List.rec (motive:=fun _=>ac (an bD)->aP->aw->cW) (fun _ fr st=>.out .norm fr st)
  (fun x xs aZ mQ fr st=>
   cw.rec (motive:=fun _=>cW)
    (hs fr x.1.g
     (aS.rec (motive:=fun _=>cW) (fun v aC st'=>dY st.ag st'.ag (aZ (st'.h::mQ) (aP.put ⟨fr.t,aC.c1,aC.ba,aC.cF,aC.b3⟩ x.1.d v) st') .no) (fun v st'=>cond x.1.o.mX (cond (dd xs (st.h::mQ) (fr.put x.1.d undef) st) (.out (.ba v) fr st') .no) .no) .no (bP call x.1.o fr st))
     (aZ (st.h::mQ) (fr.put x.1.d undef) st) .no)
    (fun ts=>l5 fr.t ts fun t=>hs ⟨t,[],none,false,none⟩ x.1.g
     (aS.rec (motive:=fun _=>cW) (fun v _ st'=>aZ mQ (fr.put x.1.d v) st') (fun _ _=>.no) .no (bP call x.1.o ⟨t,[],none,false,none⟩ st))
     (aZ mQ (fr.put x.1.d undef) st) .no)
    (fun back ts=>l5 fr.t ts fun t=>hs ⟨t,[],none,false,none⟩ x.1.g
     (aS.rec (motive:=fun _=>cW) (fun v _ _=>cond (sameAt call x.1.o ⟨t,[],none,false,none⟩ v st.ag (Nat.succ back) mQ) (aZ mQ (fr.put x.1.d v) st) .no) (fun _ _=>.no) .no (bP call x.1.o ⟨t,[],none,false,none⟩ st))
     (aZ mQ (fr.put x.1.d undef) st) .no)
    x.2) ops
def tc(call:bL)(ms:ac Nat)(len:Nat):sY:=fun xs=>pR call ms (Nat.sub len (Nat.succ (df xs))) xs (Nat.sub len (df xs))
def mE(o:am bD)(k:LoopState->am dM->ci->an be->ac Tmp->dp->dp->Nat->β)(z:β):β:=
 bd o (fun o=>bD.rec (motive:=fun _=>β) (fun _ _ _ _=>z) (fun _ _=>z) (fun _ _=>z) (fun _ _ _ _=>z) k (fun _=>z) z o) z
def pE(r:cW)(k:aP->aw->cW):cW:=
 cW.rec (motive:=fun _=>cW) (fun e fr st=>dM.rec (motive:=fun _=>cW) (k fr st) (fun i=>.out (.exit i) fr st) (.out .ret fr st) (fun v=>.out (.ba v) fr st) e) .no r
def Fs(id:Nat)(r:cW):cW:=
 cW.rec (motive:=fun _=>cW) (fun e fr st=>dM.rec (motive:=fun _=>cW) (.out .norm fr st) (fun i=>dW i id (.out .norm fr st) (.out (.exit i) fr st)) (.out .ret fr st) (fun v=>.out (.ba v) fr st) e) .no r
def Q4(v:be)(a b:cW):cW:=ns v (fun t=>cond t a b) .no
def I3(l:Nat)(aC:aP)(r:dL):cW:=
 dL.rec (motive:=fun _=>cW)
  (fun _ st _=>mE (st.h.get l) (fun s gm qZ t ps a b d=>
   LoopState.rec (motive:=fun _=>cW)
    (st.g2 l (.loop .exhausted gm qZ t ps a b d) fun st=>bd gm (fun e=>.out e aC st) (.out .norm aC st))
    .no
    (st.g2 l (.loop .exhausted gm qZ t ps a b d) fun st=>bd gm (fun e=>.out e aC st) (.out .norm aC st))
    .no s) .no)
  (fun v st _=>.out (.ba v) aC st) .no r
def Ch(call:bL)(fn:ci)(f:bi)(params:ac Tmp)(assign body:dp)(fr:aP)(st:aw):cW:=
 bd fr.b3 (fun _=>.no)
  (st.jg (.iV (some [])) fun r st=>
   st.jg (.loop .ready none fn fr.t params assign body r) fun l st=>
   I3 l ⟨fr.t,{target:=.collected r,args:= #[]}::fr.c1,fr.ba,fr.cF,fr.b3⟩ (call (fr.af f) [.func (.yield l) #[] #[]] none st))
def dB(call:bL)(cm:Nat)(fn:ci)(c:dp):aP->aw->cW:=
 dp.rec (motive:=fun _=>aP->aw->cW)
  (fun fr st=>.out .norm fr st)
  (fun ops=>iY call ops)
  (fun ops _ dU ms fr st=>hT call (tc call ms (df ops)) ops [st.h] (pv fr dU) st)
  (fun _ _ Cb o4 fr st=>pE (Cb fr st) o4)
  (fun c _ _ Cb o4 fr st=>Q4 (fr.af c) (Cb fr st) (o4 fr st))
  (fun id _ e fr st=>Fs id (e fr st))
  (fun _ e fr st=>
   Nat.rec (motive:=fun _=>aP->aw->cW) (fun _ _=>.no)
    (fun _ aZ fr st=>pE (e fr st) aZ) cm fr st)
  (fun f params assign body _ _=>Ch call fn f params assign body)
  (fun id fr st=>.out (.exit id) fr st)
  (fun _ e=>e)
  (fun fr st=>.out .ret fr st)
  (fun _ _=>.no) c
def oq(vs:ac be):Nat->an be->an be:=
 List.rec (motive:=fun _=>Nat->an be->an be) (fun _ t=>t) (fun v _ aZ i t=>an.ik (Nat.succ i) t i v fun t=>aZ (Nat.succ i) t) vs
def n2(ts:ac Tmp):ac be->an be->an be:=
 List.rec (motive:=fun _=>ac be->an be->an be) (fun _ m=>m)
  (fun t _ aZ vs m=>List.rec (motive:=fun _=>an be) m (fun v vs _=>an.ik (Nat.succ t) m t v fun m=>aZ vs m) vs) ts
def qW(fr:aP)(st:aw)(rs:ac iU):am (ac be):=
 List.rec (motive:=fun _=>am (ac be)) (some [])
  (fun r _ aZ=>bd aZ (fun vs=>
   iU.rec (motive:=fun _=>am (ac be)) (fun t=>some (fr.tmp t::vs))
    (fun a agg n=>iy (fr.tmp a) (fun p=>bd p (fun ad=>st.load ad n (fun cs=>cond agg (some (.agg ⟨cs⟩::vs)) (one cs (fun v=>some (v::vs)) none)) none) none) none) r) none) rs
def j6(call:bL):ac Deferred->am be->aw->am (am be×aw)
 |[],m,st=>some (m,st)
 |{target:=.collected r,.. }::ds,m,st=>
  match st.h.get r with
  |some (.iV (some []))=>st.g2 r (.iV none) fun st=>j6 call ds m st
  |_=>none
 |{target:=.fn (.func g) fm,args}::ds,m,st=>
  match call (.func (.func g) #[] fm) args.toList m st with
  |.ret _ st eF=>
   match m,eF with
   |some _,true=>j6 call ds none st
   |_,_=>j6 call ds m st
  |.ba v st _=>
   match m with
   |none=>j6 call ds (some v) st
   |some _=>none
  |.no=>none
 |_::_,_,_=>none
abbrev oj:=ci->ac be->aw->am dL
def ov(call:bL)(res:ac iU)(m:am be)(fr:aP)(st:aw):dL:=
 bd (j6 call fr.c1 m st)
  (fun p=>bd p.1 (fun v=>.ba v p.2 fr.cF)
   (bd (qW fr p.2 res) (fun vs=>one vs (fun v=>.ret v p.2 fr.cF) (.ret (.tuple ⟨vs⟩) p.2 fr.cF)) .no)) .no
def pQ(call:bL)(n:Nat)(f:ci)(xf:dh)(as:ac be)(ba:am be)(st:aw):dL:=
 dY (df as) xf.aO
  (cW.rec (motive:=fun _=>dL)
   (fun e fr st=>dM.rec (motive:=fun _=>dL) (ov call xf.res none fr st) (fun _=>.no) (ov call xf.res none fr st) (fun v=>ov call xf.res (some v) fr st) e)
   .no (dB call n f xf.body ⟨oq as 0 .nil,[],ba,false,none⟩ st)) .no
def qA(l:Nat)(r:cW):dL:=
 cW.rec (motive:=fun _=>dL)
  (fun e fr st=>
   List.rec (motive:=fun _=>dL)
    (dM.rec (motive:=fun _=>dL)
     (mE (st.h.get l) (fun _ _ fn t ps a b d=>st.g2 l (.loop .ready none fn t ps a b d) fun st=>.ret (.bool true) st false) .no)
     (fun i=>mE (st.h.get l) (fun _ _ fn t ps a b d=>st.g2 l (.loop .done (some (.exit i)) fn t ps a b d) fun st=>.ret (.bool false) st false) .no)
     (mE (st.h.get l) (fun _ _ fn t ps a b d=>st.g2 l (.loop .done (some .ret) fn t ps a b d) fun st=>.ret (.bool false) st false) .no)
     (fun v=>.ba v st false) e)
    (fun _ _ _=>.no) fr.c1)
  .no r
def AZ(call:bL)(n:Nat)(l:Nat)(f:ci)(body:dp)(fr:aP)(st:aw):dL:=
 mE (st.h.get l) (fun s gm fn t ps a b d=>
  LoopState.rec (motive:=fun _=>dL)
   (st.g2 l (.loop .busy gm fn t ps a b d) fun st=>qA l (dB call n f body fr st))
   .no .no .no s) .no
def yW(call:bL)(n:Nat)(l:Nat)(args:ac be)(st:aw):dL:=
 mE (st.h.get l) (fun _ _ fn t ps dk body _=>
  dW (df args) (df ps)
   (cW.rec (motive:=fun _=>dL)
    (fun e fr st=>dM.rec (motive:=fun _=>dL) (AZ call n l fn body fr st) (fun _=>.no) .no (fun _=>.no) e) .no
    (dB call n fn dk ⟨n2 ps args t,[],none,false,some l⟩ st)) .no) .no
def cX(bl:an dh)(gl:oj)(fuel:Nat):bL:=
 Nat.rec (motive:=fun _=>bL) (fun _ _ _ _=>.no)
  (fun n aZ kg args ba st=>
   yO kg (fun fn first fm=>
    Fn.rec (motive:=fun _=>dL)
     (fun f=>(fun as=>bd ba (fun _=>bd (bl.get f) (fun xf=>pQ aZ n f xf as ba st) .no) (bd (gl f as st) (fun r=>r) (bd (bl.get f) (fun xf=>pQ aZ n f xf as ba st) .no))) (gG first.toList (gG args fm.toList)))
     (fun _=>.no) (fun _ _=>.no) (fun _ _ _ _=>.no)
     (fun l=>List.rec (motive:=fun _=>dL) (List.rec (motive:=fun _=>dL) (bd ba (fun _=>.no) (yW aZ n l args st)) (fun _ _ _=>.no) fm.toList) (fun _ _ _=>.no) first.toList)
     fn) .no) fuel
end Go.aj
namespace Go.aj
namespace an
variable{α β:Type}
@[simp] theorem get_nil (n:Nat):(an.nil:an α).get n=none:=rfl
def xu(l r:an α)(v:am α):(an.node l v r).get 0=v:=rfl
def HK{β:Sort _}(m:Nat)(a b:β):Nat.rec (motive:=fun _=>β) a (fun _ _=>b) (Nat.mod m 2)=if m%2=0 then a else b:=by
 show Nat.rec (motive:=fun _=>β) a (fun _ _=>b) (m%2)=_;rcases Nat.mod_two_eq_zero_or_one m with h|h
 ·rw[h];rfl
 ·rw[h];rfl
def p0(l r:an α)(v:am α)(m:Nat):(an.node l v r).get (m+1)=if m%2=0 then l.get (m/2)else r.get (m/2):=
 HK m (l.get (m/2)) (r.get (m/2))
def aqY(f:Nat)(x:α)(k:an α->β):ik (f+1) .nil 0 x k=k (.node .nil (some x) .nil):=rfl
def I8(f m:Nat)(x:α)(k:an α->β):ik (f+1) .nil (m+1) x k=if m%2=0 then ik f .nil (m/2) x (fun l'=>k (.node l' none .nil))else ik f .nil (m/2) x (fun dG=>k (.node .nil none dG)):=HK m _ _
def aqZ(f:Nat)(l r:an α)(v:am α)(x:α)(k:an α->β):ik (f+1) (.node l v r) 0 x k=k (.node l (some x) r):=rfl
def I9(f m:Nat)(l r:an α)(v:am α)(x:α)(k:an α->β):ik (f+1) (.node l v r) (m+1) x k=if m%2=0 then ik f l (m/2) x (fun l'=>k (.node l' v r))else ik f r (m/2) x (fun dG=>k (.node l v dG)):=HK m _ _
theorem mP{α:Type}:∀(f:Nat) (β:Type) (t:an α) (n:Nat) (x:α) (k:an α->β),ik f t n x k=k (ik f t n x id)
 |0,_,_,_,_,_=>rfl
 |f+1,β,t,n,x,k=>by
  cases t with
  |nil=>
   cases n with
   |zero=>rfl
   |succ m=>
    rw[I8,I8];split
    ·rw[mP f _ .nil (m/2) x (fun l'=>k (an.node l' none an.nil)),mP f _ .nil (m/2) x (fun l'=>id (an.node l' none an.nil))];rfl
    ·rw[mP f _ .nil (m/2) x (fun dG=>k (an.node an.nil none dG)),mP f _ .nil (m/2) x (fun dG=>id (an.node an.nil none dG))];rfl
  |node l v r=>
   cases n with
   |zero=>rfl
   |succ m=>
    rw[I9,I9];split
    ·rw[mP f _ l (m/2) x (fun l'=>k (an.node l' v r)),mP f _ l (m/2) x (fun l'=>id (an.node l' v r))];rfl
    ·rw[mP f _ r (m/2) x (fun dG=>k (an.node l v dG)),mP f _ r (m/2) x (fun dG=>id (an.node l v dG))];rfl
def yG(t:an α)(n:Nat)(x:α)(k:an α->β):ik (Nat.succ n) t n x k=k (t.set n x):=mP _ _ t n x k
def aom(v:am α)(r l:an α):XS v r l= .node l v r:=by cases l<;>rfl
def aon(v:am α)(l r:an α):XT l v r= .node l v r:=by cases r<;>rfl
def qX(t:an α)(k:an α->β):fin t k=k t:=by cases t<;>rfl
def YW(aZ:an α->Nat->α->an α)(l r:an α)(v:am α)(m:Nat)(x:α):
 Ir aZ l v r m x=if m%2=0 then .node (aZ l (m/2) x) v r else .node l v (aZ r (m/2) x):=by
 rw[<-aom,<-aon];exact HK m _ _
theorem Is:∀(f:Nat) (t:an α) (n:Nat) (x:α),kn f t n x=ik f t n x id
 |0,_,_,_=>rfl
 |f+1,t,n,x=>by
  cases t with
  |nil=>
   cases n with
   |zero=>rfl
   |succ m=>
    rw[I8];show Ir (kn f) .nil none .nil m x=_;rw[YW,Is f];split
    ·rw[mP f _ .nil (m/2) x (fun l'=>id (an.node l' none an.nil))];rfl
    ·rw[mP f _ .nil (m/2) x (fun dG=>id (an.node an.nil none dG))];rfl
  |node l v r=>
   cases n with
   |zero=>rfl
   |succ m=>
    rw[I9];show Ir (kn f) l v r m x=_;rw[YW,Is f,Is f];split
    ·rw[mP f _ l (m/2) x (fun l'=>id (an.node l' v r))];rfl
    ·rw[mP f _ r (m/2) x (fun dG=>id (an.node l v dG))];rfl
def wj(t:an α)(n:Nat)(x:α):kn (Nat.succ n) t n x=t.set n x:=Is _ t n x
theorem Gm:∀(f:Nat) (t:an α) (n:Nat) (x:α) (j:Nat),n<f->(ik f t n x id).get j=if j=n then some x else t.get j
 |0,_,_,_,_,h=>by omega
 |f+1,t,n,x,j,h=>by
  cases t with
  |nil=>
   cases n with
   |zero=>
    cases j with
    |zero=>rfl
    |succ j=>rw[aqY];show(an.node .nil (some x) .nil:an α).get (j+1)=_;rw[p0];simp
   |succ m=>
    have aZ:=fun i=>Gm f (.nil:an α) (m/2) x i (by omega);rw[I8];split
    ·rename_i hm;rw[mP f _ .nil (m/2) x (fun l'=>id (an.node l' none an.nil))];show(an.node _ none .nil:an α).get j=_;cases j with
     |zero=>rw[xu];simp
     |succ j=>
      rw[p0];by_cases hj:j%2=0
      ·rw[zab hj,aZ];by_cases e:j=m
       ·subst e;simp
       ·rw[zaa (by omega),zaa (by omega)];simp
      ·rw[zaa hj,zaa (by omega)];simp
    ·rename_i hm;rw[mP f _ .nil (m/2) x (fun dG=>id (an.node an.nil none dG))];show(an.node .nil none _:an α).get j=_;cases j with
     |zero=>rw[xu];simp
     |succ j=>
      rw[p0];by_cases hj:j%2=0
      ·rw[zab hj,zaa (by omega)];simp
      ·rw[zaa hj,aZ];by_cases e:j=m
       ·subst e;simp
       ·rw[zaa (by omega),zaa (by omega)];simp
  |node l v r=>
   cases n with
   |zero=>
    cases j with
    |zero=>rfl
    |succ j=>rw[aqZ];show(an.node l (some x) r:an α).get (j+1)=_;rw[p0,p0,zaa (by omega:¬(j+1=0))]
   |succ m=>
    rw[I9];split
    ·rename_i hm;have aZ:=fun i=>Gm f l (m/2) x i (by omega);rw[mP f _ l (m/2) x (fun l'=>id (an.node l' v r))];show(an.node _ v r:an α).get j=_;cases j with
     |zero=>rw[xu,zaa (by omega)];rfl
     |succ j=>
      rw[p0,p0];by_cases hj:j%2=0
      ·rw[zab hj,zab hj,aZ];by_cases e:j=m
       ·subst e;simp
       ·rw[zaa (by omega),zaa (by omega)]
      ·rw[zaa hj,zaa hj,zaa (by omega)]
    ·rename_i hm;have aZ:=fun i=>Gm f r (m/2) x i (by omega);rw[mP f _ r (m/2) x (fun dG=>id (an.node l v dG))];show(an.node l v _:an α).get j=_;cases j with
     |zero=>rw[xu,zaa (by omega)];rfl
     |succ j=>
      rw[p0,p0];by_cases hj:j%2=0
      ·rw[zab hj,zab hj,zaa (by omega)]
      ·rw[zaa hj,zaa hj,aZ];by_cases e:j=m
       ·subst e;simp
       ·rw[zaa (by omega),zaa (by omega)]
def ep(t:an α)(n:Nat)(x:α)(j:Nat):(t.set n x).get j=if j=n then some x else t.get j:=
 Gm (n+1) t n x j (by omega)
@[simp] theorem q0 (t:an α) (n:Nat) (x:α):(t.set n x).get n=some x:=by rw[ep,zab rfl]
def h7(t:an α){n j:Nat}(x:α)(h:j≠n):(t.set n x).get j=t.get j:=by rw[ep,zaa h]
end an
def Oc(fr:aP)(d:Tmp)(v:be):fr.put (some d) v=⟨fr.t.set d v,fr.c1,fr.ba,fr.cF,fr.b3⟩:=by
 show aP.XB (an.kn (Nat.succ d) fr.t d v) fr.c1 fr.ba fr.cF fr.b3=_;rw[an.wj];cases fr.t.set d v<;>rfl
def rM(fr:aP)(d:am Tmp)(v:be)(j:Nat):(fr.put d v).tmp j=if d=some j then v else fr.tmp j:=by
 cases d with
 |none=>simp[aP.put]
 |some d=>
  rw[Oc];simp only[aP.tmp,an.ep,Option.some.injEq];by_cases h:j=d
  ·subst h;simp
  ·rw[zaa h,zaa (fun e=>h e.symm)]
def wk(fr:aP)(d:am Tmp)(v:be):(fr.put d v).c1=fr.c1∧(fr.put d v).ba=fr.ba∧(fr.put d v).cF=fr.cF∧(fr.put d v).b3=fr.b3:=by
 cases d with
 |none=>simp[aP.put]
 |some d=>rw[Oc];exact⟨rfl,rfl,rfl,rfl⟩
structure Loc where
 cC:Nat
 cO:Nat
 ex:Nat
 b5:Nat->Nat
def iE:Nat->Nat:=fun _=>0
def MK:(id:Nat->Nat)≠iE:=fun h=>by have:=congrFun h 1;simp[iE]at this
abbrev bt:=Nat->am Loc
def bt.le(ι aQ:bt):Prop:=∀i l,ι i=some l->aQ i=some l
def bt.le.refl(ι:bt):ι.le ι:=fun _ _ h=>h
def bt.le.trans{ι aQ fh:bt}(h:ι.le aQ)(az:aQ.le fh):ι.le fh:=fun i l hi=>az i l (h i l hi)
def y3(ι:bt)(f g:Fn):Prop:=(f=g∧∀l,f≠.yield l)∨∃l b,f= .yield l∧g= .yield b∧ι l=some ⟨b,0,0,id⟩
def Ph(c:Nat)(m:Int):Prop:=c=1∨(∃k:Nat,c=2*k+2∧(k:Int)<=m)∨∃k:Nat,c=2*k+3∧m<k
inductive bk(ι:bt):Value->Value->Prop
 |bool (b:Bool):bk ι (.bool b) (.bool b)
 |int (k:IntKind) (n:Int):bk ι (.int k n) (.int k n)
 |float (k:FloatKind) (b:Nat):bk ι (.float k b) (.float k b)
 |string (s:ByteArray):bk ι (.string s) (.string s)
 |n1:bk ι (.pointer none) (.pointer none)
 |ptr (a:Addr) (l:Loc) (h:ι a.block=some l) (ae:a.spot=none):bk ι (.pointer (some a)) (.pointer (some ⟨l.cC,l.cO+a.off,none⟩))
 |ob (n c:Nat):bk ι (.slice none n c) (.slice none n c)
 |gD (a:Addr) (l:Loc) (o n c:Nat) (h:ι a.block=some l) (ae:a.spot=none) (ai:o=l.cO+a.off∨(n=0∧c=0∧l.ex=0)):
  bk ι (.slice (some a) n c) (.slice (some ⟨l.cC,o,none⟩) n (c+l.ex))
 |qm:bk ι (.map none) (.map none)
 |map (r b:Nat) (b5:Nat->Nat) (h:ι r=some ⟨b,0,0,b5⟩):bk ι (.map (some r)) (.map (some b))
 |func (f g:Fn) (xs ao us vs:Array Value) (aa:y3 ι f g) (h1:xs.size=ao.size) (h2:∀i (h:i<xs.size) (az:i<ao.size),bk ι xs[i] ao[i])
  (h3:us.size=vs.size) (au:∀i (h:i<us.size) (az:i<vs.size),bk ι us[i] vs[i]):bk ι (.func f xs us) (.func g ao vs)
 |nilFunc:bk ι .nilFunc .nilFunc
 |iface (t:TypeId) (v w:Value) (h:bk ι v w):bk ι (.iface t v) (.iface t w)
 |nilIface:bk ι .nilIface .nilIface
 |agg (xs ao:Array Value) (h1:xs.size=ao.size) (h2:∀i (h:i<xs.size) (az:i<ao.size),bk ι xs[i] ao[i]):bk ι (.agg xs) (.agg ao)
 |tuple (xs ao:Array Value) (h1:xs.size=ao.size) (h2:∀i (h:i<xs.size) (az:i<ao.size),bk ι xs[i] ao[i]):bk ι (.tuple xs) (.tuple ao)
 |iQ (c:Nat) (m:Int) (h:Ph c m):bk ι (.chan (some c)) (.int .i64 m)
 |emp (p:Addr) (c:Nat):bk ι (.chan none) (.slice (some p) 0 c)
 |top (c:Value):bk ι ih c
variable{ι aQ:bt}
def y3.mono(hle:ι.le aQ){f g:Fn}(h:y3 ι f g):y3 aQ f g:=by
 rcases h with h|⟨l,b,h1,h2,h3⟩
 ·exact .inl h
 ·exact .inr ⟨l,b,h1,h2,hle _ _ h3⟩
def bk.mono(hle:ι.le aQ){v w:be}(h:bk ι v w):bk aQ v w:=by
 induction h with
 |bool b=>exact .bool b
 |int k n=>exact .int k n
 |float k n=>exact .float k n
 |string s=>exact .string s
 |n1=>exact .n1
 |ptr a l h ae=>exact .ptr a l (hle _ _ h) ae
 |ob n c=>exact .ob n c
 |gD a l o n c h ae ai=>exact .gD a l o n c (hle _ _ h) ae ai
 |qm=>exact .qm
 |map r b b5 h=>exact .map r b b5 (hle _ _ h)
 |func f g xs ao us vs aa h1 _ h3 _ nT x0=>exact .func f g xs ao us vs (aa.mono hle) h1 nT h3 x0
 |nilFunc=>exact .nilFunc
 |iface t v w _ aZ=>exact .iface t v w aZ
 |nilIface=>exact .nilIface
 |agg xs ao h1 _ aZ=>exact .agg xs ao h1 aZ
 |tuple xs ao h1 _ aZ=>exact .tuple xs ao h1 aZ
 |iQ c m h=>exact .iQ c m h
 |emp p c=>exact .emp p c
 |top c=>exact .top c
def bM(ι:bt)(xs ao:ac be):Prop:=xs.length=ao.length∧∀(i:Nat) (h:i<xs.length) (az:i<ao.length),bk ι xs[i] ao[i]
variable{xs ao:ap be}
def bM.mono(hle:ι.le aQ){xs ao:ac be}(h:bM ι xs ao):bM aQ xs ao:=⟨h.1,fun i a b=>(h.2 i a b).mono hle⟩
def bM.nil(ι:bt):bM ι [] []:=⟨rfl,fun i h=>by simp at h⟩
def bM.cons{ι:bt}{x y:be}{xs ao:ac be}(h:bk ι x y)(ae:bM ι xs ao):bM ι (x::xs) (y::ao):=by
 refine⟨by simp[ae.1],fun i a b=> ?_⟩;cases i with
 |zero=>exact h
 |succ i=>exact ae.2 i (by simpa using a) (by simpa using b)
def bM.cons_inv{x:be}{xs ao:ac be}(h:bM ι (x::xs) ao):∃y jk,ao=y::jk∧bk ι x y∧bM ι xs jk:=by
 cases ao with
 |nil=>have:=h.1;simp at this
 |cons y jk=>
  refine⟨y,jk,rfl,h.2 0 (by simp) (by simp),by simpa using h.1,fun i a b=> ?_⟩;exact h.2 (i+1) (by simpa using a) (by simpa using b)
def bM.v5{ao:ac be}(h:bM ι [] ao):ao=[]:=by
 cases ao with
 |nil=>rfl
 |cons y ao=>have:=h.1;simp at this
def bM.append:∀{xs ao us vs:ac be},bM ι xs ao->bM ι us vs->bM ι (xs++us) (ao++vs)
 |[],ao,us,vs,h,az=>by rw[h.v5];simpa using az
 |x::xs,ao,us,vs,h,az=>by
  obtain⟨y,jk,rfl,h1,h2⟩:=h.cons_inv;simpa using bM.cons h1 (h2.append az)
def bM.drop:∀(n:Nat) {xs ao:ac be},bM ι xs ao->bM ι (xs.drop n) (ao.drop n)
 |0,_,_,h=>by simpa using h
 |n+1,[],ao,h=>by rw[h.v5];simpa using bM.nil ι
 |n+1,x::xs,ao,h=>by
  obtain⟨y,jk,rfl,_,h2⟩:=h.cons_inv;simpa using h2.drop n
def bM.take:∀(n:Nat) {xs ao:ac be},bM ι xs ao->bM ι (xs.take n) (ao.take n)
 |0,_,_,_=>by simpa using bM.nil ι
 |n+1,[],ao,h=>by rw[h.v5];simpa using bM.nil ι
 |n+1,x::xs,ao,h=>by
  obtain⟨y,jk,rfl,h1,h2⟩:=h.cons_inv;simpa using bM.cons h1 (h2.take n)
def bk.AA(h:bM ι xs.toList ao.toList):bk ι (.agg xs) (.agg ao):=
 .agg xs ao (by simpa using h.1) fun i a b=>by have:=h.2 i (by simpa using a) (by simpa using b);rwa [zaD,zaD]at this
def bk.pt(h:bM ι xs.toList ao.toList):bk ι (.tuple xs) (.tuple ao):=
 .tuple xs ao (by simpa using h.1) fun i a b=>by have:=h.2 i (by simpa using a) (by simpa using b);rwa [zaD,zaD]at this
def bM.wa(h1:xs.size=ao.size)(h2:∀i (h:i<xs.size) (az:i<ao.size),bk ι xs[i] ao[i]):bM ι xs.toList ao.toList:=
 ⟨by simpa using h1,fun i a b=>by have:=h2 i (by simpa using a) (by simpa using b);rwa [<-zaD,<-zaD]at this⟩
def bk.H2{f g:Fn}{us vs:ap be}(aa:y3 ι f g)(h:bM ι xs.toList ao.toList)(az:bM ι us.toList vs.toList):bk ι (.func f xs us) (.func g ao vs):=
 .func f g xs ao us vs aa (by simpa using h.1) (fun i a b=>by have:=h.2 i (by simpa using a) (by simpa using b);rwa [zaD,zaD]at this) (by simpa using az.1) (fun i a b=>by have:=az.2 i (by simpa using a) (by simpa using b);rwa [zaD,zaD]at this)
def bM.cells{v w:be}(h:bk ι v w)(hp:v≠ih):bM ι v.cells.toList w.cells.toList:=by
 cases h<;>first
  |exact absurd rfl hp
  |(rename_i xs ao h1 h2;exact bM.wa h1 h2)
  |(simp only[Value.cells];refine bM.cons ?_ (bM.nil ι);constructor<;>assumption)
end Go.aj
namespace Go.aj
section
variable{α β:Type}{r z:β}
variable{v:be}{x:β}{k:α->β}{a b:Nat}{l:ac α}{n:Nat}{st:aw}{o:am α}
def pG{k:am Addr->β}(h:iy v k z=r)(aE:z≠r):∃p,v= .pointer p∧k p=r:=by
 cases v<;>first|exact absurd h aE|exact⟨_,rfl,h⟩
def ji{k:d7->Int->β}(h:gp v k z=r)(aE:z≠r):∃a n,v= .int a n∧k a n=r:=by
 cases v<;>first|exact absurd h aE|exact⟨_,_,rfl,h⟩
def Pk{k:Bool->β}(h:ns v k z=r)(aE:z≠r):∃b,v= .bool b∧k b=r:=by
 cases v<;>first|exact absurd h aE|exact⟨_,rfl,h⟩
def oN{k:f5->β}(h:hM v k z=r)(aE:z≠r):∃s,v= .string s∧k s=r:=by
 cases v<;>first|exact absurd h aE|exact⟨_,rfl,h⟩
def uJ{k:am Addr->Nat->Nat->β}(h:hL v k z=r)(aE:z≠r):∃a n c,v= .slice a n c∧k a n c=r:=by
 cases v<;>first|exact absurd h aE|exact⟨_,_,_,rfl,h⟩
def Bi{k:ap be->β}(h:rO v k z=r)(aE:z≠r):∃a,v= .agg a∧k a=r:=by
 cases v<;>first|exact absurd h aE|exact⟨_,rfl,h⟩
def abJ{k:ap be->β}(h:qF v k z=r)(aE:z≠r):∃a,v= .tuple a∧k a=r:=by
 cases v<;>first|exact absurd h aE|exact⟨_,rfl,h⟩
def Pl{k:Fn->ap be->ap be->β}(h:yO v k z=r)(aE:z≠r):∃f a b,v= .func f a b∧k f a b=r:=by
 cases v<;>first|exact absurd h aE|exact⟨_,_,_,rfl,h⟩
def EH{k:ce->be->β}(h:sQ v k z=r)(aE:z≠r):∃t x,v= .iface t x∧k t x=r:=by
 cases v<;>first|exact absurd h aE|exact⟨_,_,rfl,h⟩
def ft(h:bd o k z=r)(aE:z≠r):∃a,o=some a∧k a=r:=by
 cases o<;>first|exact absurd h aE|exact⟨_,rfl,h⟩
def yl(h:bd o k z=r)(U:∀a,k a≠r):o=none∧z=r:=by
 cases o<;>first|exact⟨rfl,h⟩|exact absurd h (U _)
def l2{n:Int}{k:Nat->β}(h:g9 n k z=r)(aE:z≠r):∃m:Nat,n=(m:Int)∧k m=r:=by
 cases n with
 |ofNat m=>exact⟨m,rfl,h⟩
 |negSucc m=>exact absurd h aE
def pO:Nat.ble a b=true↔a<=b:=by simp
def qi(a b:Nat)(x y:β):dY a b x y=if a<=b then x else y:=by
 unfold dY;by_cases h:a<=b
 ·rw[zab h,pO.2 h];rfl
 ·rw[zaa h];have:Nat.ble a b=false:=by rw[zbR];intro hh;exact h (pO.1 hh)
  rw[this];rfl
def o5(a b:Nat)(x y:β):dW a b x y=if a=b then x else y:=by
 unfold dW;by_cases h:a=b
 ·rw[zab h,h,zaL];rfl
 ·rw[zaa h];have:Nat.beq a b=false:=by rw[zbR];intro hh;exact h (ek hh)
  rw[this];rfl
def iL(h:dY a b x z=r)(aE:z≠r):a<=b∧x=r:=by
 rw[qi]at h;split at h
 ·exact⟨by assumption,h⟩
 ·exact absurd h aE
def lh(h:dW a b x z=r)(aE:z≠r):a=b∧x=r:=by
 rw[o5]at h;split at h
 ·exact⟨by assumption,h⟩
 ·exact absurd h aE
def iC{b:Bool}(h:cond b x z=r)(aE:z≠r):b=true∧x=r:=by
 cases b
 ·exact absurd h aE
 ·exact⟨rfl,h⟩
def Av{b:Bool}(h:cond b z x=r)(aE:z≠r):b=false∧x=r:=by
 cases b
 ·exact⟨rfl,h⟩
 ·exact absurd h aE
@[simp] theorem fs:∀l:ac α,df l=l.length
 |[]=>rfl
 |x::xs=>by show Nat.succ (df xs)=_;rw[fs xs];rfl
@[simp] theorem qM (m:ac α):∀l:ac α,gG l m=l++m
 |[]=>rfl
 |x::xs=>by show x::gG xs m=_;rw[qM m xs];rfl
@[simp] theorem zB:∀(n:Nat) (l:ac α),FU n l=l.drop n
 |0,l=>rfl
 |n+1,[]=>rfl
 |n+1,x::xs=>by show FU n xs=_;rw[zB n xs];rfl
theorem Ez:∀(n:Nat) (l:ac α),O5 n l=if n<=l.length then some (l.take n)else none
 |0,l=>by rw[zab (zag _)];rfl
 |n+1,[]=>rfl
 |n+1,x::xs=>by
  show Option.rec (motive:=fun _=>am (ac α)) none (fun r=>some (x::r)) (O5 n xs)=_;rw[Ez n xs];by_cases h:n<=xs.length
  ·rw[zab h,zab (by simpa using h)];rfl
  ·rw[zaa h,zaa (by simpa using h)]
def AB(h:one l k z=r)(aE:z≠r):∃x,l=[x]∧k x=r:=by
 cases l with
 |nil=>exact absurd h aE
 |cons x xs=>
  cases xs with
  |nil=>exact⟨x,rfl,h⟩
  |cons y ao=>exact absurd h aE
def va{off:Nat}{k:ac α->β}(h:iD l off n k z=r)(aE:z≠r):n<=(l.drop off).length∧k ((l.drop off).take n)=r:=by
 unfold iD at h;rw[zB,Ez]at h;split at h
 ·exact⟨by assumption,h⟩
 ·exact absurd h aE
theorem rD:∀(l:ac α) (n:Nat) (vs:ac α) (k:ac α->β) (z:β),
 qw l n vs k z=if n+vs.length<=l.length then k (l.take n++(vs++l.drop (n+vs.length)))else if vs=[]then k l else z
 |[],n,[],k,z=>by
  by_cases h:n=0
  ·subst h;rfl
  ·rw[zaa (by simpa using h),zab rfl];rfl
 |[],n,v::vs,k,z=>by rw[zaa (by simp),zaa (by simp)];rfl
 |y::ao,0,[],k,z=>by rw[zab (by simp)];rfl
 |y::ao,0,v::vs,k,z=>by
  show qw ao 0 vs (fun l'=>k (v::l')) z=_;rw[rD ao 0 vs];by_cases h:vs.length<=ao.length
  ·have h1:0+vs.length<=ao.length:=by omega
   have h2:0+(v::vs).length<=(y::ao).length:=by simp only[zau];omega
   rw[zab h1,zab h2];simp
  ·have h1:¬0+vs.length<=ao.length:=by omega
   have h2:¬0+(v::vs).length<=(y::ao).length:=by simp only[zau];omega
   have h3:vs≠[]:=by intro e;subst e;simp at h
   rw[zaa h1,zaa h2,zaa h3,zaa (by simp)]
 |y::ao,n+1,vs,k,z=>by
  show qw ao n vs (fun l'=>k (y::l')) z=_;rw[rD ao n vs];by_cases h:n+vs.length<=ao.length
  ·have h2:n+1+vs.length<=(y::ao).length:=by simp only[zau];omega
   rw[zab h,zab h2];rw[show n+1+vs.length=(n+vs.length)+1 by omega];simp
  ·have h2:¬n+1+vs.length<=(y::ao).length:=by simp only[zau];omega
   rw[zaa h,zaa h2]
def Od{vs:ac α}{k:ac α->β}(h:qw l n vs k z=r)(aE:z≠r):
 (n+vs.length<=l.length∧k (l.take n++(vs++l.drop (n+vs.length)))=r)∨(vs=[]∧k l=r):=by
 rw[rD]at h;split at h
 ·exact .inl ⟨by assumption,h⟩
 ·split at h
  ·exact .inr ⟨by assumption,h⟩
  ·exact absurd h aE
def u6{a:Addr}{k:ac be->ce->Nat×Nat->Bool->β}(h:st.gH a k z=r)(aE:z≠r):
 a.spot=none∧∃cs elem a8 aX,st.h.get a.block=some (.cells cs elem a8 aX)∧k cs elem a8 aX=r:=by
 unfold aw.gH at h;obtain⟨h1,h2⟩:=yl h (fun _=>aE);refine⟨h1,?_⟩;unfold BN at h2;obtain⟨o,ai,h3⟩:=ft h2 aE;cases o<;>first|exact absurd h3 aE|exact⟨_,_,_,_,ai,h3⟩
def Ah{a:Addr}{k:ac be->β}(h:st.load a n k z=r)(aE:z≠r):
 a.spot=none∧∃cs elem a8 aX,st.h.get a.block=some (.cells cs elem a8 aX)∧n<=(cs.drop a.off).length∧k ((cs.drop a.off).take n)=r:=by
 obtain⟨h1,cs,e,a8,aX,h2,h3⟩:=u6 h aE;obtain⟨au,aW⟩:=va h3 aE;exact⟨h1,cs,e,a8,aX,h2,au,aW⟩
def j5(st:aw)(id:Nat)(o:bD)(k:aw->β):st.g2 id o k=k ⟨st.h.set id o,st.ag⟩:=by
 unfold aw.g2;rw[an.wj,an.qX]
def zM(n:Nat)(k:Nat->β):gd n k=k n:=by unfold gd;rw[zaL];rfl
def gz(st:aw)(o:bD)(k:Nat->aw->β):st.jg o k=k st.ag ⟨st.h.set st.ag o,st.ag+1⟩:=by
 unfold aw.jg;rw[zM,an.wj,an.qX]
def agA(n:Int)(k:Int->β):RX n k=k n:=by
 cases n with
 |ofNat m=>exact zM m (fun m=>k (.ofNat m))
 |negSucc m=>exact zM m (fun m=>k (.negSucc m))
def ib(a:d7)(n:Int)(c:be->β):hY a n c=c (.int a n):=agA _ _
def aaU{a:Addr}{vs:ac be}{k:aw->β}(h:st.store a vs k z=r)(aE:z≠r):
 a.spot=none∧∃cs elem a8 aX,st.h.get a.block=some (.cells cs elem a8 aX)∧a8.2<=a8.1∧
  ((a.off+vs.length<=cs.length∧k ⟨st.h.set a.block (.cells (cs.take a.off++(vs++cs.drop (a.off+vs.length))) elem a8 aX),st.ag⟩=r)∨
   (vs=[]∧k ⟨st.h.set a.block (.cells cs elem a8 aX),st.ag⟩=r)):=by
 obtain⟨h1,cs,e,a8,aX,h2,h3⟩:=u6 h aE;obtain⟨au,aW⟩:=iL h3 aE;refine⟨h1,cs,e,a8,aX,h2,au,?_⟩;rcases Od aW aE with⟨ha,hb⟩|⟨ha,hb⟩
 ·left;refine⟨ha,?_⟩;rw[j5]at hb;exact hb
 ·right;refine⟨ha,?_⟩;rw[j5]at hb;exact hb
end
structure sX(P:d9)(ι:bt)(w:co)(cs:ac be)(elem:ce)(a8:Nat×Nat)(aX:Bool)(l:Loc)(C:ap be)(eU:Nat×Nat):Prop where
 there:w.heap[l.cC]? =some (.cells C elem eU)
 room:l.cO+cs.length+l.ex*P.cellsOf elem<=C.size
 cell:∀(i:Nat) (h:i<cs.length),∃c,C[l.cO+i]? =some c∧bk ι cs[i] c
 yU:a8.2<=a8.1->∀i,l.cO<=i->i<l.cO+cs.length+l.ex*P.cellsOf elem->¬(eU.1<=i∧i<eU.2)
 plain:aX=false->l.ex=0∧l.cO=0∧C.size=cs.length
def Bd(t:an be)(n:Nat):be:=Option.rec (motive:=fun _=>be) (.chan (some 0)) (fun v=>v) (t.get n)
def E6:am dM->am Code->Prop
 |none,none=>True
 |some (.exit i),some (.exit j)=>i=j
 |some .ret,some .ret=>True
 |_,_=>False
structure acz(b5:Nat->Nat)(clock:Nat):Prop where
 inj:∀s t,s<clock->t<clock->b5 s=b5 t->s=t
 lt:∀s,s<clock->b5 s<b5 clock
 up:∀j,b5 (clock+j)=b5 clock+j
structure kv(ι:bt)(b5:Nat->Nat)(es:ac d8)(clock:Nat)(C:ac d8)(ky:Nat):Prop where
 td:ky=b5 clock
 A5:acz b5 clock
 born:∀e∈es,e.born<clock
 keys:es.Pairwise (fun a b=>a.key≠b.key)
 zi:es.Pairwise (fun a b=>a.born≠b.born)
 same:∃l:ac d8,l.Perm es∧l.length=C.length∧∀(i:Nat) (h:i<l.length) (az:i<C.length),bk ι l[i].key C[i].key∧bk ι l[i].val C[i].val∧C[i].born=b5 l[i].born
def kv.mono{ι aQ:bt}{b5:Nat->Nat}{es:ac d8}{clock:Nat}{C:ac d8}{ky:Nat}(hle:ι.le aQ)(h:kv ι b5 es clock C ky):kv aQ b5 es clock C ky:=
 ⟨h.td,h.A5,h.born,h.keys,h.zi,let⟨l,h1,h2,h3⟩:=h.same;⟨l,h1,h2,fun i a b=>⟨(h3 i a b).1.mono hle,(h3 i a b).2.1.mono hle,(h3 i a b).2.2⟩⟩⟩
structure Ctx where
 P:d9
 ok:ci->Code->dp->Prop
 aB:Nat
 jZ:ci->Bool
 kl:ci->Bool
 DM:∀f,jZ f=true->∀x w,(callFunc f #[x]).run P w= .ok (.value x) w
 Dh:∀f,kl f=true->∀s c w,(callFunc f #[.string s,.int .u8 c]).run P w= .ok (.value (goInt (match(List.range s.size).find? (fun i=>s[i]! ==c.toNat.toUInt8)with|some i=>(i:Int)|none=> -1))) w
 keys:ce->am fL
 sm:∀k c4,keys k=some c4->Maps.Keyed P k∧∀v,c4.ok v=true->∃l,keyOf P k v=some l
 pT:ci->Bool
 BV:∀f,pT f=true->∀s c w,(callFunc f #[.string s,.int .u8 c]).run P w= .ok (.value (goInt (s.data.toList.countP (fun b=>b==c.toNat.toUInt8):Nat))) w
 qg:ci->Bool
 l0:Nat
 DE:l0<aB
 Dj:∀f,qg f=true->∀(s b:f5) (m:Int) w,(load ⟨l0,0,none⟩).run P w= .ok (.int .i64 m) w->2<=b.size->(b.size:Int)<=m->s.size<=1000000->
  (callFunc f #[.string s,.string b]).run P w= .ok (.value (goInt (match oM b.data.toList s.data.toList with|some i=>(i:Int)|none=> -1))) w
 eqs:ce->am Nat
 xn:∀t n,eqs t=some n->P.eqGuardType P.depth t=false∧∀xs ao b w,xs.size=n%100+n/100->ao.size=n%100+n/100->kT (n%100) xs.toList ao.toList=some b->(Op.equalIn 10000 t (.agg xs) (.agg ao)).run P w= .ok b w
 qn:ci->am ce
 DD:∀f e,qn f=some e->∀(n:Nat) (w:co),n<=281474976710656->∃(cs:ap be) (w':co),n<=cs.size∧P.cellsOf e=1∧(callFunc f #[.int .i64 (n:Int)]).run P w= .ok (.value (.slice (some ⟨w.heap.size,0,none⟩) n cs.size)) w'∧w'.heap=w.heap.push (.cells cs e)∧(w'.os=w.os∧w'.output=w.output)
variable(X:Ctx)
def jx(ι:bt)(w:co)(o:bD)(l:Loc):Prop:=
 match o with
 |.cells cs elem a8 aX=>∃C eU,sX X.P ι w cs elem a8 aX l C eU
 |.map es clock=>l.cO=0∧l.ex=0∧∃C ky,w.heap[l.cC]? =some (.map C ky)∧kv ι l.b5 es clock C.toList ky
 |.yJ s pos=>l.cO=0∧l.ex=0∧w.heap[l.cC]? =some (.stringIter s pos)
 |.ub m since seen Ba=>l.cO=0∧l.ex=0∧∃fj OW A2 Hw,w.heap[l.cC]? =some (.mapIter fj OW A2 Hw)∧
  (m=none∧fj=none∨∃r b b5,m=some r∧fj=some b∧ι r=some ⟨b,0,0,b5⟩∧OW=b5 since∧A2.toList=seen.map b5∧Hw=b5 Ba)
 |.loop s gm fn t ps dk body d=>l.cO=0∧l.ex=0∧∃L:Loop,w.heap[l.cC]? =some (.loop L)∧L.state=s∧E6 gm L.pending∧L.fn=fn∧
  (∀n,bk ι (Bd t n) (L.tmps.getD n undef))∧L.params.toList=ps∧X.ok fn L.assign dk∧X.ok fn L.body body∧ι d=some ⟨L.defers,0,0,id⟩∧
  (∃F,X.P.funcs[fn]? =some F∧L.tmps.size=F.ntmps)∧∀t∈ps,t<L.tmps.size
 |.iV calls=>l.cO=0∧l.ex=0∧((calls=some []∧w.heap[l.cC]? =some (.deferred (some [])))∨(calls=none∧w.heap[l.cC]? =some (.deferred none)))
 |.dead=>True
def bD.vk:bD->Prop
 |.cells _ _ a8 aX=>aX=false∧a8.1<a8.2
 |_=>False
structure bn(ι:bt)(st:aw)(w:co):Prop where
 eE:∀id o,st.h.get id=some o->o≠.dead->∃l,ι id=some l∧jx X ι w o l
 inj:∀i j o p l m,st.h.get i=some o->o≠.dead->st.h.get j=some p->p≠.dead->ι i=some l->ι j=some m->(l.b5≠iE∨m.b5≠iE)->l.cC=m.cC->i=j
 fresh:∀id,st.ag<=id->ι id=none∧st.h.get id=none
 gQ:∀id l,ι id=some l->l.cC<w.heap.size
 mm:∀g,g<X.aB->ι g=some ⟨g,0,0,iE⟩
 p1:X.aB<=st.ag
 mK:∀i l o,ι i=some l->l.b5=iE->st.h.get i=some o->o≠.dead->o.vk
def rV(w w':co):Prop:=w'.os=w.os∧w'.output=w.output
structure fz(ι aQ:bt)(w w':co):Prop where
 le:ι.le aQ
 size:w.heap.size<=w'.heap.size
 kept:∀b,b<w.heap.size->(∀id l,ι id=some l->l.b5≠iE->l.cC≠b)->w'.heap[b]? =w.heap[b]?
 new:∀id l,aQ id=some l->ι id=some l∨w.heap.size<=l.cC∨∃j m,ι j=some m∧m.b5≠iE∧m.cC=l.cC
 gN:rV w w'
variable{w:co}{ι:bt}{w':co}{aQ:bt}{l:Loc}{st:aw}
def fz.refl(ι:bt)(w:co):fz ι ι w w:=⟨.refl ι,bY _,fun _ _ _=>rfl,fun _ _ h=>.inl h,⟨rfl,rfl⟩⟩
def fz.trans{fh:bt}{jv:co}(h:fz ι aQ w w')(az:fz aQ fh w' jv):fz ι fh w jv:=by
 refine⟨h.le.trans az.le,zai h.size az.size,fun b hb hi=> ?_,fun id l hl=> ?_,⟨az.gN.1.trans h.gN.1,az.gN.2.trans h.gN.2⟩⟩
 ·rw[az.kept b (fC hb h.size) ?_,h.kept b hb hi];intro id l hl ae e;rcases h.new id l hl with hn|hn|⟨j,m,hj,eV,hm⟩
  ·exact hi id l hn ae e
  ·omega
  ·exact hi j m hj eV (by omega)
 ·rcases az.new id l hl with hn|hn|⟨j,m,hj,ae,hm⟩
  ·exact h.new id l hn
  ·exact .inr (.inl (zai h.size hn))
  ·rcases h.new j m hj with h1|h1|⟨MU,fj,h1,h2,h3⟩
   ·exact .inr (.inr ⟨j,m,h1,ae,hm⟩)
   ·exact .inr (.inl (by omega))
   ·exact .inr (.inr ⟨MU,fj,h1,h2,by omega⟩)
def sX.mono{P:d9}{cs:ac be}{elem:ce}{a8:Nat×Nat}{aX:Bool}{C:ap be}{eU:Nat×Nat}
 (h:sX P ι w cs elem a8 aX l C eU) (hle:ι.le aQ) (e:w'.heap[l.cC]? =w.heap[l.cC]?):sX P aQ w' cs elem a8 aX l C eU:=
 ⟨by rw[e];exact h.there,h.room,fun i hi=>let⟨c,h1,h2⟩:=h.cell i hi;⟨c,h1,h2.mono hle⟩,h.yU,h.plain⟩
def jx.mono{o:bD}(h:jx X ι w o l)(hle:ι.le aQ)(e:w'.heap[l.cC]? =w.heap[l.cC]?):jx X aQ w' o l:=by
 cases o with
 |cells cs elem a8 aX=>obtain⟨C,eU,hc⟩:=h;exact⟨C,eU,hc.mono hle e⟩
 |map es clock=>
  obtain⟨h0,kh,C,bT,h1,h2⟩:=h;exact⟨h0,kh,C,bT,by rw[e];exact h1,h2.mono hle⟩
 |yJ s pos=>obtain⟨h0,kh,h1⟩:=h;exact⟨h0,kh,by rw[e];exact h1⟩
 |ub m since seen Ba=>
  obtain⟨h0,kh,fj,bm,b0,hk,h1,h2⟩:=h;refine⟨h0,kh,fj,bm,b0,hk,by rw[e];exact h1,?_⟩;rcases h2 with h2|⟨r,b,b5,h3,au,aW,ch⟩
  ·exact .inl h2
  ·exact .inr ⟨r,b,b5,h3,au,hle _ _ aW,ch⟩
 |loop s gm fn t ps dk body d=>
  obtain⟨h0,kh,L,h1,h2,h3,au,aW,ch,dt,fS,h8,tt⟩:=h;exact⟨h0,kh,L,by rw[e];exact h1,h2,h3,au,fun n=>(aW n).mono hle,ch,dt,fS,hle _ _ h8,tt⟩
 |iV calls=>
  obtain⟨h0,kh,h1⟩:=h;refine⟨h0,kh,?_⟩;rw[e];exact h1
 |dead=>trivial
def bn.I7(h:bn X ι st w)(e:w'.heap=w.heap):bn X ι st w':=by
 refine⟨fun id o ai al=> ?_,h.inj,h.fresh,fun id l hl=>by rw[e];exact h.gQ id l hl,h.mm,h.p1,h.mK⟩;obtain⟨l,hl,hm⟩:=h.eE id o ai al;exact⟨l,hl,jx.mono X hm (.refl ι) (by rw[e])⟩
def fz.I7(ι:bt)(e:w'.heap=w.heap)(gN:rV w w':=by exact⟨rfl,rfl⟩):fz ι ι w w':=
 ⟨.refl ι,by rw[e];exact bY _,fun _ _ _=>by rw[e],fun _ _ h=>.inl h,gN⟩
def hU(ι:bt)(id:Nat)(l:Loc):bt:=fun i=>if i=id then some l else ι i
def bn.alloc(h:bn X ι st w)(o:bD)(O:Obj)(ex:Nat)
 (hm:∀aQ w',ι.le aQ->aQ st.ag=some ⟨w.heap.size,0,ex,id⟩->w'.heap[w.heap.size]? =some O->jx X aQ w' o ⟨w.heap.size,0,ex,id⟩) (w':co) (hw:w'.heap=w.heap.push O) (gN:rV w w':=by exact⟨rfl,rfl⟩):
 ∃aQ,bn X aQ ⟨st.h.set st.ag o,st.ag+1⟩ w'∧fz ι aQ w w'∧aQ st.ag=some ⟨w.heap.size,0,ex,id⟩∧aQ=hU ι st.ag ⟨w.heap.size,0,ex,id⟩:=by
 refine⟨fun i=>if i=st.ag then some ⟨w.heap.size,0,ex,id⟩else ι i,?_,?_,zab rfl,rfl⟩
 ·have hle:ι.le (fun i=>if i=st.ag then some ⟨w.heap.size,0,ex,id⟩else ι i):=by
   intro i l hl;show(if i=st.ag then _ else ι i)=_;rw[zaa];exact hl;intro e;subst e;rw[(h.fresh _ (bY _)).1]at hl;cases hl
  refine⟨fun id p hp al=> ?_,fun i j p q l m hi hJ hj hW gR ia aJ e=> ?_,fun id oB=> ?_,fun id l hl=> ?_,fun g aJ=> ?_,zdp h.p1,fun i l p hl ae hp al=> ?_⟩
  ·rw[an.ep]at hp;by_cases e:id=st.ag
   ·rw[zab e]at hp;cases hp;subst e;exact⟨_,zab rfl,hm _ _ hle (zab rfl) (by rw[hw];simp)⟩
   ·rw[zaa e]at hp;obtain⟨l,hl,ai⟩:=h.eE id p hp al;refine⟨l,hle _ _ hl,jx.mono X ai hle ?_⟩;have:=h.gQ id l hl;rw[hw,zcS,zaa (by omega)]
  ·rw[an.ep]at hi hj;by_cases nG:i=st.ag<;>by_cases jz:j=st.ag
   ·rw[nG,jz]
   ·exfalso;simp only[zaa jz]at ia;simp only[zab nG]at gR;have:=h.gQ j m ia;cases gR;simp only at e;omega
   ·exfalso;simp only[zaa nG]at gR;simp only[zab jz]at ia;have:=h.gQ i l gR;cases ia;simp only at e;omega
   ·simp only[zaa nG]at gR hi;simp only[zaa jz]at ia hj;exact h.inj i j p q l m hi hJ hj hW gR ia aJ e
  ·have ale:st.ag+1<=id:=oB;have:=h.fresh id (by omega);refine⟨?_,?_⟩
   ·show(if id=st.ag then _ else ι id)=_;rw[zaa (by omega)];exact this.1
   ·rw[an.ep,zaa (by omega)];exact this.2
  ·rw[hw,Array.size_push];by_cases e:id=st.ag
   ·simp only[zab e]at hl;cases hl;simp
   ·simp only[zaa e]at hl;have:=h.gQ id l hl;omega
  ·exact hle _ _ (h.mm g aJ)
  ·rw[an.ep]at hp;by_cases e:i=st.ag
   ·simp only[zab e]at hl;cases hl;exact absurd ae MK
   ·simp only[zaa e]at hl hp;exact h.mK i l p hl ae hp al
 ·refine⟨?_,by rw[hw];simp,fun b hb _=>by rw[hw,zcS,zaa (by omega)],fun id l hl=> ?_,gN⟩
  ·intro i l hl;show(if i=st.ag then _ else ι i)=_;rw[zaa];exact hl;intro e;subst e;rw[(h.fresh _ (bY _)).1]at hl;cases hl
  ·by_cases e:id=st.ag
   ·simp only[zab e]at hl;cases hl;exact .inr (.inl (bY _))
   ·simp only[zaa e]at hl;exact .inl hl
def bn.uH(h:bn X ι st w){id:Nat}{mI:bD}(h₀:st.h.get id=some mI)(tB:mI≠.dead)(Ml:¬mI.vk)(hl:ι id=some l)(o:bD)(O:Obj)
 (w':co) (hw:w'.heap=w.heap.setIfInBounds l.cC O) (hm:o≠.dead->w'.heap[l.cC]? =some O->jx X ι w' o l) (gN:rV w w':=by exact⟨rfl,rfl⟩):
 bn X ι ⟨st.h.set id o,st.ag⟩ w'∧fz ι ι w w':=by
 have hb:=h.gQ id l hl;have mz:l.b5≠iE:=fun e=>Ml (h.mK id l mI hl e h₀ tB);refine⟨⟨fun j p hp al=> ?_,fun i j p q a b hi hJ hj hW gR ia aJ e=> ?_,fun j hj=> ?_,fun j a ha=> ?_,h.mm,h.p1,fun j a p ha ae hp al=> ?_⟩,?_⟩
 ·rw[an.ep]at hp;by_cases e:j=id
  ·rw[zab e]at hp;cases hp;subst e;exact⟨l,hl,hm al (by rw[hw];simp[hb])⟩
  ·rw[zaa e]at hp;obtain⟨m,lU,ai⟩:=h.eE j p hp al;refine⟨m,lU,jx.mono X ai (.refl ι) ?_⟩;have cl:m.cC≠l.cC:=fun o4=>e (h.inj j id p mI m l hp al h₀ tB lU hl (.inr mz) o4);rw[hw,zbA (Ne.symm cl)]
 ·rw[an.ep]at hi hj;have aju:∃dy,st.h.get i=some dy∧dy≠.dead:=by
   by_cases e:i=id
   ·subst e;exact⟨mI,h₀,tB⟩
   ·rw[zaa e]at hi;exact⟨p,hi,hJ⟩
  have ajw:∃dy,st.h.get j=some dy∧dy≠.dead:=by
   by_cases e:j=id
   ·subst e;exact⟨mI,h₀,tB⟩
   ·rw[zaa e]at hj;exact⟨q,hj,hW⟩
  obtain⟨dy,vE,alJ⟩:=aju;obtain⟨e1,xP,G3⟩:=ajw;exact h.inj i j dy e1 a b vE alJ xP G3 gR ia aJ e
 ·have:=h.fresh j hj;refine⟨this.1,?_⟩;rw[an.ep,zaa];exact this.2;intro e;subst e;rw[this.2]at h₀;cases h₀
 ·rw[hw];simpa using h.gQ j a ha
 ·rw[an.ep]at hp;by_cases e:j=id
  ·subst e;rw[hl]at ha;cases ha;exact absurd ae mz
  ·rw[zaa e]at hp;exact h.mK j a p ha ae hp al
 ·refine⟨.refl ι,by rw[hw];simp,fun b _ hi=> ?_,fun _ _ hh=>.inl hh,gN⟩;rw[hw,zbA (hi id l hl mz)]
end Go.aj
namespace Go.aj
mutual
def j8:be->Bool
 |.bool _|.int _ _|.float _ _|.string _|.pointer none|.slice none _ _|.map none|.nilFunc|.nilIface=>true
 |.func (.func _) x y=>EK x&&EK y
 |.iface _ v=>j8 v
 |.agg a|.tuple a=>EK a
 |_=>false
def EK:ap be->Bool
 |⟨a⟩=>mT a
def mT:ac be->Bool
 |[]=>true
 |a::as=>j8 a&&mT as
end
mutual
theorem bk.pure(ι:bt):∀v:be,j8 v=true->bk ι v v
 |.bool b,_=>.bool b
 |.int k n,_=>.int k n
 |.float k n,_=>.float k n
 |.complex _ _ _,h=>by simp[j8]at h
 |.string s,_=>.string s
 |.pointer none,_=>.n1
 |.pointer (some _),h=>by simp[j8]at h
 |.slice none n c,_=>.ob n c
 |.slice (some _) _ _,h=>by simp[j8]at h
 |.map none,_=>.qm
 |.map (some _),h=>by simp[j8]at h
 |.chan _,h=>by simp[j8]at h
 |.func (.func f) x y,h=>by
  simp only[j8,bX]at h;exact bk.H2 (.inl ⟨rfl,by simp⟩) (bM.qv ι x h.1) (bM.qv ι y h.2)
 |.func (.method _) _ _,h=>by simp[j8]at h
 |.func (.methodOf _ _) _ _,h=>by simp[j8]at h
 |.func (.via _ _ _ _) _ _,h=>by simp[j8]at h
 |.func (.yield _) _ _,h=>by simp[j8]at h
 |.nilFunc,_=>.nilFunc
 |.iface t v,h=>.iface t v v (bk.pure ι v (by simpa[j8]using h))
 |.nilIface,_=>.nilIface
 |.agg a,h=>bk.AA (bM.qv ι a (by simpa[j8]using h))
 |.tuple a,h=>bk.pt (bM.qv ι a (by simpa[j8]using h))
theorem bM.qv(ι:bt):∀v:ap be,EK v=true->bM ι v.toList v.toList
 |⟨a⟩,h=>bM.yu ι a (by simpa[EK]using h)
theorem bM.yu(ι:bt):∀v:ac be,mT v=true->bM ι v v
 |[],_=>bM.nil ι
 |a::as,h=>by
  simp only[mT,bX]at h;exact bM.cons (bk.pure ι a h.1) (bM.yu ι as h.2)
end
theorem bk.undef(ι:bt):bk ι undef undef:=bk.pure ι _ rfl
def cy(aB:Nat):bi->Bool
 |.tmp _=>true
 |.const v=>j8 v
 |.global g=>Nat.ble (Nat.succ g) aB
 |.func _=>true
def E1(ι:bt)(d e:Deferred):Prop:=
 bM ι d.args.toList e.args.toList∧
 match d.target,e.target with
 |.fn f c,.fn g bT=>y3 ι f g∧bM ι c.toList bT.toList
 |.collected r,.collected b=>ι r=some ⟨b,0,0,id⟩
 |_,_=>False
variable{ι aQ:bt}
def sZ(ι:bt):ac Deferred->ac Deferred->Prop
 |[],[]=>True
 |d::ds,e::es=>E1 ι d e∧sZ ι ds es
 |_,_=>False
def E1.mono(hle:ι.le aQ){d e:Deferred}(h:E1 ι d e):E1 aQ d e:=by
 obtain⟨h1,h2⟩:=h;refine⟨h1.mono hle,?_⟩;cases al:d.target<;>cases he:e.target<;>simp only[al,he]at h2⊢
 ·exact⟨h2.1.mono hle,h2.2.mono hle⟩
 ·exact hle _ _ h2
def sZ.mono(hle:ι.le aQ):∀{ds es:ac Deferred},sZ ι ds es->sZ aQ ds es
 |[],[],_=>trivial
 |_::_,_::_,h=>⟨h.1.mono hle,sZ.mono hle h.2⟩
 |[],_::_,h=>h.elim
 |_::_,[],h=>h.elim
structure cv(ι:bt)(fr:aP)(a:Act)(aO:Nat):Prop where
 tmp:∀t,bk ι (fr.tmp t) (a.tmps.getD t undef)
 size:a.tmps.size=aO
 c1:sZ ι fr.c1 a.defers
def cv.mono(hle:ι.le aQ){fr:aP}{a:Act}{aO:Nat}(h:cv ι fr a aO):cv aQ fr a aO:=
 ⟨fun t=>(h.tmp t).mono hle,h.size,h.c1.mono hle⟩
variable{X:Ctx}
variable{fr:aP}{a:Act}{aO:Nat}
def cv.af{st:aw}{w:co}(h:cv ι fr a aO)(hw:bn X ι st w){x:bi}(J:cy X.aB x=true):bk ι (fr.af x) (a.eval x):=by
 cases x with
 |tmp t=>exact h.tmp t
 |const v=>exact bk.pure ι v J
 |global g=>
  have aJ:g<X.aB:=pO.1 J;have:=bk.ptr (ι:=ι) ⟨g,0,none⟩ ⟨g,0,0,iE⟩ (hw.mm g aJ) rfl;show bk ι (.pointer (some ⟨g,0,none⟩)) (.pointer (some ⟨g,0,none⟩));simpa using this
 |func f=>exact bk.H2 (.inl ⟨rfl,by simp⟩) (bM.nil ι) (bM.nil ι)
def cv.put(h:cv ι fr a aO){d:am Tmp}(al:∀t,d=some t->t<aO){v v':be}(aF:bk ι v v'):cv ι (fr.put d v) (a.put d v') aO:=by
 cases d with
 |none=>exact h
 |some d=>
  refine⟨fun t=> ?_,by simp[Act.put,h.size],by rw[(wk fr (some d) v).1];exact h.c1⟩;rw[rM];have aV:d<a.tmps.size:=by rw[h.size];exact al d rfl
  simp only[Act.put,Option.some.injEq];by_cases e:d=t
  ·subst e;rw[zab rfl];simp[Array.getD,aV];exact aF
  ·rw[zaa e];have:=h.tmp t;simp only[Array.getD_eq_getD_getElem?]at this⊢;rw[zbA e];exact this
def acs(aQ:bt)(v:be)(n:Next):Prop:=(∃v',n= .value v'∧bk aQ v v')∨(n= .skip∧v=undef)
def jS(X:Ctx)(ι:bt)(w:co)(v:be)(st':aw)(s:Sem Next):Prop:=
 ∃aQ n w',s.run X.P w= .ok n w'∧acs aQ v n∧bn X aQ st' w'∧fz ι aQ w w'
def ca(X:Ctx)(ι:bt)(w:co)(v:be)(st st':aw)(s:Sem Next):Prop:=
 st'=st∧bn X ι st w∧∃v',s.run X.P w= .ok (.value v') w∧bk ι v v'
variable{w:co}{v:be}{st:aw}{s:Sem Next}
def ca.same{v':be}(hw:bn X ι st w)(hr:s.run X.P w= .ok (.value v') w)(aF:bk ι v v'):ca X ι w v st st s:=
 ⟨rfl,hw,v',hr,aF⟩
def ca.OV{st':aw}(h:ca X ι w v st st' s):jS X ι w v st' s:=by
 obtain⟨rfl,hw,v',hr,aF⟩:=h;exact⟨ι,_,w,hr,.inl ⟨v',rfl,aF⟩,hw,.refl ι w⟩
def s4(X:Ctx)(ι:bt)(w:co)(v:be)(st st':aw)(s:Sem Next):Prop:=
 ∃o O ex v' w',st'=⟨st.h.set st.ag o,st.ag+1⟩∧o≠.dead∧s.run X.P w= .ok (.value v') w'∧w'.heap=w.heap.push O∧
  bk (hU ι st.ag ⟨w.heap.size,0,ex,id⟩) v v'∧bn X (hU ι st.ag ⟨w.heap.size,0,ex,id⟩) st' w'∧fz ι (hU ι st.ag ⟨w.heap.size,0,ex,id⟩) w w'
def s4.OV{st':aw}(h:s4 X ι w v st st' s):jS X ι w v st' s:=by
 obtain⟨o,O,ex,v',w',_,_,hr,_,aF,hw,U⟩:=h;exact⟨_,_,w',hr,.inl ⟨v',rfl,aF⟩,hw,U⟩
def jS.same{v':be}(hw:bn X ι st w)(hr:s.run X.P w= .ok (.value v') w)(aF:bk ι v v'):jS X ι w v st s:=
 ⟨ι,_,w,hr,.inl ⟨v',rfl,aF⟩,hw,.refl ι w⟩
section
variable{ι:bt}{fr aC:aP}{a:Act}{aO:Nat}{st st':aw}{w:co}{o:Oper}{v:be}{call:bL}
variable{x:bi}
def aaD(J:cy X.aB x=true)(ai:o.op= .move x∨o.op= .assign x)(aa:cv ι fr a aO)(hw:bn X ι st w)(h:Yu x call fr st= .ok v aC st'):
 aC=fr∧ca X ι w v st st' (execOp a.eval o):=by
 cases h;refine⟨rfl,ca.same (v':=a.eval x) hw ?_ (aa.af hw J)⟩;unfold execOp;rcases ai with ai|ai<;>rw[ai]<;>rfl
def ar6{c y:bi}(hc:cy X.aB c=true)(J:cy X.aB x=true)(aA:cy X.aB y=true)(ai:o.op= .pick c x y)(aa:cv ι fr a aO)(hw:bn X ι st w)(h:Yx c x y call fr st= .ok v aC st'):
 aC=fr∧ca X ι w v st st' (execOp a.eval o):=by
 obtain⟨t,aN,h⟩:=Pk h (by simp);cases h;have m7:=aa.af hw hc;rw[aN]at m7;generalize LY:a.eval c=FG at m7;cases m7;refine⟨rfl,ca.same (v':=if t then a.eval x else a.eval y) hw ?_ ?_⟩
 ·unfold execOp;rw[ai];simp[LY,asBool]
 ·cases t
  ·exact aa.af hw aA
  ·exact aa.af hw J
end
end Go.aj
namespace Go.aj
variable{X:Ctx}
variable{w:co}{a8:Nat×Nat}{b o:Nat}{e:ce}{P:d9}
def cell_of{C:ap be}(h:w.heap[b]? =some (.cells C e a8)):w.cell? ⟨b,o,none⟩=C[o]? :=by
 simp[World.cell?,h]
def agE{C:ap be}(h:w.heap[b]? =some (.cells C e a8)):w.frozen? ⟨b,o,none⟩=(decide (a8.1<=o)&&decide (o<a8.2)):=by
 obtain⟨aM,hi⟩:=a8;simp[World.frozen?,h]
def sX.row{ι:bt}{cs:ac be}{elem:ce}{aX:Bool}{l:Loc}{C:ap be}{eU:Nat×Nat}
 (h:sX P ι w cs elem a8 aX l C eU) (off n:Nat) (hn:n<=(cs.drop off).length):bM ι ((cs.drop off).take n) ((C.toList.drop (l.cO+off)).take n):=by
 have hlen:(cs.drop off).length=cs.length-off:=by simp
 have qc:=h.room;refine⟨by simp;omega,fun i a b=> ?_⟩;simp only[zas,zaE]at a b;obtain⟨c,h1,h2⟩:=h.cell (off+i) (by omega);have hi:l.cO+(off+i)<C.size:=(zbk.1 h1).1;rw[zci hi]at h1;cases h1;simp only[List.getElem_take,zdV,zaD];have e:l.cO+off+i=l.cO+(off+i):=by omega
 simp only[e];exact h2
def Er{n:Nat}{C:ap be}(h:w.heap[b]? =some (.cells C e a8))(hn:o+n<=C.size):
 (loadCells ⟨b,o,none⟩ n).run P w= .ok ((C.toList.drop o).take n).toArray w:=by
 have hl:((C.toList.drop o).take n).length=n:=by simp;omega
 have:=run_loadCells_list (P:=P) w ⟨b,o,none⟩ ((C.toList.drop o).take n) (fun j v hj=>by
  have alg:j<n:=by
   have:=(zae.1 hj).1;omega
  have aq:(Addr.add ⟨b,o,none⟩ j)=⟨b,o+j,none⟩:=by unfold Addr.add;split<;>simp_all
  rw[aq,cell_of h];rw[zaJ,zab alg,zaF]at hj;simpa using hj)
 rwa [hl]at this
theorem OM{P:d9}{b o:Nat}{e:ce}{a8:Nat×Nat}:∀(vs:ac be) (i:Nat) (C:ap be) (w:co),w.heap[b]? =some (.cells C e a8)->o+i+vs.length<=C.size->
 (∀v∈vs,v.oneCell'=true)->(∀j,o+i<=j->j<o+i+vs.length->¬(a8.1<=j∧j<a8.2))->
 ∃w',(storeCells ⟨b,o,none⟩ vs i).run P w= .ok () w'∧
  w'.heap=w.heap.setIfInBounds b (.cells (C.toList.take (o+i)++(vs++C.toList.drop (o+i+vs.length))).toArray e a8)∧rV w w'
 |[],i,C,w,h,hn,_,_=>by
  refine⟨w,rfl,?_,⟨rfl,rfl⟩⟩;have:(C.toList.take (o+i)++([]++C.toList.drop (o+i+([]:ac be).length))).toArray=C:=by simp
  rw[this];apply zdq;intro j;by_cases jz:b=j
  ·subst jz;have:=(zbk.1 h).1;rw[zdW];simp[this];exact(zbk.1 h).2
  ·rw[zbA jz]
 |v::vs,i,C,w,h,hn,h1,aa=>by
  simp only[zau]at hn aa;have aq:(Addr.add ⟨b,o,none⟩ i)=⟨b,o+i,none⟩:=by unfold Addr.add;split<;>simp_all
  have aV:o+i<C.size:=by omega
  have hc:w.cell? ⟨b,o+i,none⟩=some C[o+i]:=by rw[cell_of h,zci aV]
  have p6:w.frozen? ⟨b,o+i,none⟩=false:=by
   rw[agE h];have:=aa (o+i) (by omega) (by omega);simp only[Bool.and_eq_false_iff,decide_eq_false_iff_not];omega
  have ae:(store ⟨b,o+i,none⟩ v).run P w= .ok () (w.setCell ⟨b,o+i,none⟩ v):=by
   rw[run_store P w _ v _ (h1 v (by simp)),hc];simp[p6]
  have hb:=(zbk.1 h).1;have hh:(w.setCell ⟨b,o+i,none⟩ v).heap=w.heap.setIfInBounds b (.cells (C.setIfInBounds (o+i) v) e a8):=by
   simp only[World.setCell];apply zdq;intro j;rw[zdX];by_cases jz:b=j
   ·subst jz;rw[zab rfl,h,zdW];simp[hb]
   ·rw[zaa jz,zbA jz]
  have az:(w.setCell ⟨b,o+i,none⟩ v).heap[b]? =some (.cells (C.setIfInBounds (o+i) v) e a8):=by rw[hh];simp[hb]
  obtain⟨w',hr,ei,gN⟩:=OM (P:=P) (o:=o) vs (i+1) (C.setIfInBounds (o+i) v) (w.setCell ⟨b,o+i,none⟩ v) az (by simp;omega) (fun x J=>h1 x (by simp[J])) (fun j a c=>aa j (by omega) (by omega));refine⟨w',?_,?_,gN⟩
  ·unfold storeCells;rw[aq,Sem.run_bind,ae];exact hr
  ·rw[ei,hh];rw[Array.setIfInBounds_setIfInBounds];congr 3;have nf:(C.setIfInBounds (o+i) v).toList=C.toList.set (o+i) v:=by simp
   rw[nf];have hl:o+i<C.toList.length:=by simpa using aV
   have t1:(C.toList.set (o+i) v).take (o+(i+1))=C.toList.take (o+i)++[v]:=by
    rw[show o+(i+1)=(o+i)+1 by omega,zba (by simpa using aV),zaU (bY _)];simp
   have t2:(C.toList.set (o+i) v).drop (o+(i+1)+vs.length)=C.toList.drop (o+i+(v::vs).length):=by
    rw[zcT (by omega)];congr 1;simp only[zau];omega
   rw[t1,t2];simp
section
variable{ι:bt}{fr aC:aP}{a:Act}{aO:Nat}{st st':aw}{w:co}{o:Oper}{v:be}{call:bL}
variable{t:ce}{d:TypeDesc}{i:f6}{x:bi}
def qL:TypeDesc->Bool
 |.struct _|.array _ _=>true
 |_=>false
def Dn(h:P.underlying t=some d)(w:co):(isAgg t).run P w= .ok (qL d) w:=by
 unfold isAgg;rw[Sem.run_bind,run_underlying h];cases d<;>rfl
def jL(h:P.info? t=some i)(w:co):(sizeOf t).run P w= .ok i.size w:=by
 simp[sizeOf,typeInfo,h]
def aaA(J:cy X.aB x=true)(ai:o.op= .load t x)(al:X.P.underlying t=some d)(pc:qL d=false)
 (aa:cv ι fr a aO) (hw:bn X ι st w) (h:H9 x call fr st= .ok v aC st'):
 aC=fr∧ca X ι w v st st' (execOp a.eval o):=by
 obtain⟨p,hp,h⟩:=pG h (by simp);obtain⟨ad,rfl,h⟩:=ft h (by simp);obtain⟨ae,cs,elem,a8,aX,aJ,hn,h⟩:=Ah h (by simp);obtain⟨v1,nR,h⟩:=AB h (by simp);cases h;obtain⟨l,hl,C,eU,hc⟩:=hw.eE _ _ aJ (by simp);have bJ:=aa.af hw J;rw[hp]at bJ;generalize cp:a.eval x=e7 at bJ;cases bJ with
 |ptr _ l' ck eV=>
  rw[hl]at ck;cases ck;have hlen:ad.off<cs.length:=by simp at hn;omega
  have jX:=hc.row ad.off 1 hn;rw[nR]at jX;obtain⟨y,ao,aA,amj,_⟩:=jX.cons_inv;have qc:=hc.room;have vL:C[l.cO+ad.off]? =some y:=by
   have:=congrArg (fun z=>z[0]?) aA;simpa using this
  refine⟨rfl,ca.same (v':=y) hw ?_ amj⟩;unfold execOp;rw[ai];simp only[cp,Instr.loadAt,Instr.sureAddr,loadVar,Sem.run_bind,Sem.run_pure,Result.andThen,Dn al,pc,zbb,if_false,run_load];rw[cell_of hc.there,vL]
def aaB(J:cy X.aB x=true)(ai:o.op= .load t x)(al:X.P.underlying t=some d)(pc:qL d=true)
 (hi:X.P.info? t=some i) (aa:cv ι fr a aO) (hw:bn X ι st w) (h:Ia i.size x call fr st= .ok v aC st'):
 aC=fr∧ca X ι w v st st' (execOp a.eval o):=by
 obtain⟨p,hp,h⟩:=pG h (by simp);obtain⟨ad,rfl,h⟩:=ft h (by simp);obtain⟨ae,cs,elem,a8,aX,aJ,hn,h⟩:=Ah h (by simp);cases h;obtain⟨l,hl,C,eU,hc⟩:=hw.eE _ _ aJ (by simp);have bJ:=aa.af hw J;rw[hp]at bJ;generalize cp:a.eval x=e7 at bJ;cases bJ with
 |ptr _ l' ck eV=>
  rw[hl]at ck;cases ck;have jX:=hc.row ad.off i.size hn;have qc:=hc.room;simp only[zaE]at hn;by_cases aE:i.size=0
  ·refine⟨rfl,ca.same (v':=.agg #[]) hw ?_ ?_⟩
   ·unfold execOp;rw[ai];simp only[cp,Instr.loadAt,Instr.sureAddr,loadVar,Sem.run_bind,Sem.run_pure,Result.andThen,Dn al,pc,if_true,jL hi,aE];rfl
   ·rw[aE];exact bk.AA (by simpa using bM.nil ι)
  refine⟨rfl,ca.same (v':=.agg ((C.toList.drop (l.cO+ad.off)).take i.size).toArray) hw ?_ (bk.AA (by simpa using jX))⟩;unfold execOp;rw[ai];simp only[cp,Instr.loadAt,Instr.sureAddr,loadVar,Sem.run_bind,Sem.run_pure,Result.andThen,Dn al,pc,if_true,jL hi];rw[Er hc.there (by omega)]
end
variable{ι:bt}{cs:ac be}{elem:ce}{aX:Bool}{l:Loc}{v:be}{st:aw}
def O1{α:Type}(l vs:ac α)(n i:Nat)(h:n+vs.length<=l.length):
 (l.take n++(vs++l.drop (n+vs.length)))[i]? =if i<n then l[i]? else if i<n+vs.length then vs[i-n]? else l[i]? :=by
 by_cases h1:i<n
 ·rw[zab h1,zaV (by simp;omega),zaJ,zab h1]
 ·rw[zaa h1,zaM (by simp;omega)];have e:i-(l.take n).length=i-n:=by simp;omega
  rw[e];by_cases h2:i<n+vs.length
  ·rw[zab h2,zaV (by omega)]
  ·rw[zaa h2,zaM (by omega),zaF];congr 1;omega
def sX.store{w':co}{C:ap be}{eU:Nat×Nat}
 (h:sX P ι w cs elem a8 aX l C eU) {off:Nat} {vs fY:ac be} (hle:off+vs.length<=cs.length) (aF:bM ι vs fY)
 (hw:w'.heap[l.cC]? =some (.cells (C.toList.take (l.cO+off)++(fY++C.toList.drop (l.cO+off+fY.length))).toArray elem eU)):
 sX P ι w' (cs.take off++(vs++cs.drop (off+vs.length))) elem a8 aX l (C.toList.take (l.cO+off)++(fY++C.toList.drop (l.cO+off+fY.length))).toArray eU:=by
 have hlen:=aF.1;have qc:=h.room;have xR:l.cO+cs.length<=C.size:=by
  have:=zcv (l.cO+cs.length) (l.ex*P.cellsOf elem);omega
 have CM:(cs.take off++(vs++cs.drop (off+vs.length))).length=cs.length:=by simp;omega
 have eM:((C.toList.take (l.cO+off)++(fY++C.toList.drop (l.cO+off+fY.length))).toArray).size=C.size:=by simp;omega
 refine⟨hw,by rw[CM,eM];exact qc,fun i hi=> ?_,fun aa j=>by rw[CM];exact h.yU aa j,fun aJ=>by rw[CM,eM];exact h.plain aJ⟩;have ec:i<cs.length:=by omega
 have aq:=O1 cs vs off i hle;have e2:=O1 C.toList fY (l.cO+off) (l.cO+i) (by simp;omega);rw[bF hi]at aq;simp only[zcw];rw[e2];obtain⟨c,h1,h2⟩:=h.cell i ec;by_cases eK:i<off
 ·rw[zab eK,bF ec]at aq;rw[zab (by omega)];refine⟨c,by simpa using h1,?_⟩;rw[Option.some.inj aq];exact h2
 ·by_cases fO:i<off+vs.length
  ·rw[zaa eK,zab fO,bF (by omega)]at aq;rw[zaa (by omega),zab (by omega)];have bV:l.cO+i-(l.cO+off)=i-off:=by omega
   rw[bV,bF (by omega)];refine⟨_,rfl,?_⟩;rw[Option.some.inj aq];exact aF.2 (i-off) (by omega) (by omega)
  ·rw[zaa eK,zaa fO,bF ec]at aq;rw[zaa (by omega),zaa (by omega)];refine⟨c,by simpa using h1,?_⟩;rw[Option.some.inj aq];exact h2
def aoI{c:be}(h:bk ι v c)(aF:mY v=true):c.oneCell'=true:=by
 cases h<;>first|rfl|(simp[mY,ih]at aF)
theorem NJ{ι:bt}:∀{vs cs:ac be},bM ι vs cs->gZ vs=true->∀c∈cs,c.oneCell'=true
 |[],cs,h,_,c,hc=>by rw[h.v5]at hc;simp at hc
 |v::vs,cs,h,ha,c,hc=>by
  obtain⟨y,ao,rfl,h1,h2⟩:=h.cons_inv;have tv:cond (mY v) (gZ vs) false=true:=ha;obtain⟨fN,gY⟩:=iC tv (by simp);rcases zao.1 hc with rfl|hc
  ·exact aoI h1 fN
  ·exact NJ h2 gY c hc
def bn.store(hw:bn X ι st w){id off:Nat}
 (aJ:st.h.get id=some (.cells cs elem a8 aX)) (hl:ι id=some l) (p6:a8.2<=a8.1) {vs fY:ac be} (hle:off+vs.length<=cs.length) (aF:bM ι vs fY) (bI:gZ vs=true):
 ∃w',(storeCells ⟨l.cC,l.cO+off,none⟩ fY).run X.P w= .ok () w'∧bn X ι ⟨st.h.set id (.cells (cs.take off++(vs++cs.drop (off+vs.length))) elem a8 aX),st.ag⟩ w'∧fz ι ι w w':=by
 obtain⟨l',ck,C,eU,hc⟩:=hw.eE _ _ aJ (by simp);rw[hl]at ck;cases ck;have qc:=hc.room;have hlen:=aF.1;have xR:l.cO+cs.length<=C.size:=by
  have:=zcv (l.cO+cs.length) (l.ex*X.P.cellsOf elem);omega
 obtain⟨w',hr,hh,gN⟩:=OM (P:=X.P) (o:=l.cO+off) fY 0 C w hc.there (by omega) (NJ aF bI) (fun j h1 h2=>hc.yU p6 j (by omega) (by
  have:=zcv (l.cO+cs.length) (l.ex*X.P.cellsOf elem);omega))
 simp only[zaQ]at hh;obtain⟨t1,t2⟩:=bn.uH X hw aJ (by simp) (fun aa=>by have:=aa.2;omega) hl (.cells (cs.take off++(vs++cs.drop (off+vs.length))) elem a8 aX) _ w' hh (fun _ aN=>⟨_,eU,hc.store hle aF aN⟩) gN;exact⟨w',hr,t1,t2⟩
def bn.OQ(hw:bn X ι st w){id:Nat}{o:bD}(aJ:st.h.get id=some o):bn X ι ⟨st.h.set id o,st.ag⟩ w:=by
 have e:∀j,(st.h.set id o).get j=st.h.get j:=by
  intro j;rw[an.ep];split
  ·subst_vars;exact aJ.symm
  ·rfl
 exact⟨fun j p hp al=>hw.eE j p (by rw[<-e];exact hp) al,fun i j p q l m hi h1 hj h2=>hw.inj i j p q l m (by rw[<-e];exact hi) h1 (by rw[<-e];exact hj) h2,
  fun j hj=>⟨(hw.fresh j hj).1,by rw[e];exact(hw.fresh j hj).2⟩,hw.gQ,hw.mm,hw.p1,fun j l p hl ae hp al=>hw.mK j l p hl ae (by rw[<-e];exact hp) al⟩
def adL(h:gZ v.cells.toList=true):v≠ih:=by
 intro e;subst e;simp[ih,Value.cells]at h;have az:cond (mY (.chan (some 0))) true false=true:=h;simp[mY]at az
section
variable{ι:bt}{fr aC:aP}{a:Act}{aO:Nat}{st st':aw}{w:co}{o:Oper}{v:be}{call:bL}
variable{t:ce}{i:f6}{x:bi}{z:be}
def asd{y:bi}(J:cy X.aB x=true)(aA:cy X.aB y=true)(ai:o.op= .store t x y)(hi:X.P.info? t=some i)
 (aa:cv ι fr a aO) (hw:bn X ι st w) (h:YB i.size x y call fr st= .ok v aC st'):
 aC=fr∧jS X ι w v st' (execOp a.eval o):=by
 obtain⟨p,hp,h⟩:=pG h (by simp);obtain⟨ad,rfl,h⟩:=ft h (by simp);obtain⟨hn,h⟩:=lh h (by simp);obtain⟨bI,h⟩:=iC h (by simp);obtain⟨ae,cs,elem,a8,aX,aJ,p6,h⟩:=aaU h (by simp);rw[fs]at hn;obtain⟨l,hl,hm⟩:=hw.eE _ _ aJ (by simp);have bJ:=aa.af hw J;rw[hp]at bJ;generalize cp:a.eval x=e7 at bJ;cases bJ with
 |ptr _ l' ck eV=>
  rw[hl]at ck;cases ck;have fV:=aa.af hw aA;have MH:=bM.cells fV (adL bI);have eM:(a.eval y).cells.size=i.size:=by have:=MH.1;simp[iB]at this hn;omega
  have fU:∀w',(storeCells ⟨l.cC,l.cO+ad.off,none⟩ (a.eval y).cells.toList).run X.P w= .ok () w'->(execOp a.eval o).run X.P w= .ok .skip w':=by
   intro w' hr;unfold execOp;rw[ai];simp only[cp,Instr.storeAt,Instr.sureAddr,storeVar,Sem.run_bind,Sem.run_pure,Result.andThen,jL hi];rw[zaa (by simp[eM])];simp[hr]
  rcases h with⟨hle,h⟩|⟨he,h⟩
  ·cases h;obtain⟨w',hr,h1,h2⟩:=hw.store aJ hl p6 hle MH bI;exact⟨rfl,ι,.skip,w',fU w' hr,.inr ⟨rfl,rfl⟩,h1,h2⟩
  ·cases h;have:(a.eval y).cells.toList=[]:=by
    have:=MH.1;rw[show(fr.af y).cells.toList=[]from he]at this;exact zbB this.symm
   refine⟨rfl,ι,.skip,w,fU w ?_,.inr ⟨rfl,rfl⟩,hw.OQ aJ,.refl ι w⟩;rw[this];rfl
def bn.HV{cs':ac be}(hw:bn X ι st w)(elem:ce)(aF:bM ι cs cs')(w':co)(hh:w'.heap=w.heap.push (.cells cs'.toArray elem))(gN:rV w w':=by exact⟨rfl,rfl⟩):
 ∃aQ,bn X aQ ⟨st.h.set st.ag (.cells cs elem (0,0) false),st.ag+1⟩ w'∧fz ι aQ w w'∧aQ st.ag=some ⟨w.heap.size,0,0,id⟩∧aQ=hU ι st.ag ⟨w.heap.size,0,0,id⟩:=by
 refine bn.alloc X hw _ _ 0 (fun aQ jv hle _ aN=> ?_) w' hh gN;refine⟨cs'.toArray,(0,0),⟨aN,by simp[aF.1],fun i hi=> ?_,fun _ j _ _=>by simp,fun _=>⟨rfl,rfl,by simp[aF.1]⟩⟩⟩;have ec:i<cs'.length:=by rw[<-aF.1];exact hi
 exact⟨cs'[i],by simp[ec],(aF.2 i hi ec).mono hle⟩
def uO(h:P.info? t=some i)(aE:i.zero=some z)(w:co):(zeroValue t).run P w= .ok z w:=by
 simp[zeroValue,typeInfo,h,aE]
def ark(ai:o.op= .alloc t)(hi:X.P.info? t=some i)(aE:i.zero=some z)(hp:mT z.cells.toList=true)
 (hw:bn X ι st w) (h:yo z.cells.toList t call fr st= .ok v aC st'):
 aC=fr∧s4 X ι w v st st' (execOp a.eval o):=by
 unfold yo at h;rw[gz]at h;cases h;obtain⟨aQ,h1,h2,h3,nS⟩:=hw.HV t (bM.yu ι _ hp) {w with heap:=w.heap.push (.cells z.cells t)} (by simp);rw[nS]at h1 h2 h3;refine⟨rfl,_,_,_,.pointer (some ⟨w.heap.size,0,none⟩),_,rfl,by simp,?_,rfl,?_,h1,h2⟩
 ·unfold execOp;rw[ai];simp[Instr.alloc,uO hi aE,newVar,newRow,Result.andThen]
 ·have:=bk.ptr (ι:=hU ι st.ag ⟨w.heap.size,0,0,id⟩) ⟨st.ag,0,none⟩ ⟨w.heap.size,0,0,id⟩ h3 rfl;simpa using this
def aro(J:cy X.aB x=true)(ai:o.op= .box t x)(aa:cv ι fr a aO)(hw:bn X ι st w)(h:AE t x call fr st= .ok v aC st'):
 aC=fr∧s4 X ι w v st st' (execOp a.eval o):=by
 obtain⟨hp,h⟩:=Av h (by simp);rw[gz]at h;cases h;have cl:fr.af x≠ih:=by intro e;rw[e]at hp;simp[tT,ih]at hp
 obtain⟨aQ,h1,h2,h3,nS⟩:=hw.HV t (bM.cells (aa.af hw J) cl) {w with heap:=w.heap.push (.cells (a.eval x).cells t)} (by simp);rw[nS]at h1 h2 h3;refine⟨rfl,_,_,_,.pointer (some ⟨w.heap.size,0,none⟩),_,rfl,by simp,?_,rfl,?_,h1,h2⟩
 ·unfold execOp;rw[ai];simp[Instr.box,newVar,newRow,Result.andThen]
 ·have:=bk.ptr (ι:=hU ι st.ag ⟨w.heap.size,0,0,id⟩) ⟨st.ag,0,none⟩ ⟨w.heap.size,0,0,id⟩ h3 rfl;simpa using this
end
def af3{op:BinOp}{x y:be}{c:be->aS}{r:aS}(h:Cg op x y c=r)(hr:aS.no≠r):
 (∃k a k' b,x= .int k a∧y= .int k' b∧zH op k a k' b c=r)∨(∃s t,x= .string s∧y= .string t∧BI op s t c=r):=by
 cases x with
 |int k a=>
  cases y with
  |int k' b=>exact .inl ⟨k,a,k',b,rfl,rfl,h⟩
  |_=>exact absurd h hr
 |string s=>
  cases y with
  |string t=>exact .inr ⟨s,t,rfl,rfl,h⟩
  |_=>exact absurd h hr
 |_=>exact absurd h hr
def sn{a b:d7}(h:jE a b=true):a=b:=by
 cases a<;>cases b<;>first|rfl|(exact absurd h (by decide))
def ado(k:d7)(m n:Nat):(BitVec.ofInt k.bits (m:Int)&&&BitVec.ofInt k.bits (n:Int)).toNat=Nat.land (m%2^k.bits) (n%2^k.bits):=by
 rw[zbC,zbC,BitVec.toNat_and];simp
def adp(k:d7)(m n:Nat):(BitVec.ofInt k.bits (m:Int)|||BitVec.ofInt k.bits (n:Int)).toNat=Nat.lor (m%2^k.bits) (n%2^k.bits):=by
 rw[zbC,zbC,BitVec.toNat_or];simp
def adq(k:d7)(m n:Nat):(BitVec.ofInt k.bits (m:Int)^^^BitVec.ofInt k.bits (n:Int)).toNat=Nat.xor (m%2^k.bits) (n%2^k.bits):=by
 rw[zbC,zbC,BitVec.toNat_xor];simp
def Kt(f:Nat->Nat->Nat)(g:Int)(k:d7)(a b:Int)(c:be->aS)(aJ:∀m n:Nat,a=m->b=n->g=k.wrap (f (m%2^k.bits) (n%2^k.bits):Nat)):
 BJ f g k a b c=c (.int k g):=by
 unfold BJ;cases a with
 |ofNat m=>
  cases b with
  |ofNat n=>
   show hY k (oh k (.ofNat (f (Nat.mod m (2^k.bits)) (Nat.mod n (2^k.bits))))) c=_;rw[ib,kt,aJ m n rfl rfl];rfl
  |negSucc n=>exact ib _ _ _
 |negSucc m=>exact ib _ _ _
def rk(op:BinOp)(k:d7)(a b:Int):am be:=
 match op with
 |.add=>some (.int k (k.wrap (a+b)))
 |.sub=>some (.int k (k.wrap (a-b)))
 |.mul=>some (.int k (k.wrap (a*b)))
 |.quo=>if b=0 then none else some (.int k (k.wrap (a.tdiv b)))
 |.rem=>if b=0 then none else some (.int k (a.tmod b))
 |.and=>some (.int k (k.wrap (BitVec.ofInt k.bits a&&&BitVec.ofInt k.bits b).toNat))
 |.or=>some (.int k (k.wrap (BitVec.ofInt k.bits a|||BitVec.ofInt k.bits b).toNat))
 |.xor=>some (.int k (k.wrap (BitVec.ofInt k.bits a^^^BitVec.ofInt k.bits b).toNat))
 |.andNot=>some (.int k (k.wrap (BitVec.ofInt k.bits a&&& ~~~(BitVec.ofInt k.bits b)).toNat))
 |.eql=>some (.bool (a==b))
 |.neq=>some (.bool (a != b))
 |.lss=>some (.bool (decide (a<b)))
 |.leq=>some (.bool (decide (a<=b)))
 |.gtr=>some (.bool (decide (b<a)))
 |.geq=>some (.bool (decide (b<=a)))
 |_=>none
def Ks(op:BinOp)(k:d7)(a b:Int)(c:be->aS):zh op k a b c=match rk op k a b with|some v=>c v|none=>.no:=by
 cases op<;>simp only[zh,Qq,QD,Qy,QB,QC,Qr,QA,QE,Qs,Qt,Qz,Qx,Qw,Qv,Qu,Kr,rk]
 ·rw[ib,kt,PT]
 ·rw[ib,kt,PT,Nu];rfl
 ·rw[ib,kt,Nr]
 ·rw[Cf];by_cases h:b=0
  ·subst h;rfl
  ·rw[zaa h,show(b==0)=false by simpa using h];cases a with
   |ofNat m=>
    cases b with
    |ofNat n=>
     show hY k (oh k (.ofNat (m/n))) c=c (.int k (k.wrap ((m:Int).tdiv (n:Int))));rw[ib,kt];rfl
    |negSucc n=>exact ib _ _ _
   |negSucc m=>exact ib _ _ _
 ·rw[Cf];by_cases h:b=0
  ·subst h;rfl
  ·rw[zaa h,show(b==0)=false by simpa using h];cases a with
   |ofNat m=>
    cases b with
    |ofNat n=>exact ib k (Int.ofNat (m%n)) c
    |negSucc n=>exact ib k ((Int.ofNat m).tmod (Int.negSucc n)) c
   |negSucc m=>exact ib k ((Int.negSucc m).tmod b) c
 ·exact Kt _ _ _ _ _ _ (fun m n ha hb=>by subst ha hb;rw[ado])
 ·exact Kt _ _ _ _ _ _ (fun m n ha hb=>by subst ha hb;rw[adp])
 ·exact Kt _ _ _ _ _ _ (fun m n ha hb=>by subst ha hb;rw[adq])
 ·exact ib _ _ _
 ·rw[Cf]
 ·rw[Cf];rfl
 ·rw[sq];congr 2;rw[zaZ];simp
 ·rw[sq]
 ·rw[sq];congr 2;rw[zaZ];simp
 ·rw[sq]
def aq8(k:d7)(a:Int)(n:Nat):yI k a n=k.wrap (a*2^(min n k.bits)):=by
 unfold yI;rw[kt,Nr];congr 2
def arf(k:d7)(a:Int)(n:Nat):uD k a n=a.fdiv (2^(min n k.bits)):=by
 unfold uD;cases a with
 |ofNat m=>
  show((m/2^(min n k.bits):Nat):Int)=Int.fdiv (m:Int) _;rw[Int.fdiv_eq_ediv_of_nonneg _ (Int.pow_nonneg (by decide))]
  push_cast;rfl
 |negSucc m=>rfl
section
variable{ι:bt}{fr aC:aP}{a:Act}{aO:Nat}{st st':aw}{w:co}{o:Oper}{v:be}{call:bL}
variable{op:BinOp}
def uj{v':be}(h:aS.ok v fr st=aS.ok v' aC st'):v=v'∧fr=aC∧st=st':=by cases h;exact⟨rfl,rfl,rfl⟩
def afO(P:d9)(w:co)(op:BinOp)(t:ce)(x y:bi)(k k':d7)(m n:Int):(eqGuard op t x y (.int k m) (.int k' n)).run P w= .ok () w:=by
 cases op<;>simp[eqGuard]
def FY(P:d9)(w:co)(op:BinOp)(t:ce)(x y:bi)(s u:f5):(eqGuard op t x y (.string s) (.string u)).run P w= .ok () w:=by
 cases op<;>simp[eqGuard]
def aqJ(P:d9)(w:co)(op:BinOp)(t:ce)(k:d7)(m n:Int)(ae:op≠.shl)(eV:op≠.shr)(h:rk op k m n=some v):(binOp op t (.int k m) (.int k n)).run P w= .ok v w:=by
 cases op<;>simp only[rk]at h<;>first
  |(exact absurd rfl ae)|(exact absurd rfl eV)
  |(cases h;simp[binOp,Op.intArith,Op.intBits,Op.intCmp];done)
  |(split at h
    ·cases h
    ·cases h;rename_i hb;simp[binOp,Op.intDiv,hb])
  |(simp at h)
def toList_eq(x y:f5):(x.toList==y.toList)=(x.data.toList==y.data.toList):=by
 rw[Lib.toList_data,Lib.toList_data]
def af6{k k':d7}{m n:Int}{c:be->aS}{r:aS}(h:zH op k m k' n c=r)(hr:aS.no≠r):
 ∃v,c v=r∧∀(P:d9) (w:co) (t:ce),(binOp op t (.int k m) (.int k' n)).run P w= .ok v w:=by
 by_cases h1:op= .shl
 ·subst h1;obtain⟨b,hb,h⟩:=l2 h hr;rw[ib,aq8]at h;exact⟨_,h,fun P w t=>by subst hb;simp[binOp,Op.shift,show¬((b:Int)<0) by omega]⟩
 ·by_cases h2:op= .shr
  ·subst h2;obtain⟨b,hb,h⟩:=l2 h hr;rw[ib,arf]at h;exact⟨_,h,fun P w t=>by subst hb;simp[binOp,Op.shift,show¬((b:Int)<0) by omega]⟩
  ·have az:cond (jE k k') (zh op k m n c) .no=r:=by
    rw[<-h];cases op<;>first|rfl|(exact absurd rfl h1)|(exact absurd rfl h2)
   obtain⟨U,h3⟩:=iC az hr;have:=sn U;subst this;rw[Ks]at h3;cases hi:rk op k m n with
   |none=>rw[hi]at h3;exact absurd h3 hr
   |some v=>rw[hi]at h3;exact⟨v,h3,fun P w t=>aqJ P w op t k m n h1 h2 hi⟩
def arn{t yX:ce}{x y:bi}(J:cy X.aB x=true)(aA:cy X.aB y=true)(ai:o.op= .binOp op t x y yX)(aa:cv ι fr a aO)(hw:bn X ι st w)
 (h:NO op x y call fr st= .ok v aC st'):aC=fr∧ca X ι w v st st' (execOp a.eval o):=by
 have bJ:=aa.af hw J;have vK:=aa.af hw aA;unfold NO at h;rcases af3 h (by simp)with⟨k,m,k',n,ex,tn,h⟩|⟨s,u,ex,tn,h⟩
 ·rw[ex]at bJ;rw[tn]at vK;generalize cp:a.eval x=e7 at bJ;generalize fV:a.eval y=qG at vK;cases bJ;cases vK;obtain⟨v1,nR,fU⟩:=af6 h (by simp);obtain⟨aq,e2,bV⟩:=uj nR;subst aq e2 bV;refine⟨rfl,ca.same (v':=v1) hw ?_ ?_⟩
  ·unfold execOp;rw[ai];simp[cp,fV,afO,fU,Result.andThen]
  ·have:j8 v1=true:=by
    clear fU nR aa hw J aA ex tn cp fV ai;rw[show zH op k m k' n (fun v=>aS.ok v fr st)=(match op with
     |.shl=>g9 n (fun b=>hY k (yI k m b) (fun v=>aS.ok v fr st)) .no
     |.shr=>g9 n (fun b=>hY k (uD k m b) (fun v=>aS.ok v fr st)) .no
     |op=>cond (jE k k') (zh op k m n (fun v=>aS.ok v fr st)) .no) by cases op<;>rfl]at h
    split at h
    ·obtain⟨b,_,h⟩:=l2 h (by simp);rw[ib]at h;cases h;rfl
    ·obtain⟨b,_,h⟩:=l2 h (by simp);rw[ib]at h;cases h;rfl
    ·obtain⟨_,h⟩:=iC h (by simp);rw[Ks]at h;split at h
     ·rename_i v2 k3;cases h;unfold rk at k3;split at k3<;>first|(cases k3;rfl)|(split at k3<;>first|(cases k3;done)|(cases k3;rfl))|(cases k3)
     ·cases h
   exact bk.pure ι v1 this
 ·rw[ex]at bJ;rw[tn]at vK;generalize cp:a.eval x=e7 at bJ;generalize fV:a.eval y=qG at vK;cases bJ;cases vK;unfold BI at h;split at h
  ·obtain⟨hle,h⟩:=iL h (by simp);cases h;simp only[fs]at hle;refine⟨rfl,ca.same (v':=.string (s++u)) hw ?_ ?_⟩
   ·unfold execOp;rw[ai];have eM:¬(((s.size+u.size:Nat):Int)>IntKind.i64.max):=by
     have h1:s.size=s.data.toList.length:=(zbl (xs:=s.data)).symm;have h2:u.size=u.data.toList.length:=(zbl (xs:=u.data)).symm;have h3:IntKind.i64.max=9223372036854775807:=by decide
     have au:s.data.toList.length+u.data.toList.length<=1099511627776:=hle;rw[h3,h1,h2];omega
    simp only[cp,fV,Sem.run_bind,FY,Result.andThen,binOp,Op.stringOp];rw[zaa eM];rfl
   ·have:(⟨⟨gG s.data.toList u.data.toList⟩⟩:f5)=s++u:=by
     rw[qM];apply ByteArray.ext;simp[ByteArray.data_append]
    rw[this];exact .string _
  ·cases h;refine⟨rfl,ca.same (v':=.bool (s.data.toList==u.data.toList)) hw ?_ (.bool _)⟩;unfold execOp;rw[ai];simp only[cp,fV,Sem.run_bind,FY,Result.andThen,binOp,Op.stringOp,toList_eq];rfl
  ·cases h;refine⟨rfl,ca.same (v':=.bool (!(s.data.toList==u.data.toList))) hw ?_ (.bool _)⟩;unfold execOp;rw[ai];simp only[cp,fV,Sem.run_bind,FY,Result.andThen,binOp,Op.stringOp,toList_eq];rfl
  ·cases h
end
def add_eq(b o n:Nat):Addr.add ⟨b,o,none⟩ n=⟨b,o+n,none⟩:=by unfold Addr.add;split<;>simp_all
def Bz(a:Addr)(n:Nat):(a.add n).block=a.block:=by unfold Addr.add;split<;>rfl
def BA(a:Addr)(n:Nat)(h:a.spot=none):(a.add n).spot=none:=by unfold Addr.add;split<;>simp_all
def Fc(a:Addr)(n:Nat):(a.add n).off=a.off+n:=by unfold Addr.add;split<;>simp_all
def bk.Ob{a:Addr}(h:ι a.block=some l)(ae:a.spot=none)(n:Nat):bk ι (.pointer (some (a.add n))) (.pointer (some (Addr.add ⟨l.cC,l.cO+a.off,none⟩ n))):=by
 have:=bk.ptr (ι:=ι) (a.add n) l (by rw[Bz];exact h) (BA a n ae);rw[Fc]at this;rw[add_eq,show l.cO+a.off+n=l.cO+(a.off+n) by omega];exact this
section
variable{ι:bt}{fr aC:aP}{a:Act}{aO:Nat}{st st':aw}{w:co}{o:Oper}{v:be}{call:bL}
variable{x:bi}{t s:ce}{n:Nat}{i:bi}{cn:f6}{Et:TypeDesc}{d:ce}
def arI{f:Nat}{fields:ap Field}{fd:Field}{i:f6}(J:cy X.aB x=true)(ai:o.op= .fieldAddr s x f)(hu:X.P.underlying s=some (.struct fields))(tE:fields[f]? =some fd)
 (hi:X.P.info? fd.type=some i) (aE:i.size≠0) (aa:cv ι fr a aO) (hw:bn X ι st w) (h:Yk fd.offset x call fr st= .ok v aC st'):
 aC=fr∧ca X ι w v st st' (execOp a.eval o):=by
 obtain⟨p,hp,h⟩:=pG h (by simp);obtain⟨ad,rfl,h⟩:=ft h (by simp);cases h;have bJ:=aa.af hw J;rw[hp]at bJ;generalize cp:a.eval x=e7 at bJ;cases bJ with
 |ptr _ l hl ae=>
  refine⟨rfl,ca.same (v':=.pointer (some (Addr.add ⟨l.cC,l.cO+ad.off,none⟩ fd.offset))) hw ?_ (bk.Ob hl ae _)⟩;unfold execOp;rw[ai];simp[cp,Instr.fieldAt,run_underlying hu,tE,Instr.sureAddr,fieldPlace,jL hi,aE,Result.andThen]
def arK(J:cy X.aB x=true)(ec:cy X.aB i=true)(ai:o.op= .indexAddr t x i)(hu:X.P.underlying t=some (.array n e))(hi:X.P.info? e=some cn)
 (aa:cv ι fr a aO) (hw:bn X ι st w) (h:wc n cn.size x i call fr st= .ok v aC st'):
 aC=fr∧ca X ι w v st st' (execOp a.eval o):=by
 obtain⟨p,hp,h⟩:=pG h (by simp);obtain⟨ad,rfl,h⟩:=ft h (by simp);obtain⟨k,m,hm,h⟩:=ji h (by simp);obtain⟨j,rfl,h⟩:=l2 h (by simp);obtain⟨hj,h⟩:=iL h (by simp);cases h;have bJ:=aa.af hw J;rw[hp]at bJ;generalize cp:a.eval x=e7 at bJ;have jq:=aa.af hw ec;rw[hm]at jq;generalize xE:a.eval i=lX at jq;cases jq;cases bJ with
 |ptr _ l hl ae=>
  refine⟨rfl,ca.same (v':=.pointer (some (Addr.add ⟨l.cC,l.cO+ad.off,none⟩ (j*cn.size)))) hw ?_ (bk.Ob hl ae _)⟩;unfold execOp;rw[ai];have lS:j<n:=by omega
  simp[cp,xE,Instr.indexAt,asIntOf,run_underlying hu,Instr.sureAddr,jL hi,Result.andThen,lS]
def arL(J:cy X.aB x=true)(ec:cy X.aB i=true)(ai:o.op= .indexAddr t x i)(hu:X.P.underlying t=some (.slice e))(hi:X.P.info? e=some cn)
 (aa:cv ι fr a aO) (hw:bn X ι st w) (h:Ym cn.size x i call fr st= .ok v aC st'):
 aC=fr∧ca X ι w v st st' (execOp a.eval o):=by
 obtain⟨b,len,cap,hp,h⟩:=uJ h (by simp);obtain⟨ad,rfl,h⟩:=ft h (by simp);obtain⟨k,m,hm,h⟩:=ji h (by simp);obtain⟨j,rfl,h⟩:=l2 h (by simp);obtain⟨hj,h⟩:=iL h (by simp);cases h;have bJ:=aa.af hw J;rw[hp]at bJ;generalize cp:a.eval x=e7 at bJ;have jq:=aa.af hw ec;rw[hm]at jq;generalize xE:a.eval i=lX at jq;cases jq;cases bJ with
 |gD _ l off _ _ hl ae jc=>
  have tJ:off=l.cO+ad.off:=by rcases jc with h|⟨h,_⟩<;>omega
  subst tJ;refine⟨rfl,ca.same (v':=.pointer (some (Addr.add ⟨l.cC,l.cO+ad.off,none⟩ (j*cn.size)))) hw ?_ (bk.Ob hl ae _)⟩;unfold execOp;rw[ai];have lS:j<len:=by omega
  simp[cp,xE,Instr.indexAt,asIntOf,run_underlying hu,jL hi,Result.andThen,lS]
def arw{k:d7}(J:cy X.aB x=true)(ai:o.op= .convert s t x)(ae:X.P.underlying s=some Et)(aN:X.P.underlying t=some (.int k))
 (aa:cv ι fr a aO) (hw:bn X ι st w) (h:Yg k x call fr st= .ok v aC st'):
 aC=fr∧ca X ι w v st st' (execOp a.eval o):=by
 obtain⟨k',n,hp,h⟩:=ji h (by simp);rw[ib,kt]at h;cases h;have bJ:=aa.af hw J;rw[hp]at bJ;generalize cp:a.eval x=e7 at bJ;cases bJ;refine⟨rfl,ca.same (v':=.int k (k.wrap n)) hw ?_ (.int _ _)⟩;unfold execOp;rw[ai];simp[cp,convert,run_underlying ae,run_underlying aN,Result.andThen,Conv.intToInt]
def arv(J:cy X.aB x=true)(ai:o.op= .convert s t x)(ae:X.P.underlying s=some Et)(aN:X.P.underlying t=some .string)
 (aa:cv ι fr a aO) (hw:bn X ι st w) (h:Yf x call fr st= .ok v aC st'):
 aC=fr∧ca X ι w v st st' (execOp a.eval o):=by
 obtain⟨bm,hp,h⟩:=oN h (by simp);cases h;have bJ:=aa.af hw J;rw[hp]at bJ;generalize cp:a.eval x=e7 at bJ;cases bJ;refine⟨rfl,ca.same (v':=.string bm) hw ?_ (.string _)⟩;unfold execOp;rw[ai];simp[cp,convert,run_underlying ae,run_underlying aN,Result.andThen]
def arW{d:TypeDesc}(J:cy X.aB x=true)(ai:o.op= .makeInterface t x)(aN:X.P.underlying t=some d)(al:∀ms,d≠.interface ms)
 (aa:cv ι fr a aO) (hw:bn X ι st w) (h:Ys t x call fr st= .ok v aC st'):
 aC=fr∧ca X ι w v st st' (execOp a.eval o):=by
 cases h;refine⟨rfl,ca.same (v':=.iface t (a.eval x)) hw ?_ (.iface _ _ _ (aa.af hw J))⟩;unfold execOp;rw[ai];simp only[Instr.makeInterface,Sem.run_bind,run_underlying aN,Result.andThen];cases d<;>first|rfl|(exact absurd rfl (al _))
theorem vg(aa:cv ι fr a aO)(hw:bn X ι st w):∀xs:ac bi,(∀x∈xs,cy X.aB x=true)->bM ι (eC fr xs) (xs.map a.eval)
 |[],_=>bM.nil ι
 |x::xs,h=>bM.cons (aa.af hw (h x (by simp))) (vg aa hw xs (fun y aA=>h y (by simp[aA])))
def aaC{f:Fn}(q2:∀l,f≠.yield l){first fm:ap bi}(h1:∀x∈first.toList,cy X.aB x=true)(h2:∀x∈fm.toList,cy X.aB x=true)(ai:o.op= .makeFunc f first fm)
 (aa:cv ι fr a aO) (hw:bn X ι st w) (h:Yr f first.toList fm.toList call fr st= .ok v aC st'):
 aC=fr∧ca X ι w v st st' (execOp a.eval o):=by
 cases h;refine⟨rfl,ca.same (v':=.func f (first.map a.eval) (fm.map a.eval)) hw ?_ (bk.H2 (.inl ⟨rfl,q2⟩) ?_ ?_)⟩
 ·unfold execOp;rw[ai];simp[Instr.makeFunc]
 ·simpa using vg aa hw first.toList h1
 ·simpa using vg aa hw fm.toList h2
def arH{i:Nat}(J:cy X.aB x=true)(ai:o.op= .extract x i)(aa:cv ι fr a aO)(hw:bn X ι st w)(h:Yj x i call fr st= .ok v aC st'):
 aC=fr∧ca X ι w v st st' (execOp a.eval o):=by
 obtain⟨vs,hp,h⟩:=abJ h (by simp);obtain⟨hn,h⟩:=va h (by simp);obtain⟨y,aA,h⟩:=AB h (by simp);cases h;have bJ:=aa.af hw J;rw[hp]at bJ;generalize cp:a.eval x=e7 at bJ;cases bJ with
 |tuple _ ao h1 h2=>
  have hlen:i<vs.size:=by simp at hn;omega
  have hi:vs[i]=v:=by
   have:=congrArg (fun l=>l[0]?) aA;simpa[hlen]using this
  refine⟨rfl,ca.same (v':=ao[i]'(by omega)) hw ?_ ?_⟩
  ·unfold execOp;rw[ai];simp[cp,Instr.extract,show i<ao.size by omega]
  ·rw[<-hi];exact h2 i hlen (by omega)
def arQ(ai:o.op= .call {callee:=.builtin .len,args:= #[x],argTypes:= #[t]})(hu:X.P.underlying t=some (.array n d))(hw:bn X ι st w)
 (h:NQ n call fr st= .ok v aC st'):aC=fr∧ca X ι w v st st' (execOp a.eval o):=by
 cases h;refine⟨rfl,ca.same (v':=.int .i64 (.ofNat n)) hw ?_ (.int _ _)⟩;unfold execOp;rw[ai];simp[resolve,invoke,builtin,Builtin.len_,run_underlying hu,Result.andThen,goInt]
def arR{u:ce}(ai:o.op= .call {callee:=.builtin .len,args:= #[x],argTypes:= #[t]})(hu:X.P.underlying t=some (.pointer u))(C7:X.P.underlying u=some (.array n d))(hw:bn X ι st w)
 (h:NQ n call fr st= .ok v aC st'):aC=fr∧ca X ι w v st st' (execOp a.eval o):=by
 cases h;refine⟨rfl,ca.same (v':=.int .i64 (.ofNat n)) hw ?_ (.int _ _)⟩;unfold execOp;rw[ai];simp[resolve,invoke,builtin,Builtin.len_,run_underlying hu,run_underlying C7,Result.andThen,goInt]
def anF(h:H8 x call fr st= .ok v aC st'):(∃b n c,fr.af x= .slice b n c∧aS.ok (.int .i64 (.ofNat n)) fr st= .ok v aC st')∨(fr.af x= .chan none∧aS.ok (.int .i64 (.ofNat 0)) fr st= .ok v aC st'):=by
 unfold H8 at h;cases aF:fr.af x with
 |slice b n c=>rw[aF]at h;exact .inl ⟨b,n,c,rfl,h⟩
 |chan p=>
  rw[aF]at h;cases p with
  |none=>exact .inr ⟨rfl,h⟩
  |some _=>cases h
 |_=>rw[aF]at h;cases h
def arS(J:cy X.aB x=true)(ai:o.op= .call {callee:=.builtin .len,args:= #[x],argTypes:= #[t]})(hu:X.P.underlying t=some (.slice e))
 (aa:cv ι fr a aO) (hw:bn X ι st w) (h:H8 x call fr st= .ok v aC st'):aC=fr∧ca X ι w v st st' (execOp a.eval o):=by
 rcases anF h with⟨b,n,c,hp,h⟩|⟨hp,h⟩
 ·cases h;have bJ:=aa.af hw J;rw[hp]at bJ;generalize cp:a.eval x=e7 at bJ;refine⟨rfl,ca.same (v':=.int .i64 (.ofNat n)) hw ?_ (.int _ _)⟩;unfold execOp;rw[ai];cases bJ<;>simp[cp,resolve,invoke,builtin,Builtin.len_,run_underlying hu,Result.andThen,goInt]
 ·cases h;have bJ:=aa.af hw J;rw[hp]at bJ;generalize cp:a.eval x=e7 at bJ;refine⟨rfl,ca.same (v':=.int .i64 (.ofNat 0)) hw ?_ (.int _ _)⟩;unfold execOp;rw[ai];cases bJ<;>simp[cp,resolve,invoke,builtin,Builtin.len_,run_underlying hu,Result.andThen,goInt]
def arT(J:cy X.aB x=true)(ai:o.op= .call {callee:=.builtin .len,args:= #[x],argTypes:= #[t]})(hu:X.P.underlying t=some .string)
 (aa:cv ι fr a aO) (hw:bn X ι st w) (h:Yq x call fr st= .ok v aC st'):aC=fr∧ca X ι w v st st' (execOp a.eval o):=by
 obtain⟨s,hp,h⟩:=oN h (by simp);rw[zM,fs]at h;cases h;have bJ:=aa.af hw J;rw[hp]at bJ;generalize cp:a.eval x=e7 at bJ;cases bJ;have e:Int.ofNat s.data.toList.length=(s.size:Int):=by rw[zbl];rfl
 rw[e];refine⟨rfl,ca.same (v':=.int .i64 s.size) hw ?_ (.int _ _)⟩;unfold execOp;rw[ai];simp[cp,resolve,invoke,builtin,Builtin.len_,run_underlying hu,Result.andThen,goInt]
end
def YL{t:ce}{d:TypeDesc}{i:f6}{off:Nat}{cs cs':ap be}(al:P.underlying t=some d)(hi:P.info? t=some i)
 (hr:bM ι cs.toList cs'.toList) (h:uk off i.size (qL d) cs.toList=some v) (w:co):∃v',(part t cs' off).run P w= .ok v' w∧bk ι v v':=by
 unfold uk at h;obtain⟨hn,h⟩:=va h (by simp);have nc:=(hr.drop off).take i.size;cases aJ:qL d with
 |true=>
  rw[aJ]at h;cases h;refine⟨.agg (cs'.extract off (off+i.size)),?_,bk.AA ?_⟩
  ·simp only[part,Sem.run_bind,Dn al,aJ,Result.andThen,if_true,jL hi,Sem.run_pure]
  ·have e:(cs'.extract off (off+i.size)).toList=(cs'.toList.drop off).take i.size:=by
    rw[zcU,zdr];congr 1;omega
   rw[e];simpa using nc
 |false=>
  rw[aJ]at h;obtain⟨y,aA,h⟩:=AB h (by simp);cases h;rw[aA]at nc;obtain⟨z,gq,aE,aF,rf⟩:=nc.cons_inv;have e:cs'[off]? =some z:=by
   have:=congrArg (fun l=>l[0]?) aE;simp only[zaJ,zaF,zcx,zaQ]at this;split at this
   ·simpa using this
   ·cases this
  refine⟨z,?_,aF⟩;simp only[part,Sem.run_bind,Dn al,aJ,Result.andThen,zbb,if_false,e,Sem.run_pure]
theorem aaM(off:Nat):∀(vs:ac be) (k:Nat) (C:ap be),off+k+vs.length<=C.size->
 (vs.zipIdx k).foldl (fun cs (p:be×Nat)=>cs.setIfInBounds (off+p.2) p.1) C=(C.toList.take (off+k)++(vs++C.toList.drop (off+k+vs.length))).toArray
 |[],k,C,_=>by simp
 |v::vs,k,C,h=>by
  simp only[zau]at h;have hl:off+k<C.toList.length:=by simp;omega
  rw[List.zipIdx_cons,zds,aaM off vs (k+1) _ (by simp;omega)];have nf:(C.setIfInBounds (off+k) v).toList=C.toList.set (off+k) v:=by simp
  rw[nf];have t1:(C.toList.set (off+k) v).take (off+(k+1))=C.toList.take (off+k)++[v]:=by
   rw[show off+(k+1)=(off+k)+1 by omega,zba (by simpa using hl),zaU (bY _)];simp
  have t2:(C.toList.set (off+k) v).drop (off+(k+1)+vs.length)=C.toList.drop (off+k+(v::vs).length):=by
   rw[zcT (by omega)];congr 1;simp only[zau];omega
  rw[t1,t2];simp
def bM.aso{cs' vs fY:ac be}(h:bM ι cs cs')(aF:bM ι vs fY)(n:Nat):
 bM ι (cs.take n++(vs++cs.drop (n+vs.length))) (cs'.take n++(fY++cs'.drop (n+fY.length))):=by
 rw[aF.1];exact(h.take n).append (aF.append (h.drop _))
section
variable{ι:bt}{fr aC:aP}{a:Act}{aO:Nat}{st st':aw}{w:co}{o:Oper}{v:be}{call:bL}
variable{t:ce}{x:bi}{d:TypeDesc}{i:f6}
theorem F6(place:Nat->am (Nat×Nat))(aa:cv ι fr a aO)(hw:bn X ι st w){c:ac be->aS}{r:aS}(hr:aS.no≠r):
 ∀(parts:ac (Nat×bi)) (ps:ac (Nat×Nat×bi)),ps=parts.map (fun p=>(((place p.1).getD (0,0)).1,((place p.1).getD (0,0)).2,p.2))->(∀p∈parts,(place p.1).isSome∧cy X.aB p.2=true)->
 ∀(cs:ac be) (cs':ap be),bM ι cs cs'.toList->ou fr ps cs c=r->
  ∃out nZ,Instr.fill place cs' (parts.map fun p=>(p.1,a.eval p.2))=some nZ∧bM ι out nZ.toList∧c out=r
 |[],_,rfl,_,cs,cs',eL,h=>⟨cs,cs',rfl,eL,h⟩
 |(i,x)::parts,_,rfl,bI,cs,cs',eL,h=>by
  obtain⟨al6,J⟩:=bI (i,x) (by simp);obtain⟨⟨off,a7⟩,fT⟩:=zeO.1 al6;simp only[zaP,fT,zdt]at h;obtain⟨nb,h⟩:=Av h hr;obtain⟨eM,h⟩:=lh h hr;obtain⟨hle,h⟩:=iL h hr;simp only[fs]at eM hle;have avc:off+a7<=cs.length:=hle;have cl:fr.af x≠ih:=by intro e;rw[e]at nb;simp[tT,ih]at nb
  have VG:=bM.cells (aa.af hw J) cl;have eV:(iB (fr.af x)).length=a7:=eM;have hlen:(a.eval x).cells.size=a7:=by have:=VG.1;simp at this;rw[<-this];simpa[iB]using eV
  have Md:cs'.size=cs.length:=by have:=eL.1;simp at this;omega
  have h2:ou fr (parts.map (fun p=>(((place p.1).getD (0,0)).1,((place p.1).getD (0,0)).2,p.2))) (cs.take off++(iB (fr.af x)++cs.drop (off+(iB (fr.af x)).length))) c=r:=by
   rcases Od h hr with⟨_,h⟩|⟨he,h⟩
   ·exact h
   ·rw[he];simp;exact h
  obtain⟨out,nZ,h3,au,aW⟩:=F6 place aa hw hr parts _ rfl (fun p hp=>bI p (by simp[hp])) _ ((a.eval x).cells.zipIdx.foldl (fun cs (p:be×Nat)=>cs.setIfInBounds (off+p.2) p.1) cs') (by
   rw[<-Array.foldl_toList,Array.toList_zipIdx,aaM off _ 0 cs' (by simp;omega)];have:=eL.aso VG off;simpa[iB]using this) h2
  refine⟨out,nZ,?_,au,aW⟩;simp only[zaP,Instr.fill,fT];rw[zaa (by simp;omega)];exact h3
def arJ{f:Nat}{fields:ap Field}{fd:Field}(J:cy X.aB x=true)(ai:o.op= .field t x f)(hu:X.P.underlying t=some (.struct fields))(tE:fields[f]? =some fd)
 (al:X.P.underlying fd.type=some d) (hi:X.P.info? fd.type=some i) (aa:cv ι fr a aO) (hw:bn X ι st w) (h:Yl fd.offset i.size (qL d) x call fr st= .ok v aC st'):
 aC=fr∧ca X ι w v st st' (execOp a.eval o):=by
 obtain⟨cs,hp,h⟩:=Bi h (by simp);obtain⟨v1,nR,h⟩:=ft h (by simp);cases h;have bJ:=aa.af hw J;rw[hp]at bJ;generalize cp:a.eval x=e7 at bJ;cases bJ with
 |agg _ ao h1 h2=>
  obtain⟨v',hr,aF⟩:=YL al hi (bM.wa h1 h2) nR w;refine⟨rfl,ca.same (v':=v') hw ?_ aF⟩;unfold execOp;rw[ai];simp[cp,Instr.field,run_underlying hu,tE,asAgg,hr,Result.andThen]
def arO{i:bi}{n:Nat}{cn:f6}(J:cy X.aB x=true)(ec:cy X.aB i=true)(ai:o.op= .index t x i)(hu:X.P.underlying t=some (.array n e))
 (al:X.P.underlying e=some d) (hi:X.P.info? e=some cn) (aa:cv ι fr a aO) (hw:bn X ι st w) (h:Yn n cn.size (qL d) x i call fr st= .ok v aC st'):
 aC=fr∧ca X ι w v st st' (execOp a.eval o):=by
 obtain⟨cs,hp,h⟩:=Bi h (by simp);obtain⟨k,m,hm,h⟩:=ji h (by simp);obtain⟨j,rfl,h⟩:=l2 h (by simp);obtain⟨hj,h⟩:=iL h (by simp);obtain⟨v1,nR,h⟩:=ft h (by simp);cases h;have bJ:=aa.af hw J;rw[hp]at bJ;generalize cp:a.eval x=e7 at bJ;have jq:=aa.af hw ec;rw[hm]at jq;generalize xE:a.eval i=lX at jq;cases jq;cases bJ with
 |agg _ ao h1 h2=>
  obtain⟨v',hr,aF⟩:=YL al hi (bM.wa h1 h2) nR w;refine⟨rfl,ca.same (v':=v') hw ?_ aF⟩;unfold execOp;rw[ai];have lS:j<n:=by omega
  have nc:(part e ao (j*cn.size)).run X.P w= .ok v' w:=hr;simp[cp,xE,Instr.index,asIntOf,run_underlying hu,jL hi,nc,lS,Result.andThen]
def arP{i:bi}(J:cy X.aB x=true)(ec:cy X.aB i=true)(ai:o.op= .index t x i)(hu:X.P.underlying t=some .string)
 (aa:cv ι fr a aO) (hw:bn X ι st w) (h:Yo x i call fr st= .ok v aC st'):
 aC=fr∧ca X ι w v st st' (execOp a.eval o):=by
 obtain⟨s,hp,h⟩:=oN h (by simp);obtain⟨k,m,hm,h⟩:=ji h (by simp);obtain⟨j,rfl,h⟩:=l2 h (by simp);obtain⟨hn,h⟩:=va h (by simp);obtain⟨b,hb,h⟩:=AB h (by simp);cases h;have bJ:=aa.af hw J;rw[hp]at bJ;generalize cp:a.eval x=e7 at bJ;have jq:=aa.af hw ec;rw[hm]at jq;generalize xE:a.eval i=lX at jq;cases jq;cases bJ;have aV:j<s.data.size:=by rw[zaE,zbl]at hn;omega
 have cU:s[j]? =some b:=by
  have:=congrArg (fun l=>l[0]?) hb;simp only[zaJ,zaF,zcx,zaQ]at this;rw[zab (by omega)]at this;have h1:s.data[j]? =some b:=by simpa using this
  rw[zci aV]at h1;have tI:j<s.size:=aV;rw[getElem?_pos s j tI];exact h1
 refine⟨rfl,ca.same (v':=.int .u8 b.toNat) hw ?_ (.int _ _)⟩;unfold execOp;rw[ai];simp[cp,xE,Instr.index,asIntOf,run_underlying hu,cU,Result.andThen]
def ase{kH:ce}{z:be}{ok:Bool}(J:cy X.aB x=true)(ai:o.op= .typeAssert x kH t ok)(al:X.P.underlying t=some d)(hJ:∀ms,d≠.interface ms)
 (hi:X.P.info? t=some i) (aE:i.zero=some z) (hp:j8 z=true) (aa:cv ι fr a aO) (hw:bn X ι st w) (h:NT t z ok x call fr st= .ok v aC st'):
 aC=fr∧ca X ι w v st st' (execOp a.eval o):=by
 have bJ:=aa.af hw J;generalize cp:a.eval x=e7 at bJ;unfold NT at h;generalize aF:fr.af x=kg at h bJ;have Hf:bk ι (.tuple #[z,.bool false]) (.tuple #[z,.bool false]):=bk.pt (bM.cons (bk.pure ι z hp) (bM.cons (.bool _) (bM.nil ι)));cases kg with
 |iface u y=>
  have h8:dW u t (aS.ok (cond ok (.tuple #[y,.bool true]) y) fr st) (cond ok (aS.ok (.tuple #[z,.bool false]) fr st) aS.no)=aS.ok v aC st':=h;cases bJ with
  |iface _ _ ld aA=>
   rw[o5]at h8;clear h;split at h8
   ·rename_i e;subst e;cases h8;refine⟨rfl,ca.same (v':=if ok then .tuple #[ld,.bool true]else ld) hw ?_ ?_⟩
    ·unfold execOp;rw[ai];simp only[cp,Instr.typeAssert,Sem.run_bind,run_underlying al,Result.andThen];cases d<;>first|(exact absurd rfl (hJ _))|(simp)
    ·cases ok
     ·exact aA
     ·exact bk.pt (bM.cons aA (bM.cons (.bool _) (bM.nil ι)))
   ·rename_i e;obtain⟨bI,h8⟩:=iC h8 (by simp);cases h8;refine⟨rfl,ca.same (v':=.tuple #[z,.bool false]) hw ?_ Hf⟩;unfold execOp;rw[ai];simp only[cp,Instr.typeAssert,Sem.run_bind,run_underlying al,Result.andThen];cases d<;>first|(exact absurd rfl (hJ _))|(simp[e,bI,uO hi aE,Result.andThen])
 |nilIface=>
  have h:cond ok (aS.ok (.tuple #[z,.bool false]) fr st) aS.no=aS.ok v aC st':=h;obtain⟨bI,h⟩:=iC h (by simp);cases h;cases bJ;refine⟨rfl,ca.same (v':=.tuple #[z,.bool false]) hw ?_ Hf⟩;unfold execOp;rw[ai];simp only[cp,Instr.typeAssert,Sem.run_bind,run_underlying al,Result.andThen];cases d<;>first|(exact absurd rfl (hJ _))|(simp[bI,uO hi aE,Result.andThen])
 |_=>exact absurd h (by simp[sQ])
end
theorem Xv{α β:Type}(P:d9)(w:co)(f:α->Sem β)(g:α->β):∀(l:ac α),(∀x∈l,(f x).run P w= .ok (g x) w)->(l.mapM f).run P w= .ok (l.map g) w
 |[],_=>by simp
 |x::xs,h=>by
  rw[zdu];simp[h x (by simp),Xv P w f g xs (fun y aA=>h y (by simp[aA])),Result.andThen]
section
variable{ι:bt}{fr aC:aP}{a:Act}{aO:Nat}{st st':aw}{w:co}{o:Oper}{v:be}{call:bL}
variable{t:ce}{z:be}{parts:ap (Nat×bi)}{ps:ac (Nat×Nat×bi)}{cn i:f6}
def ars{fields:ap Field}(ai:o.op= .build t parts)(hu:X.P.underlying t=some (.struct fields))
 (hi:X.P.info? t=some i) (aE:i.zero=some z) (hp:mT z.cells.toList=true) (ak1:∀f∈fields.toList,(X.P.info? f.type).isSome)
 (jr:ps=parts.toList.map (fun p=>((((fields.map fun f=>(f.offset,X.P.cellsOf f.type))[p.1]?).getD (0,0)).1,(((fields.map fun f=>(f.offset,X.P.cellsOf f.type))[p.1]?).getD (0,0)).2,p.2)))
 (bI:∀p∈parts.toList,((fields.map fun f=>(f.offset,X.P.cellsOf f.type))[p.1]?).isSome∧cy X.aB p.2=true) (aa:cv ι fr a aO) (hw:bn X ι st w)
 (h:NP z.cells.toList ps call fr st= .ok v aC st'):aC=fr∧ca X ι w v st st' (execOp a.eval o):=by
 obtain⟨out,nZ,h1,h2,h3⟩:=F6 (fun j=>(fields.map fun f=>(f.offset,X.P.cellsOf f.type))[j]?) aa hw (by simp) parts.toList ps jr bI z.cells.toList z.cells (bM.yu ι _ hp) h;cases h3;refine⟨rfl,ca.same (v':=.agg nZ) hw ?_ (bk.AA h2)⟩;unfold execOp;rw[ai];have hm:(fields.mapM fun f=>do pure (f.offset,<-sizeOf f.type):Sem (ap (Nat×Nat))).run X.P w= .ok (fields.map fun f=>(f.offset,X.P.cellsOf f.type)) w:=by
  rw[zeP];rw[Sem.run_map,Xv X.P w _ (fun f:Field=>(f.offset,X.P.cellsOf f.type)) fields.toList (fun f akY=>by
   obtain⟨auO,VL⟩:=zeO.1 (ak1 f akY);simp[jL VL,Result.andThen,Program.cellsOf,VL])]
  simp only[Result.andThen];congr 1;apply Array.ext';simp
 simp only[Instr.build,Sem.run_bind,uO hi aE,Result.andThen,run_underlying hu,hm];have kV:Instr.fill (fun x=>(Array.map (fun f:Field=>(f.offset,X.P.cellsOf f.type)) fields)[x]?) z.cells (parts.map fun x=>(x.1,a.eval x.2)).toList=some nZ:=by
  rw[<-h1];simp
 rw[kV];rfl
def arq{n:Nat}(ai:o.op= .build t parts)(hu:X.P.underlying t=some (.array n e))
 (hi:X.P.info? t=some i) (aE:i.zero=some z) (hp:mT z.cells.toList=true) (gK:X.P.info? e=some cn)
 (jr:ps=parts.toList.map (fun p=>(p.1*cn.size,cn.size,p.2))) (bI:∀p∈parts.toList,cy X.aB p.2=true) (aa:cv ι fr a aO) (hw:bn X ι st w)
 (h:NP z.cells.toList ps call fr st= .ok v aC st'):aC=fr∧ca X ι w v st st' (execOp a.eval o):=by
 obtain⟨out,nZ,h1,h2,h3⟩:=F6 (fun j=>some (j*cn.size,cn.size)) aa hw (by simp) parts.toList ps (by rw[jr];simp) (fun p hp=>⟨by simp,bI p hp⟩) z.cells.toList z.cells (bM.yu ι _ hp) h;cases h3;refine⟨rfl,ca.same (v':=.agg nZ) hw ?_ (bk.AA h2)⟩;unfold execOp;rw[ai];simp only[Instr.build,Sem.run_bind,uO hi aE,Result.andThen,run_underlying hu,jL gK];have kV:Instr.fill (fun i=>some (i*cn.size,cn.size)) z.cells (parts.map fun x=>(x.1,a.eval x.2)).toList=some nZ:=by
  rw[<-h1];simp
 rw[kV];rfl
def arp{len:Nat}{gq:ac be}(ai:o.op= .buildSlice t len parts)(hu:X.P.underlying t=some (.slice e))
 (gK:X.P.info? e=some cn) (aE:cn.zero=some z) (VY:len*cn.size<=2^24) (rf:gq=(List.range (len*cn.size)).map (fun j=>(if len*cn.size=0 then(#[]:ap be)else z.cells)[j%(if len*cn.size=0 then(#[]:ap be)else z.cells).size]!))
 (hp:mT gq=true) (jr:ps=parts.toList.map (fun p=>(p.1*cn.size,cn.size,p.2))) (bI:∀p∈parts.toList,cy X.aB p.2=true) (aa:cv ι fr a aO) (hw:bn X ι st w)
 (h:AF e len gq ps call fr st= .ok v aC st'):aC=fr∧s4 X ι w v st st' (execOp a.eval o):=by
 obtain⟨out,nZ,h1,h2,h3⟩:=F6 (fun j=>some (j*cn.size,cn.size)) aa hw (by simp) parts.toList ps (by rw[jr];simp) (fun p hp=>⟨by simp,bI p hp⟩) gq gq.toArray (by simpa using bM.yu ι _ hp) h;rw[gz]at h3;cases h3;obtain⟨aQ,a2,bw,dr,nS⟩:=hw.HV e h2 {w with heap:=w.heap.push (.cells nZ e)} (by simp);rw[nS]at a2 bw dr;refine⟨rfl,_,_,_,.slice (some ⟨w.heap.size,0,none⟩) len len,_,rfl,by simp,?_,rfl,?_,a2,bw⟩
 ·unfold execOp;rw[ai];simp only[Instr.buildSlice,Sem.run_bind,Result.andThen,run_underlying hu,jL gK];rw[zaa (by omega)];have kV:Instr.fill (fun i=>some (i*cn.size,cn.size)) ((Array.range (len*cn.size)).map ((if len*cn.size=0 then(#[]:ap be)else z.cells)[· %(if len*cn.size=0 then(#[]:ap be)else z.cells).size]!)) (parts.map fun x=>(x.1,a.eval x.2)).toList=some nZ:=by
   rw[<-h1];congr 1
   ·rw[rf];apply Array.ext';simp
   ·simp
  by_cases h0:len*cn.size=0
  ·simp only[h0,if_true]at kV⊢;simp only[Sem.run_pure,Result.andThen,Sem.run_bind,kV,newRow,run_newObj]
  ·simp only[h0,if_false]at kV⊢;simp only[Sem.run_pure,Sem.run_bind,uO gK aE,Result.andThen,kV,newRow,run_newObj]
 ·have:=bk.gD (ι:=hU ι st.ag ⟨w.heap.size,0,0,id⟩) ⟨st.ag,0,none⟩ ⟨w.heap.size,0,0,id⟩ 0 len len dr rfl (.inl rfl);simpa using this
theorem Q7(z:ac be):∀(n:Nat),z≠[]->kQ z n=(List.range (n*z.length)).map (fun j=>z.toArray[j%z.toArray.size]!)
 |0,_=>by simp only[zav,List.range_zero,zbW];rfl
 |n+1,aE=>by
  show gG z (kQ z n)=_;rw[qM,Q7 z n aE];have C0:0<z.length:=zbf.2 aE;rw[zcj,zbS,List.range_add,zdv,zck];congr 1
  ·apply zbD;intro j;by_cases hj:j<z.length
   ·simp[hj,dJ hj]
   ·simp[hj]
  ·apply List.map_congr_left;intro j _;simp
def arY{l c:bi}(hl:cy X.aB l=true)(hc:cy X.aB c=true)(ai:o.op= .makeSlice t l c)(hu:X.P.underlying t=some (.slice e))(gK:X.P.info? e=some cn)
 (aE:cn.zero=some z) (eM:z.cells.toList.length=cn.size) (cl:cn.size≠0) (hp:mT z.cells.toList=true) (aa:cv ι fr a aO) (hw:bn X ι st w)
 (h:sB e cn.bytes z.cells.toList l c call fr st= .ok v aC st'):aC=fr∧s4 X ι w v st st' (execOp a.eval o):=by
 obtain⟨k,avJ,vB,aG⟩:=ji h (by simp);obtain⟨k',auJ,LY,aI⟩:=ji aG (by simp);obtain⟨cE,aq,a4⟩:=l2 aI (by simp);obtain⟨hv,e2,b2⟩:=l2 a4 (by simp);clear h aG aI a4;subst aq e2;obtain⟨hle,cx⟩:=iL b2 (by simp);obtain⟨hb,ef⟩:=iL cx (by simp);rw[gz]at ef;cases ef;have ck:=aa.af hw hl;rw[vB]at ck;generalize alj:a.eval l=Nf at ck;have m7:=aa.af hw hc;rw[LY]at m7;generalize akA:a.eval c=FG at m7;cases ck;cases m7;have amt:z.cells.toList≠[]:=by intro e;rw[e]at eM;simp at eM;omega
 have gi:=Q7 z.cells.toList hv amt;have alQ:bM ι (kQ z.cells.toList hv) (kQ z.cells.toList hv):=by
  have:∀n,bM ι (kQ z.cells.toList n) (kQ z.cells.toList n):=by
   intro n
   induction n with
   |zero=>exact bM.nil ι
   |succ n aZ=>show bM ι (gG _ _) (gG _ _);rw[qM];exact(bM.yu ι _ hp).append aZ
  exact this hv
 obtain⟨aQ,a2,bw,dr,nS⟩:=hw.HV e alQ {w with heap:=w.heap.push (.cells (kQ z.cells.toList hv).toArray e)} (by simp);rw[nS]at a2 bw dr;refine⟨rfl,_,_,_,.slice (some ⟨w.heap.size,0,none⟩) cE hv,_,rfl,by simp,?_,rfl,?_,a2,bw⟩
 ·have cU:hv*(cn.bytes+1)<=1099511627776:=hb;have xB:hv<=1099511627776:=zai (zeQ hv (by omega)) cU;have VE:cn.bytes*hv<=1099511627776:=by
   have:cn.bytes*hv<=hv*(cn.bytes+1):=by rw[zaj];exact lF _ (by omega)
   omega
  have wl:IntKind.i64.wrap (cE:Int)=cE:=by rw[<-kt];simp only[oh];rw[wP _ _ _ (by decide)];rw[zaa]<;>omega
  have aue:IntKind.i64.wrap (hv:Int)=hv:=by rw[<-kt];simp only[oh];rw[wP _ _ _ (by decide)];rw[zaa]<;>omega
  unfold execOp;rw[ai];have zS:¬((cn.bytes:Int)*(hv:Int)>2^48):=by
   have:((cn.bytes*hv:Nat):Int)<=1099511627776:=by omega
   rw[zap]at this;omega
  have aJ:(decide ((hv:Int)<0)||decide ((cn.bytes:Int)*(hv:Int)>2^48)||decide ((cE:Int)<0)||decide ((cE:Int)>(hv:Int)))=false:=by
   simp only[Bool.or_eq_false_iff,decide_eq_false_iff_not];omega
  have lP:(Array.range (hv*cn.size)).map (z.cells[· %z.cells.size]!)=(kQ z.cells.toList hv).toArray:=by
   rw[gi];apply Array.ext';simp[eM]
  have kk:¬(hv*cn.size=0)∨hv*cn.size=0:=by omega
  simp only[Instr.makeSlice,Sem.run_bind,Result.andThen,run_underlying hu,alj,akA,asInt,asIntOf,Sem.run_pure,typeInfo,run_program,gK,wl,aue,aJ,zbb,if_false,run_askRoom,jL gK,zbX];by_cases h0:hv*cn.size=0
  ·have oA:hv=0:=by rcases Nat.mul_eq_zero.1 h0 with h|h;exact h;exact absurd h cl
   subst oA;have a0:kQ z.cells.toList 0=[]:=rfl;simp[Result.andThen,newRow,a0];congr 2;apply Array.ext';simp
  ·rw[zaa h0];simp only[Sem.run_bind,uO gK aE,Result.andThen,Sem.run_pure,lP,newRow,run_newObj]
 ·have:=bk.gD (ι:=hU ι st.ag ⟨w.heap.size,0,0,id⟩) ⟨st.ag,0,none⟩ ⟨w.heap.size,0,0,id⟩ 0 cE hv dr rfl (.inl rfl);simpa using this
end
section
variable{ι:bt}{fr aC:aP}{a:Act}{aO:Nat}{st st':aw}{w:co}{o:Oper}{v:be}{call:bL}
variable{x:bi}{xs:ac bi}
def asf{op:UnOp}{t:ce}(J:cy X.aB x=true)(ai:o.op= .unOp op t x)(aa:cv ι fr a aO)(hw:bn X ι st w)(h:NU op x call fr st= .ok v aC st'):
 aC=fr∧ca X ι w v st st' (execOp a.eval o):=by
 have bJ:=aa.af hw J;generalize cp:a.eval x=e7 at bJ;unfold NU at h;cases op with
 |neg=>
  obtain⟨k,n,hp,g⟩:=ji h (by simp);rw[ib,kt,Nu]at g;rw[hp]at bJ;cases bJ;cases g;refine⟨rfl,ca.same (v':=.int k (k.wrap (-n))) hw ?_ (.int _ _)⟩;unfold execOp;rw[ai];simp[cp,Op.unary,Op.intArith]
 |xor=>
  obtain⟨k,n,hp,g⟩:=ji h (by simp);rw[ib]at g;rw[hp]at bJ;cases bJ;cases g;refine⟨rfl,ca.same (v':=.int k _) hw ?_ (.int _ _)⟩;unfold execOp;rw[ai];simp[cp,Op.unary,Op.intBits]
 |not=>
  obtain⟨b,hp,g⟩:=Pk h (by simp);rw[hp]at bJ;cases bJ;cases g;refine⟨rfl,ca.same (v':=.bool (!b)) hw ?_ (.bool _)⟩;unfold execOp;rw[ai];simp[cp,Op.unary]
 |_=>cases h
def ar3(J:cy X.aB x=true)(ai:o.op= .nilCheck x)(aa:cv ι fr a aO)(hw:bn X ι st w)(h:NR x call fr st= .ok v aC st'):
 aC=fr∧ca X ι w v st st' (execOp a.eval o):=by
 have bJ:=aa.af hw J;generalize cp:a.eval x=e7 at bJ;unfold NR at h;generalize q3:fr.af x=kg at h bJ;cases kg with
 |pointer p=>
  cases p with
  |none=>cases h
  |some ad=>
   have h:aS.ok (.pointer (some ad)) fr st= .ok v aC st':=h;cases h;cases bJ with
   |ptr _ l hl ae=>
    refine⟨rfl,ca.same (v':=.pointer (some ⟨l.cC,l.cO+ad.off,none⟩)) hw ?_ (.ptr _ _ hl ae)⟩;unfold execOp;rw[ai];simp[cp]
 |func f dQ wQ=>
  cases f with
  |func g=>
   have h:aS.ok (.func (.func g) dQ wQ) fr st= .ok v aC st':=h;cases h;cases bJ with
   |func _ gC _ ao _ vs fH h1 h2 h3 au=>
    rcases fH with⟨rfl,_⟩|⟨l,b,e,_⟩
    ·refine⟨rfl,ca.same (v':=.func (.func g) ao vs) hw ?_ (.func _ _ _ _ _ _ (.inl ⟨rfl,by simp⟩) h1 h2 h3 au)⟩;unfold execOp;rw[ai];simp[cp]
    ·cases e
  |_=>cases h
 |_=>cases h
theorem Xx(k:d7)(aa:cv ι fr a aO)(hw:bn X ι st w):∀(xs:ac bi) (m r:Int),(∀x∈xs,cy X.aB x=true)->Dz k fr xs m=some r->
 ((xs.map a.eval).foldlM Builtin.max2 (.int k m)).run X.P w= .ok (.int k r) w
 |[],m,r,_,h=>by cases h;simp
 |x::xs,m,r,bI,h=>by
  obtain⟨k',y,aA,h1⟩:=ji h (by simp);obtain⟨U,h2⟩:=iC h1 (by simp);have fi:=sn U;have bJ:=aa.af hw (bI x (by simp));rw[aA]at bJ;generalize cp:a.eval x=e7 at bJ;cases bJ;have aZ:=Xx k aa hw xs _ r (fun z aE=>bI z (by simp[aE])) h2;simp only[zaP,List.foldlM_cons,Sem.run_bind,cp,Builtin.max2,Sem.run_pure,Result.andThen];have e:(if y>m then y else m)=cond (mD y m) m y:=by
   rw[sq];by_cases c:y<=m
   ·rw[zaa (by omega)];simp[c]
   ·rw[zab (by omega)];simp[c]
  rw[e];exact aZ
theorem XA(k:d7)(aa:cv ι fr a aO)(hw:bn X ι st w):∀(xs:ac bi) (m r:Int),(∀x∈xs,cy X.aB x=true)->DA k fr xs m=some r->
 ((xs.map a.eval).foldlM Builtin.min2 (.int k m)).run X.P w= .ok (.int k r) w
 |[],m,r,_,h=>by cases h;simp
 |x::xs,m,r,bI,h=>by
  obtain⟨k',y,aA,h1⟩:=ji h (by simp);obtain⟨U,h2⟩:=iC h1 (by simp);have fi:=sn U;have bJ:=aa.af hw (bI x (by simp));rw[aA]at bJ;generalize cp:a.eval x=e7 at bJ;cases bJ;have aZ:=XA k aa hw xs _ r (fun z aE=>bI z (by simp[aE])) h2;simp only[zaP,List.foldlM_cons,Sem.run_bind,cp,Builtin.min2,Sem.run_pure,Result.andThen];have e:(if y<m then y else m)=cond (mD m y) m y:=by
   rw[sq];by_cases c:m<=y
   ·rw[zaa (by omega)];simp[c]
   ·rw[zab (by omega)];simp[c]
  rw[e];exact aZ
def ar2{ts:ap ce}(bI:∀y∈x::xs,cy X.aB y=true)(ai:o.op= .call {callee:=.builtin .max,args:=(x::xs).toArray,argTypes:=ts})(aa:cv ι fr a aO)(hw:bn X ι st w)
 (h:Yv x xs call fr st= .ok v aC st'):aC=fr∧ca X ι w v st st' (execOp a.eval o):=by
 obtain⟨k,n,hp,h1⟩:=ji h (by simp);obtain⟨m,hm,h2⟩:=ft h1 (by simp);rw[ib]at h2;have bJ:=aa.af hw (bI x (by simp));rw[hp]at bJ;generalize cp:a.eval x=e7 at bJ;cases bJ;cases h2;have hr:=Xx k aa hw xs n m (fun y aA=>bI y (by simp[aA])) hm;refine⟨rfl,ca.same (v':=.int k m) hw ?_ (.int _ _)⟩;unfold execOp;rw[ai];simp[cp,resolve,invoke,builtin,Builtin.max_,hr,Result.andThen]
def ar0{ts:ap ce}(bI:∀y∈x::xs,cy X.aB y=true)(ai:o.op= .call {callee:=.builtin .min,args:=(x::xs).toArray,argTypes:=ts})(aa:cv ι fr a aO)(hw:bn X ι st w)
 (h:Yt x xs call fr st= .ok v aC st'):aC=fr∧ca X ι w v st st' (execOp a.eval o):=by
 obtain⟨k,n,hp,h1⟩:=ji h (by simp);obtain⟨m,hm,h2⟩:=ft h1 (by simp);rw[ib]at h2;have bJ:=aa.af hw (bI x (by simp));rw[hp]at bJ;generalize cp:a.eval x=e7 at bJ;cases bJ;cases h2;have hr:=XA k aa hw xs n m (fun y aA=>bI y (by simp[aA])) hm;refine⟨rfl,ca.same (v':=.int k m) hw ?_ (.int _ _)⟩;unfold execOp;rw[ai];simp[cp,resolve,invoke,builtin,Builtin.min_,hr,Result.andThen]
def oW(aa:cv ι fr a aO)(hw:bn X ι st w){x:am bi}(J:∀y,x=some y->cy X.aB y=true){d y:Nat}{k:Nat->aS}{r:aS}(h:e9 fr x d y k=r)(hr:aS.no≠r):
 ∃n,k n=r∧((x=none∧n=d)∨(∃z cf,x=some z∧a.eval z= .int cf (n:Int)∧n<=y)):=by
 cases x with
 |none=>exact⟨d,h,.inl ⟨rfl,rfl⟩⟩
 |some z=>
  obtain⟨cf,m,hp,h1⟩:=ji (h:gp (fr.af z) _ _=r) hr;obtain⟨n,e,h2⟩:=l2 h1 hr;obtain⟨hle,h3⟩:=iL h2 hr;have aE:=aa.af hw (J z rfl);rw[hp]at aE;generalize rh:a.eval z=sV at aE;cases aE;exact⟨n,h3,.inr ⟨z,cf,rfl,by rw[rh,e],hle⟩⟩
end
def aaG(P:d9)(w:co)(cf:d7)(n y:Nat)(c:BoundsCode)(h:n<=y):(Instr.sliceBound (.int cf (n:Int)) y c).run P w= .ok n w:=by
 have:(n:Int)<=(y:Int):=by omega
 simp[Instr.sliceBound,asIntOf,h]
def E0(v:am be)(d y n:Nat):Prop:=(v=none∧n=d)∨∃cf,v=some (.int cf (n:Int))∧n<=y
def Ev(P:d9)(w:co)(is:Bool)(len cap l h m:Nat)(aM hi eX:am be)(hm:E0 eX cap cap m)(hh:E0 hi len m h)(hl:E0 aM 0 h l)(J:eX≠none->hi≠none):
 (Instr.sliceBounds is len cap aM hi eX).run P w= .ok (l,h,m) w:=by
 unfold Instr.sliceBounds;rcases hm with⟨rfl,rfl⟩|⟨avF,rfl,hm⟩
 ·clear J;rcases hh with⟨rfl,rfl⟩|⟨ane,rfl,hh⟩<;>rcases hl with⟨rfl,rfl⟩|⟨WO,rfl,hl⟩<;>simp[aaG,Result.andThen, *]
 ·rcases hh with⟨rfl,rfl⟩|⟨ane,rfl,hh⟩
  ·exact absurd rfl (J (by simp))
  ·clear J;rcases hl with⟨rfl,rfl⟩|⟨WO,rfl,hl⟩<;>simp[aaG,Result.andThen, *]
section
variable{ι:bt}{fr aC:aP}{a:Act}{aO:Nat}{st st':aw}{w:co}{o:Oper}{v:be}{call:bL}
variable{n:Nat}{t:ce}{x:bi}{aM hi:am bi}{d y:Nat}{eX:am bi}{cn:f6}
def oV{x:am bi}(h:(x=none∧n=d)∨(∃z cf,x=some z∧a.eval z= .int cf (n:Int)∧n<=y)):E0 (x.map a.eval) d y n:=by
 rcases h with⟨rfl,rfl⟩|⟨z,cf,rfl,h1,h2⟩
 ·exact .inl ⟨rfl,rfl⟩
 ·exact .inr ⟨cf,by simp[h1],h2⟩
def agc(s:f5)(l h:Nat)(_hl:l<=h)(_hh:h<=s.data.toList.length):(⟨⟨(s.data.toList.drop l).take (h-l)⟩⟩:f5)=s.extract l h:=by
 apply ByteArray.ext;rw[ByteArray.data_extract];apply Array.ext';rw[zcU,zdr]
def zj{x:am bi}(h:(x=none∧n=d)∨(∃z cf,x=some z∧a.eval z= .int cf (n:Int)∧n<=y))(al:d<=y):n<=y:=by
 rcases h with⟨_,rfl⟩|⟨_,_,_,_,h⟩<;>omega
def asa(J:cy X.aB x=true)(h1:∀y,aM=some y->cy X.aB y=true)(h2:∀y,hi=some y->cy X.aB y=true)(ai:o.op= .slice t x aM hi none)
 (hu:X.P.underlying t=some .string) (aa:cv ι fr a aO) (hw:bn X ι st w) (h:YA x aM hi call fr st= .ok v aC st'):aC=fr∧ca X ι w v st st' (execOp a.eval o):=by
 obtain⟨s,hp,aG⟩:=oN h (by simp);obtain⟨hn,aI,cK⟩:=oW aa hw h2 aG (by simp);obtain⟨cE,a4,c9⟩:=oW aa hw h1 aI (by simp);obtain⟨hc,b2⟩:=va a4 (by simp);cases b2;rw[fs]at cK;have VO:hn<=s.data.toList.length:=zj cK (bY _);have nN:cE<=hn:=zj c9 (zag _);have bJ:=aa.af hw J;rw[hp]at bJ;generalize cp:a.eval x=e7 at bJ;cases bJ;refine⟨rfl,ca.same (v':=.string (s.extract cE hn)) hw ?_ ?_⟩
 ·unfold execOp;rw[ai];have eM:s.data.toList.length=s.size:=by rw[zbl];rfl
  rw[eM]at cK;have hb:=Ev X.P w false s.size s.size cE hn s.size (aM.map a.eval) (hi.map a.eval) none (.inl ⟨rfl,rfl⟩) (oV cK) (oV c9) (by simp);simp[cp,Instr.sliceAt,Instr.slice,run_underlying hu,Result.andThen,hb]
 ·have e:=agc s cE hn nN VO;have:(Nat.sub hn cE)=hn-cE:=rfl;rw[this,e];exact .string _
def ar8(J:cy X.aB x=true)(h1:∀y,aM=some y->cy X.aB y=true)(h2:∀y,hi=some y->cy X.aB y=true)(h3:∀y,eX=some y->cy X.aB y=true)
 (CU:eX≠none->hi≠none) (ai:o.op= .slice t x aM hi eX) (hu:X.P.underlying t=some (.array n e)) (gK:X.P.info? e=some cn) (aa:cv ι fr a aO) (hw:bn X ι st w)
 (h:AI n cn.size x aM hi eX call fr st= .ok v aC st'):aC=fr∧ca X ι w v st st' (execOp a.eval o):=by
 obtain⟨p,hp,aG⟩:=pG h (by simp);obtain⟨ad,aq,aI⟩:=ft aG (by simp);subst aq;obtain⟨ae,cs,elem,a8,aX,aJ,a4⟩:=u6 aI (by simp);obtain⟨vu,b2⟩:=Av a4 (by simp);obtain⟨m,cx,iz⟩:=oW aa hw h3 b2 (by simp);obtain⟨hn,ef,cK⟩:=oW aa hw h2 cx (by simp);obtain⟨cE,fR,c9⟩:=oW aa hw h1 ef (by simp);cases fR;subst vu;obtain⟨l,hl,C,eU,hc⟩:=hw.eE _ _ aJ (by simp);have bJ:=aa.af hw J;rw[hp]at bJ;generalize cp:a.eval x=e7 at bJ;cases bJ with
 |ptr _ l' ck eV=>
  rw[hl]at ck;cases ck;have fT:=hc.plain rfl;refine⟨rfl,ca.same (v':=.slice (some (if m=cE then⟨l.cC,l.cO+ad.off,none⟩else Addr.add ⟨l.cC,l.cO+ad.off,none⟩ (cE*cn.size))) (hn-cE) (m-cE)) hw ?_ ?_⟩
  ·unfold execOp;rw[ai];have hb:=Ev X.P w false n n cE hn m (aM.map a.eval) (hi.map a.eval) (eX.map a.eval) (oV iz) (oV cK) (oV c9) (by simpa using CU);simp[cp,Instr.sliceAt,Instr.sureAddr,run_underlying hu,Result.andThen,hb,jL gK]
  ·rw[o5];by_cases c:m=cE
   ·rw[zab c,zab c];have:=bk.gD (ι:=ι) ad l (l.cO+ad.off) (Nat.sub hn cE) (Nat.sub m cE) hl ae (.inl rfl);rw[fT.1]at this;exact this
   ·rw[zaa c,zaa c,add_eq];have:=bk.gD (ι:=ι) (ad.add (Nat.mul cE cn.size)) l (l.cO+(ad.add (Nat.mul cE cn.size)).off) (Nat.sub hn cE) (Nat.sub m cE) (by rw[Bz];exact hl) (BA _ _ ae) (.inl rfl);rw[fT.1,Fc,<-zbT]at this;exact this
def ar9(J:cy X.aB x=true)(h1:∀y,aM=some y->cy X.aB y=true)(h2:∀y,hi=some y->cy X.aB y=true)(h3:∀y,eX=some y->cy X.aB y=true)
 (CU:eX≠none->hi≠none) (ai:o.op= .slice t x aM hi eX) (hu:X.P.underlying t=some (.slice e)) (gK:X.P.info? e=some cn) (aa:cv ι fr a aO) (hw:bn X ι st w)
 (h:Yz cn.size x aM hi eX call fr st= .ok v aC st'):aC=fr∧ca X ι w v st st' (execOp a.eval o):=by
 obtain⟨b,len,cap,hp,aG⟩:=uJ h (by simp);have bJ:=aa.af hw J;rw[hp]at bJ;generalize cp:a.eval x=e7 at bJ;cases b with
 |none=>
  have aG:e9 fr eX cap cap (fun m=>e9 fr hi len m fun h=>e9 fr aM 0 h fun l=>.ok (.slice none (Nat.sub h l) (Nat.sub m l)) fr st)=aS.ok v aC st':=aG;obtain⟨m,cx,iz⟩:=oW aa hw h3 aG (by simp);obtain⟨hn,ef,cK⟩:=oW aa hw h2 cx (by simp);obtain⟨cE,fR,c9⟩:=oW aa hw h1 ef (by simp);cases fR;cases bJ;refine⟨rfl,ca.same (v':=.slice none (hn-cE) (m-cE)) hw ?_ (.ob _ _)⟩;unfold execOp;rw[ai];have hb:=Ev X.P w true len cap cE hn m (aM.map a.eval) (hi.map a.eval) (eX.map a.eval) (oV iz) (oV cK) (oV c9) (by simpa using CU);simp[cp,Instr.sliceAt,Instr.slice,run_underlying hu,Result.andThen,hb,jL gK]
 |some ad=>
  obtain⟨ae,cs,elem,a8,aX,aJ,a4⟩:=u6 (aG:aw.gH st ad _ _=_) (by simp);obtain⟨l,hl,C,eU,hc⟩:=hw.eE _ _ aJ (by simp);cases bJ with
  |gD _ l' off _ _ ck eV jc=>
   rw[hl]at ck;cases ck;cases aX with
   |false=>
    have fT:=hc.plain rfl;obtain⟨m,cx,iz⟩:=oW aa hw h3 (a4:e9 fr eX cap cap _=_) (by simp);obtain⟨hn,ef,cK⟩:=oW aa hw h2 cx (by simp);obtain⟨cE,fR,c9⟩:=oW aa hw h1 ef (by simp);cases fR;have avh:m<=cap:=zj iz (bY _);refine⟨rfl,ca.same (v':=.slice (some (if m=cE then⟨l.cC,off,none⟩else Addr.add ⟨l.cC,off,none⟩ (cE*cn.size))) (hn-cE) (m-cE)) hw ?_ ?_⟩
    ·unfold execOp;rw[ai];have hb:=Ev X.P w true len cap cE hn m (aM.map a.eval) (hi.map a.eval) (eX.map a.eval) (oV iz) (oV cK) (oV c9) (by simpa using CU);have hex:cap+l.ex=cap:=by rw[fT.1];rfl
     rw[hex]at cp;simp only[cp,Instr.sliceAt,Instr.slice,Sem.run_bind,run_underlying hu,Result.andThen,hb,jL gK,Sem.run_pure];by_cases c:m=cE<;>simp[c]
    ·rw[o5];by_cases c:m=cE
     ·rw[zab c,zab c];have:=bk.gD (ι:=ι) ad l off (Nat.sub hn cE) (Nat.sub m cE) hl ae (by
       rcases jc with h|⟨h1,h2,h3⟩
       ·exact .inl h
       ·right;subst h1 h2;have aq:Nat.sub m cE=m-cE:=rfl;have e2:Nat.sub hn cE=hn-cE:=rfl;have hh:hn<=m:=by
         rcases cK with⟨_,e⟩|⟨_,_,_,_,e⟩<;>omega
        refine⟨by omega,by omega,h3⟩)
      rw[fT.1]at this;exact this
     ·rw[zaa c,zaa c,add_eq];have tJ:off=l.cO+ad.off:=by
       rcases jc with h|⟨h1,h2,h3⟩
       ·exact h
       ·exfalso;subst h1 h2;have hh:hn<=m:=by
         rcases cK with⟨_,e⟩|⟨_,_,_,_,e⟩<;>omega
        have nN:cE<=hn:=zj c9 (zag _);omega
      subst tJ;have:=bk.gD (ι:=ι) (ad.add (Nat.mul cE cn.size)) l (l.cO+(ad.add (Nat.mul cE cn.size)).off) (Nat.sub hn cE) (Nat.sub m cE) (by rw[Bz];exact hl) (BA _ _ ae) (.inl rfl);rw[fT.1,Fc,<-zbT]at this;exact this
   |true=>
    obtain⟨als,b2⟩:=yl (a4:bd eX (fun _=>aS.no) _=aS.ok v aC st') (fun _=>by simp);obtain⟨Md,cx⟩:=iL b2 (by simp);obtain⟨hn,ef,cK⟩:=oW aa hw h2 cx (by simp);obtain⟨cE,fR,c9⟩:=oW aa hw h1 ef (by simp);cases fR;subst als;have VO:hn<=len:=zj cK (bY _);have nN:cE<=hn:=zj c9 (zag _);have adi:(hi=none∧hn=len)∨(∃z cf,hi=some z∧a.eval z= .int cf (hn:Int)∧hn<=cap+l.ex):=by
     rcases cK with h|⟨z,cf,h1,h2,h3⟩
     ·exact .inl h
     ·exact .inr ⟨z,cf,h1,h2,by omega⟩
    refine⟨rfl,ca.same (v':=.slice (some (if cap+l.ex=cE then⟨l.cC,off,none⟩else Addr.add ⟨l.cC,off,none⟩ (cE*cn.size))) (hn-cE) (cap+l.ex-cE)) hw ?_ ?_⟩
    ·unfold execOp;rw[ai];have hb:=Ev X.P w true len (cap+l.ex) cE hn (cap+l.ex) (aM.map a.eval) (hi.map a.eval) none (.inl ⟨rfl,rfl⟩) (oV adi) (oV c9) (by simp);simp only[cp,Instr.sliceAt,Instr.slice,Sem.run_bind,run_underlying hu,Result.andThen,Option.map_none,hb,jL gK,Sem.run_pure];by_cases c:cap+l.ex=cE<;>simp[c]
    ·have aq:Nat.sub cap cE=cap-cE:=rfl;have e2:cap+l.ex-cE=(cap-cE)+l.ex:=by omega
     rw[e2];by_cases c:cap+l.ex=cE
     ·rw[zab c];exact bk.gD (ι:=ι) (ad.add (Nat.mul cE cn.size)) l off (Nat.sub hn cE) (Nat.sub cap cE) (by rw[Bz];exact hl) (BA _ _ ae) (.inr ⟨by show hn-cE=0;omega,by show cap-cE=0;omega,by omega⟩)
     ·rw[zaa c,add_eq];refine bk.gD (ι:=ι) (ad.add (Nat.mul cE cn.size)) l (off+cE*cn.size) (Nat.sub hn cE) (Nat.sub cap cE) (by rw[Bz];exact hl) (BA _ _ ae) ?_;rcases jc with h|⟨h1,h2,h3⟩
      ·left;rw[Fc,h,zbT];rfl
      ·exfalso;omega
end
variable{mI:bD}
def bn.kill(h:bn X ι st w){id:Nat}(h₀:st.h.get id=some mI):bn X ι ⟨st.h.set id .dead,st.ag⟩ w:=by
 have oB:id<st.ag:=by
  rcases zan id st.ag with c|c
  ·exact c
  ·rw[(h.fresh id c).2]at h₀;cases h₀
 refine⟨fun j p hp al=> ?_,fun i j p q l m hi hJ hj hW=> ?_,fun j hj=> ?_,h.gQ,h.mm,h.p1,fun j l p hl ae hp al=> ?_⟩
 ·rw[an.ep]at hp;split at hp
  ·cases hp;exact absurd rfl al
  ·exact h.eE j p hp al
 ·rw[an.ep]at hi hj;split at hi
  ·cases hi;exact absurd rfl hJ
  ·split at hj
   ·cases hj;exact absurd rfl hW
   ·exact h.inj i j p q l m hi hJ hj hW
 ·have lS:st.ag<=j:=hj;refine⟨(h.fresh j lS).1,?_⟩;rw[an.ep,zaa (by omega)];exact(h.fresh j lS).2
 ·rw[an.ep]at hp;split at hp
  ·cases hp;exact absurd rfl al
  ·exact h.mK j l p hl ae hp al
def bn.aqr(h:bn X ι st w){id:Nat}{l':Loc}(h₀:st.h.get id=some mI)(tB:mI≠.dead)(Ml:¬mI.vk)(eV:l'.b5≠iE)(hl:ι id=some l)(o:bD)(cU:l'.cC=l.cC)(O:Obj)
 (w':co) (hw:w'.heap=w.heap.setIfInBounds l.cC O) (hm:∀aQ:bt,ι.le aQ->w'.heap[l'.cC]? =some O->jx X aQ w' o l') (gN:rV w w':=by exact⟨rfl,rfl⟩):
 ∃aQ,bn X aQ ⟨(st.h.set id .dead).set st.ag o,st.ag+1⟩ w'∧fz ι aQ w w'∧aQ st.ag=some l':=by
 have hb:=h.gQ id l hl;have mz:l.b5≠iE:=fun e=>Ml (h.mK id l mI hl e h₀ tB);have oB:id<st.ag:=by
  rcases zan id st.ag with c|c
  ·exact c
  ·rw[(h.fresh id c).2]at h₀;cases h₀
 have hle:ι.le (fun i=>if i=st.ag then some l' else ι i):=by
  intro i m lU;show(if i=st.ag then _ else ι i)=_;rw[zaa];exact lU;intro e;subst e;rw[(h.fresh _ (bY _)).1]at lU;cases lU
 refine⟨fun i=>if i=st.ag then some l' else ι i,⟨fun j p hp al=> ?_,fun i j p q oD tW hi hJ hj hW gR ia aJ e=> ?_,fun j hj=> ?_,fun j oD m9=> ?_,fun g aJ=>hle _ _ (h.mm g aJ),zdp h.p1,fun j oD p m9 ae hp al=> ?_⟩,⟨hle,by rw[hw];simp,fun b _ hi=> ?_,fun j oD m9=> ?_,gN⟩,zab rfl⟩
 ·rw[an.ep]at hp;by_cases e:j=st.ag
  ·rw[zab e]at hp;cases hp;exact⟨l',by simp[e],hm _ hle (by rw[hw,cU];simp[hb])⟩
  ·rw[zaa e,an.ep]at hp;split at hp
   ·cases hp;exact absurd rfl al
   ·rename_i ne;obtain⟨m,lU,ai⟩:=h.eE j p hp al;refine⟨m,hle _ _ lU,jx.mono X ai hle ?_⟩;have cl:m.cC≠l.cC:=fun o4=>ne (h.inj j id p mI m l hp al h₀ tB lU hl (.inr mz) o4);rw[hw,zbA (Ne.symm cl)]
 ·have key:∀j p m,((st.h.set id .dead).set st.ag o).get j=some p->p≠.dead->(if j=st.ag then some l' else ι j)=some m->
   (j=st.ag∧m=l')∨(j≠st.ag∧j≠id∧st.h.get j=some p∧ι j=some m):=by
   intro j p m hj al lU;rw[an.ep]at hj;by_cases c:j=st.ag
   ·rw[zab c]at lU;cases lU;exact .inl ⟨c,rfl⟩
   ·rw[zaa c,an.ep]at hj;rw[zaa c]at lU;split at hj
    ·cases hj;exact absurd rfl al
    ·rename_i ne;exact .inr ⟨c,ne,hj,lU⟩
  rcases key i p oD hi hJ gR with⟨aq,rfl⟩|⟨mF,jf,aG,aI⟩<;>rcases key j q tW hj hW ia with⟨e2,rfl⟩|⟨eW,g1,f1,f2⟩
  ·rw[aq,e2]
  ·exact absurd (h.inj j id q mI tW l f1 hW h₀ tB f2 hl (.inr mz) (by omega)) g1
  ·exact absurd (h.inj i id p mI oD l aG hJ h₀ tB aI hl (.inr mz) (by omega)) jf
  ·exact h.inj i j p q oD tW aG hJ f1 hW aI f2 aJ e
 ·have lS:st.ag+1<=j:=hj;have:=h.fresh j (by omega);refine⟨?_,?_⟩
  ·show(if j=st.ag then _ else ι j)=_;rw[zaa (by omega)];exact this.1
  ·rw[an.ep,zaa (by omega),an.ep,zaa (by omega)];exact this.2
 ·rw[hw];simp only[Array.size_setIfInBounds];by_cases e:j=st.ag
  ·simp only[zab e]at m9;cases m9;omega
  ·simp only[zaa e]at m9;exact h.gQ j oD m9
 ·rw[an.ep]at hp;by_cases e:j=st.ag
  ·simp only[zab e]at m9;cases m9;exact absurd ae eV
  ·rw[zaa e,an.ep]at hp;simp only[zaa e]at m9;split at hp
   ·cases hp;exact absurd rfl al
   ·exact h.mK j oD p m9 ae hp al
 ·rw[hw,zbA (hi id l hl mz)]
 ·by_cases e:j=st.ag
  ·simp only[zab e]at m9;cases m9;exact .inr (.inr ⟨id,l,hl,mz,cU.symm⟩)
  ·simp only[zaa e]at m9;exact .inl m9
theorem Vk(n B:Nat)(a5:n+(n+768)/4<=B):∀r c,c<=B->Builtin.growBy n r c<=B
 |0,c,h=>h
 |r+1,c,h=>by
  unfold Builtin.growBy;split
  ·exact h
  ·rename_i hc;exact Vk n B a5 r _ (by omega)
def aoh(n c:Nat)(h:c<n):Builtin.nextslicecap n c<=n+n/4+448:=by
 unfold Builtin.nextslicecap;split
 ·omega
 ·split
  ·omega
  ·exact Vk n _ (by omega) 4 c (by omega)
def PC(z:ap be)(n:Nat):(Builtin.zeroCells z n).size=n*z.size:=by simp[Builtin.zeroCells]
def bn.HW{cs':ac be}(hw:bn X ι st w)(elem:ce)(aF:bM ι cs cs')(rest:ac be)(ex:Nat)(hr:ex*X.P.cellsOf elem<=rest.length)(a8:Nat×Nat)
 (p6:∀i,i<cs.length+rest.length->¬(a8.1<=i∧i<a8.2)) (w':co) (hh:w'.heap=w.heap.push (.cells (cs'++rest).toArray elem a8)) (gN:rV w w':=by exact⟨rfl,rfl⟩):
 ∃aQ,bn X aQ ⟨st.h.set st.ag (.cells cs elem (0,0) true),st.ag+1⟩ w'∧fz ι aQ w w'∧aQ st.ag=some ⟨w.heap.size,0,ex,id⟩∧aQ=hU ι st.ag ⟨w.heap.size,0,ex,id⟩:=by
 refine bn.alloc X hw _ _ ex (fun aQ jv hle _ aN=> ?_) w' hh gN;refine⟨(cs'++rest).toArray,a8,⟨aN,by simp[aF.1];omega,fun i hi=> ?_,fun _ j _ hj=> ?_,fun h=>by cases h⟩⟩
 ·have ec:i<cs'.length:=by rw[<-aF.1];exact hi
  refine⟨cs'[i],?_,(aF.2 i hi ec).mono hle⟩;simp[zaV ec,ec]
 ·refine p6 j ?_;have:0+cs.length+ex*X.P.cellsOf elem<=cs.length+rest.length:=by omega
  exact fC hj this
structure Src(P:d9)(w:co)(x:be)(n size:Nat)(new:ac be):Prop where
 len:(Builtin.lenOf x).run P w= .ok n w
 cells:∀tape drawn,(Builtin.firstCells size n x).run P {w with tape:=tape,drawn:=drawn}= .ok new.toArray {w with tape:=tape,drawn:=drawn}
section
variable{P:d9}{w:co}{lC kH elem:ce}{d:TypeDesc}{i:f6}{x:be}{n len cap:Nat}{new:ac be}
def I6{base:am Addr}(hu:P.underlying lC=some (.slice elem))(J:P.underlying kH=some d)(al:∀k,d≠.int k)(hi:P.info? elem=some i)(ae:Src P w x n i.size new)(hn:len+n<=cap)(ty:ce)(w':co)
 (eR:∀a,base=some a->(storeCells (a.add (len*i.size)) new).run P w= .ok () w') (gj:base=none->w'=w):
 (Builtin.append_ #[lC,kH] ty #[.slice base len cap,x]).run P w= .ok (.slice base (len+n) cap) w':=by
 have Ab:(d matches .int _)=false:=by cases d<;>first|rfl|(exact absurd rfl (al _))
 have hc:=ae.cells w.tape w.drawn;simp only[Builtin.append_,zcw,zcx,zdY,Sem.run_bind,run_underlying hu,Result.andThen,jL hi,run_underlying J,Sem.run_pure,zbb,if_false,ae.len,hn,if_true,zdZ];rw[hc];cases base with
 |none=>simp only[Sem.run_pure];rw[gj rfl]
 |some a=>
  simp only[Result.andThen,Sem.run_bind,Sem.run_pure];rw[eR a rfl]
def OL{base:am Addr}{z:be}{old:ac be}(hu:P.underlying lC=some (.slice elem))(J:P.underlying kH=some d)(al:∀k,d≠.int k)(hi:P.info? elem=some i)(aE:i.zero=some z)(ae:Src P w x n i.size new)
 (hn:cap<len+n) (hb:(5*(len+n)+1792)*(i.bytes+1)<=1125899906842624) (ty:ce)
 (hold:∀tape drawn,(Builtin.firstCells i.size len (.slice base len cap)).run P {w with tape:=tape,drawn:=drawn}= .ok old.toArray {w with tape:=tape,drawn:=drawn}):
 ∃dC w',len+n<=dC∧(Builtin.append_ #[lC,kH] ty #[.slice base len cap,x]).run P w= .ok (.slice (some ⟨w.heap.size,0,none⟩) (len+n) dC) w'∧
  w'.heap=w.heap.push (.cells (old++new++(Builtin.zeroCells z.cells (dC-(len+n))).toList).toArray elem)∧rV w w':=by
 have Ab:(d matches .int _)=false:=by cases d<;>first|rfl|(exact absurd rfl (al _))
 have LW:=aoh (len+n) cap hn;have hmul:Builtin.nextslicecap (len+n) cap*i.bytes<=281474976710656:=by
  have h1:4*Builtin.nextslicecap (len+n) cap*i.bytes<=(5*(len+n)+1792)*i.bytes:=fK _ (by omega);have h2:(5*(len+n)+1792)*i.bytes<=(5*(len+n)+1792)*(i.bytes+1):=lF _ (by omega);rw[zar]at h1;omega
 have avm:len+n<=1125899906842624:=by
  have:5*(len+n)+1792<=(5*(len+n)+1792)*(i.bytes+1):=zeQ _ (by omega);omega
 have alo:¬(((len+n:Nat):Int)>IntKind.i64.max∧((false=true)∨i.bytes=0)):=by
  have:IntKind.i64.max=9223372036854775807:=by decide
  rw[this];omega
 have akw:¬(Builtin.nextslicecap (len+n) cap*i.bytes>2^48):=by omega
 let q:Question:=.appendCap (len+n) cap elem
 refine⟨q.cut (w.tape w.drawn q),{w with drawn:=w.drawn+1,heap:=w.heap.push (.cells (old++new++(Builtin.zeroCells z.cells (q.cut (w.tape w.drawn q)-(len+n))).toList).toArray elem)},?_,?_,rfl,⟨rfl,rfl⟩⟩
 ·show len+n<=(len+n)+_;omega
 ·have hc:=ae.cells w.tape (w.drawn+1);have ai:=hold w.tape (w.drawn+1);have Hg:=uO (P:=P) hi aE {w with drawn:=w.drawn+1};simp only[Builtin.append_,zcw,zcx,zdY,Sem.run_bind,run_underlying hu,Result.andThen,jL hi,run_underlying J,Sem.run_pure,zbb,if_false,ae.len,typeInfo,zdZ];rw[zaa (by omega)];simp only[Sem.run_bind,Sem.run_pure,run_program,Result.andThen,hi];rw[zaa (by simpa using alo)];simp only[Sem.run_bind,Sem.run_pure,run_program,Result.andThen,hi];rw[zaa akw];simp only[Sem.run_bind,Sem.run_pure,run_program,Result.andThen,hi,run_choose,Question.forced,zbb,if_false,run_askRoom,if_true];rw[ai];simp only[];rw[hc];simp only[Result.andThen,Sem.run_bind,Hg,Sem.run_pure,newRow,run_newObj];simp[q];congr 2;apply Array.ext';simp
end
section
variable{ι:bt}{fr aC:aP}{a:Act}{aO:Nat}{st st':aw}{w:co}{o:Oper}{v:be}{call:bL}
def af9{lC kH:ce}{s x:bi}{v':be}{w':co}(ai:o.op= .call {callee:=.builtin .append,args:= #[s,x],argTypes:= #[lC,kH]})
 (hr:(Builtin.append_ #[lC,kH] o.type #[a.eval s,a.eval x]).run X.P w= .ok v' w'):(execOp a.eval o).run X.P w= .ok (.value v') w':=by
 unfold execOp;rw[ai];simp only[resolve,zcl,zaP,zbW,Sem.run_bind,Sem.run_pure,Result.andThen,invoke,builtin,hr]
def Jh{lC kH:ce}{d:TypeDesc}{i:f6}{z:be}{s x:bi}{base:am Addr}{len cap n:Nat}{new new':ac be}
 (ai:o.op= .call {callee:=.builtin .append,args:= #[s,x],argTypes:= #[lC,kH]}) (hu:X.P.underlying lC=some (.slice elem)) (J:X.P.underlying kH=some d) (al:∀k,d≠.int k) (hi:X.P.info? elem=some i) (aE:i.zero=some z)
 (rf:z.cells.size=i.size) (hw:bn X ι st w) (tM:bk ι (.slice base len cap) (a.eval s)) (xT:Src X.P w (a.eval x) n i.size new') (sb:bM ι new new') (p8:new.length=n*i.size) (bI:gZ new=true)
 (h:iX fr st elem i.size i.bytes base len cap n new= .ok v aC st'):aC=fr∧jS X ι w v st' (execOp a.eval o):=by
 obtain⟨hb,g⟩:=iL h (by simp);have cU:(5*(len+n)+1792)*(i.bytes+1)<=1125899906842624:=hb;have lP:X.P.cellsOf elem=i.size:=by simp[Program.cellsOf,hi]
 have CM:new'.length=n*i.size:=by rw[<-sb.1];exact p8
 generalize al8:a.eval s=as5 at tM;have nd:= @af9 X a w o lC kH s x;rw[al8]at nd;cases base with
 |none=>
  obtain⟨zZ,aG⟩:=lh (g:dW len 0 _ _=_) (by simp);obtain⟨oA,aI⟩:=lh aG (by simp);subst zZ oA;cases tM;rw[o5]at aI;split at aI
  ·rename_i kk;subst kk;cases aI;refine⟨rfl,jS.same (v':=.slice none 0 0) hw ?_ (.ob _ _)⟩;exact nd ai (I6 hu J al hi xT (by omega) o.type w (fun a h=>by cases h) (fun _=>rfl))
  ·rename_i kk;rw[gz]at aI;cases aI;obtain⟨dC,w',kD,hr,hh,gN⟩:=OL (base:=none) (len:=0) (cap:=0) (old:=[]) hu J al hi aE xT (by omega) cU o.type (fun _ _=>rfl);obtain⟨aQ,a2,bw,dr,_⟩:=hw.HW elem sb (Builtin.zeroCells z.cells (dC-(0+n))).toList (dC-(0+n)) (by
    rw[zbl,PC,rf,lP];exact bY _) (0,0) (fun i _=>by simp) w' (by rw[hh];simp) gN
   refine⟨rfl,aQ,.value _,w',nd ai hr,.inl ⟨_,rfl,?_⟩,a2,bw⟩;have:=bk.gD (ι:=aQ) ⟨st.ag,0,none⟩ ⟨w.heap.size,0,dC-(0+n),id⟩ 0 (0+n) (0+n) dr rfl (.inl rfl);rw[show 0+n+(dC-(0+n))=dC by omega]at this;exact this
 |some ad=>
  obtain⟨ae,cs,el,a8,aX,aJ,aG⟩:=u6 (g:aw.gH st ad _ _=_) (by simp);obtain⟨p6,aI⟩:=iL aG (by simp);obtain⟨Md,a4⟩:=iL aI (by simp);obtain⟨C2,b2⟩:=iL a4 (by simp);obtain⟨xC,cx⟩:=lh b2 (by simp);rw[fs]at C2;have avq:ad.off+cap*i.size<=cs.length:=C2;subst xC;obtain⟨l,hl,C,eU,hc⟩:=hw.eE _ _ aJ (by simp);have qc:=hc.room;rw[lP]at qc;cases tM with
  |gD _ l' off _ _ ck eV jc=>
   rw[hl]at ck;cases ck;have hmul:len*i.size<=cap*i.size:=fK _ Md;rw[o5]at cx;split at cx
   ·rename_i kk;subst kk;cases cx;have CV:new'=[]:=by
     have:new'.length=0:=by rw[CM];simp
     exact zbB this
    refine⟨rfl,jS.same (v':=.slice (some ⟨l.cC,off,none⟩) (len+0) (cap+l.ex)) hw ?_ (.gD _ _ _ _ _ hl ae jc)⟩;refine nd ai (I6 hu J al hi xT (by omega) o.type w (fun a h=> ?_) (fun h=>by cases h));rw[CV];rfl
   ·rename_i kk;have hold:∀tape drawn,(Builtin.firstCells i.size len (.slice (some ⟨l.cC,off,none⟩) len (cap+l.ex))).run X.P {w with tape:=tape,drawn:=drawn}= .ok ((C.toList.drop off).take (len*i.size)).toArray {w with tape:=tape,drawn:=drawn}:=by
     intro tape drawn;simp only[Builtin.firstCells];rcases jc with h|⟨h1,_,_⟩
     ·exact Er (by exact hc.there) (by rw[h];omega)
     ·subst h1;simp[loadCells,loadCellsFrom]
    have p9:∀(a2:len+n<=cap+l.ex),off=l.cO+ad.off:=by
     intro a2;rcases jc with h|⟨h1,h2,h3⟩
     ·exact h
     ·omega
    have jX:bM ι ((cs.drop ad.off).take (len*i.size)) ((C.toList.drop off).take (len*i.size)):=by
     rcases jc with h|⟨h1,_,_⟩
     ·rw[h];exact hc.row ad.off (len*i.size) (by simp;omega)
     ·subst h1;simpa using bM.nil ι
    cases aX with
    |true=>
     obtain⟨p4,ef⟩:=va (cx:iD cs ad.off _ _ _=_) (by simp);rw[j5,gz,qM]at ef;cases ef;by_cases k0:len+n<=cap+l.ex
     ·have tJ:=p9 k0;subst tJ;have GZ:n*i.size+len*i.size<=(cap+l.ex)*i.size:=by rw[<-zam];exact fK _ (by omega)
      rw[zam]at GZ;obtain⟨w',hr,hh,gN⟩:=OM (P:=X.P) (o:=l.cO+ad.off+len*i.size) new' 0 C w hc.there (by omega) (NJ sb bI) (fun j h1 h2=>hc.yU p6 j (by omega) (by rw[lP];omega));simp only[zaQ]at hh;have Mz:=nd ai (I6 (base:=some ⟨l.cC,l.cO+ad.off,none⟩) hu J al hi xT k0 o.type w' (fun a h=>by cases h;rw[add_eq];exact hr) (fun h=>by cases h));obtain⟨aQ,a2,bw,dr⟩:=bn.aqr (X:=X) hw aJ (by simp) (fun aa=>by cases aa.1) MK hl (.cells ((cs.drop ad.off).take (len*i.size)++new) el (0,0) true) (l':=⟨l.cC,l.cO+ad.off,cap+l.ex-(len+n),id⟩) rfl _ w' hh (fun aQ hle aN=>by
       have Vo:(C.toList.take (l.cO+ad.off+len*i.size)++(new'++C.toList.drop (l.cO+ad.off+len*i.size+new'.length))).length=C.size:=by simp;omega
       have gS:((cs.drop ad.off).take (len*i.size)).length=len*i.size:=by simp;omega
       have VJ:(cap+l.ex-(len+n))*i.size=(cap*i.size+l.ex*i.size)-(len*i.size+n*i.size):=by rw[Nat.sub_mul,zam,zam]
       refine⟨_,eU,⟨aN,?_,fun j hj=> ?_,fun _ j h1 h2=> ?_,fun h=>by cases h⟩⟩
       ·rw[List.size_toArray,Vo,lP,zaG,gS,p8];simp only;rw[VJ];omega
       ·simp only[zcw];rw[zaG,gS,p8]at hj;rw[O1 C.toList new' (l.cO+ad.off+len*i.size) (l.cO+ad.off+j) (by simp;omega)];by_cases c:j<len*i.size
        ·rw[zab (by omega)];obtain⟨FG,aq,e2⟩:=hc.cell (ad.off+j) (by omega);refine⟨FG,by rw[<-aq];simp[zbT],?_⟩;rw[zea (by omega)];simp only[List.getElem_take,zdV];exact e2.mono hle
        ·rw[zaa (by omega),zab (by omega)];rw[show l.cO+ad.off+j-(l.cO+ad.off+len*i.size)=j-len*i.size by omega];rw[bF (by omega)];refine⟨_,rfl,?_⟩;rw[zeb (by omega)];simp only[gS];exact(sb.2 _ (by omega) (by omega)).mono hle
       ·refine hc.yU p6 j ?_ ?_
        ·simp only at h1;omega
        ·rw[lP]at h2⊢;rw[zaG,gS,p8]at h2;simp only at h2;rw[VJ]at h2;omega) gN
      refine⟨rfl,aQ,.value _,w',Mz,.inl ⟨_,rfl,?_⟩,a2,bw⟩;have:=bk.gD (ι:=aQ) ⟨st.ag,0,none⟩ ⟨l.cC,l.cO+ad.off,cap+l.ex-(len+n),id⟩ (l.cO+ad.off) (len+n) (len+n) dr rfl (.inl rfl);rw[show len+n+(cap+l.ex-(len+n))=cap+l.ex by omega]at this;exact this
     ·obtain⟨dC,w',kD,hr,hh,gN⟩:=OL (base:=some ⟨l.cC,off,none⟩) (len:=len) (cap:=cap+l.ex) hu J al hi aE xT (by omega) cU o.type hold;have U:=hw.kill aJ;obtain⟨aQ,a2,bw,dr,_⟩:=U.HW el (jX.append sb) (Builtin.zeroCells z.cells (dC-(len+n))).toList (dC-(len+n)) (by
       rw[zbl,PC,rf,lP];exact bY _) (0,0) (fun i _=>by simp) w' (by rw[hh]) gN
      refine⟨rfl,aQ,.value _,w',nd ai hr,.inl ⟨_,rfl,?_⟩,a2,bw⟩;have:=bk.gD (ι:=aQ) ⟨st.ag,0,none⟩ ⟨w.heap.size,0,dC-(len+n),id⟩ 0 (len+n) (len+n) dr rfl (.inl rfl);rw[show len+n+(dC-(len+n))=dC by omega]at this;exact this
    |false=>
     have fT:=hc.plain rfl;have VK:cap+l.ex=cap:=by rw[fT.1];rfl
     rw[VK]at nd hold p9;have cx:dY (len+n) cap (qw cs (Nat.add ad.off (Nat.mul len i.size)) new (fun cs'=>st.g2 ad.block (.cells cs' el a8 false) fun st=>aS.ok (.slice (some ad) (len+n) cap) fr st) .no)
      (iD cs ad.off (Nat.mul len i.size) (fun old=>st.jg (.cells (gG old new) el (0,0) true) fun id st=>.ok (.slice (some ⟨id,0,none⟩) (len+n) (len+n)) fr st) .no)=aS.ok v aC st':=cx
     rw[qi]at cx;split at cx
     ·rename_i k0;have tJ:=p9 k0;subst tJ;have GZ:n*i.size+len*i.size<=cap*i.size:=by rw[<-zam];exact fK _ (by omega)
      have Me:ad.off+len*i.size+new.length<=cs.length:=by rw[p8];omega
      have ef:st.g2 ad.block (.cells (cs.take (ad.off+len*i.size)++(new++cs.drop (ad.off+len*i.size+new.length))) el a8 false) (fun st=>aS.ok (.slice (some ad) (len+n) cap) fr st)=aS.ok v aC st':=by
       rcases Od cx (by simp)with⟨_,ef⟩|⟨he,ef⟩
       ·exact ef
       ·rw[he];simp;exact ef
      rw[j5]at ef;cases ef;obtain⟨w',hr,a2,bw⟩:=hw.store aJ hl p6 Me sb bI;have Mz:=nd ai (I6 (base:=some ⟨l.cC,l.cO+ad.off,none⟩) hu J al hi xT k0 o.type w' (fun a h=>by cases h;rw[add_eq,zbT];exact hr) (fun h=>by cases h));refine⟨rfl,ι,.value _,w',Mz,.inl ⟨_,rfl,?_⟩,a2,bw⟩;have:=bk.gD (ι:=ι) ad l (l.cO+ad.off) (len+n) cap hl ae (.inl rfl);rw[VK]at this;exact this
     ·rename_i k0;obtain⟨p4,ef⟩:=va cx (by simp);rw[gz,qM]at ef;cases ef;obtain⟨dC,w',kD,hr,hh,gN⟩:=OL (base:=some ⟨l.cC,off,none⟩) (len:=len) (cap:=cap) hu J al hi aE xT (by omega) cU o.type hold;obtain⟨aQ,a2,bw,dr,_⟩:=hw.HW el (jX.append sb) (Builtin.zeroCells z.cells (dC-(len+n))).toList (dC-(len+n)) (by
       rw[zbl,PC,rf,lP];exact bY _) (0,0) (fun i _=>by simp) w' (by rw[hh]) gN
      refine⟨rfl,aQ,.value _,w',nd ai hr,.inl ⟨_,rfl,?_⟩,a2,bw⟩;have:=bk.gD (ι:=aQ) ⟨st.ag,0,none⟩ ⟨w.heap.size,0,dC-(len+n),id⟩ 0 (len+n) (len+n) dr rfl (.inl rfl);rw[show len+n+(dC-(len+n))=dC by omega]at this;exact this
end
theorem EG:∀bS:ac bv,lb bS=bS.map fun b=>Value.int .u8 (b.toNat:Int)
 |[]=>rfl
 |b::bS=>by show _::lb bS=_;rw[EG bS];rfl
theorem abC:∀bS:ac bv,gZ (lb bS)=true
 |[]=>rfl
 |_::bS=>abC bS
theorem Pc(ι:bt):∀bS:ac bv,bM ι (lb bS) (lb bS)
 |[]=>bM.nil ι
 |_::bS=>bM.cons (.int _ _) (Pc ι bS)
theorem KC:∀{vs:ac be} {bS:ac bv},bytesOf vs=some bS->∃a6:ac Int,vs=a6.map (Value.int .u8)∧bS=a6.map (fun n=>UInt8.ofNat n.toNat)
 |[],bS,h=>by cases h;exact⟨[],rfl,rfl⟩
 |v::vs,bS,h=>by
  obtain⟨k,n,e,aG⟩:=ji (h:gp v _ _=_) (by simp);obtain⟨U,aI⟩:=iC aG (by simp);obtain⟨r,hr,a4⟩:=ft aI (by simp);cases a4;obtain⟨a6,aq,e2⟩:=KC (vs:=vs) hr;have:=sn U;subst this;exact⟨n::a6,by simp[e,aq],by simp[e2]⟩
section
variable{ι:bt}{fr aC:aP}{a:Act}{aO:Nat}{st st':aw}{w:co}{o:Oper}{v:be}{call:bL}
def asq(P:d9)(w:co)(s:f5)(size:Nat):Src P w (.string s) s.data.toList.length size (lb s.data.toList):=by
 have eM:s.size=s.data.toList.length:=(zbl (xs:=s.data)).symm;refine⟨by rw[<-eM];rfl,fun tape drawn=> ?_⟩;simp only[Builtin.firstCells,Sem.run_pure];congr 1;apply Array.ext';have:(s.extract 0 s.data.toList.length).data=s.data:=by
  rw[ByteArray.data_extract];apply Array.ext';rw[zcU,zdr,zaq,Nat.sub_zero,zbY]
 rw[this,EG];simp
def arl{lC kH:ce}{d:TypeDesc}{i:f6}{z:be}{s x:bi}(ae:cy X.aB s=true)(bJ:cy X.aB x=true)(ai:o.op= .call {callee:=.builtin .append,args:= #[s,x],argTypes:= #[lC,kH]})
 (hu:X.P.underlying lC=some (.slice elem)) (J:X.P.underlying kH=some d) (al:∀k,d≠.int k) (hi:X.P.info? elem=some i) (aE:i.zero=some z) (rf:z.cells.size=i.size)
 (aa:cv ι fr a aO) (hw:bn X ι st w) (h:Ye elem i.size i.bytes s x call fr st= .ok v aC st'):aC=fr∧jS X ι w v st' (execOp a.eval o):=by
 obtain⟨base,len,cap,tM,g⟩:=uJ h (by simp);have rb:=aa.af hw ae;rw[tM]at rb;have cR:=aa.af hw bJ;generalize cp:fr.af x=e7 at g cR;cases e7 with
 |slice b n c=>
  cases b with
  |none=>
   obtain⟨kk,aI⟩:=lh (g:dW n 0 (iX fr st elem i.size i.bytes base len cap 0 []) _=aS.ok v aC st') (by simp);subst kk;generalize jB:a.eval x=s7 at cR;cases cR;refine Jh (n:=0) (new:=[]) (new':=[]) ai hu J al hi aE rf hw rb ?_ (bM.nil ι) (by simp) rfl aI;rw[jB];exact⟨rfl,fun _ _=>rfl⟩
  |some b=>
   obtain⟨VD,cs,el,a8,aX,aJ,hn,aI⟩:=Ah (g:aw.load st b _ _ _=_) (by simp);obtain⟨bI,a4⟩:=iC aI (by simp);obtain⟨l,hl,C,eU,hc⟩:=hw.eE _ _ aJ (by simp);generalize jB:a.eval x=s7 at cR;cases cR with
   |gD _ l' off _ _ ck eV jc=>
    rw[hl]at ck;cases ck;have iF:n*i.size<=(cs.drop b.off).length:=hn;have qc:=hc.room;rw[zaE]at iF;refine Jh (n:=n) (new:=(cs.drop b.off).take (n*i.size)) (new':=(C.toList.drop off).take (n*i.size)) ai hu J al hi aE rf hw rb ?_ ?_ ?_ bI a4
    ·rw[jB];refine⟨rfl,fun tape drawn=> ?_⟩;simp only[Builtin.firstCells];rcases jc with h|⟨h1,_,_⟩
     ·by_cases h0:n*i.size=0
      ·rw[h0];simp[loadCells,loadCellsFrom]
      ·exact Er (by exact hc.there) (by rw[h];omega)
     ·subst h1;simp[loadCells,loadCellsFrom]
    ·rcases jc with h|⟨h1,_,_⟩
     ·rw[h];exact hc.row b.off (n*i.size) hn
     ·subst h1;simpa using bM.nil ι
    ·simp;omega
 |string hg=>
  obtain⟨nf,aI⟩:=lh (g:dW i.size 1 (iX fr st elem i.size i.bytes base len cap (df hg.data.toList) (lb hg.data.toList)) _=aS.ok v aC st') (by simp);rw[fs]at aI;generalize jB:a.eval x=s7 at cR;cases cR;refine Jh (n:=hg.data.toList.length) (new:=lb hg.data.toList) (new':=lb hg.data.toList) ai hu J al hi aE rf hw rb ?_ (Pc ι _) ?_ (abC _) aI
  ·rw[jB];exact asq X.P w hg i.size
  ·rw[EG,zaN,nf,zaI]
 |chan p=>
  cases p with
  |none=>
   have aq:∀(k:am Addr->Nat->Nat->aS) (z:aS),hL (.chan none) k z=z:=fun _ _=>rfl;have e2:∀a z:aS,sP (.chan none) a z=a:=fun _ _=>rfl;simp only[aq,e2]at g;have aI:=g;generalize jB:a.eval x=s7 at cR;cases cR;refine Jh (n:=0) (new:=[]) (new':=[]) ai hu J al hi aE rf hw rb ?_ (bM.nil ι) (by simp) rfl aI;rw[jB];refine⟨rfl,fun tape drawn=> ?_⟩;simp only[Builtin.firstCells];rw[show 0*i.size=0 from zav _];simp[loadCells,loadCellsFrom]
  |some _=>exact absurd g (by simp[hL,hM,sP])
 |_=>exact absurd g (by simp[hL,hM,sP])
end
section
variable{ι:bt}{fr aC:aP}{a:Act}{aO:Nat}{st st':aw}{w:co}{o:Oper}{v:be}{call:bL}
def arA{lC kH:ce}{i:f6}{d s:bi}(al:cy X.aB d=true)(ae:cy X.aB s=true)(ai:o.op= .call {callee:=.builtin .copy,args:= #[d,s],argTypes:= #[lC,kH]})
 (hu:X.P.underlying lC=some (.slice elem)) (hi:X.P.info? elem=some i) (aa:cv ι fr a aO) (hw:bn X ι st w) (h:Yh i.size d s call fr st= .ok v aC st'):
 aC=fr∧jS X ι w v st' (execOp a.eval o):=by
 obtain⟨pU,dl,aeY,akK,aG⟩:=uJ h (by simp);obtain⟨aqQ,aY,j4,tM,aI⟩:=uJ aG (by simp);have CD:=aa.af hw al;rw[akK]at CD;have rb:=aa.af hw ae;rw[tM]at rb;have J:∀{v':be} {w':co},(Builtin.copy_ #[lC,kH] o.type #[a.eval d,a.eval s]).run X.P w= .ok v' w'->(execOp a.eval o).run X.P w= .ok (.value v') w':=by
  intro v' w' hr;unfold execOp;rw[ai];simp only[resolve,zcl,zaP,zbW,Sem.run_bind,Sem.run_pure,Result.andThen,invoke,builtin,hr]
 generalize pc:a.eval d=auM at CD J;generalize sg:a.eval s=as5 at rb J;cases pU with
 |none=>
  obtain⟨h0,a4⟩:=lh (aI:dW dl 0 _ _=_) (by simp);subst h0;cases a4;cases CD;refine⟨rfl,jS.same (v':=.int .i64 0) hw (J ?_) (.int _ _)⟩;cases rb<;>simp[Builtin.copy_,run_underlying hu,Result.andThen,Builtin.lenOf,jL hi,Builtin.firstCells,loadCells,loadCellsFrom,goInt]
 |some ad=>
  cases aqQ with
  |none=>
   obtain⟨h0,a4⟩:=lh (aI:dW aY 0 _ _=_) (by simp);subst h0;cases a4;cases rb;refine⟨rfl,jS.same (v':=.int .i64 0) hw (J ?_) (.int _ _)⟩;cases CD;simp[Builtin.copy_,run_underlying hu,Result.andThen,Builtin.lenOf,jL hi,Builtin.firstCells,goInt,Nat.min_def,storeCells]
  |some Es=>
   have a4:st.load Es (Nat.mul (dY aY dl aY dl) i.size) (fun vs=>cond (gZ vs) (st.store ad vs (fun st=>aS.ok (.int .i64 (.ofNat (dY aY dl aY dl))) fr st) .no) .no) .no=aS.ok v aC st':=aI;rw[show dY aY dl aY dl=Nat.min aY dl by rw[qi];show _=min aY dl;rw[Nat.min_def]]at a4;rw[show Nat.mul (Nat.min aY dl) i.size=Nat.min aY dl*i.size from rfl]at a4;obtain⟨avv,cs,el,a8,aX,aJ,hn,b2⟩:=Ah a4 (by simp);obtain⟨bI,cx⟩:=iC b2 (by simp);obtain⟨gJ,auK,auN,Gi,auQ,r8,ak4,ef⟩:=aaU cx (by simp);obtain⟨l,hl,C,eU,hc⟩:=hw.eE _ _ aJ (by simp);obtain⟨g8,mw,CQ⟩:=hw.eE _ _ r8 (by simp);have iF:Nat.min aY dl*i.size<=(cs.drop Es.off).length:=hn;have qc:=hc.room;rw[zaE]at iF;cases rb with
   |gD _ l' off _ _ ck eV jc=>
    rw[hl]at ck;cases ck;cases CD with
    |gD _ avH NI _ _ VX avs alE=>
     rw[mw]at VX;cases VX;have Mj:aY=0∨dl=0->Nat.min aY dl=0:=by
      intro hh;show min aY dl=0;omega
     have jX:bM ι ((cs.drop Es.off).take (Nat.min aY dl*i.size)) ((C.toList.drop off).take (Nat.min aY dl*i.size)):=by
      rcases jc with h|⟨h1,_,_⟩
      ·rw[h];exact hc.row Es.off _ hn
      ·rw[Mj (.inl h1)];simpa using bM.nil ι
     have akT:(Builtin.firstCells i.size (Nat.min aY dl) (.slice (some ⟨l.cC,off,none⟩) aY (j4+l.ex))).run X.P w= .ok ((C.toList.drop off).take (Nat.min aY dl*i.size)).toArray w:=by
      simp only[Builtin.firstCells];rcases jc with h|⟨h1,_,_⟩
      ·by_cases h0:Nat.min aY dl*i.size=0
       ·rw[h0];simp[loadCells,loadCellsFrom]
       ·exact Er hc.there (by rw[h];omega)
      ·rw[Mj (.inl h1)];simp[loadCells,loadCellsFrom]
     have fU:∀w',(storeCells ⟨g8.cC,NI,none⟩ ((C.toList.drop off).take (Nat.min aY dl*i.size))).run X.P w= .ok () w'->
      (Builtin.copy_ #[lC,kH] o.type #[.slice (some ⟨g8.cC,NI,none⟩) dl (aeY+g8.ex),.slice (some ⟨l.cC,off,none⟩) aY (j4+l.ex)]).run X.P w= .ok (.int .i64 (Nat.min aY dl:Nat)) w':=by
      intro w' hr;simp only[Builtin.copy_,zcw,zcx,zdY,Sem.run_bind,run_underlying hu,Result.andThen,jL hi,Builtin.lenOf,Sem.run_pure];rw[akT];simp only[];simp only[hr,goInt]
     rcases ef with⟨hle,fR⟩|⟨he,fR⟩
     ·cases fR;by_cases aE:(cs.drop Es.off).take (Nat.min aY dl*i.size)=[]
      ·have ph:(C.toList.drop off).take (Nat.min aY dl*i.size)=[]:=by
        have:=jX.1;rw[aE]at this;exact zbB this.symm
       refine⟨rfl,ι,.value _,w,J (fU w (by rw[ph];rfl)),.inl ⟨_,rfl,.int _ _⟩,?_,.refl ι w⟩;have:=hw.OQ r8;rw[aE];simpa using this
      ·have alF:NI=g8.cO+ad.off:=by
        rcases alE with h|⟨h1,_,_⟩
        ·exact h
        ·exfalso;apply aE;rw[Mj (.inr h1)];simp
       subst alF;obtain⟨w',hr,a2,bw⟩:=hw.store r8 mw ak4 hle jX bI;exact⟨rfl,ι,.value _,w',J (fU w' hr),.inl ⟨_,rfl,.int _ _⟩,a2,bw⟩
     ·cases fR;have ph:(C.toList.drop off).take (Nat.min aY dl*i.size)=[]:=by
       have:=jX.1;rw[he]at this;exact zbB this.symm
      exact⟨rfl,ι,.value _,w,J (fU w (by rw[ph];rfl)),.inl ⟨_,rfl,.int _ _⟩,hw.OQ r8,.refl ι w⟩
theorem YV(P:d9)(w:co)(f:be->f5->Sem (ForInStep f5))(aa:∀n s,f (.int .u8 n) s=pure (.yield (s.push (UInt8.ofNat n.toNat)))):∀(a6:ac Int) (s:f5),
 (forIn (a6.map (Value.int .u8)).toArray s f:Sem f5).run P w= .ok ⟨⟨s.data.toList++a6.map (fun n=>UInt8.ofNat n.toNat)⟩⟩ w
 |[],s=>by simp
 |n::a6,s=>by
  simp only[zaP,List.forIn_toArray,List.forIn_cons,Sem.run_bind,aa,Sem.run_pure,Result.andThen];have:=YV P w f aa a6 (s.push (UInt8.ofNat n.toNat));simp only[List.forIn_toArray]at this;rw[this];congr 1;simp[ByteArray.data_push]
def aru{rJ rL:ce}{x:bi}(J:cy X.aB x=true)(ai:o.op= .convert rJ rL x)(ae:X.P.underlying rJ=some (.slice e))(aN:X.P.underlying rL=some .string)(he:X.P.underlying e=some (.int .u8))
 (aa:cv ι fr a aO) (hw:bn X ι st w) (h:H4 x call fr st= .ok v aC st'):aC=fr∧ca X ι w v st st' (execOp a.eval o):=by
 obtain⟨b,n,c,hp,aG⟩:=uJ h (by simp);have cR:=aa.af hw J;rw[hp]at cR;generalize cp:a.eval x=e7 at cR;cases b with
 |none=>
  cases aG;cases cR;refine⟨rfl,ca.same (v':=.string .empty) hw ?_ (.string _)⟩;unfold execOp;rw[ai];simp[cp,convert,run_underlying ae,run_underlying aN,run_underlying he,Result.andThen,Conv.bytesToString]
 |some b=>
  obtain⟨VD,cs,el,a8,aX,aJ,hn,aI⟩:=Ah (aG:aw.load st b _ _ _=_) (by simp);obtain⟨bS,hb,a4⟩:=ft aI (by simp);cases a4;obtain⟨l,hl,C,eU,hc⟩:=hw.eE _ _ aJ (by simp);have qc:=hc.room;obtain⟨a6,aq,e2⟩:=KC hb;cases cR with
  |gD _ l' off _ _ ck eV jc=>
   rw[hl]at ck;cases ck;have jX:bM ι ((cs.drop b.off).take n) ((C.toList.drop off).take n):=by
    rcases jc with h|⟨h1,_,_⟩
    ·rw[h];exact hc.row b.off _ hn
    ·subst h1;simpa using bM.nil ι
   have eL:(C.toList.drop off).take n=a6.map (Value.int .u8):=by
    rw[aq]at jX;have key:∀(a6:ac Int) (ao:ac be),bM ι (a6.map (Value.int .u8)) ao->ao=a6.map (Value.int .u8):=by
     intro a6
     induction a6 with
     |nil=>intro ao aA;rw[aA.v5];rfl
     |cons m ms aZ=>
      intro ao aA;obtain⟨y,jk,rfl,h1,h2⟩:=aA.cons_inv;cases h1;rw[aZ jk h2];rfl
    exact key a6 _ jX
   have z0:(loadCells ⟨l.cC,off,none⟩ n).run X.P w= .ok (a6.map (Value.int .u8)).toArray w:=by
    rw[<-eL];rcases jc with h|⟨h1,_,_⟩
    ·by_cases h0:n=0
     ·subst h0;simp[loadCells,loadCellsFrom]
     ·rw[zaE]at hn;exact Er hc.there (by rw[h];omega)
    ·subst h1;simp[loadCells,loadCellsFrom]
   refine⟨rfl,ca.same (v':=.string ⟨⟨bS⟩⟩) hw ?_ (.string _)⟩;unfold execOp;rw[ai];simp only[cp,convert,Sem.run_bind,run_underlying ae,run_underlying aN,run_underlying he,Result.andThen,Conv.bytesToString,z0];rw[YV X.P w _ (fun _ _=>rfl) a6 ByteArray.empty];simp[e2]
end
def W7(P:d9)(e:ce)(count off n:Nat)(ae:P.cellsOf e≠0)(h0:off%P.cellsOf e=0)(hn:off/P.cellsOf e+n<=count):liesAt P P.depth e count off e n=true:=by
 have al:P.depth=(2*(P.types.size+Made.depth)+1)+1:=rfl;rw[al];have pe:sameLayout P (2*(P.types.size+Made.depth)+1+1) e e=true:=by simp[sameLayout]
 have hr:rowAt P (sameLayout P P.depth · e) P.depth e count off n=true:=by
  rw[al];simp only[rowAt];rw[zaa ae];simp[h0,hn,pe]
 simp only[liesAt];rw[hr];rfl
theorem Wv(c:bv):∀(l:ac bv),qf c l=(List.range l.length).find? (fun i=>l[i]! ==c)
 |[]=>rfl
 |b::bS=>by
  show cond (Nat.beq b.toNat c.toNat) (some 0) (bd (qf c bS) (fun i=>some (Nat.succ i)) none)=_;rw[zau,zec,zed];by_cases hb:b=c
  ·subst hb;simp
  ·have h1:Nat.beq b.toNat c.toNat=false:=by
    rw[zbR];intro hh;exact hb (zcy.1 (ek hh))
   have h2:((b::bS)[0]! ==c)=false:=by simpa using hb
   rw[h1,h2,List.find?_map,Wv c bS];show bd _ _ _=_;have:((fun i=>(b::bS)[i]! ==c)∘Nat.succ)=(fun i=>bS[i]! ==c):=by
    funext i;simp
   rw[this];cases(List.range bS.length).find? (fun i=>bS[i]! ==c)<;>rfl
section
variable{ι:bt}{fr aC:aP}{a:Act}{aO:Nat}{st st':aw}{w:co}{o:Oper}{v:be}{call:bL}
variable{x:bi}{f:ci}{t rJ rL:ce}{i:f6}
def Ci{args:ap bi}{ts:ap ce}(ai:o.op= .call {callee:=.value (.func f),args:=args,argTypes:=ts}):
 (execOp a.eval o).run X.P w=(callFunc f (args.map a.eval)).run X.P w:=by
 unfold execOp;rw[ai];simp[resolve,Act.eval,Deferred.ofValue,invoke]
def ar5{ts:ap ce}(J:cy X.aB x=true)(eD:X.jZ f=true)(ai:o.op= .call {callee:=.value (.func f),args:= #[x],argTypes:=ts})(aa:cv ι fr a aO)(hw:bn X ι st w)
 (h:Yw x call fr st= .ok v aC st'):aC=fr∧ca X ι w v st st' (execOp a.eval o):=by
 cases h;refine⟨rfl,ca.same (v':=a.eval x) hw ?_ (aa.af hw J)⟩;rw[Ci ai];simpa using X.DM f eD (a.eval x) w
def arM{y:bi}{ts:ap ce}(J:cy X.aB x=true)(aA:cy X.aB y=true)(eD:X.kl f=true)(ai:o.op= .call {callee:=.value (.func f),args:= #[x,y],argTypes:=ts})(aa:cv ι fr a aO)(hw:bn X ι st w)
 (h:H7 x y call fr st= .ok v aC st'):aC=fr∧ca X ι w v st st' (execOp a.eval o):=by
 obtain⟨s,ae,aG⟩:=oN h (by simp);obtain⟨k,oY,hc,aI⟩:=ji aG (by simp);obtain⟨U,a4⟩:=iC aI (by simp);obtain⟨c,aq,b2⟩:=l2 a4 (by simp);have fi:=sn U;clear h aG aI a4;subst aq fi;have cR:=aa.af hw J;rw[ae]at cR;generalize cp:a.eval x=e7 at cR;have fp:=aa.af hw aA;rw[hc]at fp;generalize fV:a.eval y=qG at fp;cases cR;cases fp;obtain⟨e2,bV,eQ⟩:=uj b2;subst e2 bV eQ;refine⟨rfl,ca.same (v':=.int .i64 (bd (qf (UInt8.ofNat c) s.data.toList) (fun i=>.ofNat i) (.negSucc 0))) hw ?_ (.int _ _)⟩;rw[Ci ai];have:=X.Dh f eD s (c:Int) w;simp only[zcl,zaP,zbW,cp,fV];rw[this];congr 2;have eM:s.size=s.data.toList.length:=(zbl (xs:=s.data)).symm;rw[Wv,eM];have ak3:(fun i:Nat=>s[i]! ==(c:Int).toNat.toUInt8)=(fun i:Nat=>s.data.toList[i]! ==UInt8.ofNat c):=by
  funext i;have:s[i]! =s.data.toList[i]! :=by
   have aq:s[i]! =s.data[i]! :=by
    by_cases hi:i<s.size
    ·rw[getElem!_pos s i hi,getElem!_pos s.data i hi];rfl
    ·rw[getElem!_neg s i hi,getElem!_neg s.data i hi]
   rw[aq];simp[Array.getElem!_eq_getD]
  rw[this];rfl
 rw[ak3];cases(List.range s.data.toList.length).find? (fun i=>s.data.toList[i]! ==UInt8.ofNat c)<;>rfl
def aqT(ts:ap ce)(t:ce)(n c:Nat):Builtin.unsafeSliceData_ ts t #[.slice none n c]=pure (.pointer none):=rfl
def aqU(ts:ap ce)(t:ce)(b:Addr)(n c:Nat)(hc:c≠0):Builtin.unsafeSliceData_ ts t #[.slice (some b) n c]=pure (.pointer (some b)):=by
 have:Builtin.unsafeSliceData_ ts t #[.slice (some b) n c]=(if c≠0 then pure (.pointer (some b))else do
  if(<-viewAt b.block).isSome then pure (.pointer (some b))
  else pure (.pointer (some ⟨<-newObj (.view b (<-elemOf t)),0,none⟩))):=rfl
 rw[this,zab hc]
def ar7(J:cy X.aB x=true)(ai:o.op= .call {callee:=.builtin .unsafeSliceData,args:= #[x],argTypes:= #[t]})(aa:cv ι fr a aO)(hw:bn X ι st w)
 (h:Ib x call fr st= .ok v aC st'):aC=fr∧ca X ι w v st st' (execOp a.eval o):=by
 obtain⟨b,n,c,hp,aG⟩:=uJ h (by simp);have cR:=aa.af hw J;rw[hp]at cR;generalize cp:a.eval x=e7 at cR;cases b with
 |none=>
  cases aG;cases cR;refine⟨rfl,ca.same (v':=.pointer none) hw ?_ .n1⟩;unfold execOp;rw[ai];simp[resolve,invoke,builtin,aqT,cp]
 |some b=>
  have aI:dW c 0 aS.no (aS.ok (.pointer (some b)) fr st)=aS.ok v aC st':=aG;rw[o5]at aI;split at aI
  ·cases aI
  ·rename_i oA;cases aI;cases cR with
   |gD _ l off _ _ hl ae jc=>
    have tJ:off=l.cO+b.off:=by rcases jc with h|⟨_,h,_⟩;exact h;exact absurd h oA
    subst tJ;refine⟨rfl,ca.same (v':=.pointer (some ⟨l.cC,l.cO+b.off,none⟩)) hw ?_ (.ptr _ _ hl ae)⟩;unfold execOp;rw[ai];simp[resolve,invoke,builtin,aqU _ _ _ _ (c+l.ex) (by omega),cp]
def Jd{C:ap be}(h:w.heap[b]? =some (.cells C e a8)):w.shape? b=some (e,C.size):=by simp[World.shape?,h]
def aam(P:d9){ad:Addr}{C:ap be}(h:w.heap[ad.block]? =some (.cells C e a8)):(Conv.seenAt ad).run P w= .ok ad w:=by
 simp[Conv.seenAt,viewAt,Jd h,Result.andThen]
def arz(J:cy X.aB x=true)(ai:o.op= .convert rJ rL x)(ae:X.P.underlying rJ=some (.pointer t))(aN:X.P.underlying rL=some .unsafePointer)(hi:X.P.info? t=some i)(aE:i.size≠0)
 (aa:cv ι fr a aO) (hw:bn X ι st w) (h:H5 x call fr st= .ok v aC st'):aC=fr∧ca X ι w v st st' (execOp a.eval o):=by
 obtain⟨p,hp,aG⟩:=pG h (by simp);obtain⟨ad,aq,aI⟩:=ft aG (by simp);subst aq;obtain⟨vH,cs,elem,a8,aX,aJ,a4⟩:=u6 aI (by simp);obtain⟨aV,b2⟩:=iL a4 (by simp);rw[fs]at aV;cases b2;obtain⟨l,hl,C,eU,hc⟩:=hw.eE _ _ aJ (by simp);have qc:=hc.room;have cR:=aa.af hw J;rw[hp]at cR;generalize cp:a.eval x=e7 at cR;cases cR with
 |ptr _ l' ck eV=>
  rw[hl]at ck;cases ck;refine⟨rfl,ca.same (v':=.pointer (some ⟨l.cC,l.cO+ad.off,none⟩)) hw ?_ (.ptr _ _ hl vH)⟩;unfold execOp;rw[ai];have Mm:¬(C.size<=l.cO+ad.off):=by omega
  simp[cp,convert,run_underlying ae,run_underlying aN,Result.andThen,Conv.unsafePointer,aam X.P (ad:=⟨l.cC,l.cO+ad.off,none⟩) hc.there,cellsIn,Jd hc.there,jL hi,aE,Mm]
def arC(J:cy X.aB x=true)(ai:o.op= .convert rJ rL x)(ae:X.P.underlying rJ=some .unsafePointer)(aN:X.P.underlying rL=some (.pointer t))(hi:X.P.info? t=some i)(aE:i.size≠0)
 (aa:cv ι fr a aO) (hw:bn X ι st w) (h:H6 t i.size x call fr st= .ok v aC st'):aC=fr∧ca X ι w v st st' (execOp a.eval o):=by
 obtain⟨p,hp,aG⟩:=pG h (by simp);obtain⟨ad,aq,aI⟩:=ft aG (by simp);subst aq;obtain⟨vH,cs,elem,a8,aX,aJ,a4⟩:=u6 aI (by simp);obtain⟨vu,b2⟩:=Av a4 (by simp);obtain⟨h0,cx⟩:=lh b2 (by simp);obtain⟨xC,ef⟩:=lh cx (by simp);obtain⟨q5,fR⟩:=lh ef (by simp);rw[fs]at q5;cases fR;subst vu xC;obtain⟨l,hl,C,eU,hc⟩:=hw.eE _ _ aJ (by simp);have fT:=hc.plain rfl;have cR:=aa.af hw J;rw[hp]at cR;generalize cp:a.eval x=e7 at cR;cases cR with
 |ptr _ l' ck eV=>
  rw[hl]at ck;cases ck;have lP:X.P.cellsOf elem=i.size:=by simp[Program.cellsOf,hi]
  have jc:l.cO+ad.off=0:=by omega
  have MF:(variablesAt ⟨l.cC,l.cO+ad.off,none⟩ elem 1).run X.P w= .ok true w:=by
   simp only[variablesAt,Sem.run_bind,run_program,Result.andThen,run_shape,Jd hc.there,Sem.run_pure];rw[W7 X.P elem _ _ 1 (by rw[lP];exact aE) (by rw[jc];simp) (by
    rw[jc,lP,fT.2.2,q5];simp[Nat.div_self (zbc aE)])]
  refine⟨rfl,ca.same (v':=.pointer (some ⟨l.cC,l.cO+ad.off,none⟩)) hw ?_ (.ptr _ _ hl vH)⟩;unfold execOp;rw[ai];simp[cp,convert,run_underlying ae,run_underlying aN,Result.andThen,Conv.unsafePointer,aam X.P (ad:=⟨l.cC,l.cO+ad.off,none⟩) hc.there,jL hi,aE,MF]
end
section
variable{ι:bt}{fr aC:aP}{a:Act}{aO:Nat}{st st':aw}{w:co}{o:Oper}{v:be}{call:bL}
variable{x:bi}{i:f6}
def arB{rJ rL:ce}(J:cy X.aB x=true)(ai:o.op= .convert rJ rL x)(ae:X.P.underlying rJ=some .string)(aN:X.P.underlying rL=some (.slice e))(he:X.P.underlying e=some (.int .u8))
 (hi:X.P.info? e=some i) (aE:i.size=1) (aa:cv ι fr a aO) (hw:bn X ι st w) (h:AH e x call fr st= .ok v aC st'):aC=fr∧s4 X ι w v st st' (execOp a.eval o):=by
 obtain⟨s,hp,aG⟩:=oN h (by simp);obtain⟨hle,aI⟩:=iL aG (by simp);rw[gz]at aI;simp only[fs]at hle aI;cases aI;have cR:=aa.af hw J;rw[hp]at cR;generalize cp:a.eval x=e7 at cR;cases cR;have eM:s.size=s.data.toList.length:=(zbl (xs:=s.data)).symm
 let q:Question:=.appendCap s.size 0 e
 have LW:s.size<=q.cut (w.tape w.drawn q):=by show s.size<=s.size+_;omega
 let C:ap be:=(s.data.map fun b=>Value.int .u8 b.toNat)++Array.replicate (q.cut (w.tape w.drawn q)-s.size) (.int .u8 0)
 have Vo:C.size=q.cut (w.tape w.drawn q):=by
  simp only[C,Array.size_append,Array.size_map,Array.size_replicate];have:s.data.size=s.size:=rfl;omega
 have lP:X.P.cellsOf e=1:=by simp[Program.cellsOf,hi,aE]
 let w':co:={w with drawn:=w.drawn+1,heap:=w.heap.push (.cells C e (C.size,C.size+1))}
 have fU:(execOp a.eval o).run X.P w= .ok (.value (.slice (some ⟨w.heap.size,0,none⟩) s.size (q.cut (w.tape w.drawn q)))) w':=by
  unfold execOp;rw[ai];have alr:(markStringish ⟨w.heap.size,0,none⟩).run X.P {w with drawn:=w.drawn+1,heap:=w.heap.push (.cells C e)}= .ok () w':=by
   simp[markStringish,World.shape?,World.freeze,Result.andThen,w'];apply zdq;intro j;rw[zdX];by_cases hj:w.heap.size=j
   ·subst hj;simp
   ·rw[zaa hj,zcS,zcS,zaa (Ne.symm hj),zaa (Ne.symm hj)]
  simp only[cp,convert,Sem.run_bind,run_underlying ae,run_underlying aN,Result.andThen,run_underlying he,Conv.stringToBytes,run_choose,Question.forced,zbb,if_false,newRow,run_newObj,Sem.run_pure];rw[alr]
 obtain⟨aQ,a2,bw,dr,nS⟩:=hw.HW e (cs:=lb s.data.toList) (cs':=lb s.data.toList) (Pc ι _) (List.replicate (q.cut (w.tape w.drawn q)-s.size) (.int .u8 0)) (q.cut (w.tape w.drawn q)-s.size) (by
  rw[lP];simp) (C.size,C.size+1) (fun j hj=>by
   rw[EG]at hj;simp only[zaN,zbq]at hj;simp only;omega) w' (by
   show w.heap.push (.cells C e (C.size,C.size+1))=_;congr 2;apply Array.ext';rw[EG];simp[C])
 rw[nS]at a2 bw dr;refine⟨rfl,_,_,_,_,w',rfl,by simp,fU,rfl,?_,a2,bw⟩;have:=bk.gD (ι:=hU ι st.ag ⟨w.heap.size,0,q.cut (w.tape w.drawn q)-s.size,id⟩) ⟨st.ag,0,none⟩ ⟨w.heap.size,0,q.cut (w.tape w.drawn q)-s.size,id⟩ 0 s.data.toList.length s.data.toList.length dr rfl (.inl rfl);rw[<-eM]at this⊢;rw[show s.size+(q.cut (w.tape w.drawn q)-s.size)=q.cut (w.tape w.drawn q) by omega]at this;exact this
theorem W8(P:d9)(w:co)(b:Nat)(C:ap be)(e:ce)(a8:Nat×Nat)(h:w.heap[b]? =some (.cells C e a8)):∀(a6:ac Int) (o:Nat) (acc:f5),(C.toList.drop o).take a6.length=a6.map (Value.int .u8)->
 (loadBytes ⟨b,o,none⟩ acc a6.length).run P w= .ok ⟨⟨acc.data.toList++a6.map (fun n=>UInt8.ofNat n.toNat)⟩⟩ w
 |[],o,acc,_=>by simp[loadBytes]
 |n::a6,o,acc,hc=>by
  have kj:C[o]? =some (.int .u8 n):=by
   have:=congrArg (fun l=>l[0]?) hc;simpa using this
  have aV:o<C.toList.length:=by
   have:=(zbk.1 kj).1;simpa using this
  have tN:(C.toList.drop (o+1)).take a6.length=a6.map (Value.int .u8):=by
   rw[hB aV]at hc;simp only[zau,List.take_succ_cons,zaP]at hc;exact(List.cons.inj hc).2
  simp only[zau,loadBytes,Sem.run_bind,run_load,cell_of h,kj,Result.andThen,add_eq];rw[W8 P w b C e a8 h a6 (o+1) _ tN];congr 1;simp[ByteArray.data_push,Nat.toUInt8]
def asg{y:bi}{DX t2:ce}(J:cy X.aB x=true)(aA:cy X.aB y=true)(ai:o.op= .call {callee:=.builtin .unsafeString,args:= #[x,y],argTypes:= #[DX,t2]})(lk:X.P.underlying DX=some (.pointer e))
 (hi:X.P.info? e=some i) (aE:i.size=1) (aa:cv ι fr a aO) (hw:bn X ι st w) (h:Ic e x y call fr st= .ok v aC st'):aC=fr∧jS X ι w v st' (execOp a.eval o):=by
 obtain⟨p,hp,aG⟩:=pG h (by simp);obtain⟨k,sv,hn,aI⟩:=ji aG (by simp);obtain⟨n,aq,a4⟩:=l2 aI (by simp);clear h aG aI;subst aq;have cR:=aa.af hw J;rw[hp]at cR;generalize cp:a.eval x=e7 at cR;have fp:=aa.af hw aA;rw[hn]at fp;generalize fV:a.eval y=qG at fp;cases fp;have lP:X.P.cellsOf e=1:=by simp[Program.cellsOf,hi,aE]
 have tP:∀{v':be} {w':co},(Builtin.unsafeString_ #[DX,t2] o.type #[a.eval x,a.eval y]).run X.P w= .ok v' w'->(execOp a.eval o).run X.P w= .ok (.value v') w':=by
  intro v' w' hr;unfold execOp;rw[ai];simp only[resolve,zcl,zaP,zbW,Sem.run_bind,Sem.run_pure,Result.andThen,invoke,builtin,hr]
 rw[cp,fV]at tP;have GY:¬((n:Int)<0):=by omega
 have ME:∀p:am Addr,∃(eW:String) (g1:RuntimeError) (x5:Unsupported) (vW:RuntimeError) (vX:Unsupported),Builtin.unsafeString_ #[DX,t2] o.type #[.pointer p,.int k (n:Int)]=(do
  let r<-asInt (.int k (n:Int))
  let some e:=(#[DX,t2]:ap ce)[0]? |stuck eW
  if r<0 then runtimePanic g1
  if r>IntKind.i64.max then unsupported x5
  match p with
  |none=>if r=0 then pure (.string .empty)else runtimePanic vW
  |some q=>if r=0 then pure (.string .empty)else if<-variablesAt q (<-elemOf e) r.toNat then do let s<-loadBytes q .empty r.toNat;freeze q r.toNat;pure (.string s)else unsupported vX):=fun p=>⟨default,_,_,_,_,rfl⟩
 rw[o5]at a4;split at a4
 ·rename_i h0;subst h0;cases a4;have CU:¬(((0:Nat):Int)>IntKind.i64.max):=by decide
  cases cR with
  |n1=>
   refine⟨rfl,jS.same (v':=.string .empty) hw (tP ?_) (.string _)⟩;obtain⟨eW,g1,x5,vW,vX,hu⟩:=ME _;rw[hu];simp[asInt,asIntOf]
  |ptr ad l hl ae=>
   refine⟨rfl,jS.same (v':=.string .empty) hw (tP ?_) (.string _)⟩;obtain⟨eW,g1,x5,vW,vX,hu⟩:=ME _;rw[hu];simp[asInt,asIntOf]
 ·rename_i h0;obtain⟨ad,aq,b2⟩:=ft a4 (by simp);subst aq;obtain⟨VY,cx⟩:=iL b2 (by simp);obtain⟨vH,cs,el,a8,aX,aJ,ef⟩:=u6 cx (by simp);obtain⟨p6,fR⟩:=iL ef (by simp);obtain⟨xC,o8⟩:=lh fR (by simp);obtain⟨hlen,tp⟩:=va o8 (by simp);obtain⟨bS,hb,vl⟩:=ft tp (by simp);rw[j5]at vl;cases vl;clear a4 b2 cx ef fR o8 tp;subst xC;obtain⟨l,hl,C,eU,hc⟩:=hw.eE _ _ aJ (by simp);have qc:=hc.room;obtain⟨a6,aq,e2⟩:=KC hb;have avd:n<=1099511627776:=VY;rw[zaE]at hlen;cases cR with
  |ptr _ l' ck eV=>
   rw[hl]at ck;cases ck;have jX:=hc.row ad.off n (by rw[zaE];exact hlen);have eL:(C.toList.drop (l.cO+ad.off)).take n=a6.map (Value.int .u8):=by
    rw[aq]at jX;have key:∀(a6:ac Int) (ao:ac be),bM ι (a6.map (Value.int .u8)) ao->ao=a6.map (Value.int .u8):=by
     intro a6
     induction a6 with
     |nil=>intro ao aA;rw[aA.v5];rfl
     |cons m ms aZ=>
      intro ao aA;obtain⟨y,jk,rfl,h1,h2⟩:=aA.cons_inv;cases h1;rw[aZ jk h2];rfl
    exact key a6 _ jX
   have p8:a6.length=n:=by
    have:=congrArg List.length aq;simp at this;omega
   have z0:=W8 X.P w l.cC C el eU hc.there a6 (l.cO+ad.off) .empty (by rw[p8];exact eL);rw[p8]at z0;have MF:(variablesAt ⟨l.cC,l.cO+ad.off,none⟩ el n).run X.P w= .ok true w:=by
    simp only[variablesAt,Sem.run_bind,run_program,Result.andThen,run_shape,Jd hc.there,Sem.run_pure];rw[W7 X.P el _ _ n (by rw[lP];omega) (by rw[lP];omega) (by rw[lP];simp;omega)]
   have cU:=(zbk.1 hc.there).1
   let Gi:Nat×Nat:=if eU.1==eU.2 then(l.cO+ad.off,l.cO+ad.off+n)else(min eU.1 (l.cO+ad.off),max eU.2 (l.cO+ad.off+n))
   have GI:(w.freeze ⟨l.cC,l.cO+ad.off,none⟩ n).heap=w.heap.setIfInBounds l.cC (.cells C el Gi):=by
    simp only[World.freeze,zaa h0];apply zdq;intro j;rw[zdX];by_cases jz:l.cC=j
    ·subst jz;rw[zab rfl,hc.there,zdW];simp[cU,Gi]
    ·rw[zaa jz,zbA jz]
   obtain⟨t1,t2⟩:=bn.uH X hw aJ (by simp) (fun aa=>by have:=aa.2;omega) hl (.cells cs el (ad.off,Nat.add ad.off n) aX) _ (w.freeze ⟨l.cC,l.cO+ad.off,none⟩ n) GI (fun _ aN=>⟨C,Gi,⟨aN,hc.room,hc.cell,fun ei=>by
    exfalso;have:ad.off+n<=ad.off:=ei;omega,hc.plain⟩⟩) (by constructor<;>simp only[World.freeze,zaa h0])
   refine⟨rfl,ι,.value (.string ⟨⟨bS⟩⟩),_,tP ?_,.inl ⟨_,rfl,.string _⟩,t1,t2⟩;obtain⟨eW,g1,x5,vW,vX,hu⟩:=ME _;rw[hu];have h3:¬((n:Int)>IntKind.i64.max):=by
    have:IntKind.i64.max=9223372036854775807:=by decide
    rw[this];omega
   have au:¬((n:Int)=0):=by omega
   simp only[asInt,asIntOf,Sem.run_bind,Sem.run_pure,Result.andThen,zcw,zcx,zaa GY,zaa h3,zaa au,elemOf,run_underlying lk,MF,zbX,if_true,z0,run_freeze];rw[e2];simp
end
section
variable{ι:bt}{fr aC:aP}{a:Act}{aO:Nat}{st st':aw}{w:co}{o:Oper}{v:be}{call:bL}
variable{t:ce}{x y en ld:be}
def vN:bi->Bool
 |.const _=>true
 |_=>false
def aga{neg:Bool}{yX:ce}{x y:bi}{b:Bool}(ai:o.op= .binOp (if neg then .neq else .eql) t x y yX)
 (aJ:(eqGuard (if neg then .neq else .eql) t x y (a.eval x) (a.eval y)).run X.P w= .ok () w)
 (hb:∀op:BinOp,op= .eql∨op= .neq->binOp op t (a.eval x) (a.eval y)=(if op= .eql then do pure (.bool (<-Op.equal t (a.eval x) (a.eval y)))else do pure (.bool (!(<-Op.equal t (a.eval x) (a.eval y))))))
 (he:(Op.equal t (a.eval x) (a.eval y)).run X.P w= .ok b w):(execOp a.eval o).run X.P w= .ok (.value (.bool (cond neg (!b) b))) w:=by
 unfold execOp;rw[ai];simp only[Sem.run_bind,aJ,Result.andThen];cases neg
 ·simp only[zbb,if_false];rw[hb .eql (.inl rfl),zab rfl];simp[he,Result.andThen]
 ·simp only[if_true];rw[hb .neq (.inr rfl),zaa (by simp)];simp[he,Result.andThen]
def afQ(hu:P.underlying t=some .bool)(d:Nat)(x y:Bool):(Op.equalIn (d+1) t (.bool x) (.bool y)).run P w= .ok (x==y) w:=by
 simp[Op.equalIn,run_underlying hu,Result.andThen]
def afU{b:Bool}(n:Nat)(J:bk ι x en)(aA:bk ι y ld)(h:o6 x y=some b)(hu:X.P.underlying t=some (.slice e)):
 (Op.equalIn (n+1) t en ld).run X.P w= .ok b w:=by
 unfold o6 at h;split at h
 ·cases h;cases J;cases aA<;>simp[Op.equalIn,run_underlying hu,Result.andThen]
 ·cases h;cases J;cases aA;simp[Op.equalIn,run_underlying hu,Result.andThen]
 ·cases h;cases J;cases aA;simp[Op.equalIn,run_underlying hu,Result.andThen]
 ·cases h
def afT{b:Bool}{k:ce}(n:Nat)(J:bk ι x en)(aA:bk ι y ld)(h:Ce x y=some b)(hu:X.P.underlying t=some (.map k e)):
 (Op.equalIn (n+1) t en ld).run X.P w= .ok b w:=by
 unfold Ce at h;split at h
 ·cases h;cases J;cases aA<;>simp[Op.equalIn,run_underlying hu,Result.andThen]
 ·cases h;cases J;cases aA;simp[Op.equalIn,run_underlying hu,Result.andThen]
 ·cases h
def afR{b:Bool}{p q:ap ce}{r:Bool}(n:Nat)(J:bk ι x en)(aA:bk ι y ld)(h:zF x y=some b)(hu:X.P.underlying t=some (.func p q r)):
 (Op.equalIn (n+1) t en ld).run X.P w= .ok b w:=by
 unfold zF at h;split at h
 ·cases h;cases J;cases aA;simp[Op.equalIn,run_underlying hu,Result.andThen]
 ·cases h;cases J;cases aA;simp[Op.equalIn,run_underlying hu,Result.andThen]
 ·cases h;cases J;cases aA;simp[Op.equalIn,run_underlying hu,Result.andThen]
 ·cases h
def afS{b:Bool}{ms:ap (String×ce)}(n:Nat)(J:bk ι x en)(aA:bk ι y ld)(h:Cd x y=some b)(hu:X.P.underlying t=some (.interface ms)):
 (Op.equalIn (n+1) t en ld).run X.P w= .ok b w:=by
 unfold Cd at h;split at h
 ·cases h;cases J;cases aA;simp[Op.equalIn,run_underlying hu,Result.andThen]
 ·cases h;cases J;cases aA;simp[Op.equalIn,run_underlying hu,Result.andThen]
 ·cases h;cases J;cases aA;simp[Op.equalIn,run_underlying hu,Result.andThen]
 ·cases h
def afV{b:Bool}{i:f6}(n:Nat)(J:bk ι x en)(aA:bk ι y ld)(h:r3 x y=some b)(hu:X.P.underlying t=some (.pointer e))(hi:X.P.info? e=some i)(aE:i.size≠0):
 (Op.equalIn (n+1) t en ld).run X.P w= .ok b w:=by
 unfold r3 at h;split at h
 ·cases h;cases J;cases aA<;>simp[Op.equalIn,run_underlying hu,Result.andThen]
 ·cases h;cases J;cases aA;simp[Op.equalIn,run_underlying hu,Result.andThen]
 ·split at h
  ·rename_i p q hc;cases h;cases J with
   |ptr _ l hl ae=>
    cases aA with
    |ptr _ g8 mw ln=>
     rw[hc.1,mw]at hl;cases hl;simp[Op.equalIn,run_underlying hu,jL hi,aE,sameAddr,Result.andThen];rw[zaZ];simp
  ·cases h
 ·cases h
inductive uR(P:Program)(t:TypeId)(x y:Operand):oP->Prop
 |sC (h:P.underlying t=some .bool):uR P t x y .sC
 |kF (e:TypeId) (h:P.underlying t=some (.slice e)):uR P t x y .kF
 |yg (k e:TypeId) (h:P.underlying t=some (.map k e)):uR P t x y .yg
 |v3 (p q:Array TypeId) (r:Bool) (h:P.underlying t=some (.func p q r)):uR P t x y .v3
 |yf (ms:Array (String×TypeId)) (h:P.underlying t=some (.interface ms)) (hc:vN x=true∨vN y=true):uR P t x y .yf
 |ptr (e:TypeId) (i:TypeInfo) (h:P.underlying t=some (.pointer e)) (hi:P.info? e=some i) (aE:i.size≠0):uR P t x y .ptr
def afP(P:d9)(op:BinOp)(t:ce)(x y:bi)(hc:vN x=true∨vN y=true):(eqGuard op t x y .nilIface .nilIface).run P w= .ok () w:=by
 rcases hc with hc|hc
 ·cases x<;>simp[vN]at hc;cases op<;>simp[eqGuard]
 ·cases y<;>simp[vN]at hc;cases op<;>cases x<;>simp[eqGuard]
def arF{neg:Bool}{e:oP}{yX:ce}{x y:bi}(J:cy X.aB x=true)(aA:cy X.aB y=true)(ai:o.op= .binOp (if neg then .neq else .eql) t x y yX)(bI:uR X.P t x y e)
 (aa:cv ι fr a aO) (hw:bn X ι st w) (h:Yi neg e x y call fr st= .ok v aC st'):aC=fr∧ca X ι w v st st' (execOp a.eval o):=by
 obtain⟨b,hb,g⟩:=ft h (by simp);have cR:=aa.af hw J;have fp:=aa.af hw aA;obtain⟨aq,e2,bV⟩:=uj g;subst aq e2 bV;clear g h;generalize cp:a.eval x=e7 at cR;generalize fV:a.eval y=qG at fp;have key:∀(_:(Op.equal t e7 qG).run X.P w= .ok b w) (_:(eqGuard (if neg then .neq else .eql) t x y e7 qG).run X.P w= .ok () w)
  (_:∀op:BinOp,op= .eql∨op= .neq->binOp op t e7 qG=(if op= .eql then do pure (.bool (<-Op.equal t e7 qG))else do pure (.bool (!(<-Op.equal t e7 qG))))),
  fr=fr∧ca X ι w (.bool (cond neg (!b) b)) st st (execOp a.eval o):=by
  intro h1 h2 h3;exact⟨rfl,ca.same (v':=.bool (cond neg (!b) b)) hw (aga ai (by rw[cp,fV];exact h2) (by rw[cp,fV];exact h3) (by rw[cp,fV];exact h1)) (.bool _)⟩
 cases bI with
 |sC hu=>
  have cU:zG (fr.af x) (fr.af y)=some b:=hb;generalize fr.af x=Cp at cU cR;generalize fr.af y=Cq at cU fp;unfold zG at cU;split at cU
  ·cases cU;cases cR;cases fp;exact key (afQ hu 9999 _ _) (by cases neg<;>simp[eqGuard]) (by intro op dq;rcases dq with rfl|rfl<;>rfl)
  ·split at cU
   ·cases cU;cases cR;cases fp;rename_i a2 mF bw jf U;subst U;refine⟨rfl,ca.same (v':=.bool (cond neg (!(mF==jf)) (mF==jf))) hw ?_ (.bool _)⟩;unfold execOp;rw[ai];cases neg<;>simp[cp,fV,eqGuard,binOp,Op.intCmp]<;>rfl
   ·cases cU
  ·cases cU;cases cR;cases fp;rename_i s1 s2;refine⟨rfl,ca.same (v':=.bool (cond neg (!(s1.data.toList==s2.data.toList)) (s1.data.toList==s2.data.toList))) hw ?_ (.bool _)⟩;unfold execOp;rw[ai];cases neg<;>simp only[cp,fV,Sem.run_bind,zbb,if_false,if_true,FY,Result.andThen,binOp,Op.stringOp,toList_eq]<;>rfl
  ·cases cU
 |kF e hu=>
  have cU:o6 (fr.af x) (fr.af y)=some b:=hb;have h1:=afU (w:=w) 9999 cR fp cU hu;generalize fr.af x=Cp at cU cR;generalize fr.af y=Cq at cU fp;unfold o6 at cU;split at cU<;>first|(cases cU;done)|(cases cU;cases cR;cases fp<;>exact key h1 (by cases neg<;>simp[eqGuard]) (by intro op dq;rcases dq with rfl|rfl<;>rfl))
 |yg k e hu=>
  have cU:Ce (fr.af x) (fr.af y)=some b:=hb;have h1:=afT (w:=w) 9999 cR fp cU hu;generalize fr.af x=Cp at cU cR;generalize fr.af y=Cq at cU fp;unfold Ce at cU;split at cU<;>first|(cases cU;done)|(cases cU;cases cR;cases fp<;>exact key h1 (by cases neg<;>simp[eqGuard]) (by intro op dq;rcases dq with rfl|rfl<;>rfl))
 |v3 p q r hu=>
  have cU:zF (fr.af x) (fr.af y)=some b:=hb;have h1:=afR (w:=w) 9999 cR fp cU hu;generalize fr.af x=Cp at cU cR;generalize fr.af y=Cq at cU fp;unfold zF at cU;split at cU<;>first|(cases cU;done)|(cases cU;cases cR;cases fp;exact key h1 (by cases neg<;>simp[eqGuard]) (by intro op dq;rcases dq with rfl|rfl<;>rfl))
 |yf ms hu hc=>
  have cU:Cd (fr.af x) (fr.af y)=some b:=hb;have h1:=afS (w:=w) 9999 cR fp cU hu;generalize fr.af x=Cp at cU cR;generalize fr.af y=Cq at cU fp;unfold Cd at cU;split at cU
  ·cases cU;cases cR;cases fp;exact key h1 (afP X.P _ t x y hc) (by intro op dq;rcases dq with rfl|rfl<;>rfl)
  ·cases cU;cases cR;cases fp;exact key h1 (by cases neg<;>simp[eqGuard]) (by intro op dq;rcases dq with rfl|rfl<;>rfl)
  ·cases cU;cases cR;cases fp;exact key h1 (by cases neg<;>simp[eqGuard]) (by intro op dq;rcases dq with rfl|rfl<;>rfl)
  ·cases cU
 |ptr e i hu hi aE=>
  have cU:r3 (fr.af x) (fr.af y)=some b:=hb;have h1:=afV (w:=w) 9999 cR fp cU hu hi aE;generalize fr.af x=Cp at cU cR;generalize fr.af y=Cq at cU fp;unfold r3 at cU;split at cU
  ·cases cU;cases cR;cases fp<;>exact key h1 (by cases neg<;>simp[eqGuard]) (by intro op dq;rcases dq with rfl|rfl<;>rfl)
  ·cases cU;cases cR;cases fp;exact key h1 (by cases neg<;>simp[eqGuard]) (by intro op dq;rcases dq with rfl|rfl<;>rfl)
  ·cases cR;cases fp;exact key h1 (by cases neg<;>simp[eqGuard]) (by intro op dq;rcases dq with rfl|rfl<;>rfl)
  ·cases cU
end
end Go.aj
namespace Go.aj
variable{a b:bi}{aB:Nat}
def NV:bi->bi->Bool
 |.tmp a,.tmp b=>Nat.beq a b
 |.const v,.const w=>dA v w
 |.global a,.global b=>Nat.beq a b
 |.func a,.func b=>Nat.beq a b
 |_,_=>false
def ao1(h:NV a b=true):a=b:=by
 cases a<;>cases b<;>simp only[NV]at h<;>first|(cases h;done)|(rw[ek h])|(rw[nt _ _ h])
def bW(aB:Nat)(a b:bi):Bool:=NV a b&&cy aB b
def cN(h:bW aB a b=true):a=b∧cy aB b=true:=by
 unfold bW at h;rw[bX]at h;exact⟨ao1 h.1,h.2⟩
def j2(aB:Nat):ac bi->ac bi->Bool
 |[],[]=>true
 |a::as,b::bS=>bW aB a b&&j2 aB as bS
 |_,_=>false
theorem qt{aB:Nat}:∀{as bS:ac bi},j2 aB as bS=true->as=bS∧∀x∈bS,cy aB x=true
 |[],[],_=>⟨rfl,by simp⟩
 |a::as,b::bS,h=>by
  simp only[j2,bX]at h;obtain⟨h1,h2⟩:=cN h.1;obtain⟨h3,au⟩:=qt h.2;exact⟨by rw[h1,h3],fun x J=>by rcases zao.1 J with rfl|J;exact h2;exact au x J⟩
 |[],_::_,h=>by simp[j2]at h
 |_::_,[],h=>by simp[j2]at h
def l6(aB:Nat):am bi->am bi->Bool
 |none,none=>true
 |some a,some b=>bW aB a b
 |_,_=>false
def we{a b:am bi}(h:l6 aB a b=true):a=b∧∀y,b=some y->cy aB y=true:=by
 cases a<;>cases b<;>simp only[l6]at h<;>first|(cases h;done)|skip
 ·exact⟨rfl,by simp⟩
 ·obtain⟨h1,h2⟩:=cN h;exact⟨by rw[h1],fun y aA=>by cases aA;exact h2⟩
def rB(aB:Nat)(place:Nat->am (Nat×Nat)):ac (Nat×Nat×bi)->ac (Nat×bi)->Bool
 |[],[]=>true
 |(off,a7,x)::ps,(i,y)::da=>
  (match place i with
   |some (o,s)=>Nat.beq off o&&Nat.beq a7 s
   |none=>false)&&bW aB x y&&rB aB place ps da
 |_,_=>false
theorem Ii{aB:Nat}{place:Nat->am (Nat×Nat)}:∀{ps:ac (Nat×Nat×bi)} {da:ac (Nat×bi)},rB aB place ps da=true->
 ps=da.map (fun p=>(((place p.1).getD (0,0)).1,((place p.1).getD (0,0)).2,p.2))∧∀p∈da,(place p.1).isSome∧cy aB p.2=true
 |[],[],_=>⟨rfl,by simp⟩
 |(off,a7,x)::ps,(i,y)::da,h=>by
  simp only[rB,bX]at h;obtain⟨⟨h1,h2⟩,h3⟩:=h;obtain⟨aq,e2⟩:=cN h2;obtain⟨f1,f2⟩:=Ii h3;cases hp:place i with
  |none=>rw[hp]at h1;cases h1
  |some q=>
   obtain⟨o,s⟩:=q;rw[hp]at h1;simp only[bX]at h1;have fN:=ek h1.1;have gY:=ek h1.2;refine⟨by rw[f1,aq,fN,gY];simp[hp],fun p lk=> ?_⟩;rcases zao.1 lk with rfl|lk
   ·exact⟨by simp[hp],e2⟩
   ·exact f2 p lk
 |[],_::_,h=>by simp[rB]at h
 |_::_,[],h=>by simp[rB]at h
section
def sr(P:d9)(t:Nat)(name:String)(g:ci):Bool:=
 match P.info? t,P.underlying t,P.funcs[g]? with
 |some i,some d,some fn=>fn.body.isSome&& !(fn.name== "runtime.NumGoroutine")&&(match i.methods.find? (·.name==name)with
  |some m=>m.path.toList.isEmpty&&(match m.func with
   |some (f,ptr)=>Nat.beq f g&&(match d with|.pointer _=>ptr|_=> !ptr)
   |none=>false)
  |none=>false)
 |_,_,_=>false
variable(P:d9)(aB:Nat)(jZ kl:ci->Bool)(keys:ce->am fL)(pT:ci->Bool)(eqs:ce->am Nat)(qg:ci->Bool)(l0:Nat)(qn:ci->am ce)
def pK(t:ce):am Bool:=(P.underlying t).map qL
def gB(t:ce):am Nat:=(P.info? t).map (·.size)
def rS(t:ce):am be:=(P.info? t).bind (·.zero)
def F1(t:ce)(e:oP)(x y:bi):Bool:=
 match e,P.underlying t with
 |.sC,some .bool=>true
 |.kF,some (.slice _)=>true
 |.yg,some (.map _ _)=>true
 |.v3,some (.func _ _ _)=>true
 |.yf,some (.interface _)=>vN x||vN y
 |.ptr,some (.pointer el)=>match gB P el with
  |some n=> !Nat.beq n 0
  |none=>false
 |_,_=>false
def afX{t:ce}{e:oP}{x y:bi}(h:F1 P t e x y=true):uR P t x y e:=by
 unfold F1 at h;split at h
 ·rename_i hu;exact .sC hu
 ·rename_i hu;exact .kF _ hu
 ·rename_i hu;exact .yg _ _ hu
 ·rename_i hu;exact .v3 _ _ _ hu
 ·rename_i hu;exact .yf _ hu (by simpa using h)
 ·rename_i hu;split at h
  ·rename_i n hn;unfold gB at hn;obtain⟨i,hi,e⟩:=zbm.1 hn;refine .ptr _ i hu hi ?_;intro aE;rw[<-e,aE]at h;simp at h
  ·cases h
 ·cases h
def M0:fL->fL->Bool
 |.int k,.int k'=>decide (k=k')
 |.str,.str=>true
 |.arr k n,.arr k' b0=>decide (k=k')&&Nat.beq n b0
 |_,_=>false
def Dp(t:ce)(c4:fL):Bool:=
 match P.underlying t with
 |some (.map fg _)=>(match keys fg with|some WS=>M0 c4 WS|none=>false)
 |_=>false
def Pz(op:Op)(y:u0):Bool:=
 match y,op with
 |.look c4 z ok m k,.lookup t fj k' mG=>bW aB m fj&&bW aB k k'&&(ok==mG)&&Dp P keys t c4&&
  (match P.underlying t with|some (.map _ e)=>(match rS P e with|some v=>dA z v&&j8 z|none=>false)|_=>false)
 |.gP c4 m k v,.mapUpdate t fj k' v'|.gP c4 m k v,.insert t fj k' v'=>bW aB m fj&&bW aB k k'&&bW aB v v'&&Dp P keys t c4
 |.del c4 m k,.call {callee:=.builtin .delete,args:=⟨[fj,k']⟩,argTypes:=⟨[t,_]⟩}=>bW aB m fj&&bW aB k k'&&Dp P keys t c4
 |.Aq m,.call {callee:=.builtin .len,args:=⟨[fj]⟩,argTypes:=⟨[t]⟩}=>bW aB m fj&&(match P.underlying t with|some (.map _ _)=>true|_=>false)
 |.Ar m,.range t fj=>bW aB m fj&&(match P.underlying t with|some (.map _ _)=>true|_=>false)
 |.Ao i,.entry iv=>bW aB i iv
 |.ui i,.next iv false=>bW aB i iv
 |.A9 m,.range t fj=>bW aB m fj&&(match P.underlying t with|some .string=>true|_=>false)
 |.A8 i,.next iv true=>bW aB i iv
 |.Ap e a,.call {callee:=.value (.func f),args:=⟨[b]⟩,.. }=>bW aB a b&&(match qn f with|some cj=>Nat.beq e cj|none=>false)
 |.zm a,.call {callee:=.builtin .cap,args:=⟨[b]⟩,argTypes:=⟨[t]⟩}=>bW aB a b&&(match P.underlying t with|some (.slice _)=>true|_=>false)
 |.xa gt a b,.binOp bf t a' dN _=>decide (bf=(if gt then .gtr else .leq))&&bW aB a a'&&bW aB b dN&&(match P.underlying t with|some (.int .i64)=>true|_=>false)
 |.idxs g a c,.call {callee:=.value (.func f),args:=⟨[b,d]⟩,.. }=>bW aB a b&&bW aB c d&&qg f&&Nat.beq g l0
 |.bb a c,.call {callee:=.value (.func f),args:=⟨[b,d]⟩,.. }=>bW aB a b&&bW aB c d&&pT f
 |.qV neg n a b,.binOp bf t a' dN _=>decide (bf=(if neg then .neq else .eql))&&bW aB a a'&&bW aB b dN&&(match eqs t with|some b0=>Nat.beq n b0|none=>false)
 |_,_=>false
def aut(op:Op)(x:c7):Bool:=
 match x,op with
 |.l1 a,.move b|.l1 a,.assign b=>bW aB a b
 |.pick c a b,.pick bT a' dN=>bW aB c bT&&bW aB a a'&&bW aB b dN
 |.alloc z e,.alloc t=>Nat.beq e t&&(match rS P t with|some v=>lE z v.cells.toList&&mT z|none=>false)
 |.box e a,.box t b=>Nat.beq e t&&bW aB a b
 |.build z ps,.build t parts=>
  (match rS P t with|some v=>lE z v.cells.toList&&mT z|none=>false)&&
  (match P.underlying t with
   |some (.struct fields)=>fields.toList.all (fun f=>(P.info? f.type).isSome)&&rB aB (fun j=>(fields.map fun f=>(f.offset,P.cellsOf f.type))[j]?) ps parts.toList
   |some (.array _ e)=>(match gB P e with|some s=>rB aB (fun j=>some (j*s,s)) ps parts.toList|none=>false)
   |_=>false)
 |.oX e n z ps,.buildSlice t m parts=>
  Nat.beq n m&&(match P.underlying t with
   |some (.slice el)=>Nat.beq e el&&(match gB P el,rS P el with
    |some s,some v=>Nat.ble (m*s) (2^24)&&lE z ((List.range (m*s)).map (fun j=>(if m*s=0 then(#[]:ap be)else v.cells)[j%(if m*s=0 then(#[]:ap be)else v.cells).size]!))&&mT z&&
     rB aB (fun j=>some (j*s,s)) ps parts.toList
    |_,_=>false)
   |_=>false)
 |.lZ a,.load t b=>bW aB a b&&(match pK P t with|some g=> !g|none=>false)
 |.qk n a,.load t b=>bW aB a b&&(match pK P t,gB P t with|some g,some s=>g&&Nat.beq n s|_,_=>false)
 |.store n a x,.store t b y=>bW aB a b&&bW aB x y&&(match gB P t with|some s=>Nat.beq n s|none=>false)
 |.sw a,.nilCheck b=>bW aB a b
 |.HX name hz a,.nilCheck b=>bW aB a b&&hz.all (fun p=>sr P p.1 name p.2)
 |.bin o a b,.binOp bf _ a' dN _=>decide (o=bf)&&bW aB a a'&&bW aB b dN
 |.eqv neg e a b,.binOp bf t a' dN _=>decide (bf=(if neg then .neq else .eql))&&bW aB a a'&&bW aB b dN&&F1 P t e a' dN
 |.un o a,.unOp bf _ b=>decide (o=bf)&&bW aB a b
 |.tb k a,.convert s t b=>bW aB a b&&(match P.underlying s,P.underlying t with|some _,some (.int k')=>decide (k=k')|_,_=>false)
 |.w7 a,.convert s t b=>bW aB a b&&(match P.underlying s,P.underlying t with|some _,some .string=>true|_,_=>false)
 |.zn a,.convert s t b=>bW aB a b&&(match P.underlying s,P.underlying t with|some (.slice e),some .string=>(match P.underlying e with|some (.int .u8)=>true|_=>false)|_,_=>false)
 |.u9 e a,.convert s t b=>bW aB a b&&(match P.underlying s,P.underlying t with|some .string,some (.slice cj)=>Nat.beq e cj&&(match P.underlying cj,gB P cj with|some (.int .u8),some 1=>true|_,_=>false)|_,_=>false)
 |.HJ t a,.makeInterface hk b=>Nat.beq t hk&&bW aB a b&&(match P.underlying hk with|some (.interface _)=>false|some _=>true|none=>false)
 |.uc (.func f) a c,.makeFunc (.func g) b d=>Nat.beq f g&&j2 aB a b.toList&&j2 aB c d.toList
 |.uc (.method f) a c,.makeFunc (.method g) b d=>f==g&&j2 aB a b.toList&&j2 aB c d.toList
 |.po e bS z l c,.makeSlice t l' bT=>bW aB l l'&&bW aB c bT&&(match P.underlying t with
  |some (.slice el)=>Nat.beq e el&&(match P.info? el with
   |some i=>Nat.beq bS i.bytes&& !Nat.beq i.size 0&&(match i.zero with|some v=>lE z v.cells.toList&&mT z&&Nat.beq v.cells.toList.length i.size|none=>false)
   |none=>false)
  |_=>false)
 |.sL a aM hi,.slice t b rq ec none=>bW aB a b&&l6 aB aM rq&&l6 aB hi ec&&(match P.underlying t with|some .string=>true|_=>false)
 |.A7 n s a aM hi eX,.slice t b rq ec pq=>bW aB a b&&l6 aB aM rq&&l6 aB hi ec&&l6 aB eX pq&&(pq.isNone||ec.isSome)&&
  (match P.underlying t with|some (.array b0 e)=>Nat.beq n b0&&(match gB P e with|some bm=>Nat.beq s bm|none=>false)|_=>false)
 |.nm s a aM hi eX,.slice t b rq ec pq=>bW aB a b&&l6 aB aM rq&&l6 aB hi ec&&l6 aB eX pq&&(pq.isNone||ec.isSome)&&
  (match P.underlying t with|some (.slice e)=>(match gB P e with|some bm=>Nat.beq s bm|none=>false)|_=>false)
 |.xp off a,.fieldAddr t b f=>bW aB a b&&(match P.underlying t with
  |some (.struct fields)=>(match fields[f]? with|some fd=>Nat.beq off fd.offset&&(match gB P fd.type with|some s=> !Nat.beq s 0|none=>false)|none=>false)
  |_=>false)
 |.o7 off a7 hF a,.field t b f=>bW aB a b&&(match P.underlying t with
  |some (.struct fields)=>(match fields[f]? with|some fd=>Nat.beq off fd.offset&&(match gB P fd.type,pK P fd.type with|some s,some g=>Nat.beq a7 s&&(hF==g)|_,_=>false)|none=>false)
  |_=>false)
 |.si n a7 a i,.indexAddr t b j=>bW aB a b&&bW aB i j&&(match P.underlying t with|some (.array b0 e)=>Nat.beq n b0&&(match gB P e with|some s=>Nat.beq a7 s|none=>false)|_=>false)
 |.lW a7 a i,.indexAddr t b j=>bW aB a b&&bW aB i j&&(match P.underlying t with|some (.slice e)=>(match gB P e with|some s=>Nat.beq a7 s|none=>false)|_=>false)
 |.tU a i,.index t b j=>bW aB a b&&bW aB i j&&(match P.underlying t with|some .string=>true|_=>false)
 |.Hq n a7 hF a i,.index t b j=>bW aB a b&&bW aB i j&&(match P.underlying t with|some (.array b0 e)=>Nat.beq n b0&&(match gB P e,pK P e with|some s,some g=>Nat.beq a7 s&&(hF==g)|_,_=>false)|_=>false)
 |.Jv t z ok a,.typeAssert b _ hk mG=>bW aB a b&&Nat.beq t hk&&(ok==mG)&&(match P.underlying hk with|some (.interface _)=>false|some _=>true|none=>false)&&(match rS P hk with|some v=>dA z v&&j8 z|none=>false)
 |.xo a i,.extract b j=>bW aB a b&&Nat.beq i j
 |.call f as,.call {callee:=.value g,args,.. }=>bW aB f g&&j2 aB as args.toList&&(match g with|.func k=>((P.funcs[k]?).map (fun fn=>fn.body.isSome&& !(fn.name== "runtime.NumGoroutine"))).getD false|_=>true)
 |.inv hz f as,.call {callee:=.invoke g name,args,.. }=>bW aB f g&&j2 aB as args.toList&&hz.all (fun p=>sr P p.1 name p.2)
 |.oE a,.call {callee:=.builtin .len,args:=⟨[b]⟩,argTypes:=⟨[t]⟩}=>bW aB a b&&(match P.underlying t with|some (.slice _)=>true|_=>false)
 |.tY a,.call {callee:=.builtin .len,args:=⟨[b]⟩,argTypes:=⟨[t]⟩}=>bW aB a b&&(match P.underlying t with|some .string=>true|_=>false)
 |.x2 n,.call {callee:=.builtin .len,args:=⟨[_]⟩,argTypes:=⟨[t]⟩}=>(match P.underlying t with|some (.array m _)=>Nat.beq n m|some (.pointer u)=>(match P.underlying u with|some (.array m _)=>Nat.beq n m|_=>false)|_=>false)
 |.app e a7 bS s a,.call {callee:=.builtin .append,args:=⟨[bm,b]⟩,argTypes:=⟨[t,u]⟩}=>bW aB s bm&&bW aB a b&&(match P.underlying t,P.underlying u with
  |some (.slice el),some d=>Nat.beq e el&&(match d with|.int _=>false|_=>true)&&(match P.info? el with
   |some i=>Nat.beq a7 i.size&&Nat.beq bS i.bytes&&(match i.zero with|some v=>Nat.beq v.cells.size i.size|none=>false)
   |none=>false)
  |_,_=>false)
 |.eX a as,.call {callee:=.builtin .max,args:=⟨b::bS⟩,.. }=>bW aB a b&&j2 aB as bS
 |.yb a as,.call {callee:=.builtin .min,args:=⟨b::bS⟩,.. }=>bW aB a b&&j2 aB as bS
 |.qR a7 d s,.call {callee:=.builtin .copy,args:=⟨[kf,bm]⟩,argTypes:=⟨[t,_]⟩}=>bW aB d kf&&bW aB s bm&&(match P.underlying t with|some (.slice e)=>(match gB P e with|some n=>Nat.beq a7 n|none=>false)|_=>false)
 |.wB,.call {callee:=.builtin .recover,args:=⟨[]⟩,.. }=>true
 |.qS f as,.defer {callee:=.value g,args,.. }=>bW aB f g&&j2 aB as args.toList
 |.rC a,.panic b=>bW aB a b
 |.BW a,.convert s t b=>bW aB a b&&(match P.underlying s,P.underlying t with|some (.pointer e),some .unsafePointer=>(match gB P e with|some n=> !Nat.beq n 0|none=>false)|_,_=>false)
 |.BX e n a,.convert s t b=>bW aB a b&&(match P.underlying s,P.underlying t with|some .unsafePointer,some (.pointer cj)=>Nat.beq e cj&&(match gB P cj with|some m=>Nat.beq n m&& !Nat.beq m 0|none=>false)|_,_=>false)
 |.A1 a,.call {callee:=.builtin .unsafeSliceData,args:=⟨[b]⟩,argTypes:=⟨[_]⟩}=>bW aB a b
 |.sO e a n,.call {callee:=.builtin .unsafeString,args:=⟨[b,m]⟩,argTypes:=⟨[t,_]⟩}=>bW aB a b&&bW aB n m&&(match P.underlying t with|some (.pointer cj)=>Nat.beq e cj&&(match gB P cj with|some 1=>true|_=>false)|_=>false)
 |.kl a c,.call {callee:=.value (.func f),args:=⟨[b,d]⟩,.. }=>bW aB a b&&bW aB c d&&kl f
 |.jZ a,.call {callee:=.value (.func f),args:=⟨[b]⟩,.. }=>bW aB a b&&jZ f
 |.ud,.makeMap _ none=>true
 |.vV _,_=>true
 |.ext y,op=>Pz P aB keys pT eqs qg l0 qn op y
 |.refuse,_=>true
 |_,_=>false
end
end Go.aj
namespace Go.aj
variable{X:Ctx}
section
variable{α β:Type}{r z:β}
variable{o:am bD}
def EI{v:be}{k:am Nat->β}(h:yP v k z=r)(aE:z≠r):∃p,v= .map p∧k p=r:=by
 cases v<;>first|exact absurd h aE|exact⟨_,rfl,h⟩
def Am{k:ac d8->Nat->β}(h:ru o k z=r)(aE:z≠r):∃es c,o=some (.map es c)∧k es c=r:=by
 unfold ru at h;obtain⟨o,rfl,h⟩:=ft h aE;cases o<;>first|exact absurd h aE|exact⟨_,_,rfl,h⟩
def ash{k:f5->Nat->β}(h:OX o k z=r)(aE:z≠r):∃s p,o=some (.yJ s p)∧k s p=r:=by
 unfold OX at h;obtain⟨o,rfl,h⟩:=ft h aE;cases o<;>first|exact absurd h aE|exact⟨_,_,rfl,h⟩
def am0{k:am Nat->Nat->ac Nat->Nat->β}(h:MT o k z=r)(aE:z≠r):∃a b c d,o=some (.ub a b c d)∧k a b c d=r:=by
 unfold MT at h;obtain⟨o,rfl,h⟩:=ft h aE;cases o<;>first|exact absurd h aE|exact⟨_,_,_,_,rfl,h⟩
end
variable{es:ac d8}{k:be}{ι:bt}{c4:fL}{clock ky:Nat}{v v':be}{e:d8}{j:Nat}{c:d8}
def fL.same(h:c4.ok v=true)(hr:bk ι v v'):v'=v:=by
 cases c4 with
 |int k=>
  obtain⟨k',n,rfl,_⟩:=ji (v:=v) (z:=false) (r:=true) h (by decide);cases hr;rfl
 |str=>
  obtain⟨s,rfl,_⟩:=oN (v:=v) (z:=false) (r:=true) h (by decide);cases hr;rfl
 |arr k n=>
  obtain⟨xs,rfl,h2⟩:=Bi (v:=v) (z:=false) (r:=true) h (by decide);rw[bX,zbg]at h2;cases hr with
  |agg _ ao h1 hh=>
   congr 1;apply Array.ext
   ·exact h1.symm
   ·intro i a b;have J:=h2.2 xs[i] (by simp);obtain⟨k',m,he,_⟩:=ji (v:=xs[i]) (z:=false) (r:=true) J (by decide);have:=hh i b a;rw[he]at this⊢;generalize ao[i]=y at this⊢;cases this;rfl
def uniq(h:es.Pairwise (fun a b=>a.key≠b.key)){a b:d8}(ha:a∈es)(hb:b∈es)(e:a.key=b.key):a=b:=by
 induction es with
 |nil=>cases ha
 |cons x xs aZ=>
  rw[zee]at h;rcases zao.1 ha with rfl|tv<;>rcases zao.1 hb with rfl|cU
  ·rfl
  ·exact absurd e (h.1 b cU)
  ·exact absurd e.symm (h.1 a tv)
  ·exact aZ h.2 tv cU
def Xu(h:ql k es=some e):e∈es∧e.key=k:=by
 unfold ql at h;refine⟨zdw h,?_⟩;have:=zdx h;exact(nt _ _ this).symm
def Nk(h:ql k es=none):∀e∈es,e.key≠k:=by
 intro e he afE;unfold ql at h;have:=List.find?_eq_none.1 h e he;rw[afE,Bk]at this;exact this rfl
def Ht(h:vQ c4 es=true)(he:e∈es):c4.ok e.key=true:=
 zbg.1 h e he
def kv.find{b5:Nat->Nat}{C:ac d8}(h:kv ι b5 es clock C ky){fg:ce}(dO:X.keys fg=some c4)(U:c4.ok k=true)(he:vQ c4 es=true)(w:co):
 ((Instr.findKey fg k C).run X.P w= .ok none w∧ql k es=none∧∀c∈C,c.key≠k)∨
 ∃e j c,(Instr.findKey fg k C).run X.P w= .ok (some (j,c.val)) w∧C[j]? =some c∧c.key=k∧ql k es=some e∧e∈es∧e.key=k∧bk ι e.val c.val∧c.born=b5 e.born:=by
 obtain⟨K,bI⟩:=X.sm fg c4 dO;obtain⟨l,hp,hlen,hl⟩:=h.same;have vy:∀(i:Nat) (a:i<l.length) (b:i<C.length),C[i].key=l[i].key:=by
  intro i a b;exact fL.same (Ht he (hp.mem_iff.1 (dV a))) (hl i a b).1
 have eu:∀c∈C,∃l,keyOf X.P fg c.key=some l:=by
  intro c hc;obtain⟨i,hi,rfl⟩:=zdy hc;have ec:i<l.length:=by omega
  rw[vy i ec hi];exact bI _ (Ht he (hp.mem_iff.1 (dV ec)))
 obtain⟨Dx,xI⟩:=bI k U;rcases K.find w xI C eu with⟨h1,h2⟩|⟨j,c,h1,h2,h3⟩
 ·left;refine⟨h1,?_,h2⟩;cases aa:ql k es with
  |none=>rfl
  |some e=>
   exfalso;obtain⟨eW,g1⟩:=Xu aa;obtain⟨i,hi,gK⟩:=zdy (hp.mem_iff.2 eW);have ec:i<C.length:=by omega
   exact h2 C[i] (dV ec) (by rw[vy i hi ec,gK,g1])
 ·right;obtain⟨hj,vw⟩:=zae.1 h2;have lS:j<l.length:=by omega
  have CN:l[j].key=k:=by rw[<-vy j lS hj,vw,h3]
  have z3:l[j]∈es:=hp.mem_iff.1 (dV lS);cases aa:ql k es with
  |none=>exact absurd CN (Nk aa _ z3)
  |some e=>
   obtain⟨eW,g1⟩:=Xu aa;have:e=l[j]:=uniq h.keys eW z3 (by rw[g1,CN]);subst this;have:=hl j lS hj;rw[vw]at this;exact⟨_,j,c,h1,h2,h3,rfl,z3,CN,this.2.1,this.2.2⟩
def kv.put{b5:Nat->Nat}{C:ac d8}(h:kv ι b5 es clock C ky)(he:vQ c4 es=true)(hj:C[j]? =some c)(hc:c.key=k)(aF:bk ι v v'):
 kv ι b5 (An k v es) clock (C.set j {c with key:=k,val:=v'}) ky:=by
 obtain⟨l,hp,hlen,hl⟩:=h.same;have av:∀e:d8,(cond (dA k e.key) (⟨e.key,v,e.born⟩:d8) e).key=e.key:=by
  intro e;cases dA k e.key<;>rfl
 have a5:∀e:d8,(cond (dA k e.key) (⟨e.key,v,e.born⟩:d8) e).born=e.born:=by
  intro e;cases dA k e.key<;>rfl
 have vy:∀(i:Nat) (a:i<l.length) (b:i<C.length),C[i].key=l[i].key:=by
  intro i a b;exact fL.same (Ht he (hp.mem_iff.1 (dV a))) (hl i a b).1
 obtain⟨hX,vw⟩:=zae.1 hj;refine⟨h.td,h.A5,?_,?_,?_,l.map (fun e=>cond (dA k e.key) ⟨e.key,v,e.born⟩ e),hp.map _,by simp[hlen],?_⟩
 ·intro e hm;obtain⟨cj,mu,rfl⟩:=List.mem_map.1 hm;rw[a5];exact h.born cj mu
 ·unfold An;rw[List.pairwise_map];exact h.keys.imp (fun{a b} iu=>by rw[av,av];exact iu)
 ·unfold An;rw[List.pairwise_map];exact h.zi.imp (fun{a b} iu=>by rw[a5,a5];exact iu)
 ·intro i a b;have a':i<l.length:=by simpa using a
  have dN:i<C.length:=by simpa using b
  rw[List.getElem_map,List.getElem_set];by_cases e:j=i
  ·subst e;rw[zab rfl];have U:l[j].key=k:=by rw[<-vy j a' dN,vw,hc]
   have:dA k l[j].key=true:=by rw[U];exact Bk k
   rw[this];have hh:=hl j a' dN;rw[vw]at hh;refine⟨?_,aF,hh.2.2⟩;have:=hh.1;rw[hc]at this;exact this
  ·rw[zaa e];have cl:dA k l[i].key=false:=by
    rw[zbR];intro hq;have U:=nt _ _ hq;have xF:j<l.length:=by omega
    have h1:l[i].key=l[j].key:=by rw[<-U,<-vy j xF hX,vw,hc]
    have qa:=(hp.symm.pairwise_iff (R:=fun a b:d8=>a.key≠b.key) (fun{a b} h=>h.symm)).1 h.keys;have h2:i=j:=by
     rcases zcz i j with h|h|h
     ·exact absurd h1 (zcA.1 qa i j a' xF h)
     ·exact h
     ·exact absurd h1.symm (zcA.1 qa j i xF a' h)
    exact e h2.symm
   rw[cl];exact hl i a' dN
def kv.push{b5:Nat->Nat}{C:ac d8}(h:kv ι b5 es clock C ky)(U:bk ι k k)(hn:ql k es=none)(aF:bk ι v v'):
 kv ι b5 (es++[⟨k,v,clock⟩]) (clock+1) (C++[⟨k,v',ky⟩]) (ky+1):=by
 obtain⟨l,hp,hlen,hl⟩:=h.same;have ae:=h.A5;refine⟨?_,⟨fun s t eV aN e=> ?_,fun s eV=> ?_,fun j=> ?_⟩,?_,?_,?_,l++[⟨k,v,clock⟩],hp.append_right _,by simp[hlen],?_⟩
 ·rw[h.td,ae.up 1]
 ·rcases zan s clock with a|a<;>rcases zan t clock with b|b
  ·exact ae.inj s t a b e
  ·have:t=clock:=by omega
   subst this;have:=ae.lt s a;omega
  ·have:s=clock:=by omega
   subst this;have:=ae.lt t b;omega
  ·omega
 ·rw[ae.up 1];rcases zan s clock with a|a
  ·have:=ae.lt s a;omega
  ·have:s=clock:=by omega
   subst this;omega
 ·rw[show clock+1+j=clock+(1+j) by omega,ae.up,ae.up 1];omega
 ·intro e he;rcases zbE.1 he with he|he
  ·have:=h.born e he;omega
  ·have:e=⟨k,v,clock⟩:=by simpa using he
   subst this;exact zbZ _
 ·rw[zef];refine⟨h.keys,by simp,fun a ha b hb=> ?_⟩;have:b=⟨k,v,clock⟩:=by simpa using hb
  subst this;exact Nk hn a ha
 ·rw[zef];refine⟨h.zi,by simp,fun a ha b hb=> ?_⟩;have:b=⟨k,v,clock⟩:=by simpa using hb
  subst this;have:=h.born a ha;exact Nat.ne_of_lt this
 ·intro i a b;by_cases e:i<l.length
  ·rw[zea e,zea (by omega)];exact hl i e (by omega)
  ·have hi:i=l.length:=by simp at a;omega
   subst hi;rw[zeb (by omega),zeb (by omega)];simp only[hlen,Nat.sub_self,List.getElem_cons_zero];exact⟨U,aF,h.td⟩
def kv.del{b5:Nat->Nat}{C:ac d8}(h:kv ι b5 es clock C ky)(he:vQ c4 es=true)(hj:C[j]? =some c)(hc:c.key=k):
 kv ι b5 (Al k es) clock (C.eraseIdx j) ky:=by
 obtain⟨l,hp,hlen,hl⟩:=h.same;have vy:∀(i:Nat) (a:i<l.length) (b:i<C.length),C[i].key=l[i].key:=by
  intro i a b;exact fL.same (Ht he (hp.mem_iff.1 (dV a))) (hl i a b).1
 obtain⟨hX,vw⟩:=zae.1 hj;have xF:j<l.length:=by omega
 have CN:l[j].key=k:=by rw[<-vy j xF hX,vw,hc]
 have qa:l.Pairwise (fun a b=>a.key≠b.key):=(hp.symm.pairwise_iff (R:=fun a b:d8=>a.key≠b.key) (fun{a b} h=>h.symm)).1 h.keys;have akW:∀(l:ac d8) (j:Nat) (hj:j<l.length),l.Pairwise (fun a b=>a.key≠b.key)->l[j].key=k->l.filter (fun e=> !dA k e.key)=l.eraseIdx j:=by
  intro l
  induction l with
  |nil=>intro j hj;simp at hj
  |cons x xs aZ=>
   intro j hj qa U;rw[zee]at qa;cases j with
   |zero=>
    have J:dA k x.key=true:=by rw[show x.key=k from U];exact Bk k
    rw[List.filter_cons];simp only[J,Bool.not_true,zbb,if_false,List.eraseIdx_cons_zero];rw[List.filter_eq_self];intro a ha;have:=qa.1 a ha;rw[show x.key=k from U]at this;cases aF:dA k a.key
    ·rfl
    ·exact absurd (nt _ _ aF) this
   |succ j=>
    have lS:j<xs.length:=by simpa using hj
    have fi:xs[j].key=k:=by simpa using U
    have J:dA k x.key=false:=by
     rw[zbR];intro hq;exact qa.1 xs[j] (dV lS) (by rw[fi,nt _ _ hq])
    rw[List.filter_cons];simp only[J,zdZ,if_true,List.eraseIdx_cons_succ];rw[aZ j lS qa.2 fi]
 refine⟨h.td,h.A5,fun e hm=>h.born e (List.mem_filter.1 hm).1,h.keys.filter _,h.zi.filter _,l.eraseIdx j,?_,?_,?_⟩
 ·rw[<-akW l j xF qa CN];exact hp.filter _
 ·rw[zeR xF,zeR hX,hlen]
 ·intro i a b;rw[List.getElem_eraseIdx,List.getElem_eraseIdx];split
  ·exact hl i _ _
  ·exact hl (i+1) _ _
section
variable{ι:bt}{fr aC:aP}{a:Act}{aO:Nat}{st st':aw}{w:co}{o:Oper}{v:be}{call:bL}
open Go.MapKept
variable{fg:ce}{m:bi}{t jA:ce}
def agt(dO:X.keys fg=some c4)(U:c4.ok k=true)(w:co):(Instr.findKey fg k []).run X.P w= .ok none w:=by
 obtain⟨K,bI⟩:=X.sm fg c4 dO;obtain⟨Dx,xI⟩:=bI k U;rcases K.find w xI [] (by simp)with⟨h1,_⟩|⟨j,c,_,h2,_⟩
 ·exact h1
 ·simp at h2
def w5(dO:X.keys fg=some c4)(U:c4.ok k=true)(em:Bool)(w:co):(Instr.checkKey em 10000 fg k).run X.P w= .ok () w:=by
 obtain⟨K,bI⟩:=X.sm fg c4 dO;obtain⟨Dx,xI⟩:=bI k U;exact K.check w em xI
def arU{z:be}{ok:Bool}{k:bi}{i:f6}(hm:cy X.aB m=true)(U:cy X.aB k=true)(ai:o.op= .lookup t m k ok)(hu:X.P.underlying t=some (.map fg jA))
 (dO:X.keys fg=some c4) (hi:X.P.info? jA=some i) (aE:i.zero=some z) (Aa:j8 z=true) (aa:cv ι fr a aO) (hw:bn X ι st w)
 (h:m4 fr st (.look c4 z ok m k)= .ok v aC st'):aC=fr∧ca X ι w v st st' (execOp a.eval o):=by
 obtain⟨h9,h⟩:=iC h (by simp);obtain⟨r,hr,h⟩:=EI h (by simp);have vA:a.eval k=fr.af k:=fL.same h9 (aa.af hw U);have jb:=aa.af hw hm;rw[hr]at jb;generalize na:a.eval m=l1 at jb;have Hg:=uO (P:=X.P) hi aE w;have Ab:bk ι z z:=bk.pure ι z Aa;cases r with
 |none=>
  cases jb;have h:aS.ok (cond ok (.tuple #[z,.bool false]) z) fr st= .ok v aC st':=h;cases h;refine⟨rfl,ca.same (v':=cond ok (.tuple #[z,.bool false]) z) hw ?_ ?_⟩
  ·unfold execOp;rw[ai];simp only[na,vA,Instr.lookup,Sem.run_bind,run_underlying hu,Result.andThen,Sem.run_pure,w5 dO h9,agt dO h9,Hg];cases ok<;>rfl
  ·cases ok
   ·exact Ab
   ·exact bk.pt (bM.cons Ab (bM.cons (.bool _) (bM.nil ι)))
 |some id=>
  have h:ru (st.h.get id) (fun es _=>cond (vQ c4 es) (bd (ql (fr.af k) es) (fun e=>.ok (cond ok (.tuple #[e.val,.bool true]) e.val) fr st) (.ok (cond ok (.tuple #[z,.bool false]) z) fr st)) .no) .no=aS.ok v aC st':=h;obtain⟨es,c,aJ,h⟩:=Am h (by simp);obtain⟨tH,h⟩:=iC h (by simp);obtain⟨l,hl,h0,kh,C,bT,hC,cL⟩:=hw.eE _ _ aJ (by simp);cases jb with
  |map _ b b5 hb=>
   rw[hl]at hb;cases hb;have hC:w.heap[b]? =some (.map C bT):=hC;rcases cL.find (X:=X) dO h9 tH w with⟨h1,h2,_⟩|⟨e,j,oY,h1,h2,h3,au,aW,ch,dt,fS⟩
   ·rw[h2]at h;cases h;refine⟨rfl,ca.same (v':=cond ok (.tuple #[z,.bool false]) z) hw ?_ ?_⟩
    ·unfold execOp;rw[ai];simp only[na,vA,Instr.lookup,Sem.run_bind,run_underlying hu,Result.andThen,Sem.run_pure,MapKept.run_getObj_map hC,w5 dO h9,h1,Hg];cases ok<;>rfl
    ·cases ok
     ·exact Ab
     ·exact bk.pt (bM.cons Ab (bM.cons (.bool _) (bM.nil ι)))
   ·rw[au]at h;cases h;refine⟨rfl,ca.same (v':=cond ok (.tuple #[oY.val,.bool true]) oY.val) hw ?_ ?_⟩
    ·unfold execOp;rw[ai];simp only[na,vA,Instr.lookup,Sem.run_bind,run_underlying hu,Result.andThen,Sem.run_pure,MapKept.run_getObj_map hC,w5 dO h9,h1];cases ok<;>rfl
    ·cases ok
     ·exact dt
     ·exact bk.pt (bM.cons dt (bM.cons (.bool _) (bM.nil ι)))
def arZ(hm:cy X.aB m=true)(ai:o.op= .call {callee:=.builtin .len,args:= #[m],argTypes:= #[t]})(hu:X.P.underlying t=some (.map fg jA))(aa:cv ι fr a aO)(hw:bn X ι st w)
 (h:m4 fr st (.Aq m)= .ok v aC st'):aC=fr∧ca X ι w v st st' (execOp a.eval o):=by
 obtain⟨r,hr,h⟩:=EI h (by simp);have jb:=aa.af hw hm;rw[hr]at jb;generalize na:a.eval m=l1 at jb;cases r with
 |none=>
  cases jb;have h:aS.ok (.int .i64 0) fr st= .ok v aC st':=h;cases h;refine⟨rfl,ca.same (v':=.int .i64 0) hw ?_ (.int _ _)⟩;unfold execOp;rw[ai];simp[resolve,invoke,builtin,na,Builtin.len_,run_underlying hu,Result.andThen,goInt]
 |some id=>
  have h:ru (st.h.get id) (fun es _=>gd (df es) fun n=>aS.ok (.int .i64 (.ofNat n)) fr st) .no= .ok v aC st':=h;obtain⟨es,c,aJ,h⟩:=Am h (by simp);rw[zM,fs]at h;cases h;obtain⟨l,hl,h0,kh,C,bT,hC,cL⟩:=hw.eE _ _ aJ (by simp);cases jb with
  |map _ b b5 hb=>
   rw[hl]at hb;cases hb;have hC:w.heap[b]? =some (.map C bT):=hC;obtain⟨l,hp,hlen,_⟩:=cL.same;have e:es.length=C.size:=by rw[<-hp.length_eq,hlen];simp
   refine⟨rfl,ca.same (v':=.int .i64 es.length) hw ?_ (.int _ _)⟩;unfold execOp;rw[ai];simp[resolve,invoke,builtin,na,Builtin.len_,run_underlying hu,Result.andThen,goInt,MapKept.run_getObj_map hC,e]
end
