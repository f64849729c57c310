/- An abstract machine, and that its evaluations stand for runs of the model (part 1); no condition. -/
import Derived.Calls
import Derived.Laws.Cells
import Derived.Maps.Keyed
import Derived.Lib.Strings
import Derived.KernelRfl
noncomputable section
set_option linter.all false
namespace Go.ar
universe u
def zaa:=@if_neg
def zab:=@if_pos
def zac:=@decide_eq_true
def zad:=@decide_eq_false
def zae:=@Nat.zero_le
def zaf:=@List.getElem?_eq_some_iff
def zag:=@Nat.le_trans
def zah:=@Nat.mod_lt
def zai:=@Nat.lt_or_ge
def zaj:=@Nat.add_mul
def zak:=@List.mem_cons
def zal:=@Nat.pow_succ
def zam:=@Nat.mul_comm
def zan:=@List.drop_eq_nil_of_le
def zao:=@List.length_take
def zap:=@List.drop_zero
def zaq:=@List.length_cons
def zar:=@Nat.pow_add
def zas:=@List.take_of_length_le
def zat:=@beq_eq_false_iff_ne
def zau:=@Nat.zero_mul
def zav:=@List.mem_of_getElem?
def zaw:=@Array.getElem_toList
def zax:=@Nat.mul_assoc
def zay:=@List.length_append
def zaz:=@Nat.beq_refl
def zaA:=@List.length_drop
def zaB:=@List.getElem?_drop
def zaC:=@Nat.zero_add
def zaD:=@Nat.two_pow_pos
def zaE:=@Nat.min_eq_left
def zaF:=@Nat.div_le_self
def zaG:=@List.getElem?_take
def zaH:=@Nat.mul_add
def zaI:=@List.mem_cons_of_mem
def zaJ:=@Nat.pow_le_pow_right
def zaK:=@Nat.le_refl
def zaL:=@List.getElem?_append_right
def zaM:=@List.map_cons
def zaN:=@List.length_pos_iff
def zaO:=@Option.map_eq_some_iff
def zaP:=@List.all_eq_true
def zaQ:=@List.getElem?_set
def zaR:=@List.getElem_set_self
def zaS:=@Bool.eq_iff_iff
def zaT:=@List.take_set_of_le
def zaU:=@Bool.false_eq_true
def zaV:=@Int.natCast_mul
def zaW:=@List.getElem?_append_left
def zaX:=@Nat.add_zero
def zaY:=@List.take_succ_eq_append_getElem
def zaZ:=@Nat.mul_one
def zba:=@List.mem_map
def zbb:=@Nat.le_succ
def zbc:=@List.getElem?_set_ne
def zbd:=@Array.getElem?_eq_some_iff
def zbe:=@List.pairwise_iff_getElem
def zbf:=@Nat.one_mul
def zbg:=@Nat.div_div_eq_div_mul
def zbh:=@Nat.le_of_lt
def zbi:=@List.length_reverse
def zbj:=@Array.length_toList
def zbk:=@Bool.true_and
def zbl:=@List.take_append_drop
def zbm:=@Nat.pos_of_ne_zero
def zbn:=@List.getElem_of_mem
def zbo:=@Nat.lt_succ_self
def zbp:=@List.drop_drop
def zbq:=@Nat.lt_of_le_of_lt
def zbr:=@Int.mul_assoc
def zbs:=@Nat.mul_ne_zero
def zbt:=@Array.getElem?_setIfInBounds_ne
def zbu:=@List.eq_nil_of_length_eq_zero
def zbv:=@BitVec.ofInt_natCast
def zbw:=@List.ext_getElem?
def zbx:=@List.take_length
def zby:=@List.mem_cons_self
def zbz:=@List.getElem?_eq_none
def zbA:=@Int.sign_eq_one_of_pos
def zbB:=@beq_self_eq_true
def zbC:=@Bool.eq_false_iff
def zbD:=@Array.getElem?_eq_getElem
def zbE:=@Nat.add_assoc
def zbF:=@List.mem_append
def zbG:=@Option.bind_eq_some_iff
def zbH:=@eq_of_beq
def zbI:=@of_decide_eq_true
def zbJ:=@List.mem_of_mem_take
def zbK:=@Nat.div_add_mod
def zbL:=@Nat.div_eq_of_lt
def zbM:=@Nat.pow_mul
def zbN:=@List.append_assoc
def zbO:=@List.reverse_append
def zbP:=@Nat.eq_of_beq_eq_true
def zbQ:=@List.map_nil
def zbR:=@Int.toNat_natCast
def zbS:=@List.length_map
def zbT:=@List.length_replicate
def zbU:=@List.drop_of_length_le
def zbV:=@List.length_set
def zbW:=@Nat.le_div_iff_mul_le
def zbX:=@Nat.pow_zero
def zbY:=@Nat.sub_le
def zbZ:=@Nat.add_comm
def zca:=@List.map_toArray
def zcb:=@List.eq_nil_or_concat
def zcc:=@List.concat_eq_append
def zcd:=@Nat.mul_pos
def zce:=@Nat.div_one
def zcf:=@Int.sign_eq_neg_one_of_neg
def zcg:=@Int.natAbs_mul
def zch:=@Bool.and_eq_true
def zci:=@Int.neg_mul
def zcj:=@Nat.le_add_right
def zck:=@List.getElem?_toArray
def zcl:=@List.getElem?_cons_zero
def zcm:=@List.map_map
def zcn:=@UInt8.toNat_inj
def zco:=@List.mem_of_find?_eq_some
def zcp:=@Nat.lt_trichotomy
def zcq:=@Bool.or_eq_true
def zcr:=@List.mem_flatMap
def zcs:=@List.getElem?_map
def zct:=@List.getElem_inj
def zcu:=@List.mem_iff_getElem?
def zcv:=@Nat.eq_zero_or_pos
def zcw:=@List.drop_length
def zcx:=@List.mem_of_mem_drop
def zcy:=@Nat.pow_pos
def zcz:=@Nat.mul_zero
def zcA:=@Rat.neg_num
def zcB:=@Int.sign_mul_natAbs
def zcC:=@Int.sign_eq_zero_iff_zero
def zcD:=@Rat.not_lt
def zcE:=@List.append_nil
def zcF:=@List.getElem?_eq_getElem
def zcG:=@List.drop_eq_getElem_cons
def zcH:=@Array.getElem?_push
def zcI:=@List.drop_set_of_lt
def zcJ:=@Option.isSome_iff_exists
def zcK:=@Nat.succ_mul
def zcL:=@List.find?_some
def zcM:=@List.getElem_map
def zcN:=@Nat.not_lt_zero
def zcO:=@List.mem_range
def zcP:=@Bool.true_or
def zcQ:=@List.flatMap_cons
def zcR:=@List.take_append_of_le_length
def zcS:=@Nat.add_eq
def zcT:=@Nat.mul_eq
def zcU:=@Nat.lt_succ_of_lt
def zcV:=@List.mem_append_left
def zcW:=@Nat.div_lt_iff_lt_mul
def zcX:=@Nat.pow_lt_pow_iff_right
def zcY:=@Nat.div_pos
def zcZ:=@Int.natAbs_neg
def zda:=@Rat.neg_den
def zdb:=@Rat.add_def'
def zdc:=@Nat.pow_le_pow_left
def zdd:=@Bool.false_and
def zde:=@Nat.ble_eq_true_of_le
def zdf:=@Nat.le_succ_of_le
def zdg:=@Array.ext_getElem?
def zdh:=@Array.toList_extract
def zdi:=@List.extract_eq_take_drop
def zdj:=@List.foldl_cons
def zdk:=@List.mapM_cons
def zdl:=@Nat.le_mul_of_pos_right
def zdm:=@List.range_succ_eq_map
def zdn:=@List.pairwise_cons
def zdo:=@Nat.sub_self
def zdp:=@List.any_eq_true
def zdq:=@Array.mem_filter
def zdr:=@Nat.le_of_eq
def zds:=@BitVec.toNat_ofNat
def zdt:=@List.isEmpty_eq_false_iff
def zdu:=@List.take_take
def zdv:=@List.nodup_nil
def zdw:=@List.drop_left'
def zdx:=@List.length_range
def zdy:=@Nat.mul_le_mul
def zdz:=@List.getElem?_set_self
def zdA:=@List.drop_set
def zdB:=@Nat.gcd_comm
def zdC:=@Nat.gcd_dvd_left
def zdD:=@Rat.sub_eq_add_neg
def zdE:=@Int.natAbs_pow
def zdF:=@Nat.div_lt_of_lt_mul
def zdG:=@List.dropWhile_cons
def zdH:=@Nat.lt_of_lt_of_le
def zdI:=@Nat.mul_le_mul_right
def zdJ:=@List.getElem_mem
def zdK:=@List.getElem_take
def zdL:=@List.getElem_drop
def zdM:=@Array.getElem?_setIfInBounds
def zdN:=@Array.getElem?_modify
def zdO:=@Option.getD_some
def zdP:=@List.map_append
def zdQ:=@List.getElem?_cons_succ
def zdR:=@Bool.not_false
def zdS:=@List.getElem_append_left
def zdT:=@List.getElem_append_right
def zdU:=@List.find?_cons
def zdV:=@List.pairwise_map
def zdW:=@List.countP_cons
def zdX:=@List.mem_zipIdx_iff_getElem?
def zdY:=@List.flatten_cons
def zdZ:=@List.drop_take
def zea:=@List.drop_append_of_le_length
def zeb:=@List.replicate_succ
def zec:=@List.take_left'
def zed:=@List.mem_append_right
def zee:=@List.map_drop
def zef:=@Nat.mod_add_div
def zeg:=@List.getElem?_replicate
def zeh:=@Nat.add_mul_div_left
def zei:=@Nat.add_mul_mod_self_left
def zej:=@List.length_eq_one_iff
def zek:=@Nat.div_mul_le_self
def zel:=@Nat.mul_lt_mul''
def zem:=@Nat.gcd_pos_of_pos_left
def zen:=@List.length_eq_zero_iff
def zeo:=@Nat.gcd_one_right
def zep:=@Nat.gcd_le_right
def zeq:=@Int.natCast_pow
def zer:=@Nat.gcd_zero_left
def zes:=@List.mem_reverse
def zet:=@List.all_append
def zeu:=@Bool.false_or
def zev:=@Array.mapM_eq_mapM_toList
def zew:=@List.length_eraseIdx_of_lt
def zex:=@List.getElem?_eq_none_iff
def zey:=@Nat.add_sub_cancel_left
def zez:=@List.isPrefixOf_iff_prefix
def zeA:=@Nat.two_pow_add_eq_or_of_lt
def zeB:=@Nat.mul_lt_mul_of_pos_right
abbrev ac(α:Type u):=List α
abbrev am(α:Type u):=Option α
abbrev ap(α:Type u):=Array α
abbrev be:=Value
abbrev bi:=Operand
abbrev bv:=UInt8
abbrev ce:=TypeId
abbrev ci:=FuncId
abbrev co:=World
abbrev d7:=IntKind
abbrev d8:=MapEntry
abbrev d9:=Program
abbrev f5:=ByteArray
abbrev f6:=TypeInfo
variable{n m:Nat}{α:Type u}{i:Nat}{l:ac α}
def bm(h:i<l.length):l[i]? =some l[i]:=zcF h
def bW(a b:Bool):((a&&b)=true)=(a=true∧b=true):=zch a b
def dD(h:Nat.beq n m=true):n=m:=zbP h
def fM{k:Nat}(h:n<m)(g:m<=k):n<k:=zdH h g
def iq(k:Nat)(h:m<=n):m*k<=n*k:=zdI k h
def m1(k:Nat)(h:m<=n):k*m<=k*n:=Nat.mul_le_mul_left k h
def gP{a b:Nat}(h:a<b):a%b=a:=Nat.mod_eq_of_lt h
def b8(n:Nat):n<=n:=zaK n
def eX(h:i<l.length):l.drop i=l[i]::l.drop (i+1):=zcG h
def dy(h:n<l.length):l[n]∈l:=zdJ h
def jF(h:Nat.ble n m=true):n<=m:=Nat.le_of_ble_eq_true h
inductive ao(α:Type)where
 |nil:ao α
 |node (l:ao α) (v:Option α) (r:ao α):ao α
namespace ao
variable{α β:Type}
def get(t:ao α):Nat->am α:=
 ao.rec (motive:=fun _=>Nat->am α) (fun _=>none)
  (fun _ v _ alf a8 n=>Nat.rec (motive:=fun _=>am α) v (fun m _=>Nat.rec (motive:=fun _=>am α) (alf (Nat.div m 2)) (fun _ _=>a8 (Nat.div m 2)) (Nat.mod m 2)) n) t
def iV(f:Nat):ao α->Nat->α->(ao α->β)->β:=
 Nat.rec (motive:=fun _=>ao α->Nat->α->(ao α->β)->β) (fun t _ _ k=>k t)
  (fun _ a7 t n x k=>
   ao.rec (motive:=fun _=>β)
    (Nat.rec (motive:=fun _=>β) (k (.node .nil (some x) .nil))
     (fun m _=>Nat.rec (motive:=fun _=>β) (a7 .nil (Nat.div m 2) x fun l'=>k (.node l' none .nil)) (fun _ _=>a7 .nil (Nat.div m 2) x fun dV=>k (.node .nil none dV)) (Nat.mod m 2)) n)
    (fun l v r _ _=>
     Nat.rec (motive:=fun _=>β) (k (.node l (some x) r))
      (fun m _=>Nat.rec (motive:=fun _=>β) (a7 l (Nat.div m 2) x fun l'=>k (.node l' v r)) (fun _ _=>a7 r (Nat.div m 2) x fun dV=>k (.node l v dV)) (Nat.mod m 2)) n) t) f
def set(t:ao α)(n:Nat)(x:α):ao α:=iV (Nat.succ n) t n x id
def Y9(v:am α)(r:ao α)(l:ao α):ao α:=
 ao.rec (motive:=fun _=>ao α) (.node .nil v r) (fun a b c _ _=>.node (.node a b c) v r) l
def Za(l:ao α)(v:am α)(r:ao α):ao α:=
 ao.rec (motive:=fun _=>ao α) (.node l v .nil) (fun a b c _ _=>.node l v (.node a b c)) r
def Ji(a7:ao α->Nat->α->ao α)(l:ao α)(v:am α)(r:ao α)(m:Nat)(x:α):ao α:=
 Nat.rec (motive:=fun _=>ao α) (Y9 v r (a7 l (Nat.div m 2) x)) (fun _ _=>Za l v (a7 r (Nat.div m 2) x)) (Nat.mod m 2)
def Jh(a7:ao α->Nat->α->ao α)(l:ao α)(v:am α)(r:ao α)(n:Nat)(x:α):ao α:=
 Nat.rec (motive:=fun _=>ao α) (.node l (some x) r) (fun m _=>Ji a7 l v r m x) n
def aqV(a7:ao α->Nat->α->ao α)(t:ao α)(n:Nat)(x:α):ao α:=
 ao.rec (motive:=fun _=>ao α) (Jh a7 .nil none .nil n x) (fun l v r _ _=>Jh a7 l v r n x) t
def kY(f:Nat):ao α->Nat->α->ao α:=
 Nat.rec (motive:=fun _=>ao α->Nat->α->ao α) (fun t _ _=>t) (fun _ a7=>aqV a7) f
def fin(t:ao α)(k:ao α->β):β:=
 ao.rec (motive:=fun _=>β) (k .nil) (fun a b c _ _=>k (.node a b c)) t
end ao
inductive pE where
 |tl
 |lk
 |y3
 |wY
 |wZ
 |ptr
 |agg (ps:List (Nat×Nat×Bool×pE))
inductive gb where
 |int (k:IntKind)
 |str
 |arr (k:IntKind) (n:Nat)
inductive vO where
 |look (df:gb) (zero:Value) (ok:Bool) (m k:Operand)
 |hd (df:gb) (m k v:Operand)
 |del (df:gb) (m k:Operand)
 |Bn (m:Operand)
 |Bo (m:Operand)
 |Bl (it:Operand)
 |bd (s c:Operand)
 |ug (neg:Bool) (n:Nat) (x y:Operand)
 |q1 (it:Operand)
 |xV (gt:Bool) (x y:Operand)
 |idxs (g:Nat) (s b:Operand)
 |Cg (x:Operand)
 |Cf (it:Operand)
 |Bm (e:TypeId) (n:Operand)
 |z0 (x:Operand)
inductive dd where
 |ie (x:Operand)
 |pick (c a b:Operand)
 |alloc (z:List Value) (elem:TypeId)
 |box (elem:TypeId) (x:Operand)
 |build (z:List Value) (ps:List (Nat×Nat×Operand))
 |pM (elem:TypeId) (len:Nat) (z:List Value) (ps:List (Nat×Nat×Operand))
 |j8 (a:Operand)
 |qY (n:Nat) (a:Operand)
 |store (n:Nat) (a x:Operand)
 |tc (x:Operand)
 |Ou (name:String) (Cj:List (Nat×FuncId)) (x:Operand)
 |bin (op:BinOp) (x y:Operand)
 |eqv (neg:Bool) (e:pE) (x y:Operand)
 |un (op:UnOp) (x:Operand)
 |tW (k:IntKind) (x:Operand)
 |xT (x:Operand)
 |z1 (x:Operand)
 |v5 (elem:TypeId) (x:Operand)
 |EF (t:TypeId) (x:Operand)
 |sa (fn:Fn) (first fU:List Operand)
 |uY
 |sb (elem:TypeId) (bytes:Nat) (z:List Value) (len cap:Operand)
 |tw (x:Operand) (aQ af:Option Operand)
 |Ce (n a2:Nat) (x:Operand) (aQ af e7:Option Operand)
 |oO (a2:Nat) (x:Operand) (aQ af e7:Option Operand)
 |qB (off:Nat) (x:Operand)
 |pZ (off a2:Nat) (agg:Bool) (x:Operand)
 |qU (n a2:Nat) (x i:Operand)
 |l8 (a2:Nat) (x i:Operand)
 |uP (x i:Operand)
 |Ii (n a2:Nat) (agg:Bool) (x i:Operand)
 |Fz (t:TypeId) (zero:Value) (ok:Bool) (x:Operand)
 |rL (x:Operand) (i:Nat)
 |call (f:Operand) (args:List Operand)
 |inv (Cj:List (Nat×FuncId)) (x:Operand) (args:List Operand)
 |ph (x:Operand)
 |uV (x:Operand)
 |yR (n:Nat)
 |wV (x:Operand)
 |app (elem:TypeId) (a2 bytes:Nat) (s x:Operand)
 |e7 (x:Operand) (xs:List Operand)
 |y1 (x:Operand) (xs:List Operand)
 |rF (a2:Nat) (d s:Operand)
 |vl
 |pS (f:Operand) (args:List Operand)
 |oI (x:Operand)
 |C5 (x:Operand)
 |C6 (elem n:Nat) (x:Operand)
 |B9 (x:Operand)
 |tD (elem:TypeId) (x n:Operand)
 |kV (s c:Operand)
 |kJ (x:Operand)
 |ext (y:vO)
 |refuse
structure bz where
 d:am Tmp
 o:dd
 g:am (Tmp×Bool)
inductive cw where
 |dX
 |hX (ts:List Tmp)
 |read (back:Nat) (ts:List Tmp)
inductive dm where
 |skip
 |hR (ops:List bz)
 |rH (ops:List (bz×cw)) (cj:List Nat) (ec:List Tmp) (ms:List Nat)
 |seq (a b:dm)
 |cond (c:Operand) (a b:dm)
 |block (id:Nat) (b:dm)
 |loop (b:dm)
 |B5 (f:Operand) (params:List Tmp) (assign body:dm)
 |exit (id:Nat)
 |scope (b:dm)
 |ret
 |refuse
inductive dv where
 |norm
 |exit (id:Nat)
 |ret
 |a1 (v:Value)
inductive h6 where
 |tmp (t:Tmp)
 |cell (a:Tmp) (agg:Bool) (n:Nat)
structure cM where
 aJ:Nat
 res:ac h6
 body:dm
inductive bt where
 |cells (cs:List Value) (elem:TypeId) (bg:Nat×Nat) (a8:Bool)
 |map (es:List MapEntry) (clock:Nat)
 |zs (s:ByteArray) (pos:Nat)
 |qZ (m:Option Nat) (since:Nat) (seen:List Nat) (n5:Nat)
 |loop (st:LoopState) (pending:Option dv) (fn:FuncId) (tmps:ao Value) (params:List Tmp) (assign body:dm) (defers:Nat)
 |jI (calls:Option (List Deferred))
 |dead
structure ay where
 h:ao bt
 ai:Nat
structure aP where
 t:ao be
 cS:ac Deferred
 a1:am be
 cB:Bool
 b0:am Nat
def aP.tmp(fr:aP)(n:Nat):be:=
 Option.rec (motive:=fun _=>be) (.chan (some 0)) (fun v=>v) (fr.t.get n)
def aP.ak(fr:aP)(x:bi):be:=
 Operand.rec (motive:=fun _=>be) (fun t=>fr.tmp t) (fun v=>v) (fun g=>.pointer (some ⟨g,0,none⟩)) (fun f=>.func (.func f) #[] #[]) x
def aP.YV(t:ao be)(cS:ac Deferred)(a1:am be)(cB:Bool)(b0:am Nat):aP:=
 ao.rec (motive:=fun _=>aP) ⟨.nil,cS,a1,cB,b0⟩ (fun a b c _ _=>⟨.node a b c,cS,a1,cB,b0⟩) t
def aP.Jh(d:Nat)(v:be)(fr:aP):aP:=
 aP.rec (motive:=fun _=>aP) (fun t cS a1 cB b0=>aP.YV (ao.kY (Nat.succ d) t d v) cS a1 cB b0) fr
def aP.put(fr:aP)(d:am Tmp)(v:be):aP:=
 Option.rec (motive:=fun _=>aP) fr (fun d=>aP.Jh d v fr) d
inductive aV where
 |ok (v:Value) (fr:aP) (st:ay)
 |a1 (v:Value) (st:ay)
 |no
inductive dh where
 |ret (v:Value) (st:ay) (eK:Bool)
 |a1 (v:Value) (st:ay) (eK:Bool)
 |no
section lists
variable{α β:Type}
def P8(n:Nat):ac α->am (ac α):=
 Nat.rec (motive:=fun _=>ac α->am (ac α)) (fun _=>some [])
  (fun _ a7 l=>List.rec (motive:=fun _=>am (ac α)) none
   (fun x xs _=>Option.rec (motive:=fun _=>am (ac α)) none (fun r=>some (x::r)) (a7 xs)) l) n
def GQ(n:Nat):ac α->ac α:=
 Nat.rec (motive:=fun _=>ac α->ac α) (fun l=>l)
  (fun _ a7 l=>List.rec (motive:=fun _=>ac α) [] (fun _ xs _=>a7 xs) l) n
def q4(l:ac α):Nat->ac α->(ac α->β)->β->β:=
 List.rec (motive:=fun _=>Nat->ac α->(ac α->β)->β->β) (fun _ vs k z=>List.rec (motive:=fun _=>β) (k []) (fun _ _ _=>z) vs)
  (fun y av a7 n vs k z=>
   Nat.rec (motive:=fun _=>β)
    (List.rec (motive:=fun _=>β) (k (y::av)) (fun v vs _=>a7 0 vs (fun l'=>k (v::l')) z) vs)
    (fun m _=>a7 m vs (fun l'=>k (y::l')) z) n) l
end lists
variable{β:Type}
def gm(n:Nat)(k:Nat->β):β:=cond (Nat.beq n n) (k n) (k n)
def Tr(n:Int)(k:Int->β):β:=
 Int.rec (motive:=fun _=>β) (fun m=>gm m fun m=>k (.ofNat m)) (fun m=>gm m fun m=>k (.negSucc m)) n
def ay.jB(st:ay)(o:bt)(k:Nat->ay->β):β:=
 gm st.ai fun n=>ao.fin (ao.kY (Nat.succ n) st.h n o) fun h=>k n ⟨h,Nat.succ n⟩
def h8(v:be):ac be:=v.cells.toList
def uM:be->Bool
 |.chan (some _)=>true
 |_=>false
def nD:be->Bool
 |.agg _|.tuple _|.chan (some _)=>false
 |_=>true
def hf(vs:ac be):Bool:=List.rec (motive:=fun _=>Bool) true (fun v _ r=>cond (nD v) r false) vs
mutual
def dJ:be->be->Bool
 |.bool a,.bool b=>a==b
 |.int k a,.int k' b=>decide (k=k')&&a==b
 |.float k a,.float k' b=>decide (k=k')&&a==b
 |.complex k a c,.complex k' b d=>decide (k=k')&&a==b&&c==d
 |.string a,.string b=>a.data.toList==b.data.toList
 |.pointer a,.pointer b=>a==b
 |.slice a l c,.slice b l' bE=>a==b&&l==l'&&c==bE
 |.map a,.map b=>a==b
 |.chan a,.chan b=>a==b
 |.func f x y,.func g u v=>decide (f=g)&&xE x u&&xE y v
 |.nilFunc,.nilFunc=>true
 |.iface t v,.iface u w=>t==u&&dJ v w
 |.nilIface,.nilIface=>true
 |.agg a,.agg b=>xE a b
 |.tuple a,.tuple b=>xE a b
 |_,_=>false
def xE:ap be->ap be->Bool
 |⟨a⟩,⟨b⟩=>mi a b
def mi:ac be->ac be->Bool
 |[],[]=>true
 |a::as,b::bT=>dJ a b&&mi as bT
 |_,_=>false
end
mutual
theorem zB:∀v:be,dJ v v=true
 |.bool a=>by simp[dJ]
 |.int k a=>by simp[dJ]
 |.float k a=>by simp[dJ]
 |.complex k a c=>by simp[dJ]
 |.string a=>by simp[dJ]
 |.pointer a=>by simp[dJ]
 |.slice a l c=>by simp[dJ]
 |.map a=>by simp[dJ]
 |.chan a=>by simp[dJ]
 |.func f x y=>by simp[dJ,Ku x,Ku y]
 |.nilFunc=>by simp[dJ]
 |.iface t v=>by simp[dJ,zB v]
 |.nilIface=>by simp[dJ]
 |.agg a=>by simp[dJ,Ku a]
 |.tuple a=>by simp[dJ,Ku a]
theorem Ku:∀v:ap be,xE v v=true
 |⟨a⟩=>by simp[xE,adi a]
theorem adi:∀v:ac be,mi v v=true
 |[]=>by simp[mi]
 |a::as=>by simp[mi,zB a,adi as]
end
mutual
theorem nB:∀v w:be,dJ v w=true->v=w
 |.bool a,w,h=>by cases w<;>simp_all [dJ]
 |.int k a,w,h=>by cases w<;>simp_all [dJ]
 |.float k a,w,h=>by cases w<;>simp_all [dJ]
 |.complex k a c,w,h=>by cases w<;>simp_all [dJ]
 |.string a,w,h=>by
  cases w<;>simp_all [dJ];rename_i b;cases a;cases b;simp_all
 |.pointer a,w,h=>by cases w<;>simp_all [dJ]
 |.slice a l c,w,h=>by cases w<;>simp_all [dJ]
 |.map a,w,h=>by cases w<;>simp_all [dJ]
 |.chan a,w,h=>by cases w<;>simp_all [dJ]
 |.func f x y,w,h=>by
  cases w<;>simp[dJ]at h;rename_i g u v;simp[h.1.1,Kt x u h.1.2,Kt y v h.2]
 |.nilFunc,w,h=>by cases w<;>simp_all [dJ]
 |.iface t v,w,h=>by
  cases w<;>simp[dJ]at h;rename_i u x;simp[h.1,nB v x h.2]
 |.nilIface,w,h=>by cases w<;>simp_all [dJ]
 |.agg a,w,h=>by
  cases w<;>simp[dJ]at h;rename_i b;simp[Kt a b h]
 |.tuple a,w,h=>by
  cases w<;>simp[dJ]at h;rename_i b;simp[Kt a b h]
theorem Kt:∀v w:ap be,xE v w=true->v=w
 |⟨a⟩,⟨b⟩,h=>by simp[xE]at h;simp[zA a b h]
theorem zA:∀v w:ac be,mi v w=true->v=w
 |[],[],_=>rfl
 |a::as,b::bT,h=>by simp[mi]at h;simp[nB a b h.1,zA as bT h.2]
 |[],_::_,h=>by simp[mi]at h
 |_::_,[],h=>by simp[mi]at h
end
end Go.ar
namespace Go.ar
def uZ(n:Int)(M:Nat):Nat:=
 Int.rec (motive:=fun _=>Nat) (fun m=>Nat.mod m M) (fun m=>Nat.sub (Nat.sub M 1) (Nat.mod m M)) n
def Ct(M:Nat)(n:Int):Int:=.ofNat (uZ n M)
def zC(M H:Nat)(n:Int):Int:=
 gm (uZ n M) fun r=>cond (Nat.ble (Nat.succ r) H) (.ofNat r) (.negSucc (Nat.sub (Nat.sub M 1) r))
def oT(k:d7)(n:Int):Int:=
 IntKind.rec (motive:=fun _=>Int->Int) (zC 256 128) (zC 65536 32768) (zC 4294967296 2147483648) (zC 18446744073709551616 9223372036854775808)
  (Ct 256) (Ct 65536) (Ct 4294967296) (Ct 18446744073709551616) k n
def YX(n:Int)(M:Nat)(h:0<M):(uZ n M:Int)=n%M:=by
 cases n with
 |ofNat m=>rfl
 |negSucc m=>
  show((M-1-m%M:Nat):Int)=_;rw[Int.negSucc_emod _ (by omega)];have:m%M<M:=zah _ h;omega
def tF(M:Nat)(n:Int)(h:0<M):Ct M n=n%M:=YX n M h
def zD(M H:Nat)(n:Int)(h:0<M):zC M H n=if n%M>=H then n%M-M else n%M:=by
 have e:=YX n M h;have aN:uZ n M<M:=by have:=Int.emod_lt_of_pos n (show(0:Int)<M by omega);omega
 unfold zC gm;rw[zaz];rw[<-e];simp only[cond];by_cases c:uZ n M<H
 ·rw[zde c];rw[zaa (by omega)];rfl
 ·have:Nat.ble (Nat.succ (uZ n M)) H=false:=by
   rw[zbC];intro hh;exact c (jF hh)
  rw[this];rw[zab (by omega)];show Int.negSucc (M-1-uZ n M)=_;omega
def lR(k:d7)(n:Int):oT k n=k.wrap n:=by
 cases k
 all_goals simp only[oT,IntKind.wrap,IntKind.bits,IntKind.signed]
 ·rw[zD 256 128 n (by decide)];simp
 ·rw[zD 65536 32768 n (by decide)];simp
 ·rw[zD 4294967296 2147483648 n (by decide)];simp
 ·rw[zD 18446744073709551616 9223372036854775808 n (by decide)];simp
 ·rw[tF 256 n (by decide)];rfl
 ·rw[tF 65536 n (by decide)];rfl
 ·rw[tF 4294967296 n (by decide)];rfl
 ·rw[tF 18446744073709551616 n (by decide)];rfl
def zv(m n:Nat):Int:=cond (Nat.ble n m) (.ofNat (Nat.sub m n)) (.negSucc (Nat.sub (Nat.sub n m) 1))
def Fw(m n:Nat):zv m n=(m:Int)-n:=by
 unfold zv;by_cases h:n<=m
 ·rw[zde h];show((m-n:Nat):Int)=_;omega
 ·have:Nat.ble n m=false:=by rw[zbC];intro hh;exact h (jF hh)
  rw[this];show Int.negSucc (n-m-1)=_;omega
def CG(a b:Int):Int:=
 Int.rec (motive:=fun _=>Int)
  (fun m=>Int.rec (motive:=fun _=>Int) (fun n=>.ofNat (Nat.add m n)) (fun n=>zv m (Nat.succ n)) b)
  (fun m=>Int.rec (motive:=fun _=>Int) (fun n=>zv n (Nat.succ m)) (fun n=>.negSucc (Nat.succ (Nat.add m n))) b) a
def QO(a b:Int):CG a b=a+b:=by
 cases a with
 |ofNat m=>
  cases b with
  |ofNat n=>rfl
  |negSucc n=>simp only[CG,Fw];show(m:Int)-((n+1:Nat):Int)=(m:Int)+Int.negSucc n;omega
 |negSucc m=>
  cases b with
  |ofNat n=>simp only[CG,Fw];show(n:Int)-((m+1:Nat):Int)=Int.negSucc m+(n:Int);omega
  |negSucc n=>rfl
def IL(a:Int):Int:=
 Int.rec (motive:=fun _=>Int) (fun m=>zv 0 m) (fun m=>.ofNat (Nat.succ m)) a
def Oq(a:Int):IL a= -a:=by
 cases a with
 |ofNat m=>simp only[IL,Fw];show((0:Nat):Int)-(m:Int)= -(m:Int);omega
 |negSucc m=>rfl
def Bp(a b:Int):Int:=
 Int.rec (motive:=fun _=>Int)
  (fun m=>Int.rec (motive:=fun _=>Int) (fun n=>.ofNat (Nat.mul m n)) (fun n=>zv 0 (Nat.mul m (Nat.succ n))) b)
  (fun m=>Int.rec (motive:=fun _=>Int) (fun n=>zv 0 (Nat.mul (Nat.succ m) n)) (fun n=>.ofNat (Nat.mul (Nat.succ m) (Nat.succ n))) b) a
def Om(a b:Int):Bp a b=a*b:=by
 cases a with
 |ofNat m=>
  cases b with
  |ofNat n=>rfl
  |negSucc n=>
   simp only[Bp,Fw];show(0:Int)-((m*(n+1):Nat):Int)=(m:Int)* -((n:Int)+1);rw[Int.mul_neg];push_cast;omega
 |negSucc m=>
  cases b with
  |ofNat n=>
   simp only[Bp,Fw];show(0:Int)-(((m+1)*n:Nat):Int)= -((m:Int)+1)*n;rw[zci];push_cast;omega
  |negSucc n=>
   simp only[Bp];show(((m+1)*(n+1):Nat):Int)= -((m:Int)+1)* -((n:Int)+1);rw[Int.neg_mul_neg];push_cast;rfl
def nj(a b:Int):Bool:=
 Int.rec (motive:=fun _=>Bool)
  (fun m=>Int.rec (motive:=fun _=>Bool) (fun n=>Nat.ble m n) (fun _=>false) b)
  (fun m=>Int.rec (motive:=fun _=>Bool) (fun _=>true) (fun n=>Nat.ble n m) b) a
def s7(a b:Int):nj a b=decide (a<=b):=by
 cases a with
 |ofNat m=>
  cases b with
  |ofNat n=>simp only[nj];rw[zaS];simp
  |negSucc n=>simp only[nj];rw[zaS];simp;omega
 |negSucc m=>
  cases b with
  |ofNat n=>simp only[nj];rw[zaS];simp;omega
  |negSucc n=>simp only[nj];rw[zaS];simp;omega
def sO(a b:Int):Bool:=
 Int.rec (motive:=fun _=>Bool)
  (fun m=>Int.rec (motive:=fun _=>Bool) (fun n=>Nat.beq m n) (fun _=>false) b)
  (fun m=>Int.rec (motive:=fun _=>Bool) (fun _=>false) (fun n=>Nat.beq n m) b) a
def Dn(a b:Int):sO a b=(a==b):=by
 cases a with
 |ofNat m=>
  cases b with
  |ofNat n=>simp only[sO];rw[zaS];simp;omega
  |negSucc n=>simp only[sO];rw[zaS];simp
 |negSucc m=>
  cases b with
  |ofNat n=>simp only[sO];rw[zaS];simp
  |negSucc n=>simp only[sO];rw[zaS];simp;omega
section
variable{β:Type}
def mh(v:be)(k:Bool->β)(z:β):β:=
 @Value.rec (fun _=>β) (fun _=>Unit) (fun _=>Unit) (fun iG=>k iG) (fun _ _=>z) (fun _ _=>z) (fun _ _ _=>z) (fun _=>z) (fun _=>z) (fun _ _ _=>z) (fun _=>z) (fun _=>z) (fun _ _ _ _ _=>z) z (fun _ _ _=>z) z (fun _ _=>z) (fun _ _=>z) (fun _ _=>()) () (fun _ _ _ _=>()) v
def gO(v:be)(k:d7->Int->β)(z:β):β:=
 @Value.rec (fun _=>β) (fun _=>Unit) (fun _=>Unit) (fun _=>z) (fun iG cC=>k iG cC) (fun _ _=>z) (fun _ _ _=>z) (fun _=>z) (fun _=>z) (fun _ _ _=>z) (fun _=>z) (fun _=>z) (fun _ _ _ _ _=>z) z (fun _ _ _=>z) z (fun _ _=>z) (fun _ _=>z) (fun _ _=>()) () (fun _ _ _ _=>()) v
def im(v:be)(k:f5->β)(z:β):β:=
 @Value.rec (fun _=>β) (fun _=>Unit) (fun _=>Unit) (fun _=>z) (fun _ _=>z) (fun _ _=>z) (fun _ _ _=>z) (fun iG=>k iG) (fun _=>z) (fun _ _ _=>z) (fun _=>z) (fun _=>z) (fun _ _ _ _ _=>z) z (fun _ _ _=>z) z (fun _ _=>z) (fun _ _=>z) (fun _ _=>()) () (fun _ _ _ _=>()) v
def ik(v:be)(k:am Addr->β)(z:β):β:=
 @Value.rec (fun _=>β) (fun _=>Unit) (fun _=>Unit) (fun _=>z) (fun _ _=>z) (fun _ _=>z) (fun _ _ _=>z) (fun _=>z) (fun iG=>k iG) (fun _ _ _=>z) (fun _=>z) (fun _=>z) (fun _ _ _ _ _=>z) z (fun _ _ _=>z) z (fun _ _=>z) (fun _ _=>z) (fun _ _=>()) () (fun _ _ _ _=>()) v
def il(v:be)(k:am Addr->Nat->Nat->β)(z:β):β:=
 @Value.rec (fun _=>β) (fun _=>Unit) (fun _=>Unit) (fun _=>z) (fun _ _=>z) (fun _ _=>z) (fun _ _ _=>z) (fun _=>z) (fun _=>z) (fun iG cC fC=>k iG cC fC) (fun _=>z) (fun _=>z) (fun _ _ _ _ _=>z) z (fun _ _ _=>z) z (fun _ _=>z) (fun _ _=>z) (fun _ _=>()) () (fun _ _ _ _=>()) v
def Cq(v:be)(k:Fn->ap be->ap be->β)(z:β):β:=
 @Value.rec (fun _=>β) (fun _=>Unit) (fun _=>Unit) (fun _=>z) (fun _ _=>z) (fun _ _=>z) (fun _ _ _=>z) (fun _=>z) (fun _=>z) (fun _ _ _=>z) (fun _=>z) (fun _=>z) (fun iG cC fC _ _=>k iG cC fC) z (fun _ _ _=>z) z (fun _ _=>z) (fun _ _=>z) (fun _ _=>()) () (fun _ _ _ _=>()) v
def xD(v:be)(k:ce->be->β)(z:β):β:=
 @Value.rec (fun _=>β) (fun _=>Unit) (fun _=>Unit) (fun _=>z) (fun _ _=>z) (fun _ _=>z) (fun _ _ _=>z) (fun _=>z) (fun _=>z) (fun _ _ _=>z) (fun _=>z) (fun _=>z) (fun _ _ _ _ _=>z) z (fun iG cC _=>k iG cC) z (fun _ _=>z) (fun _ _=>z) (fun _ _=>()) () (fun _ _ _ _=>()) v
def vx(v:be)(k:ap be->β)(z:β):β:=
 @Value.rec (fun _=>β) (fun _=>Unit) (fun _=>Unit) (fun _=>z) (fun _ _=>z) (fun _ _=>z) (fun _ _ _=>z) (fun _=>z) (fun _=>z) (fun _ _ _=>z) (fun _=>z) (fun _=>z) (fun _ _ _ _ _=>z) z (fun _ _ _=>z) z (fun iG _=>k iG) (fun _ _=>z) (fun _ _=>()) () (fun _ _ _ _=>()) v
def rk(v:be)(k:ap be->β)(z:β):β:=
 @Value.rec (fun _=>β) (fun _=>Unit) (fun _=>Unit) (fun _=>z) (fun _ _=>z) (fun _ _=>z) (fun _ _ _=>z) (fun _=>z) (fun _=>z) (fun _ _ _=>z) (fun _=>z) (fun _=>z) (fun _ _ _ _ _=>z) z (fun _ _ _=>z) z (fun _ _=>z) (fun iG _=>k iG) (fun _ _=>()) () (fun _ _ _ _=>()) v
def zz(v:be)(k:am Nat->β)(z:β):β:=
 @Value.rec (fun _=>β) (fun _=>Unit) (fun _=>Unit) (fun _=>z) (fun _ _=>z) (fun _ _=>z) (fun _ _ _=>z) (fun _=>z) (fun _=>z) (fun _ _ _=>z) (fun iG=>k iG) (fun _=>z) (fun _ _ _ _ _=>z) z (fun _ _ _=>z) z (fun _ _=>z) (fun _ _=>z) (fun _ _=>()) () (fun _ _ _ _=>()) v
end
def tE{β:Type}(v:be)(a z:β):β:=match v with|.chan none=>a|_=>z
def iD:be:=.chan (some 0)
abbrev bG:=be->ac be->am be->ay->dh
section elim
variable{α β:Type}
def bk(o:am α)(k:α->β)(z:β):β:=Option.rec (motive:=fun _=>β) z k o
def ek(a b:Nat)(x y:β):β:=cond (Nat.ble a b) x y
def dQ(a b:Nat)(x y:β):β:=cond (Nat.beq a b) x y
def hP(n:Int)(k:Nat->β)(z:β):β:=Int.rec (motive:=fun _=>β) k (fun _=>z) n
def db(l:ac α):Nat:=List.rec (motive:=fun _=>Nat) 0 (fun _ _ n=>Nat.succ n) l
def fS(l m:ac α):ac α:=List.rec (motive:=fun _=>ac α) m (fun x _ r=>x::r) l
def jt(l:ac α)(off n:Nat)(k:ac α->β)(z:β):β:=bk (P8 n (GQ off l)) k z
def one(l:ac α)(k:α->β)(z:β):β:=
 List.rec (motive:=fun _=>β) z (fun x xs _=>List.rec (motive:=fun _=>β) (k x) (fun _ _ _=>z) xs) l
end elim
variable{β:Type}
def iA(k:d7)(n:Int)(c:be->β):β:=Tr n fun m=>c (.int k m)
def kn(a b:d7):Bool:=Nat.beq a.ctorIdx b.ctorIdx
def CR(f:Nat->Nat->Nat)(g:Int)(k:d7)(a b:Int)(c:be->aV):aV:=
 hP a (fun m=>hP b (fun n=>iA k (oT k (.ofNat (f (uZ (.ofNat m) (2^k.bits)) (uZ (.ofNat n) (2^k.bits))))) c) (iA k g c)) (iA k g c)
def Rr(k:d7)(a b:Int)(c:be->aV):aV:=iA k (oT k (CG a b)) c
def RE(k:d7)(a b:Int)(c:be->aV):aV:=iA k (oT k (CG a (IL b))) c
def Rz(k:d7)(a b:Int)(c:be->aV):aV:=iA k (oT k (Bp a b)) c
def RC(k:d7)(a b:Int)(c:be->aV):aV:=cond (sO b 0) .no (hP a (fun m=>hP b (fun n=>iA k (oT k (.ofNat (Nat.div m n))) c) (iA k (k.wrap (a.tdiv b)) c)) (iA k (k.wrap (a.tdiv b)) c))
def RD(k:d7)(a b:Int)(c:be->aV):aV:=cond (sO b 0) .no (hP a (fun m=>hP b (fun n=>iA k (.ofNat (Nat.mod m n)) c) (iA k (a.tmod b) c)) (iA k (a.tmod b) c))
def Rs(k:d7)(a b:Int)(c:be->aV):aV:=CR Nat.land (k.wrap (BitVec.ofInt k.bits a&&&BitVec.ofInt k.bits b).toNat) k a b c
def RB(k:d7)(a b:Int)(c:be->aV):aV:=CR Nat.lor (k.wrap (BitVec.ofInt k.bits a|||BitVec.ofInt k.bits b).toNat) k a b c
def RF(k:d7)(a b:Int)(c:be->aV):aV:=CR Nat.xor (k.wrap (BitVec.ofInt k.bits a^^^BitVec.ofInt k.bits b).toNat) k a b c
def Rt(k:d7)(a b:Int)(c:be->aV):aV:=iA k (k.wrap (BitVec.ofInt k.bits a&&& ~~~(BitVec.ofInt k.bits b)).toNat) c
def Ru(_k:d7)(a b:Int)(c:be->aV):aV:=c (.bool (sO a b))
def RA(_k:d7)(a b:Int)(c:be->aV):aV:=c (.bool (!sO a b))
def Ry(_k:d7)(a b:Int)(c:be->aV):aV:=c (.bool (!nj b a))
def Rx(_k:d7)(a b:Int)(c:be->aV):aV:=c (.bool (nj a b))
def Rw(_k:d7)(a b:Int)(c:be->aV):aV:=c (.bool (!nj a b))
def Rv(_k:d7)(a b:Int)(c:be->aV):aV:=c (.bool (nj b a))
def Lj(_k:d7)(_a _b:Int)(_c:be->aV):aV:=.no
def zY(op:BinOp)(k:d7)(a b:Int)(c:be->aV):aV:=
 BinOp.rec (motive:=fun _=>d7->Int->Int->(be->aV)->aV) Rr RE Rz RC RD Rs RB RF Lj Lj Rt Ru RA Ry Rx Rw Rv op k a b c
def CQ(op:BinOp)(x y:f5)(c:be->aV):aV:=
 match op with
 |.add=>ek (Nat.add (db x.data.toList) (db y.data.toList)) (2^40) (c (.string ⟨⟨fS x.data.toList y.data.toList⟩⟩)) .no
 |.eql=>c (.bool (x.data.toList==y.data.toList))
 |.neq=>c (.bool (!(x.data.toList==y.data.toList)))
 |_=>.no
def zr(k:d7)(a:Int)(n:Nat):Int:=oT k (Bp a (.ofNat (Nat.pow 2 (min n k.bits))))
def vt(k:d7)(a:Int)(n:Nat):Int:=
 hP a (fun m=>.ofNat (Nat.div m (Nat.pow 2 (min n k.bits)))) (a.fdiv (2^(min n k.bits)))
def ahs(_op:BinOp)(k:d7)(a:Int)(_yk:d7)(b:Int)(c:be->aV):aV:=hP b (fun n=>iA k (zr k a n) c) .no
def aht(_op:BinOp)(k:d7)(a:Int)(_yk:d7)(b:Int)(c:be->aV):aV:=hP b (fun n=>iA k (vt k a n) c) .no
def om(op:BinOp)(k:d7)(a:Int)(xG:d7)(b:Int)(c:be->aV):aV:=cond (kn k xG) (zY op k a b c) .no
def Ap(op:BinOp)(k:d7)(a:Int)(xG:d7)(b:Int)(c:be->aV):aV:=
 BinOp.rec (motive:=fun _=>BinOp->d7->Int->d7->Int->(be->aV)->aV) om om om om om om om om ahs aht om om om om om om om op op k a xG b c
def Dq(op:BinOp)(x y:be)(c:be->aV):aV:=
 gO x (fun k a=>gO y (fun xG b=>Ap op k a xG b c) .no)
 (im x (fun a=>im y (fun b=>CQ op a b c) .no) .no)
def va(off a2:Nat)(agg:Bool)(cs:ac be):am be:=
 jt cs off a2 (fun vs=>cond agg (some (.agg ⟨vs⟩)) (one vs (fun v=>some v) none)) none
def pX:be->be->am Bool
 |.slice none _ _,.slice b _ _=>some b.isNone
 |.slice (some _) _ _,.slice none _ _=>some false
 |.chan none,.slice none _ _=>some false
 |_,_=>none
def Dl:be->be->am Bool
 |.map none,.map b=>some b.isNone
 |.map (some _),.map none=>some false
 |_,_=>none
def An:be->be->am Bool
 |.nilFunc,.nilFunc=>some true
 |.nilFunc,.func _ _ _=>some false
 |.func _ _ _,.nilFunc=>some false
 |_,_=>none
def Dk:be->be->am Bool
 |.nilIface,.nilIface=>some true
 |.nilIface,.iface _ _=>some false
 |.iface _ _,.nilIface=>some false
 |_,_=>none
def sN:be->be->am Bool
 |.pointer none,.pointer b=>some b.isNone
 |.pointer (some _),.pointer none=>some false
 |.pointer (some a),.pointer (some b)=>if a.block=b.block∧a.spot=none∧b.spot=none then some (a.off==b.off)else none
 |_,_=>none
def Ao:be->be->am Bool
 |.bool a,.bool b=>some (a==b)
 |.int k a,.int k' b=>if k=k' then some (a==b)else none
 |.string a,.string b=>some (a.data.toList==b.data.toList)
 |_,_=>none
def ly:Nat->pE->be->be->am Bool
 |_,.tl,x,y=>Ao x y
 |_,.lk,x,y=>pX x y
 |_,.y3,x,y=>Dl x y
 |_,.wY,x,y=>An x y
 |_,.wZ,x,y=>Dk x y
 |_,.ptr,x,y=>sN x y
 |0,.agg _,_,_=>none
 |n+1,.agg ps,.agg xs,.agg av=>SZ n xs.toList av.toList ps
 |_,.agg _,_,_=>none
 where
 SZ (n:Nat) (xs av:ac be):ac (Nat×Nat×Bool×pE)->am Bool
  |[]=>some true
  |(off,a2,h7,e)::rest=>
   match va off a2 h7 xs,va off a2 h7 av with
   |some x,some y=>
    match ly n e x y with
    |some true=>SZ n xs av rest
    |r=>r
   |_,_=>none
def Aq(op:UnOp)(x:be)(c:be->aV):aV:=
 match op with
 |.neg=>gO x (fun k n=>iA k (oT k (IL n)) c) .no
 |.xor=>gO x (fun k n=>iA k (k.wrap (BitVec.ofInt k.bits (if k.signed then -1 else k.max)^^^BitVec.ofInt k.bits n).toNat) c) .no
 |.not=>mh x (fun b=>c (.bool (!b))) .no
 |_=>.no
def o5(fr:aP)(ps:ac (Nat×Nat×bi)):ac be->(ac be->aV)->aV:=
 List.rec (motive:=fun _=>ac be->(ac be->aV)->aV) (fun cs c=>c cs)
  (fun p _ a7 cs c=>
   (fun v=>cond (uM v) .no ((fun vs=>dQ (db vs) p.2.1 (ek (Nat.add p.1 p.2.1) (db cs) (q4 cs p.1 vs (fun cs'=>a7 cs' c) .no) .no) .no) (h8 v))) (fr.ak p.2.2)) ps
def bytesOf(vs:ac be):am (ac bv):=
 List.rec (motive:=fun _=>am (ac bv)) (some [])
  (fun v _ r=>gO v (fun k n=>cond (kn k .u8) (bk r (fun bT=>some (UInt8.ofNat n.toNat::bT)) none) none) none) vs
def lQ(bT:ac bv):ac be:=
 List.rec (motive:=fun _=>ac be) [] (fun b _ r=>Value.int .u8 (.ofNat b.toNat)::r) bT
def fq(fr:aP)(x:am bi)(dflt y:Nat)(k:Nat->aV):aV:=
 bk x (fun x=>gO (fr.ak x) (fun _ n=>hP n (fun n=>ek n y (k n) .no) .no) .no) (k dflt)
def CY(o:am bt)(k:ac be->ce->Nat×Nat->Bool->β)(z:β):β:=
 bk o (fun o=>bt.rec (motive:=fun _=>β) k (fun _ _=>z) (fun _ _=>z) (fun _ _ _ _=>z) (fun _ _ _ _ _ _ _ _=>z) (fun _=>z) z o) z
def ay.gC(st:ay)(a:Addr)(k:ac be->ce->Nat×Nat->Bool->β)(z:β):β:=
 bk a.spot (fun _=>z) (CY (st.h.get a.block) k z)
def ay.load(st:ay)(a:Addr)(n:Nat)(k:ac be->β)(z:β):β:=
 st.gC a (fun cs _ _ _=>jt cs a.off n k z) z
def ay.hI(st:ay)(id:Nat)(o:bt)(k:ay->β):β:=
 ao.fin (ao.kY (Nat.succ id) st.h id o) fun h=>k ⟨h,st.ai⟩
def ay.store(st:ay)(a:Addr)(vs:ac be)(k:ay->β)(z:β):β:=
 st.gC a (fun cs elem bg a8=>ek bg.2 bg.1 (q4 cs a.off vs (fun cs'=>st.hI a.block (.cells cs' elem bg a8) k) z) z) z
def jJ(fr:aP)(st:ay)(elem:ce)(a2 bytes:Nat)(base:am Addr)(len cap:Nat)(n:Nat)(new:ac be):aV:=
 (fun u0=>
  ek (Nat.mul (Nat.add (Nat.mul 5 u0) 1792) (Nat.succ bytes)) (2^50)
   (bk base
    (fun a=>st.gC a (fun cs el bg a8=>
     ek bg.2 bg.1 (ek len cap (ek (Nat.add a.off (Nat.mul cap a2)) (db cs) (dQ el elem
      (dQ n 0 (.ok (.slice (some a) len cap) fr st)
       (cond a8
        (jt cs a.off (Nat.mul len a2) (fun old=>st.hI a.block .dead fun st=>st.jB (.cells (fS old new) elem (0,0) true) fun id st=>.ok (.slice (some ⟨id,0,none⟩) u0 u0) fr st) .no)
        (ek u0 cap
         (q4 cs (Nat.add a.off (Nat.mul len a2)) new (fun cs'=>st.hI a.block (.cells cs' el bg false) fun st=>.ok (.slice (some a) u0 cap) fr st) .no)
         (jt cs a.off (Nat.mul len a2) (fun old=>st.jB (.cells (fS old new) elem (0,0) true) fun id st=>.ok (.slice (some ⟨id,0,none⟩) u0 u0) fr st) .no))))
      .no) .no) .no) .no) .no)
    (dQ len 0 (dQ cap 0
     (dQ n 0 (.ok (.slice none 0 0) fr st)
      (st.jB (.cells new elem (0,0) true) fun id st=>.ok (.slice (some ⟨id,0,none⟩) u0 u0) fr st))
     .no) .no))
   .no) (Nat.add len n)
def ED(k:d7)(fr:aP)(xs:ac bi):Int->am Int:=
 List.rec (motive:=fun _=>Int->am Int) (fun m=>some m)
  (fun x _ a7 m=>gO (fr.ak x) (fun k' y=>cond (kn k k') (a7 (cond (nj y m) m y)) none) none) xs
def EE(k:d7)(fr:aP)(xs:ac bi):Int->am Int:=
 List.rec (motive:=fun _=>Int->am Int) (fun m=>some m)
  (fun x _ a7 m=>gO (fr.ak x) (fun k' y=>cond (kn k k') (a7 (cond (nj m y) m y)) none) none) xs
def ey(fr:aP)(xs:ac bi):ac be:=
 List.rec (motive:=fun _=>ac be) [] (fun x _ r=>fr.ak x::r) xs
def lX(z:ac be)(n:Nat):ac be:=
 Nat.rec (motive:=fun _=>ac be) [] (fun _ r=>fS z r) n
def Ic(k:d7)(n:Int):Bool:=nj k.min n&&nj n k.max
def gb.ok(df:gb)(v:be):Bool:=
 match df with
 |.int k=>gO v (fun k' n=>kn k k'&&Ic k n) false
 |.str=>im v (fun s=>Nat.ble (db s.data.toList) (2^40)) false
 |.arr k n=>vx v (fun xs=>Nat.beq (db xs.toList) n&&xs.toList.all (fun x=>gO x (fun k' m=>kn k k'&&Ic k m) false)) false
def qa(o:am bt)(k:ac d8->Nat->β)(z:β):β:=
 bk o (fun o=>bt.rec (motive:=fun _=>β) (fun _ _ _ _=>z) k (fun _ _=>z) (fun _ _ _ _=>z) (fun _ _ _ _ _ _ _ _=>z) (fun _=>z) z o) z
def Ih(o:am bt)(k:am Nat->Nat->ac Nat->Nat->β)(z:β):β:=
 bk o (fun o=>bt.rec (motive:=fun _=>β) (fun _ _ _ _=>z) (fun _ _=>z) (fun _ _=>z) k (fun _ _ _ _ _ _ _ _=>z) (fun _=>z) z o) z
def P1(o:am bt)(k:f5->Nat->β)(z:β):β:=
 bk o (fun o=>bt.rec (motive:=fun _=>β) (fun _ _ _ _=>z) (fun _ _=>z) k (fun _ _ _ _=>z) (fun _ _ _ _ _ _ _ _=>z) (fun _=>z) z o) z
def wT(df:gb)(es:ac d8):Bool:=es.all (fun e=>df.ok e.key)
def ko(k:be)(es:ac d8):am d8:=es.find? (fun e=>dJ k e.key)
def Bk(k v:be)(es:ac d8):ac d8:=es.map (fun e=>cond (dJ k e.key) ⟨e.key,v,e.born⟩ e)
def Bj(k:be)(es:ac d8):ac d8:=es.filter (fun e=> !dJ k e.key)
def LW:be->be->am Bool
 |.int k a,.int k' b=>if k=k' then some (a==b)else none
 |_,_=>none
def GX:be->be->am Bool
 |.string a,.string b=>some (a.data.toList==b.data.toList)
 |_,_=>none
def SY(i:Nat)(x y:be):am Bool:=match i with
 |0=>GX x y
 |_=>LW x y
def o3:Nat->ac be->ac be->am Bool
 |_,[],[]=>some true
 |i,x::xs,y::av=>bk (SY i x y) (fun b=>cond b (o3 (i-1) xs av) (bk (o3 (i-1) xs av) (fun _=>some false) none)) none
 |_,_,_=>none
def C3(n:Nat):be->am Bool
 |.chan (some c)=>if c%2=0 then(if 2<=c∧n<=(c-2)/2 then some true else none)else(if 3<=c∧(c-3)/2<=n then some false else none)
 |_=>none
def NJ(n:Nat)(c:be):Bool:=match C3 n c with|some true=>true|_=>false
def xa:ac bv->ac bv->Bool
 |[],_=>true
 |a::as,b::bT=>a==b&&xa as bT
 |_::_,[]=>false
def pA(b:ac bv):ac bv->am Nat
 |[]=>if b.isEmpty then some 0 else none
 |x::xs=>if xa b (x::xs)then some 0 else(pA b xs).map (· +1)
def ao4(l:ac Nat):am Nat:=l.getLast?
def nM(fr:aP)(st:ay)(y:vO):aV:=
 match y with
 |.look df z ok m k=>(fun key=>cond (df.ok key)
  (zz (fr.ak m) (fun r=>bk r (fun id=>qa (st.h.get id) (fun es _=>cond (wT df es) (bk (ko key es) (fun e=>.ok (cond ok (.tuple #[e.val,.bool true]) e.val) fr st) (.ok (cond ok (.tuple #[z,.bool false]) z) fr st)) .no) .no)
   (.ok (cond ok (.tuple #[z,.bool false]) z) fr st)) .no) .no) (fr.ak k)
 |.hd df m k v=>(fun key=>cond (df.ok key)
  (zz (fr.ak m) (fun r=>bk r (fun id=>qa (st.h.get id) (fun es clock=>cond (wT df es)
   (bk (ko key es) (fun _=>st.hI id (.map (Bk key (fr.ak v) es) clock) fun st=>.ok undef fr st)
    (st.hI id (.map (es++[⟨key,fr.ak v,clock⟩]) (Nat.succ clock)) fun st=>.ok undef fr st)) .no) .no) .no) .no) .no) (fr.ak k)
 |.del df m k=>(fun key=>cond (df.ok key)
  (zz (fr.ak m) (fun r=>bk r (fun id=>qa (st.h.get id) (fun es clock=>cond (wT df es) (st.hI id (.map (Bj key es) clock) fun st=>.ok undef fr st) .no) .no) .no) .no) .no) (fr.ak k)
 |.Bn m=>zz (fr.ak m) (fun r=>bk r (fun id=>qa (st.h.get id) (fun es _=>gm (db es) fun n=>.ok (.int .i64 (.ofNat n)) fr st) .no) (.ok (.int .i64 0) fr st)) .no
 |.Bo m=>zz (fr.ak m) (fun r=>bk r (fun id=>qa (st.h.get id) (fun _ clock=>st.jB (.qZ (some id) clock [] clock) fun id st=>.ok (.pointer (some ⟨id,0,none⟩)) fr st) .no)
  (st.jB (.qZ none 0 [] 0) fun id st=>.ok (.pointer (some ⟨id,0,none⟩)) fr st)) .no
 |.Bl it=>ik (fr.ak it) (fun p=>bk p (fun a=>bk a.spot (fun _=>.no) (dQ a.off 0 (Ih (st.h.get a.block) (fun m _ seen n5=>
  bk m (fun id=>bk (ao4 seen) (fun s=>qa (st.h.get id) (fun es clock=>dQ clock n5 (ek (Nat.succ s) clock (bk (es.find? (fun e=>Nat.beq e.born s)) (fun e=>.ok (.tuple #[e.key,e.val]) fr st) .no) .no) .no) .no) .no) .no) .no) .no)) .no) .no
 |.bd s c=>im (fr.ak s) (fun s=>gO (fr.ak c) (fun k c=>cond (kn k .u8) (hP c (fun c=>.ok (.int .i64 (.ofNat (s.data.toList.countP (fun b=>b==UInt8.ofNat c)))) fr st) .no) .no) .no) .no
 |.ug neg n x y=>vx (fr.ak x) (fun xs=>vx (fr.ak y) (fun av=>dQ (db xs.toList) (Nat.add (Nat.mod n 100) (Nat.div n 100)) (dQ (db av.toList) (Nat.add (Nat.mod n 100) (Nat.div n 100)) (bk (o3 (Nat.mod n 100) xs.toList av.toList) (fun b=>.ok (.bool (cond neg (!b) b)) fr st) .no) .no) .no) .no) .no
 |.q1 _=>.no
 |.xV gt x y=>gO (fr.ak x) (fun k n=>cond (kn k .i64) (hP n (fun n=>bk (C3 n (fr.ak y)) (fun b=>.ok (.bool (cond gt (!b) b)) fr st) .no) .no) .no) .no
 |.idxs g s b=>im (fr.ak s) (fun s=>im (fr.ak b) (fun b=>CY (st.h.get g) (fun cs _ _ a8=>cond a8 .no (one cs (fun c=>cond (NJ (db b.data.toList) c) (ek 2 (db b.data.toList) (ek (db s.data.toList) 1000000
  (.ok (.int .i64 (bk (pA b.data.toList s.data.toList) (fun i=>.ofNat i) (.negSucc 0))) fr st) .no) .no) .no) .no)) .no) .no) .no
 |.Cg x=>im (fr.ak x) (fun s=>st.jB (.zs s 0) fun id st=>.ok (.pointer (some ⟨id,0,none⟩)) fr st) .no
 |.Cf it=>ik (fr.ak it) (fun p=>bk p (fun a=>bk a.spot (fun _=>.no) (dQ a.off 0 (P1 (st.h.get a.block) (fun s pos=>
  bk (GQ pos s.data.toList).head? (fun b=>ek (Nat.succ b.toNat) 128 (st.hI a.block (.zs s (Nat.succ pos)) fun st=>.ok (.tuple #[.bool true,.int .i64 (.ofNat pos),.int .i32 (.ofNat b.toNat)]) fr st) .no) (.ok (.tuple #[.bool false]) fr st)) .no) .no)) .no) .no
 |.Bm e n=>gO (fr.ak n) (fun k n=>cond (kn k .i64) (hP n (fun n=>ek n 1000000 (st.jB (.cells (lX [iD] n) e (0,0) true) fun id st=>.ok (.slice (some ⟨id,0,none⟩) n n) fr st) .no) .no) .no) .no
 |.z0 x=>il (fr.ak x) (fun b _ c=>bk b (fun _=>.no) (.ok (.int .i64 (.ofNat c)) fr st)) .no
def qV(c:bv)(l:ac bv):am Nat:=
 List.rec (motive:=fun _=>am Nat) none (fun b _ r=>cond (Nat.beq b.toNat c.toNat) (some 0) (bk r (fun i=>some (Nat.succ i)) none)) l
def ZP(x:bi)(_call:bG)(fr:aP)(st:ay):aV:=
 .ok (fr.ak x) fr st
def ZS(c:bi)(a:bi)(b:bi)(_call:bG)(fr:aP)(st:ay):aV:=
 mh (fr.ak c) (fun t=>.ok (cond t (fr.ak a) (fr.ak b)) fr st) .no
def y6(z:ac be)(elem:ce)(_call:bG)(fr:aP)(st:ay):aV:=
 st.jB (.cells z elem (0,0) false) fun id st=>.ok (.pointer (some ⟨id,0,none⟩)) fr st
def BF(elem:ce)(x:bi)(_call:bG)(fr:aP)(st:ay):aV:=
 (fun v=>cond (uM v) .no (st.jB (.cells (h8 v) elem (0,0) false) fun id st=>.ok (.pointer (some ⟨id,0,none⟩)) fr st)) (fr.ak x)
def ON(z:ac be)(ps:ac (Nat×Nat×bi))(_call:bG)(fr:aP)(st:ay):aV:=
 o5 fr ps z fun cs=>.ok (.agg ⟨cs⟩) fr st
def BG(elem:ce)(len:Nat)(z:ac be)(ps:ac (Nat×Nat×bi))(_call:bG)(fr:aP)(st:ay):aV:=
 o5 fr ps z fun cs=>st.jB (.cells cs elem (0,0) false) fun id st=>.ok (.slice (some ⟨id,0,none⟩) len len) fr st
def I2(a:bi)(_call:bG)(fr:aP)(st:ay):aV:=
 ik (fr.ak a) (fun p=>bk p (fun a=>st.load a 1 (fun vs=>one vs (fun v=>.ok v fr st) .no) .no) .no) .no
def I3(n:Nat)(a:bi)(_call:bG)(fr:aP)(st:ay):aV:=
 ik (fr.ak a) (fun p=>bk p (fun a=>st.load a n (fun vs=>.ok (.agg ⟨vs⟩) fr st) .no) .no) .no
def ZW(n:Nat)(a:bi)(x:bi)(_call:bG)(fr:aP)(st:ay):aV:=
 ik (fr.ak a) (fun p=>bk p (fun a=>(fun vs=>dQ (db vs) n (cond (hf vs) (st.store a vs (fun st=>.ok undef fr st) .no) .no) .no) (h8 (fr.ak x))) .no) .no
def OP(x:bi)(_call:bG)(fr:aP)(st:ay):aV:=
 ik (fr.ak x) (fun p=>bk p (fun a=>.ok (.pointer (some a)) fr st) .no) (Cq (fr.ak x) (fun f a b=>match f with|.func g=>.ok (.func (.func g) a b) fr st|_=>.no) .no)
def aqC(_name:String)(_tab:ac (Nat×ci))(_x:bi)(_call:bG)(_fr:aP)(_st:ay):aV:=
 .no
def OM(op:BinOp)(x:bi)(y:bi)(_call:bG)(fr:aP)(st:ay):aV:=
 Dq op (fr.ak x) (fr.ak y) fun v=>.ok v fr st
def ZC(neg:Bool)(e:pE)(x:bi)(y:bi)(_call:bG)(fr:aP)(st:ay):aV:=
 bk (ly 8 e (fr.ak x) (fr.ak y)) (fun b=>.ok (.bool (cond neg (!b) b)) fr st) .no
def OR(op:UnOp)(x:bi)(_call:bG)(fr:aP)(st:ay):aV:=
 Aq op (fr.ak x) fun v=>.ok v fr st
def ZA(k:d7)(x:bi)(_call:bG)(fr:aP)(st:ay):aV:=
 gO (fr.ak x) (fun _ n=>iA k (oT k n) fun v=>.ok v fr st) .no
def Zz(x:bi)(_call:bG)(fr:aP)(st:ay):aV:=
 im (fr.ak x) (fun s=>.ok (.string s) fr st) .no
def IX(x:bi)(_call:bG)(fr:aP)(st:ay):aV:=
 il (fr.ak x) (fun a n _=>bk a (fun a=>st.load a n (fun vs=>bk (bytesOf vs) (fun bT=>.ok (.string ⟨⟨bT⟩⟩) fr st) .no) .no) (.ok (.string ⟨⟨[]⟩⟩) fr st)) .no
def BH(elem:ce)(x:bi)(_call:bG)(fr:aP)(st:ay):aV:=
 im (fr.ak x) (fun s=>(fun n=>ek n (2^40) (st.jB (.cells (lQ s.data.toList) elem (0,0) true) fun id st=>.ok (.slice (some ⟨id,0,none⟩) n n) fr st) .no) (db s.data.toList)) .no
def ZN(t:ce)(x:bi)(_call:bG)(fr:aP)(st:ay):aV:=
 .ok (.iface t (fr.ak x)) fr st
def ZM(fn:Fn)(first:ac bi)(fU:ac bi)(_call:bG)(fr:aP)(st:ay):aV:=
 .ok (.func fn ⟨ey fr first⟩ ⟨ey fr fU⟩) fr st
def y7(_call:bG)(fr:aP)(st:ay):aV:=
 st.jB (.map [] 0) fun id st=>.ok (.map (some id)) fr st
def w8(elem:ce)(bytes:Nat)(z:ac be)(len:bi)(cap:bi)(_call:bG)(fr:aP)(st:ay):aV:=
 gO (fr.ak len) (fun _ l=>gO (fr.ak cap) (fun _ c=>hP l (fun l=>hP c (fun c=>ek l c (ek (Nat.mul c (Nat.succ bytes)) (2^40) (st.jB (.cells (lX z c) elem (0,0) false) fun id st=>.ok (.slice (some ⟨id,0,none⟩) l c) fr st) .no) .no) .no) .no) .no) .no
def ZV(x:bi)(aQ:am bi)(af:am bi)(_call:bG)(fr:aP)(st:ay):aV:=
 im (fr.ak x) (fun s=>(fun n=>fq fr af n n fun h=>fq fr aQ 0 h fun l=>jt s.data.toList l (Nat.sub h l) (fun bT=>.ok (.string ⟨⟨bT⟩⟩) fr st) .no) (db s.data.toList)) .no
def BI(n:Nat)(a2:Nat)(x:bi)(aQ:am bi)(af:am bi)(e7:am bi)(_call:bG)(fr:aP)(st:ay):aV:=
 ik (fr.ak x) (fun p=>bk p (fun a=>st.gC a (fun _ _ _ a8=>cond a8 .no (fq fr e7 n n fun m=>fq fr af n m fun h=>fq fr aQ 0 h fun l=>.ok (.slice (some (dQ m l a (a.add (Nat.mul l a2)))) (Nat.sub h l) (Nat.sub m l)) fr st)) .no) .no) .no
def ZU(a2:Nat)(x:bi)(aQ:am bi)(af:am bi)(e7:am bi)(_call:bG)(fr:aP)(st:ay):aV:=
 il (fr.ak x) (fun b len cap=>bk b (fun a=>st.gC a (fun _ _ _ a8=>cond a8 (bk e7 (fun _=>.no) (ek len cap (fq fr af len len fun h=>fq fr aQ 0 h fun l=>.ok (.slice (some (a.add (Nat.mul l a2))) (Nat.sub h l) (Nat.sub cap l)) fr st) .no)) (fq fr e7 cap cap fun m=>fq fr af len m fun h=>fq fr aQ 0 h fun l=>.ok (.slice (some (dQ m l a (a.add (Nat.mul l a2)))) (Nat.sub h l) (Nat.sub m l)) fr st)) .no) (fq fr e7 cap cap fun m=>fq fr af len m fun h=>fq fr aQ 0 h fun l=>.ok (.slice none (Nat.sub h l) (Nat.sub m l)) fr st)) .no
def ZE(off:Nat)(x:bi)(_call:bG)(fr:aP)(st:ay):aV:=
 ik (fr.ak x) (fun p=>bk p (fun a=>.ok (.pointer (some (a.add off))) fr st) .no) .no
def ZF(off:Nat)(a2:Nat)(agg:Bool)(x:bi)(_call:bG)(fr:aP)(st:ay):aV:=
 vx (fr.ak x) (fun cs=>bk (va off a2 agg cs.toList) (fun v=>.ok v fr st) .no) .no
def th(n:Nat)(a2:Nat)(x:bi)(i:bi)(_call:bG)(fr:aP)(st:ay):aV:=
 ik (fr.ak x) (fun p=>bk p (fun a=>gO (fr.ak i) (fun _ j=>hP j (fun j=>ek (Nat.succ j) n (.ok (.pointer (some (a.add (Nat.mul j a2)))) fr st) .no) .no) .no) .no) .no
def ZG(a2:Nat)(x:bi)(i:bi)(_call:bG)(fr:aP)(st:ay):aV:=
 il (fr.ak x) (fun b len _=>bk b (fun a=>gO (fr.ak i) (fun _ j=>hP j (fun j=>ek (Nat.succ j) len (.ok (.pointer (some (a.add (Nat.mul j a2)))) fr st) .no) .no) .no) .no) .no
def ZI(x:bi)(i:bi)(_call:bG)(fr:aP)(st:ay):aV:=
 im (fr.ak x) (fun s=>gO (fr.ak i) (fun _ j=>hP j (fun j=>jt s.data.toList j 1 (fun bT=>one bT (fun b=>.ok (.int .u8 (.ofNat b.toNat)) fr st) .no) .no) .no) .no) .no
def ZH(n:Nat)(a2:Nat)(agg:Bool)(x:bi)(i:bi)(_call:bG)(fr:aP)(st:ay):aV:=
 vx (fr.ak x) (fun cs=>gO (fr.ak i) (fun _ j=>hP j (fun j=>ek (Nat.succ j) n (bk (va (Nat.mul j a2) a2 agg cs.toList) (fun v=>.ok v fr st) .no) .no) .no) .no) .no
def OQ(t:ce)(zero:be)(ok:Bool)(x:bi)(_call:bG)(fr:aP)(st:ay):aV:=
 xD (fr.ak x) (fun u v=>dQ u t (.ok (cond ok (.tuple #[v,.bool true]) v) fr st) (cond ok (.ok (.tuple #[zero,.bool false]) fr st) .no)) (match fr.ak x with|.nilIface=>cond ok (.ok (.tuple #[zero,.bool false]) fr st) .no|_=>.no)
def ZD(x:bi)(i:Nat)(_call:bG)(fr:aP)(st:ay):aV:=
 rk (fr.ak x) (fun vs=>jt vs.toList i 1 (fun l=>one l (fun v=>.ok v fr st) .no) .no) .no
def aqs(f:bi)(args:ac bi)(call:bG)(fr:aP)(st:ay):aV:=
 dh.rec (motive:=fun _=>aV) (fun v st _=>.ok v fr st) (fun v st _=>.a1 v st) .no (call (fr.ak f) (ey fr args) none st)
def aqy(_tab:ac (Nat×ci))(_x:bi)(_args:ac bi)(_call:bG)(_fr:aP)(_st:ay):aV:=
 .no
def I1(x:bi)(_call:bG)(fr:aP)(st:ay):aV:=
 il (fr.ak x) (fun _ n _=>.ok (.int .i64 (.ofNat n)) fr st) (tE (fr.ak x) (.ok (.int .i64 (.ofNat 0)) fr st) .no)
def ZK(x:bi)(_call:bG)(fr:aP)(st:ay):aV:=
 im (fr.ak x) (fun s=>gm (db s.data.toList) fun n=>.ok (.int .i64 (.ofNat n)) fr st) .no
def OO(n:Nat)(_call:bG)(fr:aP)(st:ay):aV:=
 .ok (.int .i64 (.ofNat n)) fr st
def aqz(_x:bi)(_call:bG)(_fr:aP)(_st:ay):aV:=
 .no
def Zy(elem:ce)(a2:Nat)(bytes:Nat)(s:bi)(x:bi)(_call:bG)(fr:aP)(st:ay):aV:=
 il (fr.ak s) (fun base len cap=>il (fr.ak x) (fun b n _=>bk b (fun b=>st.load b (Nat.mul n a2) (fun new=>cond (hf new) (jJ fr st elem a2 bytes base len cap n new) .no) .no) (dQ n 0 (jJ fr st elem a2 bytes base len cap 0 []) .no)) (tE (fr.ak x) (jJ fr st elem a2 bytes base len cap 0 []) (im (fr.ak x) (fun s=>dQ a2 1 (jJ fr st elem a2 bytes base len cap (db s.data.toList) (lQ s.data.toList)) .no) .no))) .no
def ZQ(x:bi)(xs:ac bi)(_call:bG)(fr:aP)(st:ay):aV:=
 gO (fr.ak x) (fun k n=>bk (ED k fr xs n) (fun m=>iA k m fun v=>.ok v fr st) .no) .no
def ZO(x:bi)(xs:ac bi)(_call:bG)(fr:aP)(st:ay):aV:=
 gO (fr.ak x) (fun k n=>bk (EE k fr xs n) (fun m=>iA k m fun v=>.ok v fr st) .no) .no
def ZB(a2:Nat)(d:bi)(s:bi)(_call:bG)(fr:aP)(st:ay):aV:=
 il (fr.ak d) (fun a dl _=>il (fr.ak s) (fun b a5 _=>bk a (fun a=>bk b (fun b=>(fun n=>st.load b (Nat.mul n a2) (fun vs=>cond (hf vs) (st.store a vs (fun st=>.ok (.int .i64 (.ofNat n)) fr st) .no) .no) .no) (ek a5 dl a5 dl)) (dQ a5 0 (.ok (.int .i64 0) fr st) .no)) (dQ dl 0 (.ok (.int .i64 0) fr st) .no)) .no) .no
def aqE(_call:bG)(fr:aP)(st:ay):aV:=
 bk fr.b0 (fun _=>.no) (bk fr.a1 (fun v=>cond fr.cB (.ok .nilIface fr st) (.ok v ⟨fr.t,fr.cS,fr.a1,true,fr.b0⟩ st)) (.ok .nilIface fr st))
def aqu(f:bi)(args:ac bi)(_call:bG)(fr:aP)(st:ay):aV:=
 bk fr.b0 (fun _=>.no) (Cq (fr.ak f) (fun fn first fU=>match fn with|.func g=>.ok undef ⟨fr.t,{target:=.fn (.func g) fU,args:=⟨fS first.toList (ey fr args)⟩}::fr.cS,fr.a1,fr.cB,fr.b0⟩ st|_=>.no) .no)
def aqD(x:bi)(_call:bG)(fr:aP)(st:ay):aV:=
 xD (fr.ak x) (fun t v=>.a1 (.iface t v) st) .no
def IY(x:bi)(_call:bG)(fr:aP)(st:ay):aV:=
 ik (fr.ak x) (fun p=>bk p (fun a=>st.gC a (fun cs _ _ _=>ek (Nat.succ a.off) (db cs) (.ok (.pointer (some a)) fr st) .no) .no) .no) .no
def IZ(elem:Nat)(n:Nat)(x:bi)(_call:bG)(fr:aP)(st:ay):aV:=
 ik (fr.ak x) (fun p=>bk p (fun a=>st.gC a (fun cs el _ a8=>cond a8 .no (dQ a.off 0 (dQ el elem (dQ (db cs) n (.ok (.pointer (some a)) fr st) .no) .no) .no)) .no) .no) .no
def I4(x:bi)(_call:bG)(fr:aP)(st:ay):aV:=
 il (fr.ak x) (fun b _ c=>bk b (fun a=>dQ c 0 .no (.ok (.pointer (some a)) fr st)) (.ok (.pointer none) fr st)) .no
def I5(elem:ce)(x:bi)(n:bi)(_call:bG)(fr:aP)(st:ay):aV:=
 ik (fr.ak x) (fun p=>gO (fr.ak n) (fun _ n=>hP n (fun n=>dQ n 0 (.ok (.string ⟨⟨[]⟩⟩) fr st) (bk p (fun a=>ek n (2^40) (st.gC a (fun cs el bg a8=>ek bg.2 bg.1 (dQ el elem (jt cs a.off n (fun vs=>bk (bytesOf vs) (fun bT=>st.hI a.block (.cells cs el (a.off,Nat.add a.off n) a8) fun st=>.ok (.string ⟨⟨bT⟩⟩) fr st) .no) .no) .no) .no) .no) .no) .no)) .no) .no) .no
def I0(s:bi)(c:bi)(_call:bG)(fr:aP)(st:ay):aV:=
 im (fr.ak s) (fun s=>gO (fr.ak c) (fun k c=>cond (kn k .u8) (hP c (fun c=>.ok (.int .i64 (bk (qV (UInt8.ofNat c) s.data.toList) (fun i=>.ofNat i) (.negSucc 0))) fr st) .no) .no) .no) .no
def ZR(x:bi)(_call:bG)(fr:aP)(st:ay):aV:=
 .ok (fr.ak x) fr st
def aqv(y:vO)(_call:bG)(fr:aP)(st:ay):aV:=
 nM fr st y
def aqF(_call:bG)(_fr:aP)(_st:ay):aV:=
 .no
def bK(call:bG)(o:dd)(fr:aP)(st:ay):aV:=
 dd.rec (motive:=fun _=>bG->aP->ay->aV) ZP ZS y6 BF ON BG I2 I3 ZW OP aqC OM ZC OR ZA Zz IX BH ZN ZM y7 w8 ZV BI ZU ZE ZF th ZG ZI ZH OQ ZD aqs aqy I1 ZK OO aqz Zy ZQ ZO ZB aqE aqu aqD IY IZ I4 I5 I0 ZR aqv aqF o call fr st
inductive cm where
 |out (e:dv) (fr:aP) (st:ay)
 |no
def gB(fr:aP)(g:am (Tmp×Bool))(yes h4 z:β):β:=
 bk g (fun p=>mh (fr.tmp p.1) (fun b=>cond b (cond p.2 yes h4) (cond p.2 h4 yes)) (rk (fr.tmp p.1) (fun _=>h4) z)) yes
def dd.k7:dd->Bool
 |.call _ _|.inv _ _ _|.oI _=>true
 |_=>false
def gG(call:bG)(ops:ac bz):aP->ay->cm:=
 List.rec (motive:=fun _=>aP->ay->cm) (fun fr st=>.out .norm fr st)
  (fun x _ a7 fr st=>
   gB fr x.g
    (aV.rec (motive:=fun _=>cm) (fun v fr st=>a7 (fr.put x.d v) st) (fun v st=>cond x.o.k7 (.out (.a1 v) fr st) .no) .no (bK call x.o fr st))
    (a7 (fr.put x.d undef) st) .no) ops
def sameAt(call:bG)(o:dd)(fr:aP)(v:be)(ai:Nat)(n:Nat):ac (ao bt)->Bool:=
 Nat.rec (motive:=fun _=>ac (ao bt)->Bool) (fun _=>true)
  (fun _ a7 ah=>List.rec (motive:=fun _=>Bool) false
   (fun h ah _=>aV.rec (motive:=fun _=>Bool) (fun v' _ _=>cond (dJ v v') (a7 ah) false) (fun _ _=>false) false (bK call o fr ⟨h,ai⟩)) ah) n
def kp(t:ao be)(ts:ac Tmp)(k:ao be->β):β:=
 List.rec (motive:=fun _=>ao be->β) (fun m=>k m) (fun x _ a7 m=>bk (t.get x) (fun v=>ao.iV (Nat.succ x) m x v a7) (a7 m)) ts .nil
def qg(fr:aP)(ts:ac Tmp):aP:=
 List.rec (motive:=fun _=>aP->aP) (fun fr=>fr) (fun t _ a7 fr=>a7 (fr.put (some t) iD)) ts fr
def kh(call:bG)(ms:ac Nat)(n:Nat)(ops:ac (bz×cw)):Nat->ac (ao bt)->aP->ay->Bool:=
 List.rec (motive:=fun _=>Nat->ac (ao bt)->aP->ay->Bool) (fun _ _ _ _=>true)
  (fun x _ a7 p nx fr st=>
   cond (Nat.testBit (ms.getD p 0) n)
    (cw.rec (motive:=fun _=>Bool) (a7 (Nat.succ p) (st.h::nx) (fr.put x.1.d undef) st) (fun _=>a7 (Nat.succ p) nx (fr.put x.1.d undef) st) (fun _ _=>a7 (Nat.succ p) nx (fr.put x.1.d undef) st) x.2)
    (cw.rec (motive:=fun _=>Bool) false
     (fun ts=>kp fr.t ts fun t=>gB ⟨t,[],none,false,none⟩ x.1.g
      (aV.rec (motive:=fun _=>Bool) (fun v _ st'=>a7 (Nat.succ p) nx (fr.put x.1.d v) st') (fun _ _=>false) false (bK call x.1.o ⟨t,[],none,false,none⟩ st))
      (a7 (Nat.succ p) nx (fr.put x.1.d undef) st) false)
     (fun back ts=>kp fr.t ts fun t=>gB ⟨t,[],none,false,none⟩ x.1.g
      (aV.rec (motive:=fun _=>Bool) (fun v _ _=>cond (sameAt call x.1.o ⟨t,[],none,false,none⟩ v st.ai (Nat.succ back) nx) (a7 (Nat.succ p) nx (fr.put x.1.d v) st) false) (fun _ _=>false) false (bK call x.1.o ⟨t,[],none,false,none⟩ st))
      (a7 (Nat.succ p) nx (fr.put x.1.d undef) st) false)
     x.2)) ops
abbrev sy:=ac (bz×cw)->ac (ao bt)->aP->ay->Bool
def gF(call:bG)(c0:sy)(ops:ac (bz×cw)):ac (ao bt)->aP->ay->cm:=
 List.rec (motive:=fun _=>ac (ao bt)->aP->ay->cm) (fun _ fr st=>.out .norm fr st)
  (fun x xs a7 nx fr st=>
   cw.rec (motive:=fun _=>cm)
    (gB fr x.1.g
     (aV.rec (motive:=fun _=>cm) (fun v aI st'=>ek st.ai st'.ai (a7 (st'.h::nx) (aP.put ⟨fr.t,aI.cS,aI.a1,aI.cB,aI.b0⟩ x.1.d v) st') .no) (fun v st'=>cond x.1.o.k7 (cond (c0 xs (st.h::nx) (fr.put x.1.d undef) st) (.out (.a1 v) fr st') .no) .no) .no (bK call x.1.o fr st))
     (a7 (st.h::nx) (fr.put x.1.d undef) st) .no)
    (fun ts=>kp fr.t ts fun t=>gB ⟨t,[],none,false,none⟩ x.1.g
     (aV.rec (motive:=fun _=>cm) (fun v _ st'=>a7 nx (fr.put x.1.d v) st') (fun _ _=>.no) .no (bK call x.1.o ⟨t,[],none,false,none⟩ st))
     (a7 nx (fr.put x.1.d undef) st) .no)
    (fun back ts=>kp fr.t ts fun t=>gB ⟨t,[],none,false,none⟩ x.1.g
     (aV.rec (motive:=fun _=>cm) (fun v _ _=>cond (sameAt call x.1.o ⟨t,[],none,false,none⟩ v st.ai (Nat.succ back) nx) (a7 nx (fr.put x.1.d v) st) .no) (fun _ _=>.no) .no (bK call x.1.o ⟨t,[],none,false,none⟩ st))
     (a7 nx (fr.put x.1.d undef) st) .no)
    x.2) ops
def rE(call:bG)(ms:ac Nat)(len:Nat):sy:=fun xs=>kh call ms (Nat.sub len (Nat.succ (db xs))) xs (Nat.sub len (db xs))
def nk(o:am bt)(k:LoopState->am dv->ci->ao be->ac Tmp->dm->dm->Nat->β)(z:β):β:=
 bk o (fun o=>bt.rec (motive:=fun _=>β) (fun _ _ _ _=>z) (fun _ _=>z) (fun _ _=>z) (fun _ _ _ _=>z) k (fun _=>z) z o) z
def lP(r:cm)(k:aP->ay->cm):cm:=
 cm.rec (motive:=fun _=>cm) (fun e fr st=>dv.rec (motive:=fun _=>cm) (k fr st) (fun i=>.out (.exit i) fr st) (.out .ret fr st) (fun v=>.out (.a1 v) fr st) e) .no r
def rC(id:Nat)(r:cm):cm:=
 cm.rec (motive:=fun _=>cm) (fun e fr st=>dv.rec (motive:=fun _=>cm) (.out .norm fr st) (fun i=>dQ i id (.out .norm fr st) (.out (.exit i) fr st)) (.out .ret fr st) (fun v=>.out (.a1 v) fr st) e) .no r
def Gz(v:be)(a b:cm):cm:=mh v (fun t=>cond t a b) .no
def J1(l:Nat)(aI:aP)(r:dh):cm:=
 dh.rec (motive:=fun _=>cm)
  (fun _ st _=>nk (st.h.get l) (fun s gM rN t ps a b d=>
   LoopState.rec (motive:=fun _=>cm)
    (st.hI l (.loop .exhausted gM rN t ps a b d) fun st=>bk gM (fun e=>.out e aI st) (.out .norm aI st))
    .no
    (st.hI l (.loop .exhausted gM rN t ps a b d) fun st=>bk gM (fun e=>.out e aI st) (.out .norm aI st))
    .no s) .no)
  (fun v st _=>.out (.a1 v) aI st) .no r
def Dr(call:bG)(fn:ci)(f:bi)(params:ac Tmp)(assign body:dm)(fr:aP)(st:ay):cm:=
 bk fr.b0 (fun _=>.no)
  (st.jB (.jI (some [])) fun r st=>
   st.jB (.loop .ready none fn fr.t params assign body r) fun l st=>
   J1 l ⟨fr.t,{target:=.collected r,args:= #[]}::fr.cS,fr.a1,fr.cB,fr.b0⟩ (call (fr.ak f) [.func (.yield l) #[] #[]] none st))
def c1(call:bG)(b4:Nat)(fn:ci)(c:dm):aP->ay->cm:=
 dm.rec (motive:=fun _=>aP->ay->cm)
  (fun fr st=>.out .norm fr st)
  (fun ops=>gG call ops)
  (fun ops _ ec ms fr st=>gF call (rE call ms (db ops)) ops [st.h] (qg fr ec) st)
  (fun _ _ wg pU fr st=>lP (wg fr st) pU)
  (fun c _ _ wg pU fr st=>Gz (fr.ak c) (wg fr st) (pU fr st))
  (fun id _ e fr st=>rC id (e fr st))
  (fun _ e fr st=>
   Nat.rec (motive:=fun _=>aP->ay->cm) (fun _ _=>.no)
    (fun _ a7 fr st=>lP (e fr st) a7) b4 fr st)
  (fun f params assign body _ _=>Dr call fn f params assign body)
  (fun id fr st=>.out (.exit id) fr st)
  (fun _ e=>e)
  (fun fr st=>.out .ret fr st)
  (fun _ _=>.no) c
def lV(vs:ac be):Nat->ao be->ao be:=
 List.rec (motive:=fun _=>Nat->ao be->ao be) (fun _ t=>t) (fun v _ a7 i t=>ao.iV (Nat.succ i) t i v fun t=>a7 (Nat.succ i) t) vs
def oJ(ts:ac Tmp):ac be->ao be->ao be:=
 List.rec (motive:=fun _=>ac be->ao be->ao be) (fun _ m=>m)
  (fun t _ a7 vs m=>List.rec (motive:=fun _=>ao be) m (fun v vs _=>ao.iV (Nat.succ t) m t v fun m=>a7 vs m) vs) ts
def o4(fr:aP)(st:ay)(rs:ac h6):am (ac be):=
 List.rec (motive:=fun _=>am (ac be)) (some [])
  (fun r _ a7=>bk a7 (fun vs=>
   h6.rec (motive:=fun _=>am (ac be)) (fun t=>some (fr.tmp t::vs))
    (fun a agg n=>ik (fr.tmp a) (fun p=>bk p (fun ad=>st.load ad n (fun cs=>cond agg (some (.agg ⟨cs⟩::vs)) (one cs (fun v=>some (v::vs)) none)) none) none) none) r) none) rs
def jD(call:bG):ac Deferred->am be->ay->am (am be×ay)
 |[],m,st=>some (m,st)
 |{target:=.collected r,.. }::ds,m,st=>
  match st.h.get r with
  |some (.jI (some []))=>st.hI r (.jI none) fun st=>jD call ds m st
  |_=>none
 |{target:=.fn (.func g) fU,args}::ds,m,st=>
  match call (.func (.func g) #[] fU) args.toList m st with
  |.ret _ st eK=>
   match m,eK with
   |some _,true=>jD call ds none st
   |_,_=>jD call ds m st
  |.a1 v st _=>
   match m with
   |none=>jD call ds (some v) st
   |some _=>none
  |.no=>none
 |_::_,_,_=>none
abbrev m3:=ci->ac be->ay->am dh
def gl(call:bG)(res:ac h6)(m:am be)(fr:aP)(st:ay):dh:=
 bk (jD call fr.cS m st)
  (fun p=>bk p.1 (fun v=>.a1 v p.2 fr.cB)
   (bk (o4 fr p.2 res) (fun vs=>one vs (fun v=>.ret v p.2 fr.cB) (.ret (.tuple ⟨vs⟩) p.2 fr.cB)) .no)) .no
def iX(call:bG)(n:Nat)(f:ci)(xf:cM)(as:ac be)(a1:am be)(st:ay):dh:=
 ek (db as) xf.aJ
  (cm.rec (motive:=fun _=>dh)
   (fun e fr st=>dv.rec (motive:=fun _=>dh) (gl call xf.res none fr st) (fun _=>.no) (gl call xf.res none fr st) (fun v=>gl call xf.res (some v) fr st) e)
   .no (c1 call n f xf.body ⟨lV as 0 .nil,[],a1,false,none⟩ st)) .no
def re(l:Nat)(r:cm):dh:=
 cm.rec (motive:=fun _=>dh)
  (fun e fr st=>
   List.rec (motive:=fun _=>dh)
    (dv.rec (motive:=fun _=>dh)
     (nk (st.h.get l) (fun _ _ fn t ps a b d=>st.hI l (.loop .ready none fn t ps a b d) fun st=>.ret (.bool true) st false) .no)
     (fun i=>nk (st.h.get l) (fun _ _ fn t ps a b d=>st.hI l (.loop .done (some (.exit i)) fn t ps a b d) fun st=>.ret (.bool false) st false) .no)
     (nk (st.h.get l) (fun _ _ fn t ps a b d=>st.hI l (.loop .done (some .ret) fn t ps a b d) fun st=>.ret (.bool false) st false) .no)
     (fun v=>.a1 v st false) e)
    (fun _ _ _=>.no) fr.cS)
  .no r
def B6(call:bG)(n:Nat)(l:Nat)(f:ci)(body:dm)(fr:aP)(st:ay):dh:=
 nk (st.h.get l) (fun s gM fn t ps a b d=>
  LoopState.rec (motive:=fun _=>dh)
   (st.hI l (.loop .busy gM fn t ps a b d) fun st=>re l (c1 call n f body fr st))
   .no .no .no s) .no
def zG(call:bG)(n:Nat)(l:Nat)(args:ac be)(st:ay):dh:=
 nk (st.h.get l) (fun _ _ fn t ps dB body _=>
  dQ (db args) (db ps)
   (cm.rec (motive:=fun _=>dh)
    (fun e fr st=>dv.rec (motive:=fun _=>dh) (B6 call n l fn body fr st) (fun _=>.no) .no (fun _=>.no) e) .no
    (c1 call n fn dB ⟨oJ ps args t,[],none,false,some l⟩ st)) .no) .no
def b9(aZ:ao cM)(fs:m3)(fuel:Nat):bG:=
 Nat.rec (motive:=fun _=>bG) (fun _ _ _ _=>.no)
  (fun n a7 fv args a1 st=>
   Cq fv (fun fn first fU=>
    Fn.rec (motive:=fun _=>dh)
     (fun f=>(fun as=>bk a1 (fun _=>bk (aZ.get f) (fun xf=>iX a7 n f xf as a1 st) .no) (bk (fs f as st) (fun r=>r) (bk (aZ.get f) (fun xf=>iX a7 n f xf as a1 st) .no))) (fS first.toList (fS args fU.toList)))
     (fun _=>.no) (fun _ _=>.no) (fun _ _ _ _=>.no)
     (fun l=>List.rec (motive:=fun _=>dh) (List.rec (motive:=fun _=>dh) (bk a1 (fun _=>.no) (zG a7 n l args st)) (fun _ _ _=>.no) fU.toList) (fun _ _ _=>.no) first.toList)
     fn) .no) fuel
end Go.ar
namespace Go.ar
namespace ao
variable{α β:Type}
@[simp] theorem get_nil (n:Nat):(ao.nil:ao α).get n=none:=rfl
def wy(l r:ao α)(v:am α):(ao.node l v r).get 0=v:=rfl
def IF{β:Sort _}(m:Nat)(a b:β):Nat.rec (motive:=fun _=>β) a (fun _ _=>b) (Nat.mod m 2)=if m%2=0 then a else b:=by
 show Nat.rec (motive:=fun _=>β) a (fun _ _=>b) (m%2)=_;rcases Nat.mod_two_eq_zero_or_one m with h|h
 ·rw[h];rfl
 ·rw[h];rfl
def p0(l r:ao α)(v:am α)(m:Nat):(ao.node l v r).get (m+1)=if m%2=0 then l.get (m/2)else r.get (m/2):=
 IF m (l.get (m/2)) (r.get (m/2))
def asS(f:Nat)(x:α)(k:ao α->β):iV (f+1) .nil 0 x k=k (.node .nil (some x) .nil):=rfl
def J4(f m:Nat)(x:α)(k:ao α->β):iV (f+1) .nil (m+1) x k=if m%2=0 then iV f .nil (m/2) x (fun l'=>k (.node l' none .nil))else iV f .nil (m/2) x (fun dV=>k (.node .nil none dV)):=IF m _ _
def asT(f:Nat)(l r:ao α)(v:am α)(x:α)(k:ao α->β):iV (f+1) (.node l v r) 0 x k=k (.node l (some x) r):=rfl
def J5(f m:Nat)(l r:ao α)(v:am α)(x:α)(k:ao α->β):iV (f+1) (.node l v r) (m+1) x k=if m%2=0 then iV f l (m/2) x (fun l'=>k (.node l' v r))else iV f r (m/2) x (fun dV=>k (.node l v dV)):=IF m _ _
theorem nv{α:Type}:∀(f:Nat) (β:Type) (t:ao α) (n:Nat) (x:α) (k:ao α->β),iV f t n x k=k (iV f t n x id)
 |0,_,_,_,_,_=>rfl
 |f+1,β,t,n,x,k=>by
  cases t with
  |nil=>
   cases n with
   |zero=>rfl
   |succ m=>
    rw[J4,J4];split
    ·rw[nv f _ .nil (m/2) x (fun l'=>k (ao.node l' none ao.nil)),nv f _ .nil (m/2) x (fun l'=>id (ao.node l' none ao.nil))];rfl
    ·rw[nv f _ .nil (m/2) x (fun dV=>k (ao.node ao.nil none dV)),nv f _ .nil (m/2) x (fun dV=>id (ao.node ao.nil none dV))];rfl
  |node l v r=>
   cases n with
   |zero=>rfl
   |succ m=>
    rw[J5,J5];split
    ·rw[nv f _ l (m/2) x (fun l'=>k (ao.node l' v r)),nv f _ l (m/2) x (fun l'=>id (ao.node l' v r))];rfl
    ·rw[nv f _ r (m/2) x (fun dV=>k (ao.node l v dV)),nv f _ r (m/2) x (fun dV=>id (ao.node l v dV))];rfl
def zp(t:ao α)(n:Nat)(x:α)(k:ao α->β):iV (Nat.succ n) t n x k=k (t.set n x):=nv _ _ t n x k
def ap2(v:am α)(r l:ao α):Y9 v r l= .node l v r:=by cases l<;>rfl
def ap3(v:am α)(l r:ao α):Za l v r= .node l v r:=by cases r<;>rfl
def pY(t:ao α)(k:ao α->β):fin t k=k t:=by cases t<;>rfl
def aag(a7:ao α->Nat->α->ao α)(l r:ao α)(v:am α)(m:Nat)(x:α):
 Ji a7 l v r m x=if m%2=0 then .node (a7 l (m/2) x) v r else .node l v (a7 r (m/2) x):=by
 rw[<-ap2,<-ap3];exact IF m _ _
theorem Jj:∀(f:Nat) (t:ao α) (n:Nat) (x:α),kY f t n x=iV f t n x id
 |0,_,_,_=>rfl
 |f+1,t,n,x=>by
  cases t with
  |nil=>
   cases n with
   |zero=>rfl
   |succ m=>
    rw[J4];show Ji (kY f) .nil none .nil m x=_;rw[aag,Jj f];split
    ·rw[nv f _ .nil (m/2) x (fun l'=>id (ao.node l' none ao.nil))];rfl
    ·rw[nv f _ .nil (m/2) x (fun dV=>id (ao.node ao.nil none dV))];rfl
  |node l v r=>
   cases n with
   |zero=>rfl
   |succ m=>
    rw[J5];show Ji (kY f) l v r m x=_;rw[aag,Jj f,Jj f];split
    ·rw[nv f _ l (m/2) x (fun l'=>id (ao.node l' v r))];rfl
    ·rw[nv f _ r (m/2) x (fun dV=>id (ao.node l v dV))];rfl
def xb(t:ao α)(n:Nat)(x:α):kY (Nat.succ n) t n x=t.set n x:=Jj _ t n x
theorem Hg:∀(f:Nat) (t:ao α) (n:Nat) (x:α) (j:Nat),n<f->(iV f t n x id).get j=if j=n then some x else t.get j
 |0,_,_,_,_,h=>by omega
 |f+1,t,n,x,j,h=>by
  cases t with
  |nil=>
   cases n with
   |zero=>
    cases j with
    |zero=>rfl
    |succ j=>rw[asS];show(ao.node .nil (some x) .nil:ao α).get (j+1)=_;rw[p0];simp
   |succ m=>
    have a7:=fun i=>Hg f (.nil:ao α) (m/2) x i (by omega);rw[J4];split
    ·rename_i hm;rw[nv f _ .nil (m/2) x (fun l'=>id (ao.node l' none ao.nil))];show(ao.node _ none .nil:ao α).get j=_;cases j with
     |zero=>rw[wy];simp
     |succ j=>
      rw[p0];by_cases hj:j%2=0
      ·rw[zab hj,a7];by_cases e:j=m
       ·subst e;simp
       ·rw[zaa (by omega),zaa (by omega)];simp
      ·rw[zaa hj,zaa (by omega)];simp
    ·rename_i hm;rw[nv f _ .nil (m/2) x (fun dV=>id (ao.node ao.nil none dV))];show(ao.node .nil none _:ao α).get j=_;cases j with
     |zero=>rw[wy];simp
     |succ j=>
      rw[p0];by_cases hj:j%2=0
      ·rw[zab hj,zaa (by omega)];simp
      ·rw[zaa hj,a7];by_cases e:j=m
       ·subst e;simp
       ·rw[zaa (by omega),zaa (by omega)];simp
  |node l v r=>
   cases n with
   |zero=>
    cases j with
    |zero=>rfl
    |succ j=>rw[asT];show(ao.node l (some x) r:ao α).get (j+1)=_;rw[p0,p0,zaa (by omega:¬(j+1=0))]
   |succ m=>
    rw[J5];split
    ·rename_i hm;have a7:=fun i=>Hg f l (m/2) x i (by omega);rw[nv f _ l (m/2) x (fun l'=>id (ao.node l' v r))];show(ao.node _ v r:ao α).get j=_;cases j with
     |zero=>rw[wy,zaa (by omega)];rfl
     |succ j=>
      rw[p0,p0];by_cases hj:j%2=0
      ·rw[zab hj,zab hj,a7];by_cases e:j=m
       ·subst e;simp
       ·rw[zaa (by omega),zaa (by omega)]
      ·rw[zaa hj,zaa hj,zaa (by omega)]
    ·rename_i hm;have a7:=fun i=>Hg f r (m/2) x i (by omega);rw[nv f _ r (m/2) x (fun dV=>id (ao.node l v dV))];show(ao.node l v _:ao α).get j=_;cases j with
     |zero=>rw[wy,zaa (by omega)];rfl
     |succ j=>
      rw[p0,p0];by_cases hj:j%2=0
      ·rw[zab hj,zab hj,zaa (by omega)]
      ·rw[zaa hj,zaa hj,a7];by_cases e:j=m
       ·subst e;simp
       ·rw[zaa (by omega),zaa (by omega)]
def eJ(t:ao α)(n:Nat)(x:α)(j:Nat):(t.set n x).get j=if j=n then some x else t.get j:=
 Hg (n+1) t n x j (by omega)
@[simp] theorem nP (t:ao α) (n:Nat) (x:α):(t.set n x).get n=some x:=by rw[eJ,zab rfl]
def gf(t:ao α){n j:Nat}(x:α)(h:j≠n):(t.set n x).get j=t.get j:=by rw[eJ,zaa h]
end ao
def O4(fr:aP)(d:Tmp)(v:be):fr.put (some d) v=⟨fr.t.set d v,fr.cS,fr.a1,fr.cB,fr.b0⟩:=by
 show aP.YV (ao.kY (Nat.succ d) fr.t d v) fr.cS fr.a1 fr.cB fr.b0=_;rw[ao.xb];cases fr.t.set d v<;>rfl
def sr(fr:aP)(d:am Tmp)(v:be)(j:Nat):(fr.put d v).tmp j=if d=some j then v else fr.tmp j:=by
 cases d with
 |none=>simp[aP.put]
 |some d=>
  rw[O4];simp only[aP.tmp,ao.eJ,Option.some.injEq];by_cases h:j=d
  ·subst h;simp
  ·rw[zaa h,zaa (fun e=>h e.symm)]
def tm(fr:aP)(d:am Tmp)(v:be):(fr.put d v).cS=fr.cS∧(fr.put d v).a1=fr.a1∧(fr.put d v).cB=fr.cB∧(fr.put d v).b0=fr.b0:=by
 cases d with
 |none=>simp[aP.put]
 |some d=>rw[O4];exact⟨rfl,rfl,rfl,rfl⟩
structure Loc where
 cH:Nat
 cP:Nat
 ex:Nat
 bR:Nat->Nat
def h1:Nat->Nat:=fun _=>0
def NI:(id:Nat->Nat)≠h1:=fun h=>by have:=congrFun h 1;simp[h1]at this
abbrev bs:=Nat->am Loc
def bs.le(ι aS:bs):Prop:=∀i l,ι i=some l->aS i=some l
def bs.le.refl(ι:bs):ι.le ι:=fun _ _ h=>h
def bs.le.trans{ι aS dA:bs}(h:ι.le aS)(aG:aS.le dA):ι.le dA:=fun i l af=>aG i l (h i l af)
def zL(ι:bs)(f g:Fn):Prop:=(f=g∧∀l,f≠.yield l)∨∃l b,f= .yield l∧g= .yield b∧ι l=some ⟨b,0,0,id⟩
def Qk(c:Nat)(m:Int):Prop:=c=1∨(∃k:Nat,c=2*k+2∧(k:Int)<=m)∨∃k:Nat,c=2*k+3∧m<k
inductive bp(ι:bs):Value->Value->Prop
 |bool (b:Bool):bp ι (.bool b) (.bool b)
 |int (k:IntKind) (n:Int):bp ι (.int k n) (.int k n)
 |float (k:FloatKind) (b:Nat):bp ι (.float k b) (.float k b)
 |string (s:ByteArray):bp ι (.string s) (.string s)
 |ns:bp ι (.pointer none) (.pointer none)
 |ptr (a:Addr) (l:Loc) (h:ι a.block=some l) (ah:a.spot=none):bp ι (.pointer (some a)) (.pointer (some ⟨l.cH,l.cP+a.off,none⟩))
 |nw (n c:Nat):bp ι (.slice none n c) (.slice none n c)
 |gN (a:Addr) (l:Loc) (o n c:Nat) (h:ι a.block=some l) (ah:a.spot=none) (al:o=l.cP+a.off∨(n=0∧c=0∧l.ex=0)):
  bp ι (.slice (some a) n c) (.slice (some ⟨l.cH,o,none⟩) n (c+l.ex))
 |pj:bp ι (.map none) (.map none)
 |map (r b:Nat) (bR:Nat->Nat) (h:ι r=some ⟨b,0,0,bR⟩):bp ι (.map (some r)) (.map (some b))
 |func (f g:Fn) (xs av us vs:Array Value) (ae:zL ι f g) (J:xs.size=av.size) (U:∀i (h:i<xs.size) (aG:i<av.size),bp ι xs[i] av[i])
  (ag:us.size=vs.size) (az:∀i (h:i<us.size) (aG:i<vs.size),bp ι us[i] vs[i]):bp ι (.func f xs us) (.func g av vs)
 |nilFunc:bp ι .nilFunc .nilFunc
 |iface (t:TypeId) (v w:Value) (h:bp ι v w):bp ι (.iface t v) (.iface t w)
 |nilIface:bp ι .nilIface .nilIface
 |agg (xs av:Array Value) (J:xs.size=av.size) (U:∀i (h:i<xs.size) (aG:i<av.size),bp ι xs[i] av[i]):bp ι (.agg xs) (.agg av)
 |tuple (xs av:Array Value) (J:xs.size=av.size) (U:∀i (h:i<xs.size) (aG:i<av.size),bp ι xs[i] av[i]):bp ι (.tuple xs) (.tuple av)
 |iW (c:Nat) (m:Int) (h:Qk c m):bp ι (.chan (some c)) (.int .i64 m)
 |emp (p:Addr) (c:Nat):bp ι (.chan none) (.slice (some p) 0 c)
 |top (c:Value):bp ι iD c
variable{ι aS:bs}
def zL.mono(hle:ι.le aS){f g:Fn}(h:zL ι f g):zL aS f g:=by
 rcases h with h|⟨l,b,J,U,ag⟩
 ·exact .inl h
 ·exact .inr ⟨l,b,J,U,hle _ _ ag⟩
def bp.mono(hle:ι.le aS){v w:be}(h:bp ι v w):bp aS v w:=by
 induction h with
 |bool b=>exact .bool b
 |int k n=>exact .int k n
 |float k n=>exact .float k n
 |string s=>exact .string s
 |ns=>exact .ns
 |ptr a l h ah=>exact .ptr a l (hle _ _ h) ah
 |nw n c=>exact .nw n c
 |gN a l o n c h ah al=>exact .gN a l o n c (hle _ _ h) ah al
 |pj=>exact .pj
 |map r b bR h=>exact .map r b bR (hle _ _ h)
 |func f g xs av us vs ae J _ ag _ nh uJ=>exact .func f g xs av us vs (ae.mono hle) J nh ag uJ
 |nilFunc=>exact .nilFunc
 |iface t v w _ a7=>exact .iface t v w a7
 |nilIface=>exact .nilIface
 |agg xs av J _ a7=>exact .agg xs av J a7
 |tuple xs av J _ a7=>exact .tuple xs av J a7
 |iW c m h=>exact .iW c m h
 |emp p c=>exact .emp p c
 |top c=>exact .top c
def bJ(ι:bs)(xs av:ac be):Prop:=xs.length=av.length∧∀(i:Nat) (h:i<xs.length) (aG:i<av.length),bp ι xs[i] av[i]
variable{xs av:ap be}
def bJ.mono(hle:ι.le aS){xs av:ac be}(h:bJ ι xs av):bJ aS xs av:=⟨h.1,fun i a b=>(h.2 i a b).mono hle⟩
def bJ.nil(ι:bs):bJ ι [] []:=⟨rfl,fun i h=>by simp at h⟩
def bJ.cons{ι:bs}{x y:be}{xs av:ac be}(h:bp ι x y)(ah:bJ ι xs av):bJ ι (x::xs) (y::av):=by
 refine⟨by simp[ah.1],fun i a b=> ?_⟩;cases i with
 |zero=>exact h
 |succ i=>exact ah.2 i (by simpa using a) (by simpa using b)
def bJ.cons_inv{x:be}{xs av:ac be}(h:bJ ι (x::xs) av):∃y jV,av=y::jV∧bp ι x y∧bJ ι xs jV:=by
 cases av with
 |nil=>have:=h.1;simp at this
 |cons y jV=>
  refine⟨y,jV,rfl,h.2 0 (by simp) (by simp),by simpa using h.1,fun i a b=> ?_⟩;exact h.2 (i+1) (by simpa using a) (by simpa using b)
def bJ.w0{av:ac be}(h:bJ ι [] av):av=[]:=by
 cases av with
 |nil=>rfl
 |cons y av=>have:=h.1;simp at this
def bJ.append:∀{xs av us vs:ac be},bJ ι xs av->bJ ι us vs->bJ ι (xs++us) (av++vs)
 |[],av,us,vs,h,aG=>by rw[h.w0];simpa using aG
 |x::xs,av,us,vs,h,aG=>by
  obtain⟨y,jV,rfl,J,U⟩:=h.cons_inv;simpa using bJ.cons J (U.append aG)
def bJ.drop:∀(n:Nat) {xs av:ac be},bJ ι xs av->bJ ι (xs.drop n) (av.drop n)
 |0,_,_,h=>by simpa using h
 |n+1,[],av,h=>by rw[h.w0];simpa using bJ.nil ι
 |n+1,x::xs,av,h=>by
  obtain⟨y,jV,rfl,_,U⟩:=h.cons_inv;simpa using U.drop n
def bJ.take:∀(n:Nat) {xs av:ac be},bJ ι xs av->bJ ι (xs.take n) (av.take n)
 |0,_,_,_=>by simpa using bJ.nil ι
 |n+1,[],av,h=>by rw[h.w0];simpa using bJ.nil ι
 |n+1,x::xs,av,h=>by
  obtain⟨y,jV,rfl,J,U⟩:=h.cons_inv;simpa using bJ.cons J (U.take n)
def bp.BC(h:bJ ι xs.toList av.toList):bp ι (.agg xs) (.agg av):=
 .agg xs av (by simpa using h.1) fun i a b=>by have:=h.2 i (by simpa using a) (by simpa using b);rwa [zaw,zaw]at this
def bp.n0(h:bJ ι xs.toList av.toList):bp ι (.tuple xs) (.tuple av):=
 .tuple xs av (by simpa using h.1) fun i a b=>by have:=h.2 i (by simpa using a) (by simpa using b);rwa [zaw,zaw]at this
def bJ.w4(J:xs.size=av.size)(U:∀i (h:i<xs.size) (aG:i<av.size),bp ι xs[i] av[i]):bJ ι xs.toList av.toList:=
 ⟨by simpa using J,fun i a b=>by have:=U i (by simpa using a) (by simpa using b);rwa [<-zaw,<-zaw]at this⟩
def bp.IV{f g:Fn}{us vs:ap be}(ae:zL ι f g)(h:bJ ι xs.toList av.toList)(aG:bJ ι us.toList vs.toList):bp ι (.func f xs us) (.func g av vs):=
 .func f g xs av us vs ae (by simpa using h.1) (fun i a b=>by have:=h.2 i (by simpa using a) (by simpa using b);rwa [zaw,zaw]at this) (by simpa using aG.1) (fun i a b=>by have:=aG.2 i (by simpa using a) (by simpa using b);rwa [zaw,zaw]at this)
def bJ.cells{v w:be}(h:bp ι v w)(hp:v≠iD):bJ ι v.cells.toList w.cells.toList:=by
 cases h<;>first
  |exact absurd rfl hp
  |(rename_i xs av J U;exact bJ.w4 J U)
  |(simp only[Value.cells];refine bJ.cons ?_ (bJ.nil ι);constructor<;>assumption)
end Go.ar
namespace Go.ar
section
variable{α β:Type}{r z:β}
variable{v:be}{x:β}{k:α->β}{a b:Nat}{l:ac α}{n:Nat}{st:ay}{o:am α}
def pB{k:am Addr->β}(h:ik v k z=r)(an:z≠r):∃p,v= .pointer p∧k p=r:=by
 cases v<;>first|exact absurd h an|exact⟨_,rfl,h⟩
def jT{k:d7->Int->β}(h:gO v k z=r)(an:z≠r):∃a n,v= .int a n∧k a n=r:=by
 cases v<;>first|exact absurd h an|exact⟨_,_,rfl,h⟩
def Qo{k:Bool->β}(h:mh v k z=r)(an:z≠r):∃b,v= .bool b∧k b=r:=by
 cases v<;>first|exact absurd h an|exact⟨_,rfl,h⟩
def pC{k:f5->β}(h:im v k z=r)(an:z≠r):∃s,v= .string s∧k s=r:=by
 cases v<;>first|exact absurd h an|exact⟨_,rfl,h⟩
def vy{k:am Addr->Nat->Nat->β}(h:il v k z=r)(an:z≠r):∃a n c,v= .slice a n c∧k a n c=r:=by
 cases v<;>first|exact absurd h an|exact⟨_,_,_,rfl,h⟩
def zy{k:ap be->β}(h:vx v k z=r)(an:z≠r):∃a,v= .agg a∧k a=r:=by
 cases v<;>first|exact absurd h an|exact⟨_,rfl,h⟩
def adg{k:ap be->β}(h:rk v k z=r)(an:z≠r):∃a,v= .tuple a∧k a=r:=by
 cases v<;>first|exact absurd h an|exact⟨_,rfl,h⟩
def Qp{k:Fn->ap be->ap be->β}(h:Cq v k z=r)(an:z≠r):∃f a b,v= .func f a b∧k f a b=r:=by
 cases v<;>first|exact absurd h an|exact⟨_,_,_,rfl,h⟩
def Qq{k:ce->be->β}(h:xD v k z=r)(an:z≠r):∃t x,v= .iface t x∧k t x=r:=by
 cases v<;>first|exact absurd h an|exact⟨_,_,rfl,h⟩
def gh(h:bk o k z=r)(an:z≠r):∃a,o=some a∧k a=r:=by
 cases o<;>first|exact absurd h an|exact⟨_,rfl,h⟩
def w2(h:bk o k z=r)(ab:∀a,k a≠r):o=none∧z=r:=by
 cases o<;>first|exact⟨rfl,h⟩|exact absurd h (ab _)
def mP{n:Int}{k:Nat->β}(h:hP n k z=r)(an:z≠r):∃m:Nat,n=(m:Int)∧k m=r:=by
 cases n with
 |ofNat m=>exact⟨m,rfl,h⟩
 |negSucc m=>exact absurd h an
def mn:Nat.ble a b=true↔a<=b:=by simp
def oE(a b:Nat)(x y:β):ek a b x y=if a<=b then x else y:=by
 unfold ek;by_cases h:a<=b
 ·rw[zab h,mn.2 h];rfl
 ·rw[zaa h];have:Nat.ble a b=false:=by rw[zbC];intro hh;exact h (mn.1 hh)
  rw[this];rfl
def pW(a b:Nat)(x y:β):dQ a b x y=if a=b then x else y:=by
 unfold dQ;by_cases h:a=b
 ·rw[zab h,h,zaz];rfl
 ·rw[zaa h];have:Nat.beq a b=false:=by rw[zbC];intro hh;exact h (dD hh)
  rw[this];rfl
def jz(h:ek a b x z=r)(an:z≠r):a<=b∧x=r:=by
 rw[oE]at h;split at h
 ·exact⟨by assumption,h⟩
 ·exact absurd h an
def kS(h:dQ a b x z=r)(an:z≠r):a=b∧x=r:=by
 rw[pW]at h;split at h
 ·exact⟨by assumption,h⟩
 ·exact absurd h an
def iJ{b:Bool}(h:cond b x z=r)(an:z≠r):b=true∧x=r:=by
 cases b
 ·exact absurd h an
 ·exact⟨rfl,h⟩
def Bu{b:Bool}(h:cond b z x=r)(an:z≠r):b=false∧x=r:=by
 cases b
 ·exact⟨rfl,h⟩
 ·exact absurd h an
@[simp] theorem fg:∀l:ac α,db l=l.length
 |[]=>rfl
 |x::xs=>by show Nat.succ (db xs)=_;rw[fg xs];rfl
@[simp] theorem rz (m:ac α):∀l:ac α,fS l m=l++m
 |[]=>rfl
 |x::xs=>by show x::fS xs m=_;rw[rz m xs];rfl
@[simp] theorem Ah:∀(n:Nat) (l:ac α),GQ n l=l.drop n
 |0,l=>rfl
 |n+1,[]=>rfl
 |n+1,x::xs=>by show GQ n xs=_;rw[Ah n xs];rfl
theorem Fy:∀(n:Nat) (l:ac α),P8 n l=if n<=l.length then some (l.take n)else none
 |0,l=>by rw[zab (zae _)];rfl
 |n+1,[]=>rfl
 |n+1,x::xs=>by
  show Option.rec (motive:=fun _=>am (ac α)) none (fun r=>some (x::r)) (P8 n xs)=_;rw[Fy n xs];by_cases h:n<=xs.length
  ·rw[zab h,zab (by simpa using h)];rfl
  ·rw[zaa h,zaa (by simpa using h)]
def BE(h:one l k z=r)(an:z≠r):∃x,l=[x]∧k x=r:=by
 cases l with
 |nil=>exact absurd h an
 |cons x xs=>
  cases xs with
  |nil=>exact⟨x,rfl,h⟩
  |cons y av=>exact absurd h an
def v7{off:Nat}{k:ac α->β}(h:jt l off n k z=r)(an:z≠r):n<=(l.drop off).length∧k ((l.drop off).take n)=r:=by
 unfold jt at h;rw[Ah,Fy]at h;split at h
 ·exact⟨by assumption,h⟩
 ·exact absurd h an
theorem q5:∀(l:ac α) (n:Nat) (vs:ac α) (k:ac α->β) (z:β),
 q4 l n vs k z=if n+vs.length<=l.length then k (l.take n++(vs++l.drop (n+vs.length)))else if vs=[]then k l else z
 |[],n,[],k,z=>by
  by_cases h:n=0
  ·subst h;rfl
  ·rw[zaa (by simpa using h),zab rfl];rfl
 |[],n,v::vs,k,z=>by rw[zaa (by simp),zaa (by simp)];rfl
 |y::av,0,[],k,z=>by rw[zab (by simp)];rfl
 |y::av,0,v::vs,k,z=>by
  show q4 av 0 vs (fun l'=>k (v::l')) z=_;rw[q5 av 0 vs];by_cases h:vs.length<=av.length
  ·have J:0+vs.length<=av.length:=by omega
   have U:0+(v::vs).length<=(y::av).length:=by simp only[zaq];omega
   rw[zab J,zab U];simp
  ·have J:¬0+vs.length<=av.length:=by omega
   have U:¬0+(v::vs).length<=(y::av).length:=by simp only[zaq];omega
   have ag:vs≠[]:=by intro e;subst e;simp at h
   rw[zaa J,zaa U,zaa ag,zaa (by simp)]
 |y::av,n+1,vs,k,z=>by
  show q4 av n vs (fun l'=>k (y::l')) z=_;rw[q5 av n vs];by_cases h:n+vs.length<=av.length
  ·have U:n+1+vs.length<=(y::av).length:=by simp only[zaq];omega
   rw[zab h,zab U];rw[show n+1+vs.length=(n+vs.length)+1 by omega];simp
  ·have U:¬n+1+vs.length<=(y::av).length:=by simp only[zaq];omega
   rw[zaa h,zaa U]
def O5{vs:ac α}{k:ac α->β}(h:q4 l n vs k z=r)(an:z≠r):
 (n+vs.length<=l.length∧k (l.take n++(vs++l.drop (n+vs.length)))=r)∨(vs=[]∧k l=r):=by
 rw[q5]at h;split at h
 ·exact .inl ⟨by assumption,h⟩
 ·split at h
  ·exact .inr ⟨by assumption,h⟩
  ·exact absurd h an
def vY{a:Addr}{k:ac be->ce->Nat×Nat->Bool->β}(h:st.gC a k z=r)(an:z≠r):
 a.spot=none∧∃cs elem bg a8,st.h.get a.block=some (.cells cs elem bg a8)∧k cs elem bg a8=r:=by
 unfold ay.gC at h;obtain⟨J,U⟩:=w2 h (fun _=>an);refine⟨J,?_⟩;unfold CY at U;obtain⟨o,al,ag⟩:=gh U an;cases o<;>first|exact absurd ag an|exact⟨_,_,_,_,al,ag⟩
def Bh{a:Addr}{k:ac be->β}(h:st.load a n k z=r)(an:z≠r):
 a.spot=none∧∃cs elem bg a8,st.h.get a.block=some (.cells cs elem bg a8)∧n<=(cs.drop a.off).length∧k ((cs.drop a.off).take n)=r:=by
 obtain⟨J,cs,e,bg,a8,U,ag⟩:=vY h an;obtain⟨az,a4⟩:=v7 ag an;exact⟨J,cs,e,bg,a8,U,az,a4⟩
def ks(st:ay)(id:Nat)(o:bt)(k:ay->β):st.hI id o k=k ⟨st.h.set id o,st.ai⟩:=by
 unfold ay.hI;rw[ao.xb,ao.pY]
def Aw(n:Nat)(k:Nat->β):gm n k=k n:=by unfold gm;rw[zaz];rfl
def gV(st:ay)(o:bt)(k:Nat->ay->β):st.jB o k=k st.ai ⟨st.h.set st.ai o,st.ai+1⟩:=by
 unfold ay.jB;rw[Aw,ao.xb,ao.pY]
def aiv(n:Int)(k:Int->β):Tr n k=k n:=by
 cases n with
 |ofNat m=>exact Aw m (fun m=>k (.ofNat m))
 |negSucc m=>exact Aw m (fun m=>k (.negSucc m))
def iS(a:d7)(n:Int)(c:be->β):iA a n c=c (.int a n):=aiv _ _
def acz{a:Addr}{vs:ac be}{k:ay->β}(h:st.store a vs k z=r)(an:z≠r):
 a.spot=none∧∃cs elem bg a8,st.h.get a.block=some (.cells cs elem bg a8)∧bg.2<=bg.1∧
  ((a.off+vs.length<=cs.length∧k ⟨st.h.set a.block (.cells (cs.take a.off++(vs++cs.drop (a.off+vs.length))) elem bg a8),st.ai⟩=r)∨
   (vs=[]∧k ⟨st.h.set a.block (.cells cs elem bg a8),st.ai⟩=r)):=by
 obtain⟨J,cs,e,bg,a8,U,ag⟩:=vY h an;obtain⟨az,a4⟩:=jz ag an;refine⟨J,cs,e,bg,a8,U,az,?_⟩;rcases O5 a4 an with⟨ha,hb⟩|⟨ha,hb⟩
 ·left;refine⟨ha,?_⟩;rw[ks]at hb;exact hb
 ·right;refine⟨ha,?_⟩;rw[ks]at hb;exact hb
end
structure tJ(P:d9)(ι:bs)(w:co)(cs:ac be)(elem:ce)(bg:Nat×Nat)(a8:Bool)(l:Loc)(C:ap be)(eA:Nat×Nat):Prop where
 there:w.heap[l.cH]? =some (.cells C elem eA)
 room:l.cP+cs.length+l.ex*P.cellsOf elem<=C.size
 cell:∀(i:Nat) (h:i<cs.length),∃c,C[l.cP+i]? =some c∧bp ι cs[i] c
 xF:bg.2<=bg.1->∀i,l.cP<=i->i<l.cP+cs.length+l.ex*P.cellsOf elem->¬(eA.1<=i∧i<eA.2)
 plain:a8=false->l.ex=0∧l.cP=0∧C.size=cs.length
def Cn(t:ao be)(n:Nat):be:=Option.rec (motive:=fun _=>be) (.chan (some 0)) (fun v=>v) (t.get n)
def FT:am dv->am Code->Prop
 |none,none=>True
 |some (.exit i),some (.exit j)=>i=j
 |some .ret,some .ret=>True
 |_,_=>False
structure QL(bR:Nat->Nat)(clock:Nat):Prop where
 inj:∀s t,s<clock->t<clock->bR s=bR t->s=t
 lt:∀s,s<clock->bR s<bR clock
 up:∀j,bR (clock+j)=bR clock+j
structure jH(ι:bs)(bR:Nat->Nat)(es:ac d8)(clock:Nat)(C:ac d8)(k8:Nat):Prop where
 ki:k8=bR clock
 ql:QL bR clock
 born:∀e∈es,e.born<clock
 keys:es.Pairwise (fun a b=>a.key≠b.key)
 vW:es.Pairwise (fun a b=>a.born≠b.born)
 same:∃l:ac d8,l.Perm es∧l.length=C.length∧∀(i:Nat) (h:i<l.length) (aG:i<C.length),bp ι l[i].key C[i].key∧bp ι l[i].val C[i].val∧C[i].born=bR l[i].born
def jH.mono{ι aS:bs}{bR:Nat->Nat}{es:ac d8}{clock:Nat}{C:ac d8}{k8:Nat}(hle:ι.le aS)(h:jH ι bR es clock C k8):jH aS bR es clock C k8:=
 ⟨h.ki,h.ql,h.born,h.keys,h.vW,let⟨l,J,U,ag⟩:=h.same;⟨l,J,U,fun i a b=>⟨(ag i a b).1.mono hle,(ag i a b).2.1.mono hle,(ag i a b).2.2⟩⟩⟩
structure Ctx where
 P:d9
 ok:ci->Code->dm->Prop
 aF:Nat
 kJ:ci->Bool
 kV:ci->Bool
 EL:∀f,kJ f=true->∀x w,(callFunc f #[x]).run P w= .ok (.value x) w
 Eo:∀f,kV f=true->∀s c w,(callFunc f #[.string s,.int .u8 c]).run P w= .ok (.value (goInt (match(List.range s.size).find? (fun i=>s[i]! ==c.toNat.toUInt8)with|some i=>(i:Int)|none=> -1))) w
 keys:ce->am gb
 s4:∀k df,keys k=some df->Maps.Keyed P k∧∀v,df.ok v=true->∃l,keyOf P k v=some l
 pP:ci->Bool
 C4:∀f,pP f=true->∀s c w,(callFunc f #[.string s,.int .u8 c]).run P w= .ok (.value (goInt (s.data.toList.countP (fun b=>b==c.toNat.toUInt8):Nat))) w
 p9:ci->Bool
 ma:Nat
 EH:ma<aF
 Er:∀f,p9 f=true->∀(s b:f5) (m:Int) w,(load ⟨ma,0,none⟩).run P w= .ok (.int .i64 m) w->2<=b.size->(b.size:Int)<=m->s.size<=1000000->
  (callFunc f #[.string s,.string b]).run P w= .ok (.value (goInt (match pA b.data.toList s.data.toList with|some i=>(i:Int)|none=> -1))) w
 eqs:ce->am Nat
 x8:∀t n,eqs t=some n->P.eqGuardType P.depth t=false∧∀xs av b w,xs.size=n%100+n/100->av.size=n%100+n/100->o3 (n%100) xs.toList av.toList=some b->(Op.equalIn 10000 t (.agg xs) (.agg av)).run P w= .ok b w
 qb:ci->am ce
 EG:∀f e,qb f=some e->∀(n:Nat) (w:co),n<=281474976710656->∃(cs:ap be) (w':co),n<=cs.size∧P.cellsOf e=1∧(callFunc f #[.int .i64 (n:Int)]).run P w= .ok (.value (.slice (some ⟨w.heap.size,0,none⟩) n cs.size)) w'∧w'.heap=w.heap.push (.cells cs e)∧(w'.os=w.os∧w'.output=w.output)
variable(X:Ctx)
def kg(ι:bs)(w:co)(o:bt)(l:Loc):Prop:=
 match o with
 |.cells cs elem bg a8=>∃C eA,tJ X.P ι w cs elem bg a8 l C eA
 |.map es clock=>l.cP=0∧l.ex=0∧∃C k8,w.heap[l.cH]? =some (.map C k8)∧jH ι l.bR es clock C.toList k8
 |.zs s pos=>l.cP=0∧l.ex=0∧w.heap[l.cH]? =some (.stringIter s pos)
 |.qZ m since seen n5=>l.cP=0∧l.ex=0∧∃fz Fq mW Bd,w.heap[l.cH]? =some (.mapIter fz Fq mW Bd)∧
  (m=none∧fz=none∨∃r b bR,m=some r∧fz=some b∧ι r=some ⟨b,0,0,bR⟩∧Fq=bR since∧mW.toList=seen.map bR∧Bd=bR n5)
 |.loop s gM fn t ps dB body d=>l.cP=0∧l.ex=0∧∃L:Loop,w.heap[l.cH]? =some (.loop L)∧L.state=s∧FT gM L.pending∧L.fn=fn∧
  (∀n,bp ι (Cn t n) (L.tmps.getD n undef))∧L.params.toList=ps∧X.ok fn L.assign dB∧X.ok fn L.body body∧ι d=some ⟨L.defers,0,0,id⟩∧
  (∃F,X.P.funcs[fn]? =some F∧L.tmps.size=F.ntmps)∧∀t∈ps,t<L.tmps.size
 |.jI calls=>l.cP=0∧l.ex=0∧((calls=some []∧w.heap[l.cH]? =some (.deferred (some [])))∨(calls=none∧w.heap[l.cH]? =some (.deferred none)))
 |.dead=>True
def bt.wv:bt->Prop
 |.cells _ _ bg a8=>a8=false∧bg.1<bg.2
 |_=>False
structure bo(ι:bs)(st:ay)(w:co):Prop where
 ez:∀id o,st.h.get id=some o->o≠.dead->∃l,ι id=some l∧kg X ι w o l
 inj:∀i j o p l m,st.h.get i=some o->o≠.dead->st.h.get j=some p->p≠.dead->ι i=some l->ι j=some m->(l.bR≠h1∨m.bR≠h1)->l.cH=m.cH->i=j
 fresh:∀id,st.ai<=id->ι id=none∧st.h.get id=none
 g5:∀id l,ι id=some l->l.cH<w.heap.size
 mB:∀g,g<X.aF->ι g=some ⟨g,0,0,h1⟩
 p1:X.aF<=st.ai
 mc:∀i l o,ι i=some l->l.bR=h1->st.h.get i=some o->o≠.dead->o.wv
def rp(w w':co):Prop:=w'.os=w.os∧w'.output=w.output
structure e3(ι aS:bs)(w w':co):Prop where
 le:ι.le aS
 size:w.heap.size<=w'.heap.size
 kept:∀b,b<w.heap.size->(∀id l,ι id=some l->l.bR≠h1->l.cH≠b)->w'.heap[b]? =w.heap[b]?
 new:∀id l,aS id=some l->ι id=some l∨w.heap.size<=l.cH∨∃j m,ι j=some m∧m.bR≠h1∧m.cH=l.cH
 g9:rp w w'
variable{w:co}{ι:bs}{w':co}{aS:bs}{l:Loc}{st:ay}
def e3.refl(ι:bs)(w:co):e3 ι ι w w:=⟨.refl ι,b8 _,fun _ _ _=>rfl,fun _ _ h=>.inl h,⟨rfl,rfl⟩⟩
def e3.trans{dA:bs}{ke:co}(h:e3 ι aS w w')(aG:e3 aS dA w' ke):e3 ι dA w ke:=by
 refine⟨h.le.trans aG.le,zag h.size aG.size,fun b hb af=> ?_,fun id l hl=> ?_,⟨aG.g9.1.trans h.g9.1,aG.g9.2.trans h.g9.2⟩⟩
 ·rw[aG.kept b (fM hb h.size) ?_,h.kept b hb af];intro id l hl ah e;rcases h.new id l hl with hn|hn|⟨j,m,hj,eB,hm⟩
  ·exact af id l hn ah e
  ·omega
  ·exact af j m hj eB (by omega)
 ·rcases aG.new id l hl with hn|hn|⟨j,m,hj,ah,hm⟩
  ·exact h.new id l hn
  ·exact .inr (.inl (zag h.size hn))
  ·rcases h.new j m hj with J|J|⟨NT,fz,J,U,ag⟩
   ·exact .inr (.inr ⟨j,m,J,ah,hm⟩)
   ·exact .inr (.inl (by omega))
   ·exact .inr (.inr ⟨NT,fz,J,U,by omega⟩)
def tJ.mono{P:d9}{cs:ac be}{elem:ce}{bg:Nat×Nat}{a8:Bool}{C:ap be}{eA:Nat×Nat}
 (h:tJ P ι w cs elem bg a8 l C eA) (hle:ι.le aS) (e:w'.heap[l.cH]? =w.heap[l.cH]?):tJ P aS w' cs elem bg a8 l C eA:=
 ⟨by rw[e];exact h.there,h.room,fun i af=>let⟨c,J,U⟩:=h.cell i af;⟨c,J,U.mono hle⟩,h.xF,h.plain⟩
def kg.mono{o:bt}(h:kg X ι w o l)(hle:ι.le aS)(e:w'.heap[l.cH]? =w.heap[l.cH]?):kg X aS w' o l:=by
 cases o with
 |cells cs elem bg a8=>obtain⟨C,eA,hc⟩:=h;exact⟨C,eA,hc.mono hle e⟩
 |map es clock=>
  obtain⟨h0,jK,C,bE,J,U⟩:=h;exact⟨h0,jK,C,bE,by rw[e];exact J,U.mono hle⟩
 |zs s pos=>obtain⟨h0,jK,J⟩:=h;exact⟨h0,jK,by rw[e];exact J⟩
 |qZ m since seen n5=>
  obtain⟨h0,jK,fz,bq,ck,hT,J,U⟩:=h;refine⟨h0,jK,fz,bq,ck,hT,by rw[e];exact J,?_⟩;rcases U with U|⟨r,b,bR,ag,az,a4,cl⟩
  ·exact .inl U
  ·exact .inr ⟨r,b,bR,ag,az,hle _ _ a4,cl⟩
 |loop s gM fn t ps dB body d=>
  obtain⟨h0,jK,L,J,U,ag,az,a4,cl,dn,g6,iZ,rO⟩:=h;exact⟨h0,jK,L,by rw[e];exact J,U,ag,az,fun n=>(a4 n).mono hle,cl,dn,g6,hle _ _ iZ,rO⟩
 |jI calls=>
  obtain⟨h0,jK,J⟩:=h;refine⟨h0,jK,?_⟩;rw[e];exact J
 |dead=>trivial
def bo.xp(h:bo X ι st w)(e:w'.heap=w.heap):bo X ι st w':=by
 refine⟨fun id o al aA=> ?_,h.inj,h.fresh,fun id l hl=>by rw[e];exact h.g5 id l hl,h.mB,h.p1,h.mc⟩;obtain⟨l,hl,hm⟩:=h.ez id o al aA;exact⟨l,hl,kg.mono X hm (.refl ι) (by rw[e])⟩
def e3.xp(ι:bs)(e:w'.heap=w.heap)(g9:rp w w':=by exact⟨rfl,rfl⟩):e3 ι ι w w':=
 ⟨.refl ι,by rw[e];exact b8 _,fun _ _ _=>by rw[e],fun _ _ h=>.inl h,g9⟩
def iv(ι:bs)(id:Nat)(l:Loc):bs:=fun i=>if i=id then some l else ι i
def bo.alloc(h:bo X ι st w)(o:bt)(O:Obj)(ex:Nat)
 (hm:∀aS w',ι.le aS->aS st.ai=some ⟨w.heap.size,0,ex,id⟩->w'.heap[w.heap.size]? =some O->kg X aS w' o ⟨w.heap.size,0,ex,id⟩) (w':co) (hw:w'.heap=w.heap.push O) (g9:rp w w':=by exact⟨rfl,rfl⟩):
 ∃aS,bo X aS ⟨st.h.set st.ai o,st.ai+1⟩ w'∧e3 ι aS w w'∧aS st.ai=some ⟨w.heap.size,0,ex,id⟩∧aS=iv ι st.ai ⟨w.heap.size,0,ex,id⟩:=by
 refine⟨fun i=>if i=st.ai then some ⟨w.heap.size,0,ex,id⟩else ι i,?_,?_,zab rfl,rfl⟩
 ·have hle:ι.le (fun i=>if i=st.ai then some ⟨w.heap.size,0,ex,id⟩else ι i):=by
   intro i l hl;show(if i=st.ai then _ else ι i)=_;rw[zaa];exact hl;intro e;subst e;rw[(h.fresh _ (b8 _)).1]at hl;cases hl
  refine⟨fun id p hp aA=> ?_,fun i j p q l m af h3 hj iy hv iP aR e=> ?_,fun id pb=> ?_,fun id l hl=> ?_,fun g aR=> ?_,zdf h.p1,fun i l p hl ah hp aA=> ?_⟩
  ·rw[ao.eJ]at hp;by_cases e:id=st.ai
   ·rw[zab e]at hp;cases hp;subst e;exact⟨_,zab rfl,hm _ _ hle (zab rfl) (by rw[hw];simp)⟩
   ·rw[zaa e]at hp;obtain⟨l,hl,al⟩:=h.ez id p hp aA;refine⟨l,hle _ _ hl,kg.mono X al hle ?_⟩;have:=h.g5 id l hl;rw[hw,zcH,zaa (by omega)]
  ·rw[ao.eJ]at af hj;by_cases eG:i=st.ai<;>by_cases kj:j=st.ai
   ·rw[eG,kj]
   ·exfalso;simp only[zaa kj]at iP;simp only[zab eG]at hv;have:=h.g5 j m iP;cases hv;simp only at e;omega
   ·exfalso;simp only[zaa eG]at hv;simp only[zab kj]at iP;have:=h.g5 i l hv;cases iP;simp only at e;omega
   ·simp only[zaa eG]at hv af;simp only[zaa kj]at iP hj;exact h.inj i j p q l m af h3 hj iy hv iP aR e
  ·have amQ:st.ai+1<=id:=pb;have:=h.fresh id (by omega);refine⟨?_,?_⟩
   ·show(if id=st.ai then _ else ι id)=_;rw[zaa (by omega)];exact this.1
   ·rw[ao.eJ,zaa (by omega)];exact this.2
  ·rw[hw,Array.size_push];by_cases e:id=st.ai
   ·simp only[zab e]at hl;cases hl;simp
   ·simp only[zaa e]at hl;have:=h.g5 id l hl;omega
  ·exact hle _ _ (h.mB g aR)
  ·rw[ao.eJ]at hp;by_cases e:i=st.ai
   ·simp only[zab e]at hl;cases hl;exact absurd ah NI
   ·simp only[zaa e]at hl hp;exact h.mc i l p hl ah hp aA
 ·refine⟨?_,by rw[hw];simp,fun b hb _=>by rw[hw,zcH,zaa (by omega)],fun id l hl=> ?_,g9⟩
  ·intro i l hl;show(if i=st.ai then _ else ι i)=_;rw[zaa];exact hl;intro e;subst e;rw[(h.fresh _ (b8 _)).1]at hl;cases hl
  ·by_cases e:id=st.ai
   ·simp only[zab e]at hl;cases hl;exact .inr (.inl (b8 _))
   ·simp only[zaa e]at hl;exact .inl hl
def bo.tB(h:bo X ι st w){id:Nat}{nn:bt}(h₀:st.h.get id=some nn)(uu:nn≠.dead)(Nc:¬nn.wv)(hl:ι id=some l)(o:bt)(O:Obj)
 (w':co) (hw:w'.heap=w.heap.setIfInBounds l.cH O) (hm:o≠.dead->w'.heap[l.cH]? =some O->kg X ι w' o l) (g9:rp w w':=by exact⟨rfl,rfl⟩):
 bo X ι ⟨st.h.set id o,st.ai⟩ w'∧e3 ι ι w w':=by
 have hb:=h.g5 id l hl;have oy:l.bR≠h1:=fun e=>Nc (h.mc id l nn hl e h₀ uu);refine⟨⟨fun j p hp aA=> ?_,fun i j p q a b af h3 hj iy hv iP aR e=> ?_,fun j hj=> ?_,fun j a ha=> ?_,h.mB,h.p1,fun j a p ha ah hp aA=> ?_⟩,?_⟩
 ·rw[ao.eJ]at hp;by_cases e:j=id
  ·rw[zab e]at hp;cases hp;subst e;exact⟨l,hl,hm aA (by rw[hw];simp[hb])⟩
  ·rw[zaa e]at hp;obtain⟨m,mL,al⟩:=h.ez j p hp aA;refine⟨m,mL,kg.mono X al (.refl ι) ?_⟩;have cd:m.cH≠l.cH:=fun pU=>e (h.inj j id p nn m l hp aA h₀ uu mL hl (.inr oy) pU);rw[hw,zbt (Ne.symm cd)]
 ·rw[ao.eJ]at af hj;have alc:∃dO,st.h.get i=some dO∧dO≠.dead:=by
   by_cases e:i=id
   ·subst e;exact⟨nn,h₀,uu⟩
   ·rw[zaa e]at af;exact⟨p,af,h3⟩
  have ale:∃dO,st.h.get j=some dO∧dO≠.dead:=by
   by_cases e:j=id
   ·subst e;exact⟨nn,h₀,uu⟩
   ·rw[zaa e]at hj;exact⟨q,hj,iy⟩
  obtain⟨dO,wJ,yz⟩:=alc;obtain⟨gn,rY,wK⟩:=ale;exact h.inj i j dO gn a b wJ yz rY wK hv iP aR e
 ·have:=h.fresh j hj;refine⟨this.1,?_⟩;rw[ao.eJ,zaa];exact this.2;intro e;subst e;rw[this.2]at h₀;cases h₀
 ·rw[hw];simpa using h.g5 j a ha
 ·rw[ao.eJ]at hp;by_cases e:j=id
  ·subst e;rw[hl]at ha;cases ha;exact absurd ah oy
  ·rw[zaa e]at hp;exact h.mc j a p ha ah hp aA
 ·refine⟨.refl ι,by rw[hw];simp,fun b _ af=> ?_,fun _ _ hh=>.inl hh,g9⟩;rw[hw,zbt (af id l hl oy)]
end Go.ar
namespace Go.ar
mutual
def kN:be->Bool
 |.bool _|.int _ _|.float _ _|.string _|.pointer none|.slice none _ _|.map none|.nilFunc|.nilIface=>true
 |.func (.func _) x y=>FF x&&FF y
 |.iface _ v=>kN v
 |.agg a|.tuple a=>FF a
 |_=>false
def FF:ap be->Bool
 |⟨a⟩=>nC a
def nC:ac be->Bool
 |[]=>true
 |a::as=>kN a&&nC as
end
mutual
theorem bp.pure(ι:bs):∀v:be,kN v=true->bp ι v v
 |.bool b,_=>.bool b
 |.int k n,_=>.int k n
 |.float k n,_=>.float k n
 |.complex _ _ _,h=>by simp[kN]at h
 |.string s,_=>.string s
 |.pointer none,_=>.ns
 |.pointer (some _),h=>by simp[kN]at h
 |.slice none n c,_=>.nw n c
 |.slice (some _) _ _,h=>by simp[kN]at h
 |.map none,_=>.pj
 |.map (some _),h=>by simp[kN]at h
 |.chan _,h=>by simp[kN]at h
 |.func (.func f) x y,h=>by
  simp only[kN,bW]at h;exact bp.IV (.inl ⟨rfl,by simp⟩) (bJ.pt ι x h.1) (bJ.pt ι y h.2)
 |.func (.method _) _ _,h=>by simp[kN]at h
 |.func (.methodOf _ _) _ _,h=>by simp[kN]at h
 |.func (.via _ _ _ _) _ _,h=>by simp[kN]at h
 |.func (.yield _) _ _,h=>by simp[kN]at h
 |.nilFunc,_=>.nilFunc
 |.iface t v,h=>.iface t v v (bp.pure ι v (by simpa[kN]using h))
 |.nilIface,_=>.nilIface
 |.agg a,h=>bp.BC (bJ.pt ι a (by simpa[kN]using h))
 |.tuple a,h=>bp.n0 (bJ.pt ι a (by simpa[kN]using h))
theorem bJ.pt(ι:bs):∀v:ap be,FF v=true->bJ ι v.toList v.toList
 |⟨a⟩,h=>bJ.zb ι a (by simpa[FF]using h)
theorem bJ.zb(ι:bs):∀v:ac be,nC v=true->bJ ι v v
 |[],_=>bJ.nil ι
 |a::as,h=>by
  simp only[nC,bW]at h;exact bJ.cons (bp.pure ι a h.1) (bJ.zb ι as h.2)
end
theorem bp.undef(ι:bs):bp ι undef undef:=bp.pure ι _ rfl
def cI(aF:Nat):bi->Bool
 |.tmp _=>true
 |.const v=>kN v
 |.global g=>Nat.ble (Nat.succ g) aF
 |.func _=>true
def FN(ι:bs)(d e:Deferred):Prop:=
 bJ ι d.args.toList e.args.toList∧
 match d.target,e.target with
 |.fn f c,.fn g bE=>zL ι f g∧bJ ι c.toList bE.toList
 |.collected r,.collected b=>ι r=some ⟨b,0,0,id⟩
 |_,_=>False
variable{ι aS:bs}
def tK(ι:bs):ac Deferred->ac Deferred->Prop
 |[],[]=>True
 |d::ds,e::es=>FN ι d e∧tK ι ds es
 |_,_=>False
def FN.mono(hle:ι.le aS){d e:Deferred}(h:FN ι d e):FN aS d e:=by
 obtain⟨J,U⟩:=h;refine⟨J.mono hle,?_⟩;cases aA:d.target<;>cases he:e.target<;>simp only[aA,he]at U⊢
 ·exact⟨U.1.mono hle,U.2.mono hle⟩
 ·exact hle _ _ U
def tK.mono(hle:ι.le aS):∀{ds es:ac Deferred},tK ι ds es->tK aS ds es
 |[],[],_=>trivial
 |_::_,_::_,h=>⟨h.1.mono hle,tK.mono hle h.2⟩
 |[],_::_,h=>h.elim
 |_::_,[],h=>h.elim
structure cy(ι:bs)(fr:aP)(a:Act)(aJ:Nat):Prop where
 tmp:∀t,bp ι (fr.tmp t) (a.tmps.getD t undef)
 size:a.tmps.size=aJ
 cS:tK ι fr.cS a.defers
def cy.mono(hle:ι.le aS){fr:aP}{a:Act}{aJ:Nat}(h:cy ι fr a aJ):cy aS fr a aJ:=
 ⟨fun t=>(h.tmp t).mono hle,h.size,h.cS.mono hle⟩
variable{X:Ctx}
variable{fr:aP}{a:Act}{aJ:Nat}
def cy.ak{st:ay}{w:co}(h:cy ι fr a aJ)(hw:bo X ι st w){x:bi}(aa:cI X.aF x=true):bp ι (fr.ak x) (a.eval x):=by
 cases x with
 |tmp t=>exact h.tmp t
 |const v=>exact bp.pure ι v aa
 |global g=>
  have aR:g<X.aF:=mn.1 aa;have:=bp.ptr (ι:=ι) ⟨g,0,none⟩ ⟨g,0,0,h1⟩ (hw.mB g aR) rfl;show bp ι (.pointer (some ⟨g,0,none⟩)) (.pointer (some ⟨g,0,none⟩));simpa using this
 |func f=>exact bp.IV (.inl ⟨rfl,by simp⟩) (bJ.nil ι) (bJ.nil ι)
def cy.put(h:cy ι fr a aJ){d:am Tmp}(aA:∀t,d=some t->t<aJ){v v':be}(aD:bp ι v v'):cy ι (fr.put d v) (a.put d v') aJ:=by
 cases d with
 |none=>exact h
 |some d=>
  refine⟨fun t=> ?_,by simp[Act.put,h.size],by rw[(tm fr (some d) v).1];exact h.cS⟩;rw[sr];have aN:d<a.tmps.size:=by rw[h.size];exact aA d rfl
  simp only[Act.put,Option.some.injEq];by_cases e:d=t
  ·subst e;rw[zab rfl];simp[Array.getD,aN];exact aD
  ·rw[zaa e];have:=h.tmp t;simp only[Array.getD_eq_getD_getElem?]at this⊢;rw[zbt e];exact this
def adN(aS:bs)(v:be)(n:Next):Prop:=(∃v',n= .value v'∧bp aS v v')∨(n= .skip∧v=undef)
def ky(X:Ctx)(ι:bs)(w:co)(v:be)(st':ay)(s:Sem Next):Prop:=
 ∃aS n w',s.run X.P w= .ok n w'∧adN aS v n∧bo X aS st' w'∧e3 ι aS w w'
def cn(X:Ctx)(ι:bs)(w:co)(v:be)(st st':ay)(s:Sem Next):Prop:=
 st'=st∧bo X ι st w∧∃v',s.run X.P w= .ok (.value v') w∧bp ι v v'
variable{w:co}{v:be}{st:ay}{s:Sem Next}
def cn.same{v':be}(hw:bo X ι st w)(aE:s.run X.P w= .ok (.value v') w)(aD:bp ι v v'):cn X ι w v st st s:=
 ⟨rfl,hw,v',aE,aD⟩
def cn.P0{st':ay}(h:cn X ι w v st st' s):ky X ι w v st' s:=by
 obtain⟨rfl,hw,v',aE,aD⟩:=h;exact⟨ι,_,w,aE,.inl ⟨v',rfl,aD⟩,hw,.refl ι w⟩
def tN(X:Ctx)(ι:bs)(w:co)(v:be)(st st':ay)(s:Sem Next):Prop:=
 ∃o O ex v' w',st'=⟨st.h.set st.ai o,st.ai+1⟩∧o≠.dead∧s.run X.P w= .ok (.value v') w'∧w'.heap=w.heap.push O∧
  bp (iv ι st.ai ⟨w.heap.size,0,ex,id⟩) v v'∧bo X (iv ι st.ai ⟨w.heap.size,0,ex,id⟩) st' w'∧e3 ι (iv ι st.ai ⟨w.heap.size,0,ex,id⟩) w w'
def tN.P0{st':ay}(h:tN X ι w v st st' s):ky X ι w v st' s:=by
 obtain⟨o,O,ex,v',w',_,_,aE,_,aD,hw,ab⟩:=h;exact⟨_,_,w',aE,.inl ⟨v',rfl,aD⟩,hw,ab⟩
def ky.same{v':be}(hw:bo X ι st w)(aE:s.run X.P w= .ok (.value v') w)(aD:bp ι v v'):ky X ι w v st s:=
 ⟨ι,_,w,aE,.inl ⟨v',rfl,aD⟩,hw,.refl ι w⟩
section
variable{ι:bs}{fr aI:aP}{a:Act}{aJ:Nat}{st st':ay}{w:co}{o:Oper}{v:be}{call:bG}
variable{x:bi}
def ab0(aa:cI X.aF x=true)(al:o.op= .move x∨o.op= .assign x)(ae:cy ι fr a aJ)(hw:bo X ι st w)(h:ZP x call fr st= .ok v aI st'):
 aI=fr∧cn X ι w v st st' (execOp a.eval o):=by
 cases h;refine⟨rfl,cn.same (v':=a.eval x) hw ?_ (ae.ak hw aa)⟩;unfold execOp;rcases al with al|al<;>rw[al]<;>rfl
def atV{c y:bi}(hc:cI X.aF c=true)(aa:cI X.aF x=true)(aL:cI X.aF y=true)(al:o.op= .pick c x y)(ae:cy ι fr a aJ)(hw:bo X ι st w)(h:ZS c x y call fr st= .ok v aI st'):
 aI=fr∧cn X ι w v st st' (execOp a.eval o):=by
 obtain⟨t,aW,h⟩:=Qo h (by simp);cases h;have nQ:=ae.ak hw hc;rw[aW]at nQ;generalize ML:a.eval c=GH at nQ;cases nQ;refine⟨rfl,cn.same (v':=if t then a.eval x else a.eval y) hw ?_ ?_⟩
 ·unfold execOp;rw[al];simp[ML,asBool]
 ·cases t
  ·exact ae.ak hw aL
  ·exact ae.ak hw aa
end
end Go.ar
namespace Go.ar
variable{X:Ctx}
variable{w:co}{bg:Nat×Nat}{b o:Nat}{e:ce}{P:d9}
def cell_of{C:ap be}(h:w.heap[b]? =some (.cells C e bg)):w.cell? ⟨b,o,none⟩=C[o]? :=by
 simp[World.cell?,h]
def aiy{C:ap be}(h:w.heap[b]? =some (.cells C e bg)):w.frozen? ⟨b,o,none⟩=(decide (bg.1<=o)&&decide (o<bg.2)):=by
 obtain⟨aQ,af⟩:=bg;simp[World.frozen?,h]
def tJ.row{ι:bs}{cs:ac be}{elem:ce}{a8:Bool}{l:Loc}{C:ap be}{eA:Nat×Nat}
 (h:tJ P ι w cs elem bg a8 l C eA) (off n:Nat) (hn:n<=(cs.drop off).length):bJ ι ((cs.drop off).take n) ((C.toList.drop (l.cP+off)).take n):=by
 have hlen:(cs.drop off).length=cs.length-off:=by simp
 have qR:=h.room;refine⟨by simp;omega,fun i a b=> ?_⟩;simp only[zao,zaA]at a b;obtain⟨c,J,U⟩:=h.cell (off+i) (by omega);have af:l.cP+(off+i)<C.size:=(zbd.1 J).1;rw[zbD af]at J;cases J;simp only[zdK,zdL,zaw];have e:l.cP+off+i=l.cP+(off+i):=by omega
 simp only[e];exact U
def Fl{n:Nat}{C:ap be}(h:w.heap[b]? =some (.cells C e bg))(hn:o+n<=C.size):
 (loadCells ⟨b,o,none⟩ n).run P w= .ok ((C.toList.drop o).take n).toArray w:=by
 have hl:((C.toList.drop o).take n).length=n:=by simp;omega
 have:=run_loadCells_list (P:=P) w ⟨b,o,none⟩ ((C.toList.drop o).take n) (fun j v hj=>by
  have amS:j<n:=by
   have:=(zaf.1 hj).1;omega
  have aC:(Addr.add ⟨b,o,none⟩ j)=⟨b,o+j,none⟩:=by unfold Addr.add;split<;>simp_all
  rw[aC,cell_of h];rw[zaG,zab amS,zaB]at hj;simpa using hj)
 rwa [hl]at this
theorem PV{P:d9}{b o:Nat}{e:ce}{bg:Nat×Nat}:∀(vs:ac be) (i:Nat) (C:ap be) (w:co),w.heap[b]? =some (.cells C e bg)->o+i+vs.length<=C.size->
 (∀v∈vs,v.oneCell'=true)->(∀j,o+i<=j->j<o+i+vs.length->¬(bg.1<=j∧j<bg.2))->
 ∃w',(storeCells ⟨b,o,none⟩ vs i).run P w= .ok () w'∧
  w'.heap=w.heap.setIfInBounds b (.cells (C.toList.take (o+i)++(vs++C.toList.drop (o+i+vs.length))).toArray e bg)∧rp w w'
 |[],i,C,w,h,hn,_,_=>by
  refine⟨w,rfl,?_,⟨rfl,rfl⟩⟩;have:(C.toList.take (o+i)++([]++C.toList.drop (o+i+([]:ac be).length))).toArray=C:=by simp
  rw[this];apply zdg;intro j;by_cases kj:b=j
  ·subst kj;have:=(zbd.1 h).1;rw[zdM];simp[this];exact(zbd.1 h).2
  ·rw[zbt kj]
 |v::vs,i,C,w,h,hn,J,ae=>by
  simp only[zaq]at hn ae;have aC:(Addr.add ⟨b,o,none⟩ i)=⟨b,o+i,none⟩:=by unfold Addr.add;split<;>simp_all
  have aN:o+i<C.size:=by omega
  have hc:w.cell? ⟨b,o+i,none⟩=some C[o+i]:=by rw[cell_of h,zbD aN]
  have ou:w.frozen? ⟨b,o+i,none⟩=false:=by
   rw[aiy h];have:=ae (o+i) (by omega) (by omega);simp only[Bool.and_eq_false_iff,decide_eq_false_iff_not];omega
  have ah:(store ⟨b,o+i,none⟩ v).run P w= .ok () (w.setCell ⟨b,o+i,none⟩ v):=by
   rw[run_store P w _ v _ (J v (by simp)),hc];simp[ou]
  have hb:=(zbd.1 h).1;have hh:(w.setCell ⟨b,o+i,none⟩ v).heap=w.heap.setIfInBounds b (.cells (C.setIfInBounds (o+i) v) e bg):=by
   simp only[World.setCell];apply zdg;intro j;rw[zdN];by_cases kj:b=j
   ·subst kj;rw[zab rfl,h,zdM];simp[hb]
   ·rw[zaa kj,zbt kj]
  have aG:(w.setCell ⟨b,o+i,none⟩ v).heap[b]? =some (.cells (C.setIfInBounds (o+i) v) e bg):=by rw[hh];simp[hb]
  obtain⟨w',aE,er,g9⟩:=PV (P:=P) (o:=o) vs (i+1) (C.setIfInBounds (o+i) v) (w.setCell ⟨b,o+i,none⟩ v) aG (by simp;omega) (fun x aa=>J x (by simp[aa])) (fun j a c=>ae j (by omega) (by omega));refine⟨w',?_,?_,g9⟩
  ·unfold storeCells;rw[aC,Sem.run_bind,ah];exact aE
  ·rw[er,hh];rw[Array.setIfInBounds_setIfInBounds];congr 3;have lF:(C.setIfInBounds (o+i) v).toList=C.toList.set (o+i) v:=by simp
   rw[lF];have hl:o+i<C.toList.length:=by simpa using aN
   have t1:(C.toList.set (o+i) v).take (o+(i+1))=C.toList.take (o+i)++[v]:=by
    rw[show o+(i+1)=(o+i)+1 by omega,zaY (by simpa using aN),zaT (b8 _)];simp
   have t2:(C.toList.set (o+i) v).drop (o+(i+1)+vs.length)=C.toList.drop (o+i+(v::vs).length):=by
    rw[zcI (by omega)];congr 1;simp only[zaq];omega
   rw[t1,t2];simp
section
variable{ι:bs}{fr aI:aP}{a:Act}{aJ:Nat}{st st':ay}{w:co}{o:Oper}{v:be}{call:bG}
variable{t:ce}{d:TypeDesc}{i:f6}{x:bi}
def ry:TypeDesc->Bool
 |.struct _|.array _ _=>true
 |_=>false
def Eu(h:P.underlying t=some d)(w:co):(isAgg t).run P w= .ok (ry d) w:=by
 unfold isAgg;rw[Sem.run_bind,run_underlying h];cases d<;>rfl
def kt(h:P.info? t=some i)(w:co):(sizeOf t).run P w= .ok i.size w:=by
 simp[sizeOf,typeInfo,h]
def abX(aa:cI X.aF x=true)(al:o.op= .load t x)(aA:X.P.underlying t=some d)(p4:ry d=false)
 (ae:cy ι fr a aJ) (hw:bo X ι st w) (h:I2 x call fr st= .ok v aI st'):
 aI=fr∧cn X ι w v st st' (execOp a.eval o):=by
 obtain⟨p,hp,h⟩:=pB h (by simp);obtain⟨ad,rfl,h⟩:=gh h (by simp);obtain⟨ah,cs,elem,bg,a8,aR,hn,h⟩:=Bh h (by simp);obtain⟨v1,p7,h⟩:=BE h (by simp);cases h;obtain⟨l,hl,C,eA,hc⟩:=hw.ez _ _ aR (by simp);have bX:=ae.ak hw aa;rw[hp]at bX;generalize cD:a.eval x=fu at bX;cases bX with
 |ptr _ l' cx eB=>
  rw[hl]at cx;cases cx;have hlen:ad.off<cs.length:=by simp at hn;omega
  have kF:=hc.row ad.off 1 hn;rw[p7]at kF;obtain⟨y,av,aL,anW,_⟩:=kF.cons_inv;have qR:=hc.room;have wO:C[l.cP+ad.off]? =some y:=by
   have:=congrArg (fun z=>z[0]?) aL;simpa using this
  refine⟨rfl,cn.same (v':=y) hw ?_ anW⟩;unfold execOp;rw[al];simp only[cD,Instr.loadAt,Instr.sureAddr,loadVar,Sem.run_bind,Sem.run_pure,Result.andThen,Eu aA,p4,zaU,if_false,run_load];rw[cell_of hc.there,wO]
def abY(aa:cI X.aF x=true)(al:o.op= .load t x)(aA:X.P.underlying t=some d)(p4:ry d=true)
 (af:X.P.info? t=some i) (ae:cy ι fr a aJ) (hw:bo X ι st w) (h:I3 i.size x call fr st= .ok v aI st'):
 aI=fr∧cn X ι w v st st' (execOp a.eval o):=by
 obtain⟨p,hp,h⟩:=pB h (by simp);obtain⟨ad,rfl,h⟩:=gh h (by simp);obtain⟨ah,cs,elem,bg,a8,aR,hn,h⟩:=Bh h (by simp);cases h;obtain⟨l,hl,C,eA,hc⟩:=hw.ez _ _ aR (by simp);have bX:=ae.ak hw aa;rw[hp]at bX;generalize cD:a.eval x=fu at bX;cases bX with
 |ptr _ l' cx eB=>
  rw[hl]at cx;cases cx;have kF:=hc.row ad.off i.size hn;have qR:=hc.room;simp only[zaA]at hn;by_cases an:i.size=0
  ·refine⟨rfl,cn.same (v':=.agg #[]) hw ?_ ?_⟩
   ·unfold execOp;rw[al];simp only[cD,Instr.loadAt,Instr.sureAddr,loadVar,Sem.run_bind,Sem.run_pure,Result.andThen,Eu aA,p4,if_true,kt af,an];rfl
   ·rw[an];exact bp.BC (by simpa using bJ.nil ι)
  refine⟨rfl,cn.same (v':=.agg ((C.toList.drop (l.cP+ad.off)).take i.size).toArray) hw ?_ (bp.BC (by simpa using kF))⟩;unfold execOp;rw[al];simp only[cD,Instr.loadAt,Instr.sureAddr,loadVar,Sem.run_bind,Sem.run_pure,Result.andThen,Eu aA,p4,if_true,kt af];rw[Fl hc.there (by omega)]
end
variable{ι:bs}{cs:ac be}{elem:ce}{a8:Bool}{l:Loc}{v:be}{st:ay}
def P4{α:Type}(l vs:ac α)(n i:Nat)(h:n+vs.length<=l.length):
 (l.take n++(vs++l.drop (n+vs.length)))[i]? =if i<n then l[i]? else if i<n+vs.length then vs[i-n]? else l[i]? :=by
 by_cases J:i<n
 ·rw[zab J,zaW (by simp;omega),zaG,zab J]
 ·rw[zaa J,zaL (by simp;omega)];have e:i-(l.take n).length=i-n:=by simp;omega
  rw[e];by_cases U:i<n+vs.length
  ·rw[zab U,zaW (by omega)]
  ·rw[zaa U,zaL (by omega),zaB];congr 1;omega
def tJ.store{w':co}{C:ap be}{eA:Nat×Nat}
 (h:tJ P ι w cs elem bg a8 l C eA) {off:Nat} {vs gA:ac be} (hle:off+vs.length<=cs.length) (aD:bJ ι vs gA)
 (hw:w'.heap[l.cH]? =some (.cells (C.toList.take (l.cP+off)++(gA++C.toList.drop (l.cP+off+gA.length))).toArray elem eA)):
 tJ P ι w' (cs.take off++(vs++cs.drop (off+vs.length))) elem bg a8 l (C.toList.take (l.cP+off)++(gA++C.toList.drop (l.cP+off+gA.length))).toArray eA:=by
 have hlen:=aD.1;have qR:=h.room;have jM:l.cP+cs.length<=C.size:=by
  have:=zcj (l.cP+cs.length) (l.ex*P.cellsOf elem);omega
 have DV:(cs.take off++(vs++cs.drop (off+vs.length))).length=cs.length:=by simp;omega
 have ep:((C.toList.take (l.cP+off)++(gA++C.toList.drop (l.cP+off+gA.length))).toArray).size=C.size:=by simp;omega
 refine⟨hw,by rw[DV,ep];exact qR,fun i af=> ?_,fun ae j=>by rw[DV];exact h.xF ae j,fun aR=>by rw[DV,ep];exact h.plain aR⟩;have dG:i<cs.length:=by omega
 have aC:=P4 cs vs off i hle;have e2:=P4 C.toList gA (l.cP+off) (l.cP+i) (by simp;omega);rw[bm af]at aC;simp only[zck];rw[e2];obtain⟨c,J,U⟩:=h.cell i dG;by_cases e0:i<off
 ·rw[zab e0,bm dG]at aC;rw[zab (by omega)];refine⟨c,by simpa using J,?_⟩;rw[Option.some.inj aC];exact U
 ·by_cases fT:i<off+vs.length
  ·rw[zaa e0,zab fT,bm (by omega)]at aC;rw[zaa (by omega),zab (by omega)];have b3:l.cP+i-(l.cP+off)=i-off:=by omega
   rw[b3,bm (by omega)];refine⟨_,rfl,?_⟩;rw[Option.some.inj aC];exact aD.2 (i-off) (by omega) (by omega)
  ·rw[zaa e0,zaa fT,bm dG]at aC;rw[zaa (by omega),zaa (by omega)];refine⟨c,by simpa using J,?_⟩;rw[Option.some.inj aC];exact U
def aqo{c:be}(h:bp ι v c)(aD:nD v=true):c.oneCell'=true:=by
 cases h<;>first|rfl|(simp[nD,iD]at aD)
theorem OI{ι:bs}:∀{vs cs:ac be},bJ ι vs cs->hf vs=true->∀c∈cs,c.oneCell'=true
 |[],cs,h,_,c,hc=>by rw[h.w0]at hc;simp at hc
 |v::vs,cs,h,ha,c,hc=>by
  obtain⟨y,av,rfl,J,U⟩:=h.cons_inv;have qH:cond (nD v) (hf vs) false=true:=ha;obtain⟨fa,fR⟩:=iJ qH (by simp);rcases zak.1 hc with rfl|hc
  ·exact aqo J fa
  ·exact OI U fR c hc
def bo.store(hw:bo X ι st w){id off:Nat}
 (aR:st.h.get id=some (.cells cs elem bg a8)) (hl:ι id=some l) (ou:bg.2<=bg.1) {vs gA:ac be} (hle:off+vs.length<=cs.length) (aD:bJ ι vs gA) (bN:hf vs=true):
 ∃w',(storeCells ⟨l.cH,l.cP+off,none⟩ gA).run X.P w= .ok () w'∧bo X ι ⟨st.h.set id (.cells (cs.take off++(vs++cs.drop (off+vs.length))) elem bg a8),st.ai⟩ w'∧e3 ι ι w w':=by
 obtain⟨l',cx,C,eA,hc⟩:=hw.ez _ _ aR (by simp);rw[hl]at cx;cases cx;have qR:=hc.room;have hlen:=aD.1;have jM:l.cP+cs.length<=C.size:=by
  have:=zcj (l.cP+cs.length) (l.ex*X.P.cellsOf elem);omega
 obtain⟨w',aE,hh,g9⟩:=PV (P:=X.P) (o:=l.cP+off) gA 0 C w hc.there (by omega) (OI aD bN) (fun j J U=>hc.xF ou j (by omega) (by
  have:=zcj (l.cP+cs.length) (l.ex*X.P.cellsOf elem);omega))
 simp only[zaX]at hh;obtain⟨t1,t2⟩:=bo.tB X hw aR (by simp) (fun ae=>by have:=ae.2;omega) hl (.cells (cs.take off++(vs++cs.drop (off+vs.length))) elem bg a8) _ w' hh (fun _ aW=>⟨_,eA,hc.store hle aD aW⟩) g9;exact⟨w',aE,t1,t2⟩
def bo.PX(hw:bo X ι st w){id:Nat}{o:bt}(aR:st.h.get id=some o):bo X ι ⟨st.h.set id o,st.ai⟩ w:=by
 have e:∀j,(st.h.set id o).get j=st.h.get j:=by
  intro j;rw[ao.eJ];split
  ·subst_vars;exact aR.symm
  ·rfl
 exact⟨fun j p hp aA=>hw.ez j p (by rw[<-e];exact hp) aA,fun i j p q l m af J hj U=>hw.inj i j p q l m (by rw[<-e];exact af) J (by rw[<-e];exact hj) U,
  fun j hj=>⟨(hw.fresh j hj).1,by rw[e];exact(hw.fresh j hj).2⟩,hw.g5,hw.mB,hw.p1,fun j l p hl ah hp aA=>hw.mc j l p hl ah (by rw[<-e];exact hp) aA⟩
def afb(h:hf v.cells.toList=true):v≠iD:=by
 intro e;subst e;simp[iD,Value.cells]at h;have aG:cond (nD (.chan (some 0))) true false=true:=h;simp[nD]at aG
section
variable{ι:bs}{fr aI:aP}{a:Act}{aJ:Nat}{st st':ay}{w:co}{o:Oper}{v:be}{call:bG}
variable{t:ce}{i:f6}{x:bi}{z:be}
def at2{y:bi}(aa:cI X.aF x=true)(aL:cI X.aF y=true)(al:o.op= .store t x y)(af:X.P.info? t=some i)
 (ae:cy ι fr a aJ) (hw:bo X ι st w) (h:ZW i.size x y call fr st= .ok v aI st'):
 aI=fr∧ky X ι w v st' (execOp a.eval o):=by
 obtain⟨p,hp,h⟩:=pB h (by simp);obtain⟨ad,rfl,h⟩:=gh h (by simp);obtain⟨hn,h⟩:=kS h (by simp);obtain⟨bN,h⟩:=iJ h (by simp);obtain⟨ah,cs,elem,bg,a8,aR,ou,h⟩:=acz h (by simp);rw[fg]at hn;obtain⟨l,hl,hm⟩:=hw.ez _ _ aR (by simp);have bX:=ae.ak hw aa;rw[hp]at bX;generalize cD:a.eval x=fu at bX;cases bX with
 |ptr _ l' cx eB=>
  rw[hl]at cx;cases cx;have gy:=ae.ak hw aL;have NF:=bJ.cells gy (afb bN);have ep:(a.eval y).cells.size=i.size:=by have:=NF.1;simp[h8]at this hn;omega
  have gg:∀w',(storeCells ⟨l.cH,l.cP+ad.off,none⟩ (a.eval y).cells.toList).run X.P w= .ok () w'->(execOp a.eval o).run X.P w= .ok .skip w':=by
   intro w' aE;unfold execOp;rw[al];simp only[cD,Instr.storeAt,Instr.sureAddr,storeVar,Sem.run_bind,Sem.run_pure,Result.andThen,kt af];rw[zaa (by simp[ep])];simp[aE]
  rcases h with⟨hle,h⟩|⟨he,h⟩
  ·cases h;obtain⟨w',aE,J,U⟩:=hw.store aR hl ou hle NF bN;exact⟨rfl,ι,.skip,w',gg w' aE,.inr ⟨rfl,rfl⟩,J,U⟩
  ·cases h;have:(a.eval y).cells.toList=[]:=by
    have:=NF.1;rw[show(fr.ak y).cells.toList=[]from he]at this;exact zbu this.symm
   refine⟨rfl,ι,.skip,w,gg w ?_,.inr ⟨rfl,rfl⟩,hw.PX aR,.refl ι w⟩;rw[this];rfl
def bo.IM{cs':ac be}(hw:bo X ι st w)(elem:ce)(aD:bJ ι cs cs')(w':co)(hh:w'.heap=w.heap.push (.cells cs'.toArray elem))(g9:rp w w':=by exact⟨rfl,rfl⟩):
 ∃aS,bo X aS ⟨st.h.set st.ai (.cells cs elem (0,0) false),st.ai+1⟩ w'∧e3 ι aS w w'∧aS st.ai=some ⟨w.heap.size,0,0,id⟩∧aS=iv ι st.ai ⟨w.heap.size,0,0,id⟩:=by
 refine bo.alloc X hw _ _ 0 (fun aS ke hle _ aW=> ?_) w' hh g9;refine⟨cs'.toArray,(0,0),⟨aW,by simp[aD.1],fun i af=> ?_,fun _ j _ _=>by simp,fun _=>⟨rfl,rfl,by simp[aD.1]⟩⟩⟩;have dG:i<cs'.length:=by rw[<-aD.1];exact af
 exact⟨cs'[i],by simp[dG],(aD.2 i af dG).mono hle⟩
def vB(h:P.info? t=some i)(an:i.zero=some z)(w:co):(zeroValue t).run P w= .ok z w:=by
 simp[zeroValue,typeInfo,h,an]
def ata(al:o.op= .alloc t)(af:X.P.info? t=some i)(an:i.zero=some z)(hp:nC z.cells.toList=true)
 (hw:bo X ι st w) (h:y6 z.cells.toList t call fr st= .ok v aI st'):
 aI=fr∧tN X ι w v st st' (execOp a.eval o):=by
 unfold y6 at h;rw[gV]at h;cases h;obtain⟨aS,J,U,ag,lH⟩:=hw.IM t (bJ.zb ι _ hp) {w with heap:=w.heap.push (.cells z.cells t)} (by simp);rw[lH]at J U ag;refine⟨rfl,_,_,_,.pointer (some ⟨w.heap.size,0,none⟩),_,rfl,by simp,?_,rfl,?_,J,U⟩
 ·unfold execOp;rw[al];simp[Instr.alloc,vB af an,newVar,newRow,Result.andThen]
 ·have:=bp.ptr (ι:=iv ι st.ai ⟨w.heap.size,0,0,id⟩) ⟨st.ai,0,none⟩ ⟨w.heap.size,0,0,id⟩ ag rfl;simpa using this
def atd(aa:cI X.aF x=true)(al:o.op= .box t x)(ae:cy ι fr a aJ)(hw:bo X ι st w)(h:BF t x call fr st= .ok v aI st'):
 aI=fr∧tN X ι w v st st' (execOp a.eval o):=by
 obtain⟨hp,h⟩:=Bu h (by simp);rw[gV]at h;cases h;have cd:fr.ak x≠iD:=by intro e;rw[e]at hp;simp[uM,iD]at hp
 obtain⟨aS,J,U,ag,lH⟩:=hw.IM t (bJ.cells (ae.ak hw aa) cd) {w with heap:=w.heap.push (.cells (a.eval x).cells t)} (by simp);rw[lH]at J U ag;refine⟨rfl,_,_,_,.pointer (some ⟨w.heap.size,0,none⟩),_,rfl,by simp,?_,rfl,?_,J,U⟩
 ·unfold execOp;rw[al];simp[Instr.box,newVar,newRow,Result.andThen]
 ·have:=bp.ptr (ι:=iv ι st.ai ⟨w.heap.size,0,0,id⟩) ⟨st.ai,0,none⟩ ⟨w.heap.size,0,0,id⟩ ag rfl;simpa using this
end
def ahR{op:BinOp}{x y:be}{c:be->aV}{r:aV}(h:Dq op x y c=r)(aE:aV.no≠r):
 (∃k a k' b,x= .int k a∧y= .int k' b∧Ap op k a k' b c=r)∨(∃s t,x= .string s∧y= .string t∧CQ op s t c=r):=by
 cases x with
 |int k a=>
  cases y with
  |int k' b=>exact .inl ⟨k,a,k',b,rfl,rfl,h⟩
  |_=>exact absurd h aE
 |string s=>
  cases y with
  |string t=>exact .inr ⟨s,t,rfl,rfl,h⟩
  |_=>exact absurd h aE
 |_=>exact absurd h aE
def s5{a b:d7}(h:kn a b=true):a=b:=by
 cases a<;>cases b<;>first|rfl|(exact absurd h (by decide))
def aeH(k:d7)(m n:Nat):(BitVec.ofInt k.bits (m:Int)&&&BitVec.ofInt k.bits (n:Int)).toNat=Nat.land (m%2^k.bits) (n%2^k.bits):=by
 rw[zbv,zbv,BitVec.toNat_and];simp
def aeI(k:d7)(m n:Nat):(BitVec.ofInt k.bits (m:Int)|||BitVec.ofInt k.bits (n:Int)).toNat=Nat.lor (m%2^k.bits) (n%2^k.bits):=by
 rw[zbv,zbv,BitVec.toNat_or];simp
def aeJ(k:d7)(m n:Nat):(BitVec.ofInt k.bits (m:Int)^^^BitVec.ofInt k.bits (n:Int)).toNat=Nat.xor (m%2^k.bits) (n%2^k.bits):=by
 rw[zbv,zbv,BitVec.toNat_xor];simp
def Ll(f:Nat->Nat->Nat)(g:Int)(k:d7)(a b:Int)(c:be->aV)(aR:∀m n:Nat,a=m->b=n->g=k.wrap (f (m%2^k.bits) (n%2^k.bits):Nat)):
 CR f g k a b c=c (.int k g):=by
 unfold CR;cases a with
 |ofNat m=>
  cases b with
  |ofNat n=>
   show iA k (oT k (.ofNat (f (Nat.mod m (2^k.bits)) (Nat.mod n (2^k.bits))))) c=_;rw[iS,lR,aR m n rfl rfl];rfl
  |negSucc n=>exact iS _ _ _
 |negSucc m=>exact iS _ _ _
def r6(op:BinOp)(k:d7)(a b:Int):am be:=
 match op with
 |.add=>some (.int k (k.wrap (a+b)))
 |.sub=>some (.int k (k.wrap (a-b)))
 |.mul=>some (.int k (k.wrap (a*b)))
 |.quo=>if b=0 then none else some (.int k (k.wrap (a.tdiv b)))
 |.rem=>if b=0 then none else some (.int k (a.tmod b))
 |.and=>some (.int k (k.wrap (BitVec.ofInt k.bits a&&&BitVec.ofInt k.bits b).toNat))
 |.or=>some (.int k (k.wrap (BitVec.ofInt k.bits a|||BitVec.ofInt k.bits b).toNat))
 |.xor=>some (.int k (k.wrap (BitVec.ofInt k.bits a^^^BitVec.ofInt k.bits b).toNat))
 |.andNot=>some (.int k (k.wrap (BitVec.ofInt k.bits a&&& ~~~(BitVec.ofInt k.bits b)).toNat))
 |.eql=>some (.bool (a==b))
 |.neq=>some (.bool (a != b))
 |.lss=>some (.bool (decide (a<b)))
 |.leq=>some (.bool (decide (a<=b)))
 |.gtr=>some (.bool (decide (b<a)))
 |.geq=>some (.bool (decide (b<=a)))
 |_=>none
def Lk(op:BinOp)(k:d7)(a b:Int)(c:be->aV):zY op k a b c=match r6 op k a b with|some v=>c v|none=>.no:=by
 cases op<;>simp only[zY,Rr,RE,Rz,RC,RD,Rs,RB,RF,Rt,Ru,RA,Ry,Rx,Rw,Rv,Lj,r6]
 ·rw[iS,lR,QO]
 ·rw[iS,lR,QO,Oq];rfl
 ·rw[iS,lR,Om]
 ·rw[Dn];by_cases h:b=0
  ·subst h;rfl
  ·rw[zaa h,show(b==0)=false by simpa using h];cases a with
   |ofNat m=>
    cases b with
    |ofNat n=>
     show iA k (oT k (.ofNat (m/n))) c=c (.int k (k.wrap ((m:Int).tdiv (n:Int))));rw[iS,lR];rfl
    |negSucc n=>exact iS _ _ _
   |negSucc m=>exact iS _ _ _
 ·rw[Dn];by_cases h:b=0
  ·subst h;rfl
  ·rw[zaa h,show(b==0)=false by simpa using h];cases a with
   |ofNat m=>
    cases b with
    |ofNat n=>exact iS k (Int.ofNat (m%n)) c
    |negSucc n=>exact iS k ((Int.ofNat m).tmod (Int.negSucc n)) c
   |negSucc m=>exact iS k ((Int.negSucc m).tmod b) c
 ·exact Ll _ _ _ _ _ _ (fun m n ha hb=>by subst ha hb;rw[aeH])
 ·exact Ll _ _ _ _ _ _ (fun m n ha hb=>by subst ha hb;rw[aeI])
 ·exact Ll _ _ _ _ _ _ (fun m n ha hb=>by subst ha hb;rw[aeJ])
 ·exact iS _ _ _
 ·rw[Dn]
 ·rw[Dn];rfl
 ·rw[s7];congr 2;rw[zaS];simp
 ·rw[s7]
 ·rw[s7];congr 2;rw[zaS];simp
 ·rw[s7]
def as0(k:d7)(a:Int)(n:Nat):zr k a n=k.wrap (a*2^(min n k.bits)):=by
 unfold zr;rw[lR,Om];congr 2
def as6(k:d7)(a:Int)(n:Nat):vt k a n=a.fdiv (2^(min n k.bits)):=by
 unfold vt;cases a with
 |ofNat m=>
  show((m/2^(min n k.bits):Nat):Int)=Int.fdiv (m:Int) _;rw[Int.fdiv_eq_ediv_of_nonneg _ (Int.pow_nonneg (by decide))]
  push_cast;rfl
 |negSucc m=>rfl
section
variable{ι:bs}{fr aI:aP}{a:Act}{aJ:Nat}{st st':ay}{w:co}{o:Oper}{v:be}{call:bG}
variable{op:BinOp}
def w7{v':be}(h:aV.ok v fr st=aV.ok v' aI st'):v=v'∧fr=aI∧st=st':=by cases h;exact⟨rfl,rfl,rfl⟩
def ahB(P:d9)(w:co)(op:BinOp)(t:ce)(x y:bi)(k k':d7)(m n:Int):(eqGuard op t x y (.int k m) (.int k' n)).run P w= .ok () w:=by
 cases op<;>simp[eqGuard]
def GW(P:d9)(w:co)(op:BinOp)(t:ce)(x y:bi)(s u:f5):(eqGuard op t x y (.string s) (.string u)).run P w= .ok () w:=by
 cases op<;>simp[eqGuard]
def asz(P:d9)(w:co)(op:BinOp)(t:ce)(k:d7)(m n:Int)(ah:op≠.shl)(eB:op≠.shr)(h:r6 op k m n=some v):(binOp op t (.int k m) (.int k n)).run P w= .ok v w:=by
 cases op<;>simp only[r6]at h<;>first
  |(exact absurd rfl ah)|(exact absurd rfl eB)
  |(cases h;simp[binOp,Op.intArith,Op.intBits,Op.intCmp];done)
  |(split at h
    ·cases h
    ·cases h;rename_i hb;simp[binOp,Op.intDiv,hb])
  |(simp at h)
def toList_eq(x y:f5):(x.toList==y.toList)=(x.data.toList==y.data.toList):=by
 rw[Lib.toList_data,Lib.toList_data]
def ahV{k k':d7}{m n:Int}{c:be->aV}{r:aV}(h:Ap op k m k' n c=r)(aE:aV.no≠r):
 ∃v,c v=r∧∀(P:d9) (w:co) (t:ce),(binOp op t (.int k m) (.int k' n)).run P w= .ok v w:=by
 by_cases J:op= .shl
 ·subst J;obtain⟨b,hb,h⟩:=mP h aE;rw[iS,as0]at h;exact⟨_,h,fun P w t=>by subst hb;simp[binOp,Op.shift,show¬((b:Int)<0) by omega]⟩
 ·by_cases U:op= .shr
  ·subst U;obtain⟨b,hb,h⟩:=mP h aE;rw[iS,as6]at h;exact⟨_,h,fun P w t=>by subst hb;simp[binOp,Op.shift,show¬((b:Int)<0) by omega]⟩
  ·have aG:cond (kn k k') (zY op k m n c) .no=r:=by
    rw[<-h];cases op<;>first|rfl|(exact absurd rfl J)|(exact absurd rfl U)
   obtain⟨ab,ag⟩:=iJ aG aE;have:=s5 ab;subst this;rw[Lk]at ag;cases af:r6 op k m n with
   |none=>rw[af]at ag;exact absurd ag aE
   |some v=>rw[af]at ag;exact⟨v,ag,fun P w t=>asz P w op t k m n J U af⟩
def atc{t zH:ce}{x y:bi}(aa:cI X.aF x=true)(aL:cI X.aF y=true)(al:o.op= .binOp op t x y zH)(ae:cy ι fr a aJ)(hw:bo X ι st w)
 (h:OM op x y call fr st= .ok v aI st'):aI=fr∧cn X ι w v st st' (execOp a.eval o):=by
 have bX:=ae.ak hw aa;have wN:=ae.ak hw aL;unfold OM at h;rcases ahR h (by simp)with⟨k,m,k',n,ex,uh,h⟩|⟨s,u,ex,uh,h⟩
 ·rw[ex]at bX;rw[uh]at wN;generalize cD:a.eval x=fu at bX;generalize gy:a.eval y=rl at wN;cases bX;cases wN;obtain⟨v1,p7,gg⟩:=ahV h (by simp);obtain⟨aC,e2,b3⟩:=w7 p7;subst aC e2 b3;refine⟨rfl,cn.same (v':=v1) hw ?_ ?_⟩
  ·unfold execOp;rw[al];simp[cD,gy,ahB,gg,Result.andThen]
  ·have:kN v1=true:=by
    clear gg p7 ae hw aa aL ex uh cD gy al;rw[show Ap op k m k' n (fun v=>aV.ok v fr st)=(match op with
     |.shl=>hP n (fun b=>iA k (zr k m b) (fun v=>aV.ok v fr st)) .no
     |.shr=>hP n (fun b=>iA k (vt k m b) (fun v=>aV.ok v fr st)) .no
     |op=>cond (kn k k') (zY op k m n (fun v=>aV.ok v fr st)) .no) by cases op<;>rfl]at h
    split at h
    ·obtain⟨b,_,h⟩:=mP h (by simp);rw[iS]at h;cases h;rfl
    ·obtain⟨b,_,h⟩:=mP h (by simp);rw[iS]at h;cases h;rfl
    ·obtain⟨_,h⟩:=iJ h (by simp);rw[Lk]at h;split at h
     ·rename_i v2 mO;cases h;unfold r6 at mO;split at mO<;>first|(cases mO;rfl)|(split at mO<;>first|(cases mO;done)|(cases mO;rfl))|(cases mO)
     ·cases h
   exact bp.pure ι v1 this
 ·rw[ex]at bX;rw[uh]at wN;generalize cD:a.eval x=fu at bX;generalize gy:a.eval y=rl at wN;cases bX;cases wN;unfold CQ at h;split at h
  ·obtain⟨hle,h⟩:=jz h (by simp);cases h;simp only[fg]at hle;refine⟨rfl,cn.same (v':=.string (s++u)) hw ?_ ?_⟩
   ·unfold execOp;rw[al];have ep:¬(((s.size+u.size:Nat):Int)>IntKind.i64.max):=by
     have J:s.size=s.data.toList.length:=(zbj (xs:=s.data)).symm;have U:u.size=u.data.toList.length:=(zbj (xs:=u.data)).symm;have ag:IntKind.i64.max=9223372036854775807:=by decide
     have az:s.data.toList.length+u.data.toList.length<=1099511627776:=hle;rw[ag,J,U];omega
    simp only[cD,gy,Sem.run_bind,GW,Result.andThen,binOp,Op.stringOp];rw[zaa ep];rfl
   ·have:(⟨⟨fS s.data.toList u.data.toList⟩⟩:f5)=s++u:=by
     rw[rz];apply ByteArray.ext;simp[ByteArray.data_append]
    rw[this];exact .string _
  ·cases h;refine⟨rfl,cn.same (v':=.bool (s.data.toList==u.data.toList)) hw ?_ (.bool _)⟩;unfold execOp;rw[al];simp only[cD,gy,Sem.run_bind,GW,Result.andThen,binOp,Op.stringOp,toList_eq];rfl
  ·cases h;refine⟨rfl,cn.same (v':=.bool (!(s.data.toList==u.data.toList))) hw ?_ (.bool _)⟩;unfold execOp;rw[al];simp only[cD,gy,Sem.run_bind,GW,Result.andThen,binOp,Op.stringOp,toList_eq];rfl
  ·cases h
end
def add_eq(b o n:Nat):Addr.add ⟨b,o,none⟩ n=⟨b,o+n,none⟩:=by unfold Addr.add;split<;>simp_all
def CH(a:Addr)(n:Nat):(a.add n).block=a.block:=by unfold Addr.add;split<;>rfl
def CI(a:Addr)(n:Nat)(h:a.spot=none):(a.add n).spot=none:=by unfold Addr.add;split<;>simp_all
def FZ(a:Addr)(n:Nat):(a.add n).off=a.off+n:=by unfold Addr.add;split<;>simp_all
def bp.O3{a:Addr}(h:ι a.block=some l)(ah:a.spot=none)(n:Nat):bp ι (.pointer (some (a.add n))) (.pointer (some (Addr.add ⟨l.cH,l.cP+a.off,none⟩ n))):=by
 have:=bp.ptr (ι:=ι) (a.add n) l (by rw[CH];exact h) (CI a n ah);rw[FZ]at this;rw[add_eq,show l.cP+a.off+n=l.cP+(a.off+n) by omega];exact this
section
variable{ι:bs}{fr aI:aP}{a:Act}{aJ:Nat}{st st':ay}{w:co}{o:Oper}{v:be}{call:bG}
variable{x:bi}{t s:ce}{n:Nat}{i:bi}{a6:f6}{Fo:TypeDesc}{d:ce}
def atw{f:Nat}{fields:ap Field}{fd:Field}{i:f6}(aa:cI X.aF x=true)(al:o.op= .fieldAddr s x f)(hu:X.P.underlying s=some (.struct fields))(ux:fields[f]? =some fd)
 (af:X.P.info? fd.type=some i) (an:i.size≠0) (ae:cy ι fr a aJ) (hw:bo X ι st w) (h:ZE fd.offset x call fr st= .ok v aI st'):
 aI=fr∧cn X ι w v st st' (execOp a.eval o):=by
 obtain⟨p,hp,h⟩:=pB h (by simp);obtain⟨ad,rfl,h⟩:=gh h (by simp);cases h;have bX:=ae.ak hw aa;rw[hp]at bX;generalize cD:a.eval x=fu at bX;cases bX with
 |ptr _ l hl ah=>
  refine⟨rfl,cn.same (v':=.pointer (some (Addr.add ⟨l.cH,l.cP+ad.off,none⟩ fd.offset))) hw ?_ (bp.O3 hl ah _)⟩;unfold execOp;rw[al];simp[cD,Instr.fieldAt,run_underlying hu,ux,Instr.sureAddr,fieldPlace,kt af,an,Result.andThen]
def aty(aa:cI X.aF x=true)(dG:cI X.aF i=true)(al:o.op= .indexAddr t x i)(hu:X.P.underlying t=some (.array n e))(af:X.P.info? e=some a6)
 (ae:cy ι fr a aJ) (hw:bo X ι st w) (h:th n a6.size x i call fr st= .ok v aI st'):
 aI=fr∧cn X ι w v st st' (execOp a.eval o):=by
 obtain⟨p,hp,h⟩:=pB h (by simp);obtain⟨ad,rfl,h⟩:=gh h (by simp);obtain⟨k,m,hm,h⟩:=jT h (by simp);obtain⟨j,rfl,h⟩:=mP h (by simp);obtain⟨hj,h⟩:=jz h (by simp);cases h;have bX:=ae.ak hw aa;rw[hp]at bX;generalize cD:a.eval x=fu at bX;have jd:=ae.ak hw dG;rw[hm]at jd;generalize yq:a.eval i=l9 at jd;cases jd;cases bX with
 |ptr _ l hl ah=>
  refine⟨rfl,cn.same (v':=.pointer (some (Addr.add ⟨l.cH,l.cP+ad.off,none⟩ (j*a6.size)))) hw ?_ (bp.O3 hl ah _)⟩;unfold execOp;rw[al];have mJ:j<n:=by omega
  simp[cD,yq,Instr.indexAt,asIntOf,run_underlying hu,Instr.sureAddr,kt af,Result.andThen,mJ]
def atz(aa:cI X.aF x=true)(dG:cI X.aF i=true)(al:o.op= .indexAddr t x i)(hu:X.P.underlying t=some (.slice e))(af:X.P.info? e=some a6)
 (ae:cy ι fr a aJ) (hw:bo X ι st w) (h:ZG a6.size x i call fr st= .ok v aI st'):
 aI=fr∧cn X ι w v st st' (execOp a.eval o):=by
 obtain⟨b,len,cap,hp,h⟩:=vy h (by simp);obtain⟨ad,rfl,h⟩:=gh h (by simp);obtain⟨k,m,hm,h⟩:=jT h (by simp);obtain⟨j,rfl,h⟩:=mP h (by simp);obtain⟨hj,h⟩:=jz h (by simp);cases h;have bX:=ae.ak hw aa;rw[hp]at bX;generalize cD:a.eval x=fu at bX;have jd:=ae.ak hw dG;rw[hm]at jd;generalize yq:a.eval i=l9 at jd;cases jd;cases bX with
 |gN _ l off _ _ hl ah iQ=>
  have uB:off=l.cP+ad.off:=by rcases iQ with h|⟨h,_⟩<;>omega
  subst uB;refine⟨rfl,cn.same (v':=.pointer (some (Addr.add ⟨l.cH,l.cP+ad.off,none⟩ (j*a6.size)))) hw ?_ (bp.O3 hl ah _)⟩;unfold execOp;rw[al];have mJ:j<len:=by omega
  simp[cD,yq,Instr.indexAt,asIntOf,run_underlying hu,kt af,Result.andThen,mJ]
def atk{k:d7}(aa:cI X.aF x=true)(al:o.op= .convert s t x)(ah:X.P.underlying s=some Fo)(aW:X.P.underlying t=some (.int k))
 (ae:cy ι fr a aJ) (hw:bo X ι st w) (h:ZA k x call fr st= .ok v aI st'):
 aI=fr∧cn X ι w v st st' (execOp a.eval o):=by
 obtain⟨k',n,hp,h⟩:=jT h (by simp);rw[iS,lR]at h;cases h;have bX:=ae.ak hw aa;rw[hp]at bX;generalize cD:a.eval x=fu at bX;cases bX;refine⟨rfl,cn.same (v':=.int k (k.wrap n)) hw ?_ (.int _ _)⟩;unfold execOp;rw[al];simp[cD,convert,run_underlying ah,run_underlying aW,Result.andThen,Conv.intToInt]
def atj(aa:cI X.aF x=true)(al:o.op= .convert s t x)(ah:X.P.underlying s=some Fo)(aW:X.P.underlying t=some .string)
 (ae:cy ι fr a aJ) (hw:bo X ι st w) (h:Zz x call fr st= .ok v aI st'):
 aI=fr∧cn X ι w v st st' (execOp a.eval o):=by
 obtain⟨bq,hp,h⟩:=pC h (by simp);cases h;have bX:=ae.ak hw aa;rw[hp]at bX;generalize cD:a.eval x=fu at bX;cases bX;refine⟨rfl,cn.same (v':=.string bq) hw ?_ (.string _)⟩;unfold execOp;rw[al];simp[cD,convert,run_underlying ah,run_underlying aW,Result.andThen]
def atK{d:TypeDesc}(aa:cI X.aF x=true)(al:o.op= .makeInterface t x)(aW:X.P.underlying t=some d)(aA:∀ms,d≠.interface ms)
 (ae:cy ι fr a aJ) (hw:bo X ι st w) (h:ZN t x call fr st= .ok v aI st'):
 aI=fr∧cn X ι w v st st' (execOp a.eval o):=by
 cases h;refine⟨rfl,cn.same (v':=.iface t (a.eval x)) hw ?_ (.iface _ _ _ (ae.ak hw aa))⟩;unfold execOp;rw[al];simp only[Instr.makeInterface,Sem.run_bind,run_underlying aW,Result.andThen];cases d<;>first|rfl|(exact absurd rfl (aA _))
theorem Ar(ae:cy ι fr a aJ)(hw:bo X ι st w):∀xs:ac bi,(∀x∈xs,cI X.aF x=true)->bJ ι (ey fr xs) (xs.map a.eval)
 |[],_=>bJ.nil ι
 |x::xs,h=>bJ.cons (ae.ak hw (h x (by simp))) (Ar ae hw xs (fun y aL=>h y (by simp[aL])))
def abZ{f:Fn}(uv:∀l,f≠.yield l){first fU:ap bi}(J:∀x∈first.toList,cI X.aF x=true)(U:∀x∈fU.toList,cI X.aF x=true)(al:o.op= .makeFunc f first fU)
 (ae:cy ι fr a aJ) (hw:bo X ι st w) (h:ZM f first.toList fU.toList call fr st= .ok v aI st'):
 aI=fr∧cn X ι w v st st' (execOp a.eval o):=by
 cases h;refine⟨rfl,cn.same (v':=.func f (first.map a.eval) (fU.map a.eval)) hw ?_ (bp.IV (.inl ⟨rfl,uv⟩) ?_ ?_)⟩
 ·unfold execOp;rw[al];simp[Instr.makeFunc]
 ·simpa using Ar ae hw first.toList J
 ·simpa using Ar ae hw fU.toList U
def atv{i:Nat}(aa:cI X.aF x=true)(al:o.op= .extract x i)(ae:cy ι fr a aJ)(hw:bo X ι st w)(h:ZD x i call fr st= .ok v aI st'):
 aI=fr∧cn X ι w v st st' (execOp a.eval o):=by
 obtain⟨vs,hp,h⟩:=adg h (by simp);obtain⟨hn,h⟩:=v7 h (by simp);obtain⟨y,aL,h⟩:=BE h (by simp);cases h;have bX:=ae.ak hw aa;rw[hp]at bX;generalize cD:a.eval x=fu at bX;cases bX with
 |tuple _ av J U=>
  have hlen:i<vs.size:=by simp at hn;omega
  have af:vs[i]=v:=by
   have:=congrArg (fun l=>l[0]?) aL;simpa[hlen]using this
  refine⟨rfl,cn.same (v':=av[i]'(by omega)) hw ?_ ?_⟩
  ·unfold execOp;rw[al];simp[cD,Instr.extract,show i<av.size by omega]
  ·rw[<-af];exact U i hlen (by omega)
def atE(al:o.op= .call {callee:=.builtin .len,args:= #[x],argTypes:= #[t]})(hu:X.P.underlying t=some (.array n d))(hw:bo X ι st w)
 (h:OO n call fr st= .ok v aI st'):aI=fr∧cn X ι w v st st' (execOp a.eval o):=by
 cases h;refine⟨rfl,cn.same (v':=.int .i64 (.ofNat n)) hw ?_ (.int _ _)⟩;unfold execOp;rw[al];simp[resolve,invoke,builtin,Builtin.len_,run_underlying hu,Result.andThen,goInt]
def atF{u:ce}(al:o.op= .call {callee:=.builtin .len,args:= #[x],argTypes:= #[t]})(hu:X.P.underlying t=some (.pointer u))(Eg:X.P.underlying u=some (.array n d))(hw:bo X ι st w)
 (h:OO n call fr st= .ok v aI st'):aI=fr∧cn X ι w v st st' (execOp a.eval o):=by
 cases h;refine⟨rfl,cn.same (v':=.int .i64 (.ofNat n)) hw ?_ (.int _ _)⟩;unfold execOp;rw[al];simp[resolve,invoke,builtin,Builtin.len_,run_underlying hu,run_underlying Eg,Result.andThen,goInt]
def apg(h:I1 x call fr st= .ok v aI st'):(∃b n c,fr.ak x= .slice b n c∧aV.ok (.int .i64 (.ofNat n)) fr st= .ok v aI st')∨(fr.ak x= .chan none∧aV.ok (.int .i64 (.ofNat 0)) fr st= .ok v aI st'):=by
 unfold I1 at h;cases aD:fr.ak x with
 |slice b n c=>rw[aD]at h;exact .inl ⟨b,n,c,rfl,h⟩
 |chan p=>
  rw[aD]at h;cases p with
  |none=>exact .inr ⟨rfl,h⟩
  |some _=>cases h
 |_=>rw[aD]at h;cases h
def atG(aa:cI X.aF x=true)(al:o.op= .call {callee:=.builtin .len,args:= #[x],argTypes:= #[t]})(hu:X.P.underlying t=some (.slice e))
 (ae:cy ι fr a aJ) (hw:bo X ι st w) (h:I1 x call fr st= .ok v aI st'):aI=fr∧cn X ι w v st st' (execOp a.eval o):=by
 rcases apg h with⟨b,n,c,hp,h⟩|⟨hp,h⟩
 ·cases h;have bX:=ae.ak hw aa;rw[hp]at bX;generalize cD:a.eval x=fu at bX;refine⟨rfl,cn.same (v':=.int .i64 (.ofNat n)) hw ?_ (.int _ _)⟩;unfold execOp;rw[al];cases bX<;>simp[cD,resolve,invoke,builtin,Builtin.len_,run_underlying hu,Result.andThen,goInt]
 ·cases h;have bX:=ae.ak hw aa;rw[hp]at bX;generalize cD:a.eval x=fu at bX;refine⟨rfl,cn.same (v':=.int .i64 (.ofNat 0)) hw ?_ (.int _ _)⟩;unfold execOp;rw[al];cases bX<;>simp[cD,resolve,invoke,builtin,Builtin.len_,run_underlying hu,Result.andThen,goInt]
def atH(aa:cI X.aF x=true)(al:o.op= .call {callee:=.builtin .len,args:= #[x],argTypes:= #[t]})(hu:X.P.underlying t=some .string)
 (ae:cy ι fr a aJ) (hw:bo X ι st w) (h:ZK x call fr st= .ok v aI st'):aI=fr∧cn X ι w v st st' (execOp a.eval o):=by
 obtain⟨s,hp,h⟩:=pC h (by simp);rw[Aw,fg]at h;cases h;have bX:=ae.ak hw aa;rw[hp]at bX;generalize cD:a.eval x=fu at bX;cases bX;have e:Int.ofNat s.data.toList.length=(s.size:Int):=by rw[zbj];rfl
 rw[e];refine⟨rfl,cn.same (v':=.int .i64 s.size) hw ?_ (.int _ _)⟩;unfold execOp;rw[al];simp[cD,resolve,invoke,builtin,Builtin.len_,run_underlying hu,Result.andThen,goInt]
end
def Z7{t:ce}{d:TypeDesc}{i:f6}{off:Nat}{cs cs':ap be}(aA:P.underlying t=some d)(af:P.info? t=some i)
 (aE:bJ ι cs.toList cs'.toList) (h:va off i.size (ry d) cs.toList=some v) (w:co):∃v',(part t cs' off).run P w= .ok v' w∧bp ι v v':=by
 unfold va at h;obtain⟨hn,h⟩:=v7 h (by simp);have nV:=(aE.drop off).take i.size;cases aR:ry d with
 |true=>
  rw[aR]at h;cases h;refine⟨.agg (cs'.extract off (off+i.size)),?_,bp.BC ?_⟩
  ·simp only[part,Sem.run_bind,Eu aA,aR,Result.andThen,if_true,kt af,Sem.run_pure]
  ·have e:(cs'.extract off (off+i.size)).toList=(cs'.toList.drop off).take i.size:=by
    rw[zdh,zdi];congr 1;omega
   rw[e];simpa using nV
 |false=>
  rw[aR]at h;obtain⟨y,aL,h⟩:=BE h (by simp);cases h;rw[aL]at nV;obtain⟨z,jo,an,aD,r2⟩:=nV.cons_inv;have e:cs'[off]? =some z:=by
   have:=congrArg (fun l=>l[0]?) an;simp only[zaG,zaB,zcl,zaX]at this;split at this
   ·simpa using this
   ·cases this
  refine⟨z,?_,aD⟩;simp only[part,Sem.run_bind,Eu aA,aR,Result.andThen,zaU,if_false,e,Sem.run_pure]
theorem ace(off:Nat):∀(vs:ac be) (k:Nat) (C:ap be),off+k+vs.length<=C.size->
 (vs.zipIdx k).foldl (fun cs (p:be×Nat)=>cs.setIfInBounds (off+p.2) p.1) C=(C.toList.take (off+k)++(vs++C.toList.drop (off+k+vs.length))).toArray
 |[],k,C,_=>by simp
 |v::vs,k,C,h=>by
  simp only[zaq]at h;have hl:off+k<C.toList.length:=by simp;omega
  rw[List.zipIdx_cons,zdj,ace off vs (k+1) _ (by simp;omega)];have lF:(C.setIfInBounds (off+k) v).toList=C.toList.set (off+k) v:=by simp
  rw[lF];have t1:(C.toList.set (off+k) v).take (off+(k+1))=C.toList.take (off+k)++[v]:=by
   rw[show off+(k+1)=(off+k)+1 by omega,zaY (by simpa using hl),zaT (b8 _)];simp
  have t2:(C.toList.set (off+k) v).drop (off+(k+1)+vs.length)=C.toList.drop (off+k+(v::vs).length):=by
   rw[zcI (by omega)];congr 1;simp only[zaq];omega
  rw[t1,t2];simp
def bJ.aug{cs' vs gA:ac be}(h:bJ ι cs cs')(aD:bJ ι vs gA)(n:Nat):
 bJ ι (cs.take n++(vs++cs.drop (n+vs.length))) (cs'.take n++(gA++cs'.drop (n+gA.length))):=by
 rw[aD.1];exact(h.take n).append (aD.append (h.drop _))
section
variable{ι:bs}{fr aI:aP}{a:Act}{aJ:Nat}{st st':ay}{w:co}{o:Oper}{v:be}{call:bG}
variable{t:ce}{x:bi}{d:TypeDesc}{i:f6}
theorem G5(place:Nat->am (Nat×Nat))(ae:cy ι fr a aJ)(hw:bo X ι st w){c:ac be->aV}{r:aV}(aE:aV.no≠r):
 ∀(parts:ac (Nat×bi)) (ps:ac (Nat×Nat×bi)),ps=parts.map (fun p=>(((place p.1).getD (0,0)).1,((place p.1).getD (0,0)).2,p.2))->(∀p∈parts,(place p.1).isSome∧cI X.aF p.2=true)->
 ∀(cs:ac be) (cs':ap be),bJ ι cs cs'.toList->o5 fr ps cs c=r->
  ∃out oH,Instr.fill place cs' (parts.map fun p=>(p.1,a.eval p.2))=some oH∧bJ ι out oH.toList∧c out=r
 |[],_,rfl,_,cs,cs',dR,h=>⟨cs,cs',rfl,dR,h⟩
 |(i,x)::parts,_,rfl,bN,cs,cs',dR,h=>by
  obtain⟨anH,aa⟩:=bN (i,x) (by simp);obtain⟨⟨off,a2⟩,jg⟩:=zcJ.1 anH;simp only[zaM,jg,zdO]at h;obtain⟨nT,h⟩:=Bu h aE;obtain⟨ep,h⟩:=kS h aE;obtain⟨hle,h⟩:=jz h aE;simp only[fg]at ep hle;have awB:off+a2<=cs.length:=hle;have cd:fr.ak x≠iD:=by intro e;rw[e]at nT;simp[uM,iD]at nT
  have W1:=bJ.cells (ae.ak hw aa) cd;have eB:(h8 (fr.ak x)).length=a2:=ep;have hlen:(a.eval x).cells.size=a2:=by have:=W1.1;simp at this;rw[<-this];simpa[h8]using eB
  have pc:cs'.size=cs.length:=by have:=dR.1;simp at this;omega
  have U:o5 fr (parts.map (fun p=>(((place p.1).getD (0,0)).1,((place p.1).getD (0,0)).2,p.2))) (cs.take off++(h8 (fr.ak x)++cs.drop (off+(h8 (fr.ak x)).length))) c=r:=by
   rcases O5 h aE with⟨_,h⟩|⟨he,h⟩
   ·exact h
   ·rw[he];simp;exact h
  obtain⟨out,oH,ag,az,a4⟩:=G5 place ae hw aE parts _ rfl (fun p hp=>bN p (by simp[hp])) _ ((a.eval x).cells.zipIdx.foldl (fun cs (p:be×Nat)=>cs.setIfInBounds (off+p.2) p.1) cs') (by
   rw[<-Array.foldl_toList,Array.toList_zipIdx,ace off _ 0 cs' (by simp;omega)];have:=dR.aug W1 off;simpa[h8]using this) U
  refine⟨out,oH,?_,az,a4⟩;simp only[zaM,Instr.fill,jg];rw[zaa (by simp;omega)];exact ag
def atx{f:Nat}{fields:ap Field}{fd:Field}(aa:cI X.aF x=true)(al:o.op= .field t x f)(hu:X.P.underlying t=some (.struct fields))(ux:fields[f]? =some fd)
 (aA:X.P.underlying fd.type=some d) (af:X.P.info? fd.type=some i) (ae:cy ι fr a aJ) (hw:bo X ι st w) (h:ZF fd.offset i.size (ry d) x call fr st= .ok v aI st'):
 aI=fr∧cn X ι w v st st' (execOp a.eval o):=by
 obtain⟨cs,hp,h⟩:=zy h (by simp);obtain⟨v1,p7,h⟩:=gh h (by simp);cases h;have bX:=ae.ak hw aa;rw[hp]at bX;generalize cD:a.eval x=fu at bX;cases bX with
 |agg _ av J U=>
  obtain⟨v',aE,aD⟩:=Z7 aA af (bJ.w4 J U) p7 w;refine⟨rfl,cn.same (v':=v') hw ?_ aD⟩;unfold execOp;rw[al];simp[cD,Instr.field,run_underlying hu,ux,asAgg,aE,Result.andThen]
def atC{i:bi}{n:Nat}{a6:f6}(aa:cI X.aF x=true)(dG:cI X.aF i=true)(al:o.op= .index t x i)(hu:X.P.underlying t=some (.array n e))
 (aA:X.P.underlying e=some d) (af:X.P.info? e=some a6) (ae:cy ι fr a aJ) (hw:bo X ι st w) (h:ZH n a6.size (ry d) x i call fr st= .ok v aI st'):
 aI=fr∧cn X ι w v st st' (execOp a.eval o):=by
 obtain⟨cs,hp,h⟩:=zy h (by simp);obtain⟨k,m,hm,h⟩:=jT h (by simp);obtain⟨j,rfl,h⟩:=mP h (by simp);obtain⟨hj,h⟩:=jz h (by simp);obtain⟨v1,p7,h⟩:=gh h (by simp);cases h;have bX:=ae.ak hw aa;rw[hp]at bX;generalize cD:a.eval x=fu at bX;have jd:=ae.ak hw dG;rw[hm]at jd;generalize yq:a.eval i=l9 at jd;cases jd;cases bX with
 |agg _ av J U=>
  obtain⟨v',aE,aD⟩:=Z7 aA af (bJ.w4 J U) p7 w;refine⟨rfl,cn.same (v':=v') hw ?_ aD⟩;unfold execOp;rw[al];have mJ:j<n:=by omega
  have nV:(part e av (j*a6.size)).run X.P w= .ok v' w:=aE;simp[cD,yq,Instr.index,asIntOf,run_underlying hu,kt af,nV,mJ,Result.andThen]
def atD{i:bi}(aa:cI X.aF x=true)(dG:cI X.aF i=true)(al:o.op= .index t x i)(hu:X.P.underlying t=some .string)
 (ae:cy ι fr a aJ) (hw:bo X ι st w) (h:ZI x i call fr st= .ok v aI st'):
 aI=fr∧cn X ι w v st st' (execOp a.eval o):=by
 obtain⟨s,hp,h⟩:=pC h (by simp);obtain⟨k,m,hm,h⟩:=jT h (by simp);obtain⟨j,rfl,h⟩:=mP h (by simp);obtain⟨hn,h⟩:=v7 h (by simp);obtain⟨b,hb,h⟩:=BE h (by simp);cases h;have bX:=ae.ak hw aa;rw[hp]at bX;generalize cD:a.eval x=fu at bX;have jd:=ae.ak hw dG;rw[hm]at jd;generalize yq:a.eval i=l9 at jd;cases jd;cases bX;have aN:j<s.data.size:=by rw[zaA,zbj]at hn;omega
 have cK:s[j]? =some b:=by
  have:=congrArg (fun l=>l[0]?) hb;simp only[zaG,zaB,zcl,zaX]at this;rw[zab (by omega)]at this;have J:s.data[j]? =some b:=by simpa using this
  rw[zbD aN]at J;have qL:j<s.size:=aN;rw[getElem?_pos s j qL];exact J
 refine⟨rfl,cn.same (v':=.int .u8 b.toNat) hw ?_ (.int _ _)⟩;unfold execOp;rw[al];simp[cD,yq,Instr.index,asIntOf,run_underlying hu,cK,Result.andThen]
def at3{lq:ce}{z:be}{ok:Bool}(aa:cI X.aF x=true)(al:o.op= .typeAssert x lq t ok)(aA:X.P.underlying t=some d)(h3:∀ms,d≠.interface ms)
 (af:X.P.info? t=some i) (an:i.zero=some z) (hp:kN z=true) (ae:cy ι fr a aJ) (hw:bo X ι st w) (h:OQ t z ok x call fr st= .ok v aI st'):
 aI=fr∧cn X ι w v st st' (execOp a.eval o):=by
 have bX:=ae.ak hw aa;generalize cD:a.eval x=fu at bX;unfold OQ at h;generalize aD:fr.ak x=fv at h bX;have H8:bp ι (.tuple #[z,.bool false]) (.tuple #[z,.bool false]):=bp.n0 (bJ.cons (bp.pure ι z hp) (bJ.cons (.bool _) (bJ.nil ι)));cases fv with
 |iface u y=>
  have iZ:dQ u t (aV.ok (cond ok (.tuple #[y,.bool true]) y) fr st) (cond ok (aV.ok (.tuple #[z,.bool false]) fr st) aV.no)=aV.ok v aI st':=h;cases bX with
  |iface _ _ m0 aL=>
   rw[pW]at iZ;clear h;split at iZ
   ·rename_i e;subst e;cases iZ;refine⟨rfl,cn.same (v':=if ok then .tuple #[m0,.bool true]else m0) hw ?_ ?_⟩
    ·unfold execOp;rw[al];simp only[cD,Instr.typeAssert,Sem.run_bind,run_underlying aA,Result.andThen];cases d<;>first|(exact absurd rfl (h3 _))|(simp)
    ·cases ok
     ·exact aL
     ·exact bp.n0 (bJ.cons aL (bJ.cons (.bool _) (bJ.nil ι)))
   ·rename_i e;obtain⟨bN,iZ⟩:=iJ iZ (by simp);cases iZ;refine⟨rfl,cn.same (v':=.tuple #[z,.bool false]) hw ?_ H8⟩;unfold execOp;rw[al];simp only[cD,Instr.typeAssert,Sem.run_bind,run_underlying aA,Result.andThen];cases d<;>first|(exact absurd rfl (h3 _))|(simp[e,bN,vB af an,Result.andThen])
 |nilIface=>
  have h:cond ok (aV.ok (.tuple #[z,.bool false]) fr st) aV.no=aV.ok v aI st':=h;obtain⟨bN,h⟩:=iJ h (by simp);cases h;cases bX;refine⟨rfl,cn.same (v':=.tuple #[z,.bool false]) hw ?_ H8⟩;unfold execOp;rw[al];simp only[cD,Instr.typeAssert,Sem.run_bind,run_underlying aA,Result.andThen];cases d<;>first|(exact absurd rfl (h3 _))|(simp[bN,vB af an,Result.andThen])
 |_=>exact absurd h (by simp[xD])
end
theorem YN{α β:Type}(P:d9)(w:co)(f:α->Sem β)(g:α->β):∀(l:ac α),(∀x∈l,(f x).run P w= .ok (g x) w)->(l.mapM f).run P w= .ok (l.map g) w
 |[],_=>by simp
 |x::xs,h=>by
  rw[zdk];simp[h x (by simp),YN P w f g xs (fun y aL=>h y (by simp[aL])),Result.andThen]
section
variable{ι:bs}{fr aI:aP}{a:Act}{aJ:Nat}{st st':ay}{w:co}{o:Oper}{v:be}{call:bG}
variable{t:ce}{z:be}{parts:ap (Nat×bi)}{ps:ac (Nat×Nat×bi)}{a6 i:f6}
def atg{fields:ap Field}(al:o.op= .build t parts)(hu:X.P.underlying t=some (.struct fields))
 (af:X.P.info? t=some i) (an:i.zero=some z) (hp:nC z.cells.toList=true) (MR:∀f∈fields.toList,(X.P.info? f.type).isSome)
 (j4:ps=parts.toList.map (fun p=>((((fields.map fun f=>(f.offset,X.P.cellsOf f.type))[p.1]?).getD (0,0)).1,(((fields.map fun f=>(f.offset,X.P.cellsOf f.type))[p.1]?).getD (0,0)).2,p.2)))
 (bN:∀p∈parts.toList,((fields.map fun f=>(f.offset,X.P.cellsOf f.type))[p.1]?).isSome∧cI X.aF p.2=true) (ae:cy ι fr a aJ) (hw:bo X ι st w)
 (h:ON z.cells.toList ps call fr st= .ok v aI st'):aI=fr∧cn X ι w v st st' (execOp a.eval o):=by
 obtain⟨out,oH,J,U,ag⟩:=G5 (fun j=>(fields.map fun f=>(f.offset,X.P.cellsOf f.type))[j]?) ae hw (by simp) parts.toList ps j4 bN z.cells.toList z.cells (bJ.zb ι _ hp) h;cases ag;refine⟨rfl,cn.same (v':=.agg oH) hw ?_ (bp.BC U)⟩;unfold execOp;rw[al];have hm:(fields.mapM fun f=>do pure (f.offset,<-sizeOf f.type):Sem (ap (Nat×Nat))).run X.P w= .ok (fields.map fun f=>(f.offset,X.P.cellsOf f.type)) w:=by
  rw[zev];rw[Sem.run_map,YN X.P w _ (fun f:Field=>(f.offset,X.P.cellsOf f.type)) fields.toList (fun f amE=>by
   obtain⟨awh,W5⟩:=zcJ.1 (MR f amE);simp[kt W5,Result.andThen,Program.cellsOf,W5])]
  simp only[Result.andThen];congr 1;apply Array.ext';simp
 simp only[Instr.build,Sem.run_bind,vB af an,Result.andThen,run_underlying hu,hm];have lz:Instr.fill (fun x=>(Array.map (fun f:Field=>(f.offset,X.P.cellsOf f.type)) fields)[x]?) z.cells (parts.map fun x=>(x.1,a.eval x.2)).toList=some oH:=by
  rw[<-J];simp
 rw[lz];rfl
def atf{n:Nat}(al:o.op= .build t parts)(hu:X.P.underlying t=some (.array n e))
 (af:X.P.info? t=some i) (an:i.zero=some z) (hp:nC z.cells.toList=true) (gw:X.P.info? e=some a6)
 (j4:ps=parts.toList.map (fun p=>(p.1*a6.size,a6.size,p.2))) (bN:∀p∈parts.toList,cI X.aF p.2=true) (ae:cy ι fr a aJ) (hw:bo X ι st w)
 (h:ON z.cells.toList ps call fr st= .ok v aI st'):aI=fr∧cn X ι w v st st' (execOp a.eval o):=by
 obtain⟨out,oH,J,U,ag⟩:=G5 (fun j=>some (j*a6.size,a6.size)) ae hw (by simp) parts.toList ps (by rw[j4];simp) (fun p hp=>⟨by simp,bN p hp⟩) z.cells.toList z.cells (bJ.zb ι _ hp) h;cases ag;refine⟨rfl,cn.same (v':=.agg oH) hw ?_ (bp.BC U)⟩;unfold execOp;rw[al];simp only[Instr.build,Sem.run_bind,vB af an,Result.andThen,run_underlying hu,kt gw];have lz:Instr.fill (fun i=>some (i*a6.size,a6.size)) z.cells (parts.map fun x=>(x.1,a.eval x.2)).toList=some oH:=by
  rw[<-J];simp
 rw[lz];rfl
def ate{len:Nat}{jo:ac be}(al:o.op= .buildSlice t len parts)(hu:X.P.underlying t=some (.slice e))
 (gw:X.P.info? e=some a6) (an:a6.zero=some z) (Xk:len*a6.size<=2^24) (r2:jo=(List.range (len*a6.size)).map (fun j=>(if len*a6.size=0 then(#[]:ap be)else z.cells)[j%(if len*a6.size=0 then(#[]:ap be)else z.cells).size]!))
 (hp:nC jo=true) (j4:ps=parts.toList.map (fun p=>(p.1*a6.size,a6.size,p.2))) (bN:∀p∈parts.toList,cI X.aF p.2=true) (ae:cy ι fr a aJ) (hw:bo X ι st w)
 (h:BG e len jo ps call fr st= .ok v aI st'):aI=fr∧tN X ι w v st st' (execOp a.eval o):=by
 obtain⟨out,oH,J,U,ag⟩:=G5 (fun j=>some (j*a6.size,a6.size)) ae hw (by simp) parts.toList ps (by rw[j4];simp) (fun p hp=>⟨by simp,bN p hp⟩) jo jo.toArray (by simpa using bJ.zb ι _ hp) h;rw[gV]at ag;cases ag;obtain⟨aS,ba,bx,dE,lH⟩:=hw.IM e U {w with heap:=w.heap.push (.cells oH e)} (by simp);rw[lH]at ba bx dE;refine⟨rfl,_,_,_,.slice (some ⟨w.heap.size,0,none⟩) len len,_,rfl,by simp,?_,rfl,?_,ba,bx⟩
 ·unfold execOp;rw[al];simp only[Instr.buildSlice,Sem.run_bind,Result.andThen,run_underlying hu,kt gw];rw[zaa (by omega)];have lz:Instr.fill (fun i=>some (i*a6.size,a6.size)) ((Array.range (len*a6.size)).map ((if len*a6.size=0 then(#[]:ap be)else z.cells)[· %(if len*a6.size=0 then(#[]:ap be)else z.cells).size]!)) (parts.map fun x=>(x.1,a.eval x.2)).toList=some oH:=by
   rw[<-J];congr 1
   ·rw[r2];apply Array.ext';simp
   ·simp
  by_cases h0:len*a6.size=0
  ·simp only[h0,if_true]at lz⊢;simp only[Sem.run_pure,Result.andThen,Sem.run_bind,lz,newRow,run_newObj]
  ·simp only[h0,if_false]at lz⊢;simp only[Sem.run_pure,Sem.run_bind,vB gw an,Result.andThen,lz,newRow,run_newObj]
 ·have:=bp.gN (ι:=iv ι st.ai ⟨w.heap.size,0,0,id⟩) ⟨st.ai,0,none⟩ ⟨w.heap.size,0,0,id⟩ 0 len len dE rfl (.inl rfl);simpa using this
theorem Se(z:ac be):∀(n:Nat),z≠[]->lX z n=(List.range (n*z.length)).map (fun j=>z.toArray[j%z.toArray.size]!)
 |0,_=>by simp only[zau,List.range_zero,zbQ];rfl
 |n+1,an=>by
  show fS z (lX z n)=_;rw[rz,Se z n an];have sU:0<z.length:=zaN.2 an;rw[zcK,zbZ,List.range_add,zdP,zcm];congr 1
  ·apply zbw;intro j;by_cases hj:j<z.length
   ·simp[hj,gP hj]
   ·simp[hj]
  ·apply List.map_congr_left;intro j _;simp
def atM{l c:bi}(hl:cI X.aF l=true)(hc:cI X.aF c=true)(al:o.op= .makeSlice t l c)(hu:X.P.underlying t=some (.slice e))(gw:X.P.info? e=some a6)
 (an:a6.zero=some z) (ep:z.cells.toList.length=a6.size) (cd:a6.size≠0) (hp:nC z.cells.toList=true) (ae:cy ι fr a aJ) (hw:bo X ι st w)
 (h:w8 e a6.bytes z.cells.toList l c call fr st= .ok v aI st'):aI=fr∧tN X ι w v st st' (execOp a.eval o):=by
 obtain⟨k,aw4,AW,g1⟩:=jT h (by simp);obtain⟨k',awd,ML,aM⟩:=jT g1 (by simp);obtain⟨cE,aC,bc⟩:=mP aM (by simp);obtain⟨hY,e2,cf⟩:=mP bc (by simp);clear h g1 aM bc;subst aC e2;obtain⟨hle,cL⟩:=jz cf (by simp);obtain⟨hb,ej⟩:=jz cL (by simp);rw[gV]at ej;cases ej;have cx:=ae.ak hw hl;rw[AW]at cx;generalize amU:a.eval l=Ob at cx;have nQ:=ae.ak hw hc;rw[ML]at nQ;generalize amk:a.eval c=GH at nQ;cases cx;cases nQ;have an5:z.cells.toList≠[]:=by intro e;rw[e]at ep;simp at ep;omega
 have gH:=Se z.cells.toList hY an5;have anm:bJ ι (lX z.cells.toList hY) (lX z.cells.toList hY):=by
  have:∀n,bJ ι (lX z.cells.toList n) (lX z.cells.toList n):=by
   intro n
   induction n with
   |zero=>exact bJ.nil ι
   |succ n a7=>show bJ ι (fS _ _) (fS _ _);rw[rz];exact(bJ.zb ι _ hp).append a7
  exact this hY
 obtain⟨aS,ba,bx,dE,lH⟩:=hw.IM e anm {w with heap:=w.heap.push (.cells (lX z.cells.toList hY).toArray e)} (by simp);rw[lH]at ba bx dE;refine⟨rfl,_,_,_,.slice (some ⟨w.heap.size,0,none⟩) cE hY,_,rfl,by simp,?_,rfl,?_,ba,bx⟩
 ·have cK:hY*(a6.bytes+1)<=1099511627776:=hb;have AM:hY<=1099511627776:=zag (zdl hY (by omega)) cK;have WY:a6.bytes*hY<=1099511627776:=by
   have:a6.bytes*hY<=hY*(a6.bytes+1):=by rw[zam];exact m1 _ (by omega)
   omega
  have wl:IntKind.i64.wrap (cE:Int)=cE:=by rw[<-lR];simp only[oT];rw[zD _ _ _ (by decide)];rw[zaa]<;>omega
  have Qu:IntKind.i64.wrap (hY:Int)=hY:=by rw[<-lR];simp only[oT];rw[zD _ _ _ (by decide)];rw[zaa]<;>omega
  unfold execOp;rw[al];have AH:¬((a6.bytes:Int)*(hY:Int)>2^48):=by
   have:((a6.bytes*hY:Nat):Int)<=1099511627776:=by omega
   rw[zaV]at this;omega
  have aR:(decide ((hY:Int)<0)||decide ((a6.bytes:Int)*(hY:Int)>2^48)||decide ((cE:Int)<0)||decide ((cE:Int)>(hY:Int)))=false:=by
   simp only[Bool.or_eq_false_iff,decide_eq_false_iff_not];omega
  have lf:(Array.range (hY*a6.size)).map (z.cells[· %z.cells.size]!)=(lX z.cells.toList hY).toArray:=by
   rw[gH];apply Array.ext';simp[ep]
  have l6:¬(hY*a6.size=0)∨hY*a6.size=0:=by omega
  simp only[Instr.makeSlice,Sem.run_bind,Result.andThen,run_underlying hu,amU,amk,asInt,asIntOf,Sem.run_pure,typeInfo,run_program,gw,wl,Qu,aR,zaU,if_false,run_askRoom,kt gw,zbR];by_cases h0:hY*a6.size=0
  ·have pa:hY=0:=by rcases Nat.mul_eq_zero.1 h0 with h|h;exact h;exact absurd h cd
   subst pa;have a3:lX z.cells.toList 0=[]:=rfl;simp[Result.andThen,newRow,a3];congr 2;apply Array.ext';simp
  ·rw[zaa h0];simp only[Sem.run_bind,vB gw an,Result.andThen,Sem.run_pure,lf,newRow,run_newObj]
 ·have:=bp.gN (ι:=iv ι st.ai ⟨w.heap.size,0,0,id⟩) ⟨st.ai,0,none⟩ ⟨w.heap.size,0,0,id⟩ 0 cE hY dE rfl (.inl rfl);simpa using this
end
section
variable{ι:bs}{fr aI:aP}{a:Act}{aJ:Nat}{st st':ay}{w:co}{o:Oper}{v:be}{call:bG}
variable{x:bi}{xs:ac bi}
def at4{op:UnOp}{t:ce}(aa:cI X.aF x=true)(al:o.op= .unOp op t x)(ae:cy ι fr a aJ)(hw:bo X ι st w)(h:OR op x call fr st= .ok v aI st'):
 aI=fr∧cn X ι w v st st' (execOp a.eval o):=by
 have bX:=ae.ak hw aa;generalize cD:a.eval x=fu at bX;unfold OR at h;cases op with
 |neg=>
  obtain⟨k,n,hp,g⟩:=jT h (by simp);rw[iS,lR,Oq]at g;rw[hp]at bX;cases bX;cases g;refine⟨rfl,cn.same (v':=.int k (k.wrap (-n))) hw ?_ (.int _ _)⟩;unfold execOp;rw[al];simp[cD,Op.unary,Op.intArith]
 |xor=>
  obtain⟨k,n,hp,g⟩:=jT h (by simp);rw[iS]at g;rw[hp]at bX;cases bX;cases g;refine⟨rfl,cn.same (v':=.int k _) hw ?_ (.int _ _)⟩;unfold execOp;rw[al];simp[cD,Op.unary,Op.intBits]
 |not=>
  obtain⟨b,hp,g⟩:=Qo h (by simp);rw[hp]at bX;cases bX;cases g;refine⟨rfl,cn.same (v':=.bool (!b)) hw ?_ (.bool _)⟩;unfold execOp;rw[al];simp[cD,Op.unary]
 |_=>cases h
def atT(aa:cI X.aF x=true)(al:o.op= .nilCheck x)(ae:cy ι fr a aJ)(hw:bo X ι st w)(h:OP x call fr st= .ok v aI st'):
 aI=fr∧cn X ι w v st st' (execOp a.eval o):=by
 have bX:=ae.ak hw aa;generalize cD:a.eval x=fu at bX;unfold OP at h;generalize AN:fr.ak x=fv at h bX;cases fv with
 |pointer p=>
  cases p with
  |none=>cases h
  |some ad=>
   have h:aV.ok (.pointer (some ad)) fr st= .ok v aI st':=h;cases h;cases bX with
   |ptr _ l hl ah=>
    refine⟨rfl,cn.same (v':=.pointer (some ⟨l.cH,l.cP+ad.off,none⟩)) hw ?_ (.ptr _ _ hl ah)⟩;unfold execOp;rw[al];simp[cD]
 |func f cC fC=>
  cases f with
  |func g=>
   have h:aV.ok (.func (.func g) cC fC) fr st= .ok v aI st':=h;cases h;cases bX with
   |func _ hk _ av _ vs gv J U ag az=>
    rcases gv with⟨rfl,_⟩|⟨l,b,e,_⟩
    ·refine⟨rfl,cn.same (v':=.func (.func g) av vs) hw ?_ (.func _ _ _ _ _ _ (.inl ⟨rfl,by simp⟩) J U ag az)⟩;unfold execOp;rw[al];simp[cD]
    ·cases e
  |_=>cases h
 |_=>cases h
theorem YQ(k:d7)(ae:cy ι fr a aJ)(hw:bo X ι st w):∀(xs:ac bi) (m r:Int),(∀x∈xs,cI X.aF x=true)->ED k fr xs m=some r->
 ((xs.map a.eval).foldlM Builtin.max2 (.int k m)).run X.P w= .ok (.int k r) w
 |[],m,r,_,h=>by cases h;simp
 |x::xs,m,r,bN,h=>by
  obtain⟨k',y,aL,J⟩:=jT h (by simp);obtain⟨ab,U⟩:=iJ J (by simp);have fF:=s5 ab;have bX:=ae.ak hw (bN x (by simp));rw[aL]at bX;generalize cD:a.eval x=fu at bX;cases bX;have a7:=YQ k ae hw xs _ r (fun z an=>bN z (by simp[an])) U;simp only[zaM,List.foldlM_cons,Sem.run_bind,cD,Builtin.max2,Sem.run_pure,Result.andThen];have e:(if y>m then y else m)=cond (nj y m) m y:=by
   rw[s7];by_cases c:y<=m
   ·rw[zaa (by omega)];simp[c]
   ·rw[zab (by omega)];simp[c]
  rw[e];exact a7
theorem YT(k:d7)(ae:cy ι fr a aJ)(hw:bo X ι st w):∀(xs:ac bi) (m r:Int),(∀x∈xs,cI X.aF x=true)->EE k fr xs m=some r->
 ((xs.map a.eval).foldlM Builtin.min2 (.int k m)).run X.P w= .ok (.int k r) w
 |[],m,r,_,h=>by cases h;simp
 |x::xs,m,r,bN,h=>by
  obtain⟨k',y,aL,J⟩:=jT h (by simp);obtain⟨ab,U⟩:=iJ J (by simp);have fF:=s5 ab;have bX:=ae.ak hw (bN x (by simp));rw[aL]at bX;generalize cD:a.eval x=fu at bX;cases bX;have a7:=YT k ae hw xs _ r (fun z an=>bN z (by simp[an])) U;simp only[zaM,List.foldlM_cons,Sem.run_bind,cD,Builtin.min2,Sem.run_pure,Result.andThen];have e:(if y<m then y else m)=cond (nj m y) m y:=by
   rw[s7];by_cases c:m<=y
   ·rw[zaa (by omega)];simp[c]
   ·rw[zab (by omega)];simp[c]
  rw[e];exact a7
def atQ{ts:ap ce}(bN:∀y∈x::xs,cI X.aF y=true)(al:o.op= .call {callee:=.builtin .max,args:=(x::xs).toArray,argTypes:=ts})(ae:cy ι fr a aJ)(hw:bo X ι st w)
 (h:ZQ x xs call fr st= .ok v aI st'):aI=fr∧cn X ι w v st st' (execOp a.eval o):=by
 obtain⟨k,n,hp,J⟩:=jT h (by simp);obtain⟨m,hm,U⟩:=gh J (by simp);rw[iS]at U;have bX:=ae.ak hw (bN x (by simp));rw[hp]at bX;generalize cD:a.eval x=fu at bX;cases bX;cases U;have aE:=YQ k ae hw xs n m (fun y aL=>bN y (by simp[aL])) hm;refine⟨rfl,cn.same (v':=.int k m) hw ?_ (.int _ _)⟩;unfold execOp;rw[al];simp[cD,resolve,invoke,builtin,Builtin.max_,aE,Result.andThen]
def atO{ts:ap ce}(bN:∀y∈x::xs,cI X.aF y=true)(al:o.op= .call {callee:=.builtin .min,args:=(x::xs).toArray,argTypes:=ts})(ae:cy ι fr a aJ)(hw:bo X ι st w)
 (h:ZO x xs call fr st= .ok v aI st'):aI=fr∧cn X ι w v st st' (execOp a.eval o):=by
 obtain⟨k,n,hp,J⟩:=jT h (by simp);obtain⟨m,hm,U⟩:=gh J (by simp);rw[iS]at U;have bX:=ae.ak hw (bN x (by simp));rw[hp]at bX;generalize cD:a.eval x=fu at bX;cases bX;cases U;have aE:=YT k ae hw xs n m (fun y aL=>bN y (by simp[aL])) hm;refine⟨rfl,cn.same (v':=.int k m) hw ?_ (.int _ _)⟩;unfold execOp;rw[al];simp[cD,resolve,invoke,builtin,Builtin.min_,aE,Result.andThen]
def pL(ae:cy ι fr a aJ)(hw:bo X ι st w){x:am bi}(aa:∀y,x=some y->cI X.aF y=true){d y:Nat}{k:Nat->aV}{r:aV}(h:fq fr x d y k=r)(aE:aV.no≠r):
 ∃n,k n=r∧((x=none∧n=d)∨(∃z b5,x=some z∧a.eval z= .int b5 (n:Int)∧n<=y)):=by
 cases x with
 |none=>exact⟨d,h,.inl ⟨rfl,rfl⟩⟩
 |some z=>
  obtain⟨b5,m,hp,J⟩:=jT (h:gO (fr.ak z) _ _=r) aE;obtain⟨n,e,U⟩:=mP J aE;obtain⟨hle,ag⟩:=jz U aE;have an:=ae.ak hw (aa z rfl);rw[hp]at an;generalize r3:a.eval z=tI at an;cases an;exact⟨n,ag,.inr ⟨z,b5,rfl,by rw[r3,e],hle⟩⟩
end
def ab5(P:d9)(w:co)(b5:d7)(n y:Nat)(c:BoundsCode)(h:n<=y):(Instr.sliceBound (.int b5 (n:Int)) y c).run P w= .ok n w:=by
 have:(n:Int)<=(y:Int):=by omega
 simp[Instr.sliceBound,asIntOf,h]
def FM(v:am be)(d y n:Nat):Prop:=(v=none∧n=d)∨∃b5,v=some (.int b5 (n:Int))∧n<=y
def Fs(P:d9)(w:co)(is:Bool)(len cap l h m:Nat)(aQ af e7:am be)(hm:FM e7 cap cap m)(hh:FM af len m h)(hl:FM aQ 0 h l)(aa:e7≠none->af≠none):
 (Instr.sliceBounds is len cap aQ af e7).run P w= .ok (l,h,m) w:=by
 unfold Instr.sliceBounds;rcases hm with⟨rfl,rfl⟩|⟨aw0,rfl,hm⟩
 ·clear aa;rcases hh with⟨rfl,rfl⟩|⟨aoL,rfl,hh⟩<;>rcases hl with⟨rfl,rfl⟩|⟨aoP,rfl,hl⟩<;>simp[ab5,Result.andThen, *]
 ·rcases hh with⟨rfl,rfl⟩|⟨aoL,rfl,hh⟩
  ·exact absurd rfl (aa (by simp))
  ·clear aa;rcases hl with⟨rfl,rfl⟩|⟨aoP,rfl,hl⟩<;>simp[ab5,Result.andThen, *]
section
variable{ι:bs}{fr aI:aP}{a:Act}{aJ:Nat}{st st':ay}{w:co}{o:Oper}{v:be}{call:bG}
variable{n:Nat}{t:ce}{x:bi}{aQ af:am bi}{d y:Nat}{e7:am bi}{a6:f6}
def pK{x:am bi}(h:(x=none∧n=d)∨(∃z b5,x=some z∧a.eval z= .int b5 (n:Int)∧n<=y)):FM (x.map a.eval) d y n:=by
 rcases h with⟨rfl,rfl⟩|⟨z,b5,rfl,J,U⟩
 ·exact .inl ⟨rfl,rfl⟩
 ·exact .inr ⟨b5,by simp[J],U⟩
def ah4(s:f5)(l h:Nat)(_hl:l<=h)(_hh:h<=s.data.toList.length):(⟨⟨(s.data.toList.drop l).take (h-l)⟩⟩:f5)=s.extract l h:=by
 apply ByteArray.ext;rw[ByteArray.data_extract];apply Array.ext';rw[zdh,zdi]
def zZ{x:am bi}(h:(x=none∧n=d)∨(∃z b5,x=some z∧a.eval z= .int b5 (n:Int)∧n<=y))(aA:d<=y):n<=y:=by
 rcases h with⟨_,rfl⟩|⟨_,_,_,_,h⟩<;>omega
def atZ(aa:cI X.aF x=true)(J:∀y,aQ=some y->cI X.aF y=true)(U:∀y,af=some y->cI X.aF y=true)(al:o.op= .slice t x aQ af none)
 (hu:X.P.underlying t=some .string) (ae:cy ι fr a aJ) (hw:bo X ι st w) (h:ZV x aQ af call fr st= .ok v aI st'):aI=fr∧cn X ι w v st st' (execOp a.eval o):=by
 obtain⟨s,hp,g1⟩:=pC h (by simp);obtain⟨hn,aM,c3⟩:=pL ae hw U g1 (by simp);obtain⟨cE,bc,dP⟩:=pL ae hw J aM (by simp);obtain⟨hc,cf⟩:=v7 bc (by simp);cases cf;rw[fg]at c3;have Xa:hn<=s.data.toList.length:=zZ c3 (b8 _);have nR:cE<=hn:=zZ dP (zae _);have bX:=ae.ak hw aa;rw[hp]at bX;generalize cD:a.eval x=fu at bX;cases bX;refine⟨rfl,cn.same (v':=.string (s.extract cE hn)) hw ?_ ?_⟩
 ·unfold execOp;rw[al];have ep:s.data.toList.length=s.size:=by rw[zbj];rfl
  rw[ep]at c3;have hb:=Fs X.P w false s.size s.size cE hn s.size (aQ.map a.eval) (af.map a.eval) none (.inl ⟨rfl,rfl⟩) (pK c3) (pK dP) (by simp);simp[cD,Instr.sliceAt,Instr.slice,run_underlying hu,Result.andThen,hb]
 ·have e:=ah4 s cE hn nR Xa;have:(Nat.sub hn cE)=hn-cE:=rfl;rw[this,e];exact .string _
def atX(aa:cI X.aF x=true)(J:∀y,aQ=some y->cI X.aF y=true)(U:∀y,af=some y->cI X.aF y=true)(ag:∀y,e7=some y->cI X.aF y=true)
 (D1:e7≠none->af≠none) (al:o.op= .slice t x aQ af e7) (hu:X.P.underlying t=some (.array n e)) (gw:X.P.info? e=some a6) (ae:cy ι fr a aJ) (hw:bo X ι st w)
 (h:BI n a6.size x aQ af e7 call fr st= .ok v aI st'):aI=fr∧cn X ι w v st st' (execOp a.eval o):=by
 obtain⟨p,hp,g1⟩:=pB h (by simp);obtain⟨ad,aC,aM⟩:=gh g1 (by simp);subst aC;obtain⟨ah,cs,elem,bg,a8,aR,bc⟩:=vY aM (by simp);obtain⟨AP,cf⟩:=Bu bc (by simp);obtain⟨m,cL,k6⟩:=pL ae hw ag cf (by simp);obtain⟨hn,ej,c3⟩:=pL ae hw U cL (by simp);obtain⟨cE,gu,dP⟩:=pL ae hw J ej (by simp);cases gu;subst AP;obtain⟨l,hl,C,eA,hc⟩:=hw.ez _ _ aR (by simp);have bX:=ae.ak hw aa;rw[hp]at bX;generalize cD:a.eval x=fu at bX;cases bX with
 |ptr _ l' cx eB=>
  rw[hl]at cx;cases cx;have jg:=hc.plain rfl;refine⟨rfl,cn.same (v':=.slice (some (if m=cE then⟨l.cH,l.cP+ad.off,none⟩else Addr.add ⟨l.cH,l.cP+ad.off,none⟩ (cE*a6.size))) (hn-cE) (m-cE)) hw ?_ ?_⟩
  ·unfold execOp;rw[al];have hb:=Fs X.P w false n n cE hn m (aQ.map a.eval) (af.map a.eval) (e7.map a.eval) (pK k6) (pK c3) (pK dP) (by simpa using D1);simp[cD,Instr.sliceAt,Instr.sureAddr,run_underlying hu,Result.andThen,hb,kt gw]
  ·rw[pW];by_cases c:m=cE
   ·rw[zab c,zab c];have:=bp.gN (ι:=ι) ad l (l.cP+ad.off) (Nat.sub hn cE) (Nat.sub m cE) hl ah (.inl rfl);rw[jg.1]at this;exact this
   ·rw[zaa c,zaa c,add_eq];have:=bp.gN (ι:=ι) (ad.add (Nat.mul cE a6.size)) l (l.cP+(ad.add (Nat.mul cE a6.size)).off) (Nat.sub hn cE) (Nat.sub m cE) (by rw[CH];exact hl) (CI _ _ ah) (.inl rfl);rw[jg.1,FZ,<-zbE]at this;exact this
def atY(aa:cI X.aF x=true)(J:∀y,aQ=some y->cI X.aF y=true)(U:∀y,af=some y->cI X.aF y=true)(ag:∀y,e7=some y->cI X.aF y=true)
 (D1:e7≠none->af≠none) (al:o.op= .slice t x aQ af e7) (hu:X.P.underlying t=some (.slice e)) (gw:X.P.info? e=some a6) (ae:cy ι fr a aJ) (hw:bo X ι st w)
 (h:ZU a6.size x aQ af e7 call fr st= .ok v aI st'):aI=fr∧cn X ι w v st st' (execOp a.eval o):=by
 obtain⟨b,len,cap,hp,g1⟩:=vy h (by simp);have bX:=ae.ak hw aa;rw[hp]at bX;generalize cD:a.eval x=fu at bX;cases b with
 |none=>
  have g1:fq fr e7 cap cap (fun m=>fq fr af len m fun h=>fq fr aQ 0 h fun l=>.ok (.slice none (Nat.sub h l) (Nat.sub m l)) fr st)=aV.ok v aI st':=g1;obtain⟨m,cL,k6⟩:=pL ae hw ag g1 (by simp);obtain⟨hn,ej,c3⟩:=pL ae hw U cL (by simp);obtain⟨cE,gu,dP⟩:=pL ae hw J ej (by simp);cases gu;cases bX;refine⟨rfl,cn.same (v':=.slice none (hn-cE) (m-cE)) hw ?_ (.nw _ _)⟩;unfold execOp;rw[al];have hb:=Fs X.P w true len cap cE hn m (aQ.map a.eval) (af.map a.eval) (e7.map a.eval) (pK k6) (pK c3) (pK dP) (by simpa using D1);simp[cD,Instr.sliceAt,Instr.slice,run_underlying hu,Result.andThen,hb,kt gw]
 |some ad=>
  obtain⟨ah,cs,elem,bg,a8,aR,bc⟩:=vY (g1:ay.gC st ad _ _=_) (by simp);obtain⟨l,hl,C,eA,hc⟩:=hw.ez _ _ aR (by simp);cases bX with
  |gN _ l' off _ _ cx eB iQ=>
   rw[hl]at cx;cases cx;cases a8 with
   |false=>
    have jg:=hc.plain rfl;obtain⟨m,cL,k6⟩:=pL ae hw ag (bc:fq fr e7 cap cap _=_) (by simp);obtain⟨hn,ej,c3⟩:=pL ae hw U cL (by simp);obtain⟨cE,gu,dP⟩:=pL ae hw J ej (by simp);cases gu;have awE:m<=cap:=zZ k6 (b8 _);refine⟨rfl,cn.same (v':=.slice (some (if m=cE then⟨l.cH,off,none⟩else Addr.add ⟨l.cH,off,none⟩ (cE*a6.size))) (hn-cE) (m-cE)) hw ?_ ?_⟩
    ·unfold execOp;rw[al];have hb:=Fs X.P w true len cap cE hn m (aQ.map a.eval) (af.map a.eval) (e7.map a.eval) (pK k6) (pK c3) (pK dP) (by simpa using D1);have hex:cap+l.ex=cap:=by rw[jg.1];rfl
     rw[hex]at cD;simp only[cD,Instr.sliceAt,Instr.slice,Sem.run_bind,run_underlying hu,Result.andThen,hb,kt gw,Sem.run_pure];by_cases c:m=cE<;>simp[c]
    ·rw[pW];by_cases c:m=cE
     ·rw[zab c,zab c];have:=bp.gN (ι:=ι) ad l off (Nat.sub hn cE) (Nat.sub m cE) hl ah (by
       rcases iQ with h|⟨J,U,ag⟩
       ·exact .inl h
       ·right;subst J U;have aC:Nat.sub m cE=m-cE:=rfl;have e2:Nat.sub hn cE=hn-cE:=rfl;have hh:hn<=m:=by
         rcases c3 with⟨_,e⟩|⟨_,_,_,_,e⟩<;>omega
        refine⟨by omega,by omega,ag⟩)
      rw[jg.1]at this;exact this
     ·rw[zaa c,zaa c,add_eq];have uB:off=l.cP+ad.off:=by
       rcases iQ with h|⟨J,U,ag⟩
       ·exact h
       ·exfalso;subst J U;have hh:hn<=m:=by
         rcases c3 with⟨_,e⟩|⟨_,_,_,_,e⟩<;>omega
        have nR:cE<=hn:=zZ dP (zae _);omega
      subst uB;have:=bp.gN (ι:=ι) (ad.add (Nat.mul cE a6.size)) l (l.cP+(ad.add (Nat.mul cE a6.size)).off) (Nat.sub hn cE) (Nat.sub m cE) (by rw[CH];exact hl) (CI _ _ ah) (.inl rfl);rw[jg.1,FZ,<-zbE]at this;exact this
   |true=>
    obtain⟨am2,cf⟩:=w2 (bc:bk e7 (fun _=>aV.no) _=aV.ok v aI st') (fun _=>by simp);obtain⟨pc,cL⟩:=jz cf (by simp);obtain⟨hn,ej,c3⟩:=pL ae hw U cL (by simp);obtain⟨cE,gu,dP⟩:=pL ae hw J ej (by simp);cases gu;subst am2;have Xa:hn<=len:=zZ c3 (b8 _);have nR:cE<=hn:=zZ dP (zae _);have aeB:(af=none∧hn=len)∨(∃z b5,af=some z∧a.eval z= .int b5 (hn:Int)∧hn<=cap+l.ex):=by
     rcases c3 with h|⟨z,b5,J,U,ag⟩
     ·exact .inl h
     ·exact .inr ⟨z,b5,J,U,by omega⟩
    refine⟨rfl,cn.same (v':=.slice (some (if cap+l.ex=cE then⟨l.cH,off,none⟩else Addr.add ⟨l.cH,off,none⟩ (cE*a6.size))) (hn-cE) (cap+l.ex-cE)) hw ?_ ?_⟩
    ·unfold execOp;rw[al];have hb:=Fs X.P w true len (cap+l.ex) cE hn (cap+l.ex) (aQ.map a.eval) (af.map a.eval) none (.inl ⟨rfl,rfl⟩) (pK aeB) (pK dP) (by simp);simp only[cD,Instr.sliceAt,Instr.slice,Sem.run_bind,run_underlying hu,Result.andThen,Option.map_none,hb,kt gw,Sem.run_pure];by_cases c:cap+l.ex=cE<;>simp[c]
    ·have aC:Nat.sub cap cE=cap-cE:=rfl;have e2:cap+l.ex-cE=(cap-cE)+l.ex:=by omega
     rw[e2];by_cases c:cap+l.ex=cE
     ·rw[zab c];exact bp.gN (ι:=ι) (ad.add (Nat.mul cE a6.size)) l off (Nat.sub hn cE) (Nat.sub cap cE) (by rw[CH];exact hl) (CI _ _ ah) (.inr ⟨by show hn-cE=0;omega,by show cap-cE=0;omega,by omega⟩)
     ·rw[zaa c,add_eq];refine bp.gN (ι:=ι) (ad.add (Nat.mul cE a6.size)) l (off+cE*a6.size) (Nat.sub hn cE) (Nat.sub cap cE) (by rw[CH];exact hl) (CI _ _ ah) ?_;rcases iQ with h|⟨J,U,ag⟩
      ·left;rw[FZ,h,zbE];rfl
      ·exfalso;omega
end
variable{nn:bt}
def bo.kill(h:bo X ι st w){id:Nat}(h₀:st.h.get id=some nn):bo X ι ⟨st.h.set id .dead,st.ai⟩ w:=by
 have pb:id<st.ai:=by
  rcases zai id st.ai with c|c
  ·exact c
  ·rw[(h.fresh id c).2]at h₀;cases h₀
 refine⟨fun j p hp aA=> ?_,fun i j p q l m af h3 hj iy=> ?_,fun j hj=> ?_,h.g5,h.mB,h.p1,fun j l p hl ah hp aA=> ?_⟩
 ·rw[ao.eJ]at hp;split at hp
  ·cases hp;exact absurd rfl aA
  ·exact h.ez j p hp aA
 ·rw[ao.eJ]at af hj;split at af
  ·cases af;exact absurd rfl h3
  ·split at hj
   ·cases hj;exact absurd rfl iy
   ·exact h.inj i j p q l m af h3 hj iy
 ·have mJ:st.ai<=j:=hj;refine⟨(h.fresh j mJ).1,?_⟩;rw[ao.eJ,zaa (by omega)];exact(h.fresh j mJ).2
 ·rw[ao.eJ]at hp;split at hp
  ·cases hp;exact absurd rfl aA
  ·exact h.mc j l p hl ah hp aA
def bo.asf(h:bo X ι st w){id:Nat}{l':Loc}(h₀:st.h.get id=some nn)(uu:nn≠.dead)(Nc:¬nn.wv)(eB:l'.bR≠h1)(hl:ι id=some l)(o:bt)(cK:l'.cH=l.cH)(O:Obj)
 (w':co) (hw:w'.heap=w.heap.setIfInBounds l.cH O) (hm:∀aS:bs,ι.le aS->w'.heap[l'.cH]? =some O->kg X aS w' o l') (g9:rp w w':=by exact⟨rfl,rfl⟩):
 ∃aS,bo X aS ⟨(st.h.set id .dead).set st.ai o,st.ai+1⟩ w'∧e3 ι aS w w'∧aS st.ai=some l':=by
 have hb:=h.g5 id l hl;have oy:l.bR≠h1:=fun e=>Nc (h.mc id l nn hl e h₀ uu);have pb:id<st.ai:=by
  rcases zai id st.ai with c|c
  ·exact c
  ·rw[(h.fresh id c).2]at h₀;cases h₀
 have hle:ι.le (fun i=>if i=st.ai then some l' else ι i):=by
  intro i m mL;show(if i=st.ai then _ else ι i)=_;rw[zaa];exact mL;intro e;subst e;rw[(h.fresh _ (b8 _)).1]at mL;cases mL
 refine⟨fun i=>if i=st.ai then some l' else ι i,⟨fun j p hp aA=> ?_,fun i j p q pg uS af h3 hj iy hv iP aR e=> ?_,fun j hj=> ?_,fun j pg lE=> ?_,fun g aR=>hle _ _ (h.mB g aR),zdf h.p1,fun j pg p lE ah hp aA=> ?_⟩,⟨hle,by rw[hw];simp,fun b _ af=> ?_,fun j pg lE=> ?_,g9⟩,zab rfl⟩
 ·rw[ao.eJ]at hp;by_cases e:j=st.ai
  ·rw[zab e]at hp;cases hp;exact⟨l',by simp[e],hm _ hle (by rw[hw,cK];simp[hb])⟩
  ·rw[zaa e,ao.eJ]at hp;split at hp
   ·cases hp;exact absurd rfl aA
   ·rename_i ne;obtain⟨m,mL,al⟩:=h.ez j p hp aA;refine⟨m,hle _ _ mL,kg.mono X al hle ?_⟩;have cd:m.cH≠l.cH:=fun pU=>ne (h.inj j id p nn m l hp aA h₀ uu mL hl (.inr oy) pU);rw[hw,zbt (Ne.symm cd)]
 ·have key:∀j p m,((st.h.set id .dead).set st.ai o).get j=some p->p≠.dead->(if j=st.ai then some l' else ι j)=some m->
   (j=st.ai∧m=l')∨(j≠st.ai∧j≠id∧st.h.get j=some p∧ι j=some m):=by
   intro j p m hj aA mL;rw[ao.eJ]at hj;by_cases c:j=st.ai
   ·rw[zab c]at mL;cases mL;exact .inl ⟨c,rfl⟩
   ·rw[zaa c,ao.eJ]at hj;rw[zaa c]at mL;split at hj
    ·cases hj;exact absurd rfl aA
    ·rename_i ne;exact .inr ⟨c,ne,hj,mL⟩
  rcases key i p pg af h3 hv with⟨aC,rfl⟩|⟨kW,fi,g1,aM⟩<;>rcases key j q uS hj iy iP with⟨e2,rfl⟩|⟨eg,fh,f1,f2⟩
  ·rw[aC,e2]
  ·exact absurd (h.inj j id q nn uS l f1 iy h₀ uu f2 hl (.inr oy) (by omega)) fh
  ·exact absurd (h.inj i id p nn pg l g1 h3 h₀ uu aM hl (.inr oy) (by omega)) fi
  ·exact h.inj i j p q pg uS g1 h3 f1 iy aM f2 aR e
 ·have mJ:st.ai+1<=j:=hj;have:=h.fresh j (by omega);refine⟨?_,?_⟩
  ·show(if j=st.ai then _ else ι j)=_;rw[zaa (by omega)];exact this.1
  ·rw[ao.eJ,zaa (by omega),ao.eJ,zaa (by omega)];exact this.2
 ·rw[hw];simp only[Array.size_setIfInBounds];by_cases e:j=st.ai
  ·simp only[zab e]at lE;cases lE;omega
  ·simp only[zaa e]at lE;exact h.g5 j pg lE
 ·rw[ao.eJ]at hp;by_cases e:j=st.ai
  ·simp only[zab e]at lE;cases lE;exact absurd ah eB
  ·rw[zaa e,ao.eJ]at hp;simp only[zaa e]at lE;split at hp
   ·cases hp;exact absurd rfl aA
   ·exact h.mc j pg p lE ah hp aA
 ·rw[hw,zbt (af id l hl oy)]
 ·by_cases e:j=st.ai
  ·simp only[zab e]at lE;cases lE;exact .inr (.inr ⟨id,l,hl,oy,cK.symm⟩)
  ·simp only[zaa e]at lE;exact .inl lE
theorem WG(n B:Nat)(a0:n+(n+768)/4<=B):∀r c,c<=B->Builtin.growBy n r c<=B
 |0,c,h=>h
 |r+1,c,h=>by
  unfold Builtin.growBy;split
  ·exact h
  ·rename_i hc;exact WG n B a0 r _ (by omega)
def apX(n c:Nat)(h:c<n):Builtin.nextslicecap n c<=n+n/4+448:=by
 unfold Builtin.nextslicecap;split
 ·omega
 ·split
  ·omega
  ·exact WG n _ (by omega) 4 c (by omega)
def Qw(z:ap be)(n:Nat):(Builtin.zeroCells z n).size=n*z.size:=by simp[Builtin.zeroCells]
def bo.IN{cs':ac be}(hw:bo X ι st w)(elem:ce)(aD:bJ ι cs cs')(rest:ac be)(ex:Nat)(aE:ex*X.P.cellsOf elem<=rest.length)(bg:Nat×Nat)
 (ou:∀i,i<cs.length+rest.length->¬(bg.1<=i∧i<bg.2)) (w':co) (hh:w'.heap=w.heap.push (.cells (cs'++rest).toArray elem bg)) (g9:rp w w':=by exact⟨rfl,rfl⟩):
 ∃aS,bo X aS ⟨st.h.set st.ai (.cells cs elem (0,0) true),st.ai+1⟩ w'∧e3 ι aS w w'∧aS st.ai=some ⟨w.heap.size,0,ex,id⟩∧aS=iv ι st.ai ⟨w.heap.size,0,ex,id⟩:=by
 refine bo.alloc X hw _ _ ex (fun aS ke hle _ aW=> ?_) w' hh g9;refine⟨(cs'++rest).toArray,bg,⟨aW,by simp[aD.1];omega,fun i af=> ?_,fun _ j _ hj=> ?_,fun h=>by cases h⟩⟩
 ·have dG:i<cs'.length:=by rw[<-aD.1];exact af
  refine⟨cs'[i],?_,(aD.2 i af dG).mono hle⟩;simp[zaW dG,dG]
 ·refine ou j ?_;have:0+cs.length+ex*X.P.cellsOf elem<=cs.length+rest.length:=by omega
  exact fM hj this
structure Src(P:d9)(w:co)(x:be)(n size:Nat)(new:ac be):Prop where
 len:(Builtin.lenOf x).run P w= .ok n w
 cells:∀tape drawn,(Builtin.firstCells size n x).run P {w with tape:=tape,drawn:=drawn}= .ok new.toArray {w with tape:=tape,drawn:=drawn}
section
variable{P:d9}{w:co}{mf lq elem:ce}{d:TypeDesc}{i:f6}{x:be}{n len cap:Nat}{new:ac be}
def J3{base:am Addr}(hu:P.underlying mf=some (.slice elem))(aa:P.underlying lq=some d)(aA:∀k,d≠.int k)(af:P.info? elem=some i)(ah:Src P w x n i.size new)(hn:len+n<=cap)(ty:ce)(w':co)
 (eH:∀a,base=some a->(storeCells (a.add (len*i.size)) new).run P w= .ok () w') (gI:base=none->w'=w):
 (Builtin.append_ #[mf,lq] ty #[.slice base len cap,x]).run P w= .ok (.slice base (len+n) cap) w':=by
 have A9:(d matches .int _)=false:=by cases d<;>first|rfl|(exact absurd rfl (aA _))
 have hc:=ah.cells w.tape w.drawn;simp only[Builtin.append_,zck,zcl,zdQ,Sem.run_bind,run_underlying hu,Result.andThen,kt af,run_underlying aa,Sem.run_pure,zaU,if_false,ah.len,hn,if_true,zdR];rw[hc];cases base with
 |none=>simp only[Sem.run_pure];rw[gI rfl]
 |some a=>
  simp only[Result.andThen,Sem.run_bind,Sem.run_pure];rw[eH a rfl]
def PT{base:am Addr}{z:be}{old:ac be}(hu:P.underlying mf=some (.slice elem))(aa:P.underlying lq=some d)(aA:∀k,d≠.int k)(af:P.info? elem=some i)(an:i.zero=some z)(ah:Src P w x n i.size new)
 (hn:cap<len+n) (hb:(5*(len+n)+1792)*(i.bytes+1)<=1125899906842624) (ty:ce)
 (hold:∀tape drawn,(Builtin.firstCells i.size len (.slice base len cap)).run P {w with tape:=tape,drawn:=drawn}= .ok old.toArray {w with tape:=tape,drawn:=drawn}):
 ∃dH w',len+n<=dH∧(Builtin.append_ #[mf,lq] ty #[.slice base len cap,x]).run P w= .ok (.slice (some ⟨w.heap.size,0,none⟩) (len+n) dH) w'∧
  w'.heap=w.heap.push (.cells (old++new++(Builtin.zeroCells z.cells (dH-(len+n))).toList).toArray elem)∧rp w w':=by
 have A9:(d matches .int _)=false:=by cases d<;>first|rfl|(exact absurd rfl (aA _))
 have MJ:=apX (len+n) cap hn;have hmul:Builtin.nextslicecap (len+n) cap*i.bytes<=281474976710656:=by
  have J:4*Builtin.nextslicecap (len+n) cap*i.bytes<=(5*(len+n)+1792)*i.bytes:=iq _ (by omega);have U:(5*(len+n)+1792)*i.bytes<=(5*(len+n)+1792)*(i.bytes+1):=m1 _ (by omega);rw[zax]at J;omega
 have awK:len+n<=1125899906842624:=by
  have:5*(len+n)+1792<=(5*(len+n)+1792)*(i.bytes+1):=zdl _ (by omega);omega
 have amY:¬(((len+n:Nat):Int)>IntKind.i64.max∧((false=true)∨i.bytes=0)):=by
  have:IntKind.i64.max=9223372036854775807:=by decide
  rw[this];omega
 have amf:¬(Builtin.nextslicecap (len+n) cap*i.bytes>2^48):=by omega
 let q:Question:=.appendCap (len+n) cap elem
 refine⟨q.cut (w.tape w.drawn q),{w with drawn:=w.drawn+1,heap:=w.heap.push (.cells (old++new++(Builtin.zeroCells z.cells (q.cut (w.tape w.drawn q)-(len+n))).toList).toArray elem)},?_,?_,rfl,⟨rfl,rfl⟩⟩
 ·show len+n<=(len+n)+_;omega
 ·have hc:=ah.cells w.tape (w.drawn+1);have al:=hold w.tape (w.drawn+1);have H9:=vB (P:=P) af an {w with drawn:=w.drawn+1};simp only[Builtin.append_,zck,zcl,zdQ,Sem.run_bind,run_underlying hu,Result.andThen,kt af,run_underlying aa,Sem.run_pure,zaU,if_false,ah.len,typeInfo,zdR];rw[zaa (by omega)];simp only[Sem.run_bind,Sem.run_pure,run_program,Result.andThen,af];rw[zaa (by simpa using amY)];simp only[Sem.run_bind,Sem.run_pure,run_program,Result.andThen,af];rw[zaa amf];simp only[Sem.run_bind,Sem.run_pure,run_program,Result.andThen,af,run_choose,Question.forced,zaU,if_false,run_askRoom,if_true];rw[al];simp only[];rw[hc];simp only[Result.andThen,Sem.run_bind,H9,Sem.run_pure,newRow,run_newObj];simp[q];congr 2;apply Array.ext';simp
end
section
variable{ι:bs}{fr aI:aP}{a:Act}{aJ:Nat}{st st':ay}{w:co}{o:Oper}{v:be}{call:bG}
def ah1{mf lq:ce}{s x:bi}{v':be}{w':co}(al:o.op= .call {callee:=.builtin .append,args:= #[s,x],argTypes:= #[mf,lq]})
 (aE:(Builtin.append_ #[mf,lq] o.type #[a.eval s,a.eval x]).run X.P w= .ok v' w'):(execOp a.eval o).run X.P w= .ok (.value v') w':=by
 unfold execOp;rw[al];simp only[resolve,zca,zaM,zbQ,Sem.run_bind,Sem.run_pure,Result.andThen,invoke,builtin,aE]
def Kd{mf lq:ce}{d:TypeDesc}{i:f6}{z:be}{s x:bi}{base:am Addr}{len cap n:Nat}{new new':ac be}
 (al:o.op= .call {callee:=.builtin .append,args:= #[s,x],argTypes:= #[mf,lq]}) (hu:X.P.underlying mf=some (.slice elem)) (aa:X.P.underlying lq=some d) (aA:∀k,d≠.int k) (af:X.P.info? elem=some i) (an:i.zero=some z)
 (r2:z.cells.size=i.size) (hw:bo X ι st w) (uF:bp ι (.slice base len cap) (a.eval s)) (yF:Src X.P w (a.eval x) n i.size new') (qM:bJ ι new new') (qN:new.length=n*i.size) (bN:hf new=true)
 (h:jJ fr st elem i.size i.bytes base len cap n new= .ok v aI st'):aI=fr∧ky X ι w v st' (execOp a.eval o):=by
 obtain⟨hb,g⟩:=jz h (by simp);have cK:(5*(len+n)+1792)*(i.bytes+1)<=1125899906842624:=hb;have lf:X.P.cellsOf elem=i.size:=by simp[Program.cellsOf,af]
 have DV:new'.length=n*i.size:=by rw[<-qM.1];exact qN
 generalize anJ:a.eval s=auP at uF;have qP:= @ah1 X a w o mf lq s x;rw[anJ]at qP;cases base with
 |none=>
  obtain⟨AU,g1⟩:=kS (g:dQ len 0 _ _=_) (by simp);obtain⟨pa,aM⟩:=kS g1 (by simp);subst AU pa;cases uF;rw[pW]at aM;split at aM
  ·rename_i l6;subst l6;cases aM;refine⟨rfl,ky.same (v':=.slice none 0 0) hw ?_ (.nw _ _)⟩;exact qP al (J3 hu aa aA af yF (by omega) o.type w (fun a h=>by cases h) (fun _=>rfl))
  ·rename_i l6;rw[gV]at aM;cases aM;obtain⟨dH,w',jf,aE,hh,g9⟩:=PT (base:=none) (len:=0) (cap:=0) (old:=[]) hu aa aA af an yF (by omega) cK o.type (fun _ _=>rfl);obtain⟨aS,ba,bx,dE,_⟩:=hw.IN elem qM (Builtin.zeroCells z.cells (dH-(0+n))).toList (dH-(0+n)) (by
    rw[zbj,Qw,r2,lf];exact b8 _) (0,0) (fun i _=>by simp) w' (by rw[hh];simp) g9
   refine⟨rfl,aS,.value _,w',qP al aE,.inl ⟨_,rfl,?_⟩,ba,bx⟩;have:=bp.gN (ι:=aS) ⟨st.ai,0,none⟩ ⟨w.heap.size,0,dH-(0+n),id⟩ 0 (0+n) (0+n) dE rfl (.inl rfl);rw[show 0+n+(dH-(0+n))=dH by omega]at this;exact this
 |some ad=>
  obtain⟨ah,cs,el,bg,a8,aR,g1⟩:=vY (g:ay.gC st ad _ _=_) (by simp);obtain⟨ou,aM⟩:=jz g1 (by simp);obtain⟨pc,bc⟩:=jz aM (by simp);obtain⟨D9,cf⟩:=jz bc (by simp);obtain⟨rR,cL⟩:=kS cf (by simp);rw[fg]at D9;have awO:ad.off+cap*i.size<=cs.length:=D9;subst rR;obtain⟨l,hl,C,eA,hc⟩:=hw.ez _ _ aR (by simp);have qR:=hc.room;rw[lf]at qR;cases uF with
  |gN _ l' off _ _ cx eB iQ=>
   rw[hl]at cx;cases cx;have hmul:len*i.size<=cap*i.size:=iq _ pc;rw[pW]at cL;split at cL
   ·rename_i l6;subst l6;cases cL;have D2:new'=[]:=by
     have:new'.length=0:=by rw[DV];simp
     exact zbu this
    refine⟨rfl,ky.same (v':=.slice (some ⟨l.cH,off,none⟩) (len+0) (cap+l.ex)) hw ?_ (.gN _ _ _ _ _ hl ah iQ)⟩;refine qP al (J3 hu aa aA af yF (by omega) o.type w (fun a h=> ?_) (fun h=>by cases h));rw[D2];rfl
   ·rename_i l6;have hold:∀tape drawn,(Builtin.firstCells i.size len (.slice (some ⟨l.cH,off,none⟩) len (cap+l.ex))).run X.P {w with tape:=tape,drawn:=drawn}= .ok ((C.toList.drop off).take (len*i.size)).toArray {w with tape:=tape,drawn:=drawn}:=by
     intro tape drawn;simp only[Builtin.firstCells];rcases iQ with h|⟨J,_,_⟩
     ·exact Fl (by exact hc.there) (by rw[h];omega)
     ·subst J;simp[loadCells,loadCellsFrom]
    have ov:∀(ba:len+n<=cap+l.ex),off=l.cP+ad.off:=by
     intro ba;rcases iQ with h|⟨J,U,ag⟩
     ·exact h
     ·omega
    have kF:bJ ι ((cs.drop ad.off).take (len*i.size)) ((C.toList.drop off).take (len*i.size)):=by
     rcases iQ with h|⟨J,_,_⟩
     ·rw[h];exact hc.row ad.off (len*i.size) (by simp;omega)
     ·subst J;simpa using bJ.nil ι
    cases a8 with
    |true=>
     obtain⟨mD,ej⟩:=v7 (cL:jt cs ad.off _ _ _=_) (by simp);rw[ks,gV,rz]at ej;cases ej;by_cases mI:len+n<=cap+l.ex
     ·have uB:=ov mI;subst uB;have HQ:n*i.size+len*i.size<=(cap+l.ex)*i.size:=by rw[<-zaj];exact iq _ (by omega)
      rw[zaj]at HQ;obtain⟨w',aE,hh,g9⟩:=PV (P:=X.P) (o:=l.cP+ad.off+len*i.size) new' 0 C w hc.there (by omega) (OI qM bN) (fun j J U=>hc.xF ou j (by omega) (by rw[lf];omega));simp only[zaX]at hh;have Nt:=qP al (J3 (base:=some ⟨l.cH,l.cP+ad.off,none⟩) hu aa aA af yF mI o.type w' (fun a h=>by cases h;rw[add_eq];exact aE) (fun h=>by cases h));obtain⟨aS,ba,bx,dE⟩:=bo.asf (X:=X) hw aR (by simp) (fun ae=>by cases ae.1) NI hl (.cells ((cs.drop ad.off).take (len*i.size)++new) el (0,0) true) (l':=⟨l.cH,l.cP+ad.off,cap+l.ex-(len+n),id⟩) rfl _ w' hh (fun aS hle aW=>by
       have WK:(C.toList.take (l.cP+ad.off+len*i.size)++(new'++C.toList.drop (l.cP+ad.off+len*i.size+new'.length))).length=C.size:=by simp;omega
       have hy:((cs.drop ad.off).take (len*i.size)).length=len*i.size:=by simp;omega
       have W3:(cap+l.ex-(len+n))*i.size=(cap*i.size+l.ex*i.size)-(len*i.size+n*i.size):=by rw[Nat.sub_mul,zaj,zaj]
       refine⟨_,eA,⟨aW,?_,fun j hj=> ?_,fun _ j J U=> ?_,fun h=>by cases h⟩⟩
       ·rw[List.size_toArray,WK,lf,zay,hy,qN];simp only;rw[W3];omega
       ·simp only[zck];rw[zay,hy,qN]at hj;rw[P4 C.toList new' (l.cP+ad.off+len*i.size) (l.cP+ad.off+j) (by simp;omega)];by_cases c:j<len*i.size
        ·rw[zab (by omega)];obtain⟨GH,aC,e2⟩:=hc.cell (ad.off+j) (by omega);refine⟨GH,by rw[<-aC];simp[zbE],?_⟩;rw[zdS (by omega)];simp only[zdK,zdL];exact e2.mono hle
        ·rw[zaa (by omega),zab (by omega)];rw[show l.cP+ad.off+j-(l.cP+ad.off+len*i.size)=j-len*i.size by omega];rw[bm (by omega)];refine⟨_,rfl,?_⟩;rw[zdT (by omega)];simp only[hy];exact(qM.2 _ (by omega) (by omega)).mono hle
       ·refine hc.xF ou j ?_ ?_
        ·simp only at J;omega
        ·rw[lf]at U⊢;rw[zay,hy,qN]at U;simp only at U;rw[W3]at U;omega) g9
      refine⟨rfl,aS,.value _,w',Nt,.inl ⟨_,rfl,?_⟩,ba,bx⟩;have:=bp.gN (ι:=aS) ⟨st.ai,0,none⟩ ⟨l.cH,l.cP+ad.off,cap+l.ex-(len+n),id⟩ (l.cP+ad.off) (len+n) (len+n) dE rfl (.inl rfl);rw[show len+n+(cap+l.ex-(len+n))=cap+l.ex by omega]at this;exact this
     ·obtain⟨dH,w',jf,aE,hh,g9⟩:=PT (base:=some ⟨l.cH,off,none⟩) (len:=len) (cap:=cap+l.ex) hu aa aA af an yF (by omega) cK o.type hold;have ab:=hw.kill aR;obtain⟨aS,ba,bx,dE,_⟩:=ab.IN el (kF.append qM) (Builtin.zeroCells z.cells (dH-(len+n))).toList (dH-(len+n)) (by
       rw[zbj,Qw,r2,lf];exact b8 _) (0,0) (fun i _=>by simp) w' (by rw[hh]) g9
      refine⟨rfl,aS,.value _,w',qP al aE,.inl ⟨_,rfl,?_⟩,ba,bx⟩;have:=bp.gN (ι:=aS) ⟨st.ai,0,none⟩ ⟨w.heap.size,0,dH-(len+n),id⟩ 0 (len+n) (len+n) dE rfl (.inl rfl);rw[show len+n+(dH-(len+n))=dH by omega]at this;exact this
    |false=>
     have jg:=hc.plain rfl;have W4:cap+l.ex=cap:=by rw[jg.1];rfl
     rw[W4]at qP hold ov;have cL:ek (len+n) cap (q4 cs (Nat.add ad.off (Nat.mul len i.size)) new (fun cs'=>st.hI ad.block (.cells cs' el bg false) fun st=>aV.ok (.slice (some ad) (len+n) cap) fr st) .no)
      (jt cs ad.off (Nat.mul len i.size) (fun old=>st.jB (.cells (fS old new) el (0,0) true) fun id st=>.ok (.slice (some ⟨id,0,none⟩) (len+n) (len+n)) fr st) .no)=aV.ok v aI st':=cL
     rw[oE]at cL;split at cL
     ·rename_i mI;have uB:=ov mI;subst uB;have HQ:n*i.size+len*i.size<=cap*i.size:=by rw[<-zaj];exact iq _ (by omega)
      have M5:ad.off+len*i.size+new.length<=cs.length:=by rw[qN];omega
      have ej:st.hI ad.block (.cells (cs.take (ad.off+len*i.size)++(new++cs.drop (ad.off+len*i.size+new.length))) el bg false) (fun st=>aV.ok (.slice (some ad) (len+n) cap) fr st)=aV.ok v aI st':=by
       rcases O5 cL (by simp)with⟨_,ej⟩|⟨he,ej⟩
       ·exact ej
       ·rw[he];simp;exact ej
      rw[ks]at ej;cases ej;obtain⟨w',aE,ba,bx⟩:=hw.store aR hl ou M5 qM bN;have Nt:=qP al (J3 (base:=some ⟨l.cH,l.cP+ad.off,none⟩) hu aa aA af yF mI o.type w' (fun a h=>by cases h;rw[add_eq,zbE];exact aE) (fun h=>by cases h));refine⟨rfl,ι,.value _,w',Nt,.inl ⟨_,rfl,?_⟩,ba,bx⟩;have:=bp.gN (ι:=ι) ad l (l.cP+ad.off) (len+n) cap hl ah (.inl rfl);rw[W4]at this;exact this
     ·rename_i mI;obtain⟨mD,ej⟩:=v7 cL (by simp);rw[gV,rz]at ej;cases ej;obtain⟨dH,w',jf,aE,hh,g9⟩:=PT (base:=some ⟨l.cH,off,none⟩) (len:=len) (cap:=cap) hu aa aA af an yF (by omega) cK o.type hold;obtain⟨aS,ba,bx,dE,_⟩:=hw.IN el (kF.append qM) (Builtin.zeroCells z.cells (dH-(len+n))).toList (dH-(len+n)) (by
       rw[zbj,Qw,r2,lf];exact b8 _) (0,0) (fun i _=>by simp) w' (by rw[hh]) g9
      refine⟨rfl,aS,.value _,w',qP al aE,.inl ⟨_,rfl,?_⟩,ba,bx⟩;have:=bp.gN (ι:=aS) ⟨st.ai,0,none⟩ ⟨w.heap.size,0,dH-(len+n),id⟩ 0 (len+n) (len+n) dE rfl (.inl rfl);rw[show len+n+(dH-(len+n))=dH by omega]at this;exact this
end
theorem FD:∀bT:ac bv,lQ bT=bT.map fun b=>Value.int .u8 (b.toNat:Int)
 |[]=>rfl
 |b::bT=>by show _::lQ bT=_;rw[FD bT];rfl
theorem adb:∀bT:ac bv,hf (lQ bT)=true
 |[]=>rfl
 |_::bT=>adb bT
theorem Qf(ι:bs):∀bT:ac bv,bJ ι (lQ bT) (lQ bT)
 |[]=>bJ.nil ι
 |_::bT=>bJ.cons (.int _ _) (Qf ι bT)
theorem Lt:∀{vs:ac be} {bT:ac bv},bytesOf vs=some bT->∃bw:ac Int,vs=bw.map (Value.int .u8)∧bT=bw.map (fun n=>UInt8.ofNat n.toNat)
 |[],bT,h=>by cases h;exact⟨[],rfl,rfl⟩
 |v::vs,bT,h=>by
  obtain⟨k,n,e,g1⟩:=jT (h:gO v _ _=_) (by simp);obtain⟨ab,aM⟩:=iJ g1 (by simp);obtain⟨r,aE,bc⟩:=gh aM (by simp);cases bc;obtain⟨bw,aC,e2⟩:=Lt (vs:=vs) aE;have:=s5 ab;subst this;exact⟨n::bw,by simp[e,aC],by simp[e2]⟩
section
variable{ι:bs}{fr aI:aP}{a:Act}{aJ:Nat}{st st':ay}{w:co}{o:Oper}{v:be}{call:bG}
def aui(P:d9)(w:co)(s:f5)(size:Nat):Src P w (.string s) s.data.toList.length size (lQ s.data.toList):=by
 have ep:s.size=s.data.toList.length:=(zbj (xs:=s.data)).symm;refine⟨by rw[<-ep];rfl,fun tape drawn=> ?_⟩;simp only[Builtin.firstCells,Sem.run_pure];congr 1;apply Array.ext';have:(s.extract 0 s.data.toList.length).data=s.data:=by
  rw[ByteArray.data_extract];apply Array.ext';rw[zdh,zdi,zap,Nat.sub_zero,zbx]
 rw[this,FD];simp
def atb{mf lq:ce}{d:TypeDesc}{i:f6}{z:be}{s x:bi}(ah:cI X.aF s=true)(bX:cI X.aF x=true)(al:o.op= .call {callee:=.builtin .append,args:= #[s,x],argTypes:= #[mf,lq]})
 (hu:X.P.underlying mf=some (.slice elem)) (aa:X.P.underlying lq=some d) (aA:∀k,d≠.int k) (af:X.P.info? elem=some i) (an:i.zero=some z) (r2:z.cells.size=i.size)
 (ae:cy ι fr a aJ) (hw:bo X ι st w) (h:Zy elem i.size i.bytes s x call fr st= .ok v aI st'):aI=fr∧ky X ι w v st' (execOp a.eval o):=by
 obtain⟨base,len,cap,uF,g⟩:=vy h (by simp);have r1:=ae.ak hw ah;rw[uF]at r1;have cU:=ae.ak hw bX;generalize cD:fr.ak x=fu at g cU;cases fu with
 |slice b n c=>
  cases b with
  |none=>
   obtain⟨l6,aM⟩:=kS (g:dQ n 0 (jJ fr st elem i.size i.bytes base len cap 0 []) _=aV.ok v aI st') (by simp);subst l6;generalize lD:a.eval x=vR at cU;cases cU;refine Kd (n:=0) (new:=[]) (new':=[]) al hu aa aA af an r2 hw r1 ?_ (bJ.nil ι) (by simp) rfl aM;rw[lD];exact⟨rfl,fun _ _=>rfl⟩
  |some b=>
   obtain⟨WX,cs,el,bg,a8,aR,hn,aM⟩:=Bh (g:ay.load st b _ _ _=_) (by simp);obtain⟨bN,bc⟩:=iJ aM (by simp);obtain⟨l,hl,C,eA,hc⟩:=hw.ez _ _ aR (by simp);generalize lD:a.eval x=vR at cU;cases cU with
   |gN _ l' off _ _ cx eB iQ=>
    rw[hl]at cx;cases cx;have ju:n*i.size<=(cs.drop b.off).length:=hn;have qR:=hc.room;rw[zaA]at ju;refine Kd (n:=n) (new:=(cs.drop b.off).take (n*i.size)) (new':=(C.toList.drop off).take (n*i.size)) al hu aa aA af an r2 hw r1 ?_ ?_ ?_ bN bc
    ·rw[lD];refine⟨rfl,fun tape drawn=> ?_⟩;simp only[Builtin.firstCells];rcases iQ with h|⟨J,_,_⟩
     ·by_cases h0:n*i.size=0
      ·rw[h0];simp[loadCells,loadCellsFrom]
      ·exact Fl (by exact hc.there) (by rw[h];omega)
     ·subst J;simp[loadCells,loadCellsFrom]
    ·rcases iQ with h|⟨J,_,_⟩
     ·rw[h];exact hc.row b.off (n*i.size) hn
     ·subst J;simpa using bJ.nil ι
    ·simp;omega
 |string hS=>
  obtain⟨lF,aM⟩:=kS (g:dQ i.size 1 (jJ fr st elem i.size i.bytes base len cap (db hS.data.toList) (lQ hS.data.toList)) _=aV.ok v aI st') (by simp);rw[fg]at aM;generalize lD:a.eval x=vR at cU;cases cU;refine Kd (n:=hS.data.toList.length) (new:=lQ hS.data.toList) (new':=lQ hS.data.toList) al hu aa aA af an r2 hw r1 ?_ (Qf ι _) ?_ (adb _) aM
  ·rw[lD];exact aui X.P w hS i.size
  ·rw[FD,zbS,lF,zaZ]
 |chan p=>
  cases p with
  |none=>
   have aC:∀(k:am Addr->Nat->Nat->aV) (z:aV),il (.chan none) k z=z:=fun _ _=>rfl;have e2:∀a z:aV,tE (.chan none) a z=a:=fun _ _=>rfl;simp only[aC,e2]at g;have aM:=g;generalize lD:a.eval x=vR at cU;cases cU;refine Kd (n:=0) (new:=[]) (new':=[]) al hu aa aA af an r2 hw r1 ?_ (bJ.nil ι) (by simp) rfl aM;rw[lD];refine⟨rfl,fun tape drawn=> ?_⟩;simp only[Builtin.firstCells];rw[show 0*i.size=0 from zau _];simp[loadCells,loadCellsFrom]
  |some _=>exact absurd g (by simp[il,im,tE])
 |_=>exact absurd g (by simp[il,im,tE])
end
section
variable{ι:bs}{fr aI:aP}{a:Act}{aJ:Nat}{st st':ay}{w:co}{o:Oper}{v:be}{call:bG}
def ato{mf lq:ce}{i:f6}{d s:bi}(aA:cI X.aF d=true)(ah:cI X.aF s=true)(al:o.op= .call {callee:=.builtin .copy,args:= #[d,s],argTypes:= #[mf,lq]})
 (hu:X.P.underlying mf=some (.slice elem)) (af:X.P.info? elem=some i) (ae:cy ι fr a aJ) (hw:bo X ι st w) (h:ZB i.size d s call fr st= .ok v aI st'):
 aI=fr∧ky X ι w v st' (execOp a.eval o):=by
 obtain⟨qy,dl,agL,amu,g1⟩:=vy h (by simp);obtain⟨asL,a5,jj,uF,aM⟩:=vy g1 (by simp);have DM:=ae.ak hw aA;rw[amu]at DM;have r1:=ae.ak hw ah;rw[uF]at r1;have aa:∀{v':be} {w':co},(Builtin.copy_ #[mf,lq] o.type #[a.eval d,a.eval s]).run X.P w= .ok v' w'->(execOp a.eval o).run X.P w= .ok (.value v') w':=by
  intro v' w' aE;unfold execOp;rw[al];simp only[resolve,zca,zaM,zbQ,Sem.run_bind,Sem.run_pure,Result.andThen,invoke,builtin,aE]
 generalize p4:a.eval d=awf at DM aa;generalize lG:a.eval s=auP at r1 aa;cases qy with
 |none=>
  obtain⟨h0,bc⟩:=kS (aM:dQ dl 0 _ _=_) (by simp);subst h0;cases bc;cases DM;refine⟨rfl,ky.same (v':=.int .i64 0) hw (aa ?_) (.int _ _)⟩;cases r1<;>simp[Builtin.copy_,run_underlying hu,Result.andThen,Builtin.lenOf,kt af,Builtin.firstCells,loadCells,loadCellsFrom,goInt]
 |some ad=>
  cases asL with
  |none=>
   obtain⟨h0,bc⟩:=kS (aM:dQ a5 0 _ _=_) (by simp);subst h0;cases bc;cases r1;refine⟨rfl,ky.same (v':=.int .i64 0) hw (aa ?_) (.int _ _)⟩;cases DM;simp[Builtin.copy_,run_underlying hu,Result.andThen,Builtin.lenOf,kt af,Builtin.firstCells,goInt,Nat.min_def,storeCells]
  |some Fm=>
   have bc:st.load Fm (Nat.mul (ek a5 dl a5 dl) i.size) (fun vs=>cond (hf vs) (st.store ad vs (fun st=>aV.ok (.int .i64 (.ofNat (ek a5 dl a5 dl))) fr st) .no) .no) .no=aV.ok v aI st':=aM;rw[show ek a5 dl a5 dl=Nat.min a5 dl by rw[oE];show _=min a5 dl;rw[Nat.min_def]]at bc;rw[show Nat.mul (Nat.min a5 dl) i.size=Nat.min a5 dl*i.size from rfl]at bc;obtain⟨awS,cs,el,bg,a8,aR,hn,cf⟩:=Bh bc (by simp);obtain⟨bN,cL⟩:=iJ cf (by simp);obtain⟨iN,awe,awg,He,awj,qK,amI,ej⟩:=acz cL (by simp);obtain⟨l,hl,C,eA,hc⟩:=hw.ez _ _ aR (by simp);obtain⟨iC,rV,Xo⟩:=hw.ez _ _ qK (by simp);have ju:Nat.min a5 dl*i.size<=(cs.drop Fm.off).length:=hn;have qR:=hc.room;rw[zaA]at ju;cases r1 with
   |gN _ l' off _ _ cx eB iQ=>
    rw[hl]at cx;cases cx;cases DM with
    |gN _ aw2 OH _ _ HJ awQ ana=>
     rw[rV]at HJ;cases HJ;have Na:a5=0∨dl=0->Nat.min a5 dl=0:=by
      intro hh;show min a5 dl=0;omega
     have kF:bJ ι ((cs.drop Fm.off).take (Nat.min a5 dl*i.size)) ((C.toList.drop off).take (Nat.min a5 dl*i.size)):=by
      rcases iQ with h|⟨J,_,_⟩
      ·rw[h];exact hc.row Fm.off _ hn
      ·rw[Na (.inl J)];simpa using bJ.nil ι
     have amC:(Builtin.firstCells i.size (Nat.min a5 dl) (.slice (some ⟨l.cH,off,none⟩) a5 (jj+l.ex))).run X.P w= .ok ((C.toList.drop off).take (Nat.min a5 dl*i.size)).toArray w:=by
      simp only[Builtin.firstCells];rcases iQ with h|⟨J,_,_⟩
      ·by_cases h0:Nat.min a5 dl*i.size=0
       ·rw[h0];simp[loadCells,loadCellsFrom]
       ·exact Fl hc.there (by rw[h];omega)
      ·rw[Na (.inl J)];simp[loadCells,loadCellsFrom]
     have gg:∀w',(storeCells ⟨iC.cH,OH,none⟩ ((C.toList.drop off).take (Nat.min a5 dl*i.size))).run X.P w= .ok () w'->
      (Builtin.copy_ #[mf,lq] o.type #[.slice (some ⟨iC.cH,OH,none⟩) dl (agL+iC.ex),.slice (some ⟨l.cH,off,none⟩) a5 (jj+l.ex)]).run X.P w= .ok (.int .i64 (Nat.min a5 dl:Nat)) w':=by
      intro w' aE;simp only[Builtin.copy_,zck,zcl,zdQ,Sem.run_bind,run_underlying hu,Result.andThen,kt af,Builtin.lenOf,Sem.run_pure];rw[amC];simp only[];simp only[aE,goInt]
     rcases ej with⟨hle,gu⟩|⟨he,gu⟩
     ·cases gu;by_cases an:(cs.drop Fm.off).take (Nat.min a5 dl*i.size)=[]
      ·have p8:(C.toList.drop off).take (Nat.min a5 dl*i.size)=[]:=by
        have:=kF.1;rw[an]at this;exact zbu this.symm
       refine⟨rfl,ι,.value _,w,aa (gg w (by rw[p8];rfl)),.inl ⟨_,rfl,.int _ _⟩,?_,.refl ι w⟩;have:=hw.PX qK;rw[an];simpa using this
      ·have anb:OH=iC.cP+ad.off:=by
        rcases ana with h|⟨J,_,_⟩
        ·exact h
        ·exfalso;apply an;rw[Na (.inr J)];simp
       subst anb;obtain⟨w',aE,ba,bx⟩:=hw.store qK rV amI hle kF bN;exact⟨rfl,ι,.value _,w',aa (gg w' aE),.inl ⟨_,rfl,.int _ _⟩,ba,bx⟩
     ·cases gu;have p8:(C.toList.drop off).take (Nat.min a5 dl*i.size)=[]:=by
       have:=kF.1;rw[he]at this;exact zbu this.symm
      exact⟨rfl,ι,.value _,w,aa (gg w (by rw[p8];rfl)),.inl ⟨_,rfl,.int _ _⟩,hw.PX qK,.refl ι w⟩
theorem aaf(P:d9)(w:co)(f:be->f5->Sem (ForInStep f5))(ae:∀n s,f (.int .u8 n) s=pure (.yield (s.push (UInt8.ofNat n.toNat)))):∀(bw:ac Int) (s:f5),
 (forIn (bw.map (Value.int .u8)).toArray s f:Sem f5).run P w= .ok ⟨⟨s.data.toList++bw.map (fun n=>UInt8.ofNat n.toNat)⟩⟩ w
 |[],s=>by simp
 |n::bw,s=>by
  simp only[zaM,List.forIn_toArray,List.forIn_cons,Sem.run_bind,ae,Sem.run_pure,Result.andThen];have:=aaf P w f ae bw (s.push (UInt8.ofNat n.toNat));simp only[List.forIn_toArray]at this;rw[this];congr 1;simp[ByteArray.data_push]
def ati{sm sq:ce}{x:bi}(aa:cI X.aF x=true)(al:o.op= .convert sm sq x)(ah:X.P.underlying sm=some (.slice e))(aW:X.P.underlying sq=some .string)(he:X.P.underlying e=some (.int .u8))
 (ae:cy ι fr a aJ) (hw:bo X ι st w) (h:IX x call fr st= .ok v aI st'):aI=fr∧cn X ι w v st st' (execOp a.eval o):=by
 obtain⟨b,n,c,hp,g1⟩:=vy h (by simp);have cU:=ae.ak hw aa;rw[hp]at cU;generalize cD:a.eval x=fu at cU;cases b with
 |none=>
  cases g1;cases cU;refine⟨rfl,cn.same (v':=.string .empty) hw ?_ (.string _)⟩;unfold execOp;rw[al];simp[cD,convert,run_underlying ah,run_underlying aW,run_underlying he,Result.andThen,Conv.bytesToString]
 |some b=>
  obtain⟨WX,cs,el,bg,a8,aR,hn,aM⟩:=Bh (g1:ay.load st b _ _ _=_) (by simp);obtain⟨bT,hb,bc⟩:=gh aM (by simp);cases bc;obtain⟨l,hl,C,eA,hc⟩:=hw.ez _ _ aR (by simp);have qR:=hc.room;obtain⟨bw,aC,e2⟩:=Lt hb;cases cU with
  |gN _ l' off _ _ cx eB iQ=>
   rw[hl]at cx;cases cx;have kF:bJ ι ((cs.drop b.off).take n) ((C.toList.drop off).take n):=by
    rcases iQ with h|⟨J,_,_⟩
    ·rw[h];exact hc.row b.off _ hn
    ·subst J;simpa using bJ.nil ι
   have dR:(C.toList.drop off).take n=bw.map (Value.int .u8):=by
    rw[aC]at kF;have key:∀(bw:ac Int) (av:ac be),bJ ι (bw.map (Value.int .u8)) av->av=bw.map (Value.int .u8):=by
     intro bw
     induction bw with
     |nil=>intro av aL;rw[aL.w0];rfl
     |cons m ms a7=>
      intro av aL;obtain⟨y,jV,rfl,J,U⟩:=aL.cons_inv;cases J;rw[a7 jV U];rfl
    exact key bw _ kF
   have uz:(loadCells ⟨l.cH,off,none⟩ n).run X.P w= .ok (bw.map (Value.int .u8)).toArray w:=by
    rw[<-dR];rcases iQ with h|⟨J,_,_⟩
    ·by_cases h0:n=0
     ·subst h0;simp[loadCells,loadCellsFrom]
     ·rw[zaA]at hn;exact Fl hc.there (by rw[h];omega)
    ·subst J;simp[loadCells,loadCellsFrom]
   refine⟨rfl,cn.same (v':=.string ⟨⟨bT⟩⟩) hw ?_ (.string _)⟩;unfold execOp;rw[al];simp only[cD,convert,Sem.run_bind,run_underlying ah,run_underlying aW,run_underlying he,Result.andThen,Conv.bytesToString,uz];rw[aaf X.P w _ (fun _ _=>rfl) bw ByteArray.empty];simp[e2]
end
def Yu(P:d9)(e:ce)(count off n:Nat)(ah:P.cellsOf e≠0)(h0:off%P.cellsOf e=0)(hn:off/P.cellsOf e+n<=count):liesAt P P.depth e count off e n=true:=by
 have aA:P.depth=(2*(P.types.size+Made.depth)+1)+1:=rfl;rw[aA];have HW:sameLayout P (2*(P.types.size+Made.depth)+1+1) e e=true:=by simp[sameLayout]
 have aE:rowAt P (sameLayout P P.depth · e) P.depth e count off n=true:=by
  rw[aA];simp only[rowAt];rw[zaa ah];simp[h0,hn,HW]
 simp only[liesAt];rw[aE];rfl
theorem XU(c:bv):∀(l:ac bv),qV c l=(List.range l.length).find? (fun i=>l[i]! ==c)
 |[]=>rfl
 |b::bT=>by
  show cond (Nat.beq b.toNat c.toNat) (some 0) (bk (qV c bT) (fun i=>some (Nat.succ i)) none)=_;rw[zaq,zdm,zdU];by_cases hb:b=c
  ·subst hb;simp
  ·have J:Nat.beq b.toNat c.toNat=false:=by
    rw[zbC];intro hh;exact hb (zcn.1 (dD hh))
   have U:((b::bT)[0]! ==c)=false:=by simpa using hb
   rw[J,U,List.find?_map,XU c bT];show bk _ _ _=_;have:((fun i=>(b::bT)[i]! ==c)∘Nat.succ)=(fun i=>bT[i]! ==c):=by
    funext i;simp
   rw[this];cases(List.range bT.length).find? (fun i=>bT[i]! ==c)<;>rfl
section
variable{ι:bs}{fr aI:aP}{a:Act}{aJ:Nat}{st st':ay}{w:co}{o:Oper}{v:be}{call:bG}
variable{x:bi}{f:ci}{t sm sq:ce}{i:f6}
def Dt{args:ap bi}{ts:ap ce}(al:o.op= .call {callee:=.value (.func f),args:=args,argTypes:=ts}):
 (execOp a.eval o).run X.P w=(callFunc f (args.map a.eval)).run X.P w:=by
 unfold execOp;rw[al];simp[resolve,Act.eval,Deferred.ofValue,invoke]
def atU{ts:ap ce}(aa:cI X.aF x=true)(ef:X.kJ f=true)(al:o.op= .call {callee:=.value (.func f),args:= #[x],argTypes:=ts})(ae:cy ι fr a aJ)(hw:bo X ι st w)
 (h:ZR x call fr st= .ok v aI st'):aI=fr∧cn X ι w v st st' (execOp a.eval o):=by
 cases h;refine⟨rfl,cn.same (v':=a.eval x) hw ?_ (ae.ak hw aa)⟩;rw[Dt al];simpa using X.EL f ef (a.eval x) w
def atA{y:bi}{ts:ap ce}(aa:cI X.aF x=true)(aL:cI X.aF y=true)(ef:X.kV f=true)(al:o.op= .call {callee:=.value (.func f),args:= #[x,y],argTypes:=ts})(ae:cy ι fr a aJ)(hw:bo X ι st w)
 (h:I0 x y call fr st= .ok v aI st'):aI=fr∧cn X ι w v st st' (execOp a.eval o):=by
 obtain⟨s,ah,g1⟩:=pC h (by simp);obtain⟨k,sE,hc,aM⟩:=jT g1 (by simp);obtain⟨ab,bc⟩:=iJ aM (by simp);obtain⟨c,aC,cf⟩:=mP bc (by simp);have fF:=s5 ab;clear h g1 aM bc;subst aC fF;have cU:=ae.ak hw aa;rw[ah]at cU;generalize cD:a.eval x=fu at cU;have fW:=ae.ak hw aL;rw[hc]at fW;generalize gy:a.eval y=rl at fW;cases cU;cases fW;obtain⟨e2,b3,fo⟩:=w7 cf;subst e2 b3 fo;refine⟨rfl,cn.same (v':=.int .i64 (bk (qV (UInt8.ofNat c) s.data.toList) (fun i=>.ofNat i) (.negSucc 0))) hw ?_ (.int _ _)⟩;rw[Dt al];have:=X.Eo f ef s (c:Int) w;simp only[zca,zaM,zbQ,cD,gy];rw[this];congr 2;have ep:s.size=s.data.toList.length:=(zbj (xs:=s.data)).symm;rw[XU,ep];have amH:(fun i:Nat=>s[i]! ==(c:Int).toNat.toUInt8)=(fun i:Nat=>s.data.toList[i]! ==UInt8.ofNat c):=by
  funext i;have:s[i]! =s.data.toList[i]! :=by
   have aC:s[i]! =s.data[i]! :=by
    by_cases af:i<s.size
    ·rw[getElem!_pos s i af,getElem!_pos s.data i af];rfl
    ·rw[getElem!_neg s i af,getElem!_neg s.data i af]
   rw[aC];simp[Array.getElem!_eq_getD]
  rw[this];rfl
 rw[amH];cases(List.range s.data.toList.length).find? (fun i=>s.data.toList[i]! ==UInt8.ofNat c)<;>rfl
def asO(ts:ap ce)(t:ce)(n c:Nat):Builtin.unsafeSliceData_ ts t #[.slice none n c]=pure (.pointer none):=rfl
def asP(ts:ap ce)(t:ce)(b:Addr)(n c:Nat)(hc:c≠0):Builtin.unsafeSliceData_ ts t #[.slice (some b) n c]=pure (.pointer (some b)):=by
 have:Builtin.unsafeSliceData_ ts t #[.slice (some b) n c]=(if c≠0 then pure (.pointer (some b))else do
  if(<-viewAt b.block).isSome then pure (.pointer (some b))
  else pure (.pointer (some ⟨<-newObj (.view b (<-elemOf t)),0,none⟩))):=rfl
 rw[this,zab hc]
def atW(aa:cI X.aF x=true)(al:o.op= .call {callee:=.builtin .unsafeSliceData,args:= #[x],argTypes:= #[t]})(ae:cy ι fr a aJ)(hw:bo X ι st w)
 (h:I4 x call fr st= .ok v aI st'):aI=fr∧cn X ι w v st st' (execOp a.eval o):=by
 obtain⟨b,n,c,hp,g1⟩:=vy h (by simp);have cU:=ae.ak hw aa;rw[hp]at cU;generalize cD:a.eval x=fu at cU;cases b with
 |none=>
  cases g1;cases cU;refine⟨rfl,cn.same (v':=.pointer none) hw ?_ .ns⟩;unfold execOp;rw[al];simp[resolve,invoke,builtin,asO,cD]
 |some b=>
  have aM:dQ c 0 aV.no (aV.ok (.pointer (some b)) fr st)=aV.ok v aI st':=g1;rw[pW]at aM;split at aM
  ·cases aM
  ·rename_i pa;cases aM;cases cU with
   |gN _ l off _ _ hl ah iQ=>
    have uB:off=l.cP+b.off:=by rcases iQ with h|⟨_,h,_⟩;exact h;exact absurd h pa
    subst uB;refine⟨rfl,cn.same (v':=.pointer (some ⟨l.cH,l.cP+b.off,none⟩)) hw ?_ (.ptr _ _ hl ah)⟩;unfold execOp;rw[al];simp[resolve,invoke,builtin,asP _ _ _ _ (c+l.ex) (by omega),cD]
def J8{C:ap be}(h:w.heap[b]? =some (.cells C e bg)):w.shape? b=some (e,C.size):=by simp[World.shape?,h]
def abH(P:d9){ad:Addr}{C:ap be}(h:w.heap[ad.block]? =some (.cells C e bg)):(Conv.seenAt ad).run P w= .ok ad w:=by
 simp[Conv.seenAt,viewAt,J8 h,Result.andThen]
def atn(aa:cI X.aF x=true)(al:o.op= .convert sm sq x)(ah:X.P.underlying sm=some (.pointer t))(aW:X.P.underlying sq=some .unsafePointer)(af:X.P.info? t=some i)(an:i.size≠0)
 (ae:cy ι fr a aJ) (hw:bo X ι st w) (h:IY x call fr st= .ok v aI st'):aI=fr∧cn X ι w v st st' (execOp a.eval o):=by
 obtain⟨p,hp,g1⟩:=pB h (by simp);obtain⟨ad,aC,aM⟩:=gh g1 (by simp);subst aC;obtain⟨qS,cs,elem,bg,a8,aR,bc⟩:=vY aM (by simp);obtain⟨aN,cf⟩:=jz bc (by simp);rw[fg]at aN;cases cf;obtain⟨l,hl,C,eA,hc⟩:=hw.ez _ _ aR (by simp);have qR:=hc.room;have cU:=ae.ak hw aa;rw[hp]at cU;generalize cD:a.eval x=fu at cU;cases cU with
 |ptr _ l' cx eB=>
  rw[hl]at cx;cases cx;refine⟨rfl,cn.same (v':=.pointer (some ⟨l.cH,l.cP+ad.off,none⟩)) hw ?_ (.ptr _ _ hl qS)⟩;unfold execOp;rw[al];have D3:¬(C.size<=l.cP+ad.off):=by omega
  simp[cD,convert,run_underlying ah,run_underlying aW,Result.andThen,Conv.unsafePointer,abH X.P (ad:=⟨l.cH,l.cP+ad.off,none⟩) hc.there,cellsIn,J8 hc.there,kt af,an,D3]
def atq(aa:cI X.aF x=true)(al:o.op= .convert sm sq x)(ah:X.P.underlying sm=some .unsafePointer)(aW:X.P.underlying sq=some (.pointer t))(af:X.P.info? t=some i)(an:i.size≠0)
 (ae:cy ι fr a aJ) (hw:bo X ι st w) (h:IZ t i.size x call fr st= .ok v aI st'):aI=fr∧cn X ι w v st st' (execOp a.eval o):=by
 obtain⟨p,hp,g1⟩:=pB h (by simp);obtain⟨ad,aC,aM⟩:=gh g1 (by simp);subst aC;obtain⟨qS,cs,elem,bg,a8,aR,bc⟩:=vY aM (by simp);obtain⟨AP,cf⟩:=Bu bc (by simp);obtain⟨h0,cL⟩:=kS cf (by simp);obtain⟨rR,ej⟩:=kS cL (by simp);obtain⟨p5,gu⟩:=kS ej (by simp);rw[fg]at p5;cases gu;subst AP rR;obtain⟨l,hl,C,eA,hc⟩:=hw.ez _ _ aR (by simp);have jg:=hc.plain rfl;have cU:=ae.ak hw aa;rw[hp]at cU;generalize cD:a.eval x=fu at cU;cases cU with
 |ptr _ l' cx eB=>
  rw[hl]at cx;cases cx;have lf:X.P.cellsOf elem=i.size:=by simp[Program.cellsOf,af]
  have iQ:l.cP+ad.off=0:=by omega
  have NA:(variablesAt ⟨l.cH,l.cP+ad.off,none⟩ elem 1).run X.P w= .ok true w:=by
   simp only[variablesAt,Sem.run_bind,run_program,Result.andThen,run_shape,J8 hc.there,Sem.run_pure];rw[Yu X.P elem _ _ 1 (by rw[lf];exact an) (by rw[iQ];simp) (by
    rw[iQ,lf,jg.2.2,p5];simp[Nat.div_self (zbm an)])]
  refine⟨rfl,cn.same (v':=.pointer (some ⟨l.cH,l.cP+ad.off,none⟩)) hw ?_ (.ptr _ _ hl qS)⟩;unfold execOp;rw[al];simp[cD,convert,run_underlying ah,run_underlying aW,Result.andThen,Conv.unsafePointer,abH X.P (ad:=⟨l.cH,l.cP+ad.off,none⟩) hc.there,kt af,an,NA]
end
section
variable{ι:bs}{fr aI:aP}{a:Act}{aJ:Nat}{st st':ay}{w:co}{o:Oper}{v:be}{call:bG}
variable{x:bi}{i:f6}
def atp{sm sq:ce}(aa:cI X.aF x=true)(al:o.op= .convert sm sq x)(ah:X.P.underlying sm=some .string)(aW:X.P.underlying sq=some (.slice e))(he:X.P.underlying e=some (.int .u8))
 (af:X.P.info? e=some i) (an:i.size=1) (ae:cy ι fr a aJ) (hw:bo X ι st w) (h:BH e x call fr st= .ok v aI st'):aI=fr∧tN X ι w v st st' (execOp a.eval o):=by
 obtain⟨s,hp,g1⟩:=pC h (by simp);obtain⟨hle,aM⟩:=jz g1 (by simp);rw[gV]at aM;simp only[fg]at hle aM;cases aM;have cU:=ae.ak hw aa;rw[hp]at cU;generalize cD:a.eval x=fu at cU;cases cU;have ep:s.size=s.data.toList.length:=(zbj (xs:=s.data)).symm
 let q:Question:=.appendCap s.size 0 e
 have MJ:s.size<=q.cut (w.tape w.drawn q):=by show s.size<=s.size+_;omega
 let C:ap be:=(s.data.map fun b=>Value.int .u8 b.toNat)++Array.replicate (q.cut (w.tape w.drawn q)-s.size) (.int .u8 0)
 have WK:C.size=q.cut (w.tape w.drawn q):=by
  simp only[C,Array.size_append,Array.size_map,Array.size_replicate];have:s.data.size=s.size:=rfl;omega
 have lf:X.P.cellsOf e=1:=by simp[Program.cellsOf,af,an]
 let w':co:={w with drawn:=w.drawn+1,heap:=w.heap.push (.cells C e (C.size,C.size+1))}
 have gg:(execOp a.eval o).run X.P w= .ok (.value (.slice (some ⟨w.heap.size,0,none⟩) s.size (q.cut (w.tape w.drawn q)))) w':=by
  unfold execOp;rw[al];have am1:(markStringish ⟨w.heap.size,0,none⟩).run X.P {w with drawn:=w.drawn+1,heap:=w.heap.push (.cells C e)}= .ok () w':=by
   simp[markStringish,World.shape?,World.freeze,Result.andThen,w'];apply zdg;intro j;rw[zdN];by_cases hj:w.heap.size=j
   ·subst hj;simp
   ·rw[zaa hj,zcH,zcH,zaa (Ne.symm hj),zaa (Ne.symm hj)]
  simp only[cD,convert,Sem.run_bind,run_underlying ah,run_underlying aW,Result.andThen,run_underlying he,Conv.stringToBytes,run_choose,Question.forced,zaU,if_false,newRow,run_newObj,Sem.run_pure];rw[am1]
 obtain⟨aS,ba,bx,dE,lH⟩:=hw.IN e (cs:=lQ s.data.toList) (cs':=lQ s.data.toList) (Qf ι _) (List.replicate (q.cut (w.tape w.drawn q)-s.size) (.int .u8 0)) (q.cut (w.tape w.drawn q)-s.size) (by
  rw[lf];simp) (C.size,C.size+1) (fun j hj=>by
   rw[FD]at hj;simp only[zbS,zbT]at hj;simp only;omega) w' (by
   show w.heap.push (.cells C e (C.size,C.size+1))=_;congr 2;apply Array.ext';rw[FD];simp[C])
 rw[lH]at ba bx dE;refine⟨rfl,_,_,_,_,w',rfl,by simp,gg,rfl,?_,ba,bx⟩;have:=bp.gN (ι:=iv ι st.ai ⟨w.heap.size,0,q.cut (w.tape w.drawn q)-s.size,id⟩) ⟨st.ai,0,none⟩ ⟨w.heap.size,0,q.cut (w.tape w.drawn q)-s.size,id⟩ 0 s.data.toList.length s.data.toList.length dE rfl (.inl rfl);rw[<-ep]at this⊢;rw[show s.size+(q.cut (w.tape w.drawn q)-s.size)=q.cut (w.tape w.drawn q) by omega]at this;exact this
theorem Yv(P:d9)(w:co)(b:Nat)(C:ap be)(e:ce)(bg:Nat×Nat)(h:w.heap[b]? =some (.cells C e bg)):∀(bw:ac Int) (o:Nat) (acc:f5),(C.toList.drop o).take bw.length=bw.map (Value.int .u8)->
 (loadBytes ⟨b,o,none⟩ acc bw.length).run P w= .ok ⟨⟨acc.data.toList++bw.map (fun n=>UInt8.ofNat n.toNat)⟩⟩ w
 |[],o,acc,_=>by simp[loadBytes]
 |n::bw,o,acc,hc=>by
  have kl:C[o]? =some (.int .u8 n):=by
   have:=congrArg (fun l=>l[0]?) hc;simpa using this
  have aN:o<C.toList.length:=by
   have:=(zbd.1 kl).1;simpa using this
  have yI:(C.toList.drop (o+1)).take bw.length=bw.map (Value.int .u8):=by
   rw[eX aN]at hc;simp only[zaq,List.take_succ_cons,zaM]at hc;exact(List.cons.inj hc).2
  simp only[zaq,loadBytes,Sem.run_bind,run_load,cell_of h,kl,Result.andThen,add_eq];rw[Yv P w b C e bg h bw (o+1) _ yI];congr 1;simp[ByteArray.data_push,Nat.toUInt8]
def at5{y:bi}{E1 t2:ce}(aa:cI X.aF x=true)(aL:cI X.aF y=true)(al:o.op= .call {callee:=.builtin .unsafeString,args:= #[x,y],argTypes:= #[E1,t2]})(iR:X.P.underlying E1=some (.pointer e))
 (af:X.P.info? e=some i) (an:i.size=1) (ae:cy ι fr a aJ) (hw:bo X ι st w) (h:I5 e x y call fr st= .ok v aI st'):aI=fr∧ky X ι w v st' (execOp a.eval o):=by
 obtain⟨p,hp,g1⟩:=pB h (by simp);obtain⟨k,ta,hn,aM⟩:=jT g1 (by simp);obtain⟨n,aC,bc⟩:=mP aM (by simp);clear h g1 aM;subst aC;have cU:=ae.ak hw aa;rw[hp]at cU;generalize cD:a.eval x=fu at cU;have fW:=ae.ak hw aL;rw[hn]at fW;generalize gy:a.eval y=rl at fW;cases fW;have lf:X.P.cellsOf e=1:=by simp[Program.cellsOf,af,an]
 have uH:∀{v':be} {w':co},(Builtin.unsafeString_ #[E1,t2] o.type #[a.eval x,a.eval y]).run X.P w= .ok v' w'->(execOp a.eval o).run X.P w= .ok (.value v') w':=by
  intro v' w' aE;unfold execOp;rw[al];simp only[resolve,zca,zaM,zbQ,Sem.run_bind,Sem.run_pure,Result.andThen,invoke,builtin,aE]
 rw[cD,gy]at uH;have HP:¬((n:Int)<0):=by omega
 have Nz:∀p:am Addr,∃(eg:String) (fh:RuntimeError) (j9:Unsupported) (nY:RuntimeError) (s9:Unsupported),Builtin.unsafeString_ #[E1,t2] o.type #[.pointer p,.int k (n:Int)]=(do
  let r<-asInt (.int k (n:Int))
  let some e:=(#[E1,t2]:ap ce)[0]? |stuck eg
  if r<0 then runtimePanic fh
  if r>IntKind.i64.max then unsupported j9
  match p with
  |none=>if r=0 then pure (.string .empty)else runtimePanic nY
  |some q=>if r=0 then pure (.string .empty)else if<-variablesAt q (<-elemOf e) r.toNat then do let s<-loadBytes q .empty r.toNat;freeze q r.toNat;pure (.string s)else unsupported s9):=fun p=>⟨default,_,_,_,_,rfl⟩
 rw[pW]at bc;split at bc
 ·rename_i h0;subst h0;cases bc;have D1:¬(((0:Nat):Int)>IntKind.i64.max):=by decide
  cases cU with
  |ns=>
   refine⟨rfl,ky.same (v':=.string .empty) hw (uH ?_) (.string _)⟩;obtain⟨eg,fh,j9,nY,s9,hu⟩:=Nz _;rw[hu];simp[asInt,asIntOf]
  |ptr ad l hl ah=>
   refine⟨rfl,ky.same (v':=.string .empty) hw (uH ?_) (.string _)⟩;obtain⟨eg,fh,j9,nY,s9,hu⟩:=Nz _;rw[hu];simp[asInt,asIntOf]
 ·rename_i h0;obtain⟨ad,aC,cf⟩:=gh bc (by simp);subst aC;obtain⟨Xk,cL⟩:=jz cf (by simp);obtain⟨qS,cs,el,bg,a8,aR,ej⟩:=vY cL (by simp);obtain⟨ou,gu⟩:=jz ej (by simp);obtain⟨rR,nO⟩:=kS gu (by simp);obtain⟨hlen,qF⟩:=v7 nO (by simp);obtain⟨bT,hb,qE⟩:=gh qF (by simp);rw[ks]at qE;cases qE;clear bc cf cL ej gu nO qF;subst rR;obtain⟨l,hl,C,eA,hc⟩:=hw.ez _ _ aR (by simp);have qR:=hc.room;obtain⟨bw,aC,e2⟩:=Lt hb;have awC:n<=1099511627776:=Xk;rw[zaA]at hlen;cases cU with
  |ptr _ l' cx eB=>
   rw[hl]at cx;cases cx;have kF:=hc.row ad.off n (by rw[zaA];exact hlen);have dR:(C.toList.drop (l.cP+ad.off)).take n=bw.map (Value.int .u8):=by
    rw[aC]at kF;have key:∀(bw:ac Int) (av:ac be),bJ ι (bw.map (Value.int .u8)) av->av=bw.map (Value.int .u8):=by
     intro bw
     induction bw with
     |nil=>intro av aL;rw[aL.w0];rfl
     |cons m ms a7=>
      intro av aL;obtain⟨y,jV,rfl,J,U⟩:=aL.cons_inv;cases J;rw[a7 jV U];rfl
    exact key bw _ kF
   have qN:bw.length=n:=by
    have:=congrArg List.length aC;simp at this;omega
   have uz:=Yv X.P w l.cH C el eA hc.there bw (l.cP+ad.off) .empty (by rw[qN];exact dR);rw[qN]at uz;have NA:(variablesAt ⟨l.cH,l.cP+ad.off,none⟩ el n).run X.P w= .ok true w:=by
    simp only[variablesAt,Sem.run_bind,run_program,Result.andThen,run_shape,J8 hc.there,Sem.run_pure];rw[Yu X.P el _ _ n (by rw[lf];omega) (by rw[lf];omega) (by rw[lf];simp;omega)]
   have cK:=(zbd.1 hc.there).1
   let He:Nat×Nat:=if eA.1==eA.2 then(l.cP+ad.off,l.cP+ad.off+n)else(min eA.1 (l.cP+ad.off),max eA.2 (l.cP+ad.off+n))
   have Hy:(w.freeze ⟨l.cH,l.cP+ad.off,none⟩ n).heap=w.heap.setIfInBounds l.cH (.cells C el He):=by
    simp only[World.freeze,zaa h0];apply zdg;intro j;rw[zdN];by_cases kj:l.cH=j
    ·subst kj;rw[zab rfl,hc.there,zdM];simp[cK,He]
    ·rw[zaa kj,zbt kj]
   obtain⟨t1,t2⟩:=bo.tB X hw aR (by simp) (fun ae=>by have:=ae.2;omega) hl (.cells cs el (ad.off,Nat.add ad.off n) a8) _ (w.freeze ⟨l.cH,l.cP+ad.off,none⟩ n) Hy (fun _ aW=>⟨C,He,⟨aW,hc.room,hc.cell,fun er=>by
    exfalso;have:ad.off+n<=ad.off:=er;omega,hc.plain⟩⟩) (by constructor<;>simp only[World.freeze,zaa h0])
   refine⟨rfl,ι,.value (.string ⟨⟨bT⟩⟩),_,uH ?_,.inl ⟨_,rfl,.string _⟩,t1,t2⟩;obtain⟨eg,fh,j9,nY,s9,hu⟩:=Nz _;rw[hu];have ag:¬((n:Int)>IntKind.i64.max):=by
    have:IntKind.i64.max=9223372036854775807:=by decide
    rw[this];omega
   have az:¬((n:Int)=0):=by omega
   simp only[asInt,asIntOf,Sem.run_bind,Sem.run_pure,Result.andThen,zck,zcl,zaa HP,zaa ag,zaa az,elemOf,run_underlying iR,NA,zbR,if_true,uz,run_freeze];rw[e2];simp
end
section
variable{ι:bs}{fr aI:aP}{a:Act}{aJ:Nat}{st st':ay}{w:co}{o:Oper}{v:be}{call:bG}
variable{t:ce}{x y eM m0:be}
def wQ:bi->Bool
 |.const _=>true
 |_=>false
def ah2{neg:Bool}{zH:ce}{x y:bi}{b:Bool}(al:o.op= .binOp (if neg then .neq else .eql) t x y zH)
 (aR:(eqGuard (if neg then .neq else .eql) t x y (a.eval x) (a.eval y)).run X.P w= .ok () w)
 (hb:∀op:BinOp,op= .eql∨op= .neq->binOp op t (a.eval x) (a.eval y)=(if op= .eql then do pure (.bool (<-Op.equal t (a.eval x) (a.eval y)))else do pure (.bool (!(<-Op.equal t (a.eval x) (a.eval y))))))
 (he:(Op.equal t (a.eval x) (a.eval y)).run X.P w= .ok b w):(execOp a.eval o).run X.P w= .ok (.value (.bool (cond neg (!b) b))) w:=by
 unfold execOp;rw[al];simp only[Sem.run_bind,aR,Result.andThen];cases neg
 ·simp only[zaU,if_false];rw[hb .eql (.inl rfl),zab rfl];simp[he,Result.andThen]
 ·simp only[if_true];rw[hb .neq (.inr rfl),zaa (by simp)];simp[he,Result.andThen]
def ahE(hu:P.underlying t=some .bool)(d:Nat)(x y:Bool):(Op.equalIn (d+1) t (.bool x) (.bool y)).run P w= .ok (x==y) w:=by
 simp[Op.equalIn,run_underlying hu,Result.andThen]
def ahJ{b:Bool}(n:Nat)(aa:bp ι x eM)(aL:bp ι y m0)(h:pX x y=some b)(hu:X.P.underlying t=some (.slice e)):
 (Op.equalIn (n+1) t eM m0).run X.P w= .ok b w:=by
 unfold pX at h;split at h
 ·cases h;cases aa;cases aL<;>simp[Op.equalIn,run_underlying hu,Result.andThen]
 ·cases h;cases aa;cases aL;simp[Op.equalIn,run_underlying hu,Result.andThen]
 ·cases h;cases aa;cases aL;simp[Op.equalIn,run_underlying hu,Result.andThen]
 ·cases h
def ahI{b:Bool}{k:ce}(n:Nat)(aa:bp ι x eM)(aL:bp ι y m0)(h:Dl x y=some b)(hu:X.P.underlying t=some (.map k e)):
 (Op.equalIn (n+1) t eM m0).run X.P w= .ok b w:=by
 unfold Dl at h;split at h
 ·cases h;cases aa;cases aL<;>simp[Op.equalIn,run_underlying hu,Result.andThen]
 ·cases h;cases aa;cases aL;simp[Op.equalIn,run_underlying hu,Result.andThen]
 ·cases h
def ahG{b:Bool}{p q:ap ce}{r:Bool}(n:Nat)(aa:bp ι x eM)(aL:bp ι y m0)(h:An x y=some b)(hu:X.P.underlying t=some (.func p q r)):
 (Op.equalIn (n+1) t eM m0).run X.P w= .ok b w:=by
 unfold An at h;split at h
 ·cases h;cases aa;cases aL;simp[Op.equalIn,run_underlying hu,Result.andThen]
 ·cases h;cases aa;cases aL;simp[Op.equalIn,run_underlying hu,Result.andThen]
 ·cases h;cases aa;cases aL;simp[Op.equalIn,run_underlying hu,Result.andThen]
 ·cases h
def ahH{b:Bool}{ms:ap (String×ce)}(n:Nat)(aa:bp ι x eM)(aL:bp ι y m0)(h:Dk x y=some b)(hu:X.P.underlying t=some (.interface ms)):
 (Op.equalIn (n+1) t eM m0).run X.P w= .ok b w:=by
 unfold Dk at h;split at h
 ·cases h;cases aa;cases aL;simp[Op.equalIn,run_underlying hu,Result.andThen]
 ·cases h;cases aa;cases aL;simp[Op.equalIn,run_underlying hu,Result.andThen]
 ·cases h;cases aa;cases aL;simp[Op.equalIn,run_underlying hu,Result.andThen]
 ·cases h
def ahK{b:Bool}{i:f6}(n:Nat)(aa:bp ι x eM)(aL:bp ι y m0)(h:sN x y=some b)(hu:X.P.underlying t=some (.pointer e))(af:X.P.info? e=some i)(an:i.size≠0):
 (Op.equalIn (n+1) t eM m0).run X.P w= .ok b w:=by
 unfold sN at h;split at h
 ·cases h;cases aa;cases aL<;>simp[Op.equalIn,run_underlying hu,Result.andThen]
 ·cases h;cases aa;cases aL;simp[Op.equalIn,run_underlying hu,Result.andThen]
 ·split at h
  ·rename_i p q hc;cases h;cases aa with
   |ptr _ l hl ah=>
    cases aL with
    |ptr _ iC rV jN=>
     rw[hc.1,rV]at hl;cases hl;simp[Op.equalIn,run_underlying hu,kt af,an,sameAddr,Result.andThen];rw[zaS];simp
  ·cases h
 ·cases h
inductive vE(P:Program)(t:TypeId)(x y:Operand):pE->Prop
 |tl (h:P.underlying t=some .bool):vE P t x y .tl
 |lk (e:TypeId) (h:P.underlying t=some (.slice e)):vE P t x y .lk
 |y3 (k e:TypeId) (h:P.underlying t=some (.map k e)):vE P t x y .y3
 |wY (p q:Array TypeId) (r:Bool) (h:P.underlying t=some (.func p q r)):vE P t x y .wY
 |wZ (ms:Array (String×TypeId)) (h:P.underlying t=some (.interface ms)) (hc:wQ x=true∨wQ y=true):vE P t x y .wZ
 |ptr (e:TypeId) (i:TypeInfo) (h:P.underlying t=some (.pointer e)) (af:P.info? e=some i) (an:i.size≠0):vE P t x y .ptr
def ahC(P:d9)(op:BinOp)(t:ce)(x y:bi)(hc:wQ x=true∨wQ y=true):(eqGuard op t x y .nilIface .nilIface).run P w= .ok () w:=by
 rcases hc with hc|hc
 ·cases x<;>simp[wQ]at hc;cases op<;>simp[eqGuard]
 ·cases y<;>simp[wQ]at hc;cases op<;>cases x<;>simp[eqGuard]
def att{neg:Bool}{e:pE}{zH:ce}{x y:bi}(aa:cI X.aF x=true)(aL:cI X.aF y=true)(al:o.op= .binOp (if neg then .neq else .eql) t x y zH)(bN:vE X.P t x y e)
 (ae:cy ι fr a aJ) (hw:bo X ι st w) (h:ZC neg e x y call fr st= .ok v aI st'):aI=fr∧cn X ι w v st st' (execOp a.eval o):=by
 obtain⟨b,hb,g⟩:=gh h (by simp);have cU:=ae.ak hw aa;have fW:=ae.ak hw aL;obtain⟨aC,e2,b3⟩:=w7 g;subst aC e2 b3;clear g h;generalize cD:a.eval x=fu at cU;generalize gy:a.eval y=rl at fW;have key:∀(_:(Op.equal t fu rl).run X.P w= .ok b w) (_:(eqGuard (if neg then .neq else .eql) t x y fu rl).run X.P w= .ok () w)
  (_:∀op:BinOp,op= .eql∨op= .neq->binOp op t fu rl=(if op= .eql then do pure (.bool (<-Op.equal t fu rl))else do pure (.bool (!(<-Op.equal t fu rl))))),
  fr=fr∧cn X ι w (.bool (cond neg (!b) b)) st st (execOp a.eval o):=by
  intro J U ag;exact⟨rfl,cn.same (v':=.bool (cond neg (!b) b)) hw (ah2 al (by rw[cD,gy];exact U) (by rw[cD,gy];exact ag) (by rw[cD,gy];exact J)) (.bool _)⟩
 cases bN with
 |tl hu=>
  have cK:Ao (fr.ak x) (fr.ak y)=some b:=hb;generalize fr.ak x=Dz at cK cU;generalize fr.ak y=DA at cK fW;unfold Ao at cK;split at cK
  ·cases cK;cases cU;cases fW;exact key (ahE hu 9999 _ _) (by cases neg<;>simp[eqGuard]) (by intro op dM;rcases dM with rfl|rfl<;>rfl)
  ·split at cK
   ·cases cK;cases cU;cases fW;rename_i ba kW bx fi ab;subst ab;refine⟨rfl,cn.same (v':=.bool (cond neg (!(kW==fi)) (kW==fi))) hw ?_ (.bool _)⟩;unfold execOp;rw[al];cases neg<;>simp[cD,gy,eqGuard,binOp,Op.intCmp]<;>rfl
   ·cases cK
  ·cases cK;cases cU;cases fW;rename_i s1 s2;refine⟨rfl,cn.same (v':=.bool (cond neg (!(s1.data.toList==s2.data.toList)) (s1.data.toList==s2.data.toList))) hw ?_ (.bool _)⟩;unfold execOp;rw[al];cases neg<;>simp only[cD,gy,Sem.run_bind,zaU,if_false,if_true,GW,Result.andThen,binOp,Op.stringOp,toList_eq]<;>rfl
  ·cases cK
 |lk e hu=>
  have cK:pX (fr.ak x) (fr.ak y)=some b:=hb;have J:=ahJ (w:=w) 9999 cU fW cK hu;generalize fr.ak x=Dz at cK cU;generalize fr.ak y=DA at cK fW;unfold pX at cK;split at cK<;>first|(cases cK;done)|(cases cK;cases cU;cases fW<;>exact key J (by cases neg<;>simp[eqGuard]) (by intro op dM;rcases dM with rfl|rfl<;>rfl))
 |y3 k e hu=>
  have cK:Dl (fr.ak x) (fr.ak y)=some b:=hb;have J:=ahI (w:=w) 9999 cU fW cK hu;generalize fr.ak x=Dz at cK cU;generalize fr.ak y=DA at cK fW;unfold Dl at cK;split at cK<;>first|(cases cK;done)|(cases cK;cases cU;cases fW<;>exact key J (by cases neg<;>simp[eqGuard]) (by intro op dM;rcases dM with rfl|rfl<;>rfl))
 |wY p q r hu=>
  have cK:An (fr.ak x) (fr.ak y)=some b:=hb;have J:=ahG (w:=w) 9999 cU fW cK hu;generalize fr.ak x=Dz at cK cU;generalize fr.ak y=DA at cK fW;unfold An at cK;split at cK<;>first|(cases cK;done)|(cases cK;cases cU;cases fW;exact key J (by cases neg<;>simp[eqGuard]) (by intro op dM;rcases dM with rfl|rfl<;>rfl))
 |wZ ms hu hc=>
  have cK:Dk (fr.ak x) (fr.ak y)=some b:=hb;have J:=ahH (w:=w) 9999 cU fW cK hu;generalize fr.ak x=Dz at cK cU;generalize fr.ak y=DA at cK fW;unfold Dk at cK;split at cK
  ·cases cK;cases cU;cases fW;exact key J (ahC X.P _ t x y hc) (by intro op dM;rcases dM with rfl|rfl<;>rfl)
  ·cases cK;cases cU;cases fW;exact key J (by cases neg<;>simp[eqGuard]) (by intro op dM;rcases dM with rfl|rfl<;>rfl)
  ·cases cK;cases cU;cases fW;exact key J (by cases neg<;>simp[eqGuard]) (by intro op dM;rcases dM with rfl|rfl<;>rfl)
  ·cases cK
 |ptr e i hu af an=>
  have cK:sN (fr.ak x) (fr.ak y)=some b:=hb;have J:=ahK (w:=w) 9999 cU fW cK hu af an;generalize fr.ak x=Dz at cK cU;generalize fr.ak y=DA at cK fW;unfold sN at cK;split at cK
  ·cases cK;cases cU;cases fW<;>exact key J (by cases neg<;>simp[eqGuard]) (by intro op dM;rcases dM with rfl|rfl<;>rfl)
  ·cases cK;cases cU;cases fW;exact key J (by cases neg<;>simp[eqGuard]) (by intro op dM;rcases dM with rfl|rfl<;>rfl)
  ·cases cU;cases fW;exact key J (by cases neg<;>simp[eqGuard]) (by intro op dM;rcases dM with rfl|rfl<;>rfl)
  ·cases cK
end
end Go.ar
namespace Go.ar
variable{a b:bi}{aF:Nat}
def OS:bi->bi->Bool
 |.tmp a,.tmp b=>Nat.beq a b
 |.const v,.const w=>dJ v w
 |.global a,.global b=>Nat.beq a b
 |.func a,.func b=>Nat.beq a b
 |_,_=>false
def aqG(h:OS a b=true):a=b:=by
 cases a<;>cases b<;>simp only[OS]at h<;>first|(cases h;done)|(rw[dD h])|(rw[nB _ _ h])
def b2(aF:Nat)(a b:bi):Bool:=OS a b&&cI aF b
def cQ(h:b2 aF a b=true):a=b∧cI aF b=true:=by
 unfold b2 at h;rw[bW]at h;exact⟨aqG h.1,h.2⟩
def lo(aF:Nat):ac bi->ac bi->Bool
 |[],[]=>true
 |a::as,b::bT=>b2 aF a b&&lo aF as bT
 |_,_=>false
theorem ti{aF:Nat}:∀{as bT:ac bi},lo aF as bT=true->as=bT∧∀x∈bT,cI aF x=true
 |[],[],_=>⟨rfl,by simp⟩
 |a::as,b::bT,h=>by
  simp only[lo,bW]at h;obtain⟨J,U⟩:=cQ h.1;obtain⟨ag,az⟩:=ti h.2;exact⟨by rw[J,ag],fun x aa=>by rcases zak.1 aa with rfl|aa;exact U;exact az x aa⟩
 |[],_::_,h=>by simp[lo]at h
 |_::_,[],h=>by simp[lo]at h
def mT(aF:Nat):am bi->am bi->Bool
 |none,none=>true
 |some a,some b=>b2 aF a b
 |_,_=>false
def w9{a b:am bi}(h:mT aF a b=true):a=b∧∀y,b=some y->cI aF y=true:=by
 cases a<;>cases b<;>simp only[mT]at h<;>first|(cases h;done)|skip
 ·exact⟨rfl,by simp⟩
 ·obtain⟨J,U⟩:=cQ h;exact⟨by rw[J],fun y aL=>by cases aL;exact U⟩
def sd(aF:Nat)(place:Nat->am (Nat×Nat)):ac (Nat×Nat×bi)->ac (Nat×bi)->Bool
 |[],[]=>true
 |(off,a2,x)::ps,(i,y)::dt=>
  (match place i with
   |some (o,s)=>Nat.beq off o&&Nat.beq a2 s
   |none=>false)&&b2 aF x y&&sd aF place ps dt
 |_,_=>false
theorem Jc{aF:Nat}{place:Nat->am (Nat×Nat)}:∀{ps:ac (Nat×Nat×bi)} {dt:ac (Nat×bi)},sd aF place ps dt=true->
 ps=dt.map (fun p=>(((place p.1).getD (0,0)).1,((place p.1).getD (0,0)).2,p.2))∧∀p∈dt,(place p.1).isSome∧cI aF p.2=true
 |[],[],_=>⟨rfl,by simp⟩
 |(off,a2,x)::ps,(i,y)::dt,h=>by
  simp only[sd,bW]at h;obtain⟨⟨J,U⟩,ag⟩:=h;obtain⟨aC,e2⟩:=cQ U;obtain⟨f1,f2⟩:=Jc ag;cases hp:place i with
  |none=>rw[hp]at J;cases J
  |some q=>
   obtain⟨o,s⟩:=q;rw[hp]at J;simp only[bW]at J;have fa:=dD J.1;have fR:=dD J.2;refine⟨by rw[f1,aC,fa,fR];simp[hp],fun p iR=> ?_⟩;rcases zak.1 iR with rfl|iR
   ·exact⟨by simp[hp],e2⟩
   ·exact f2 p iR
 |[],_::_,h=>by simp[sd]at h
 |_::_,[],h=>by simp[sd]at h
section
variable(P:d9)(aF:Nat)(kJ kV:ci->Bool)(keys:ce->am gb)(pP:ci->Bool)(eqs:ce->am Nat)(p9:ci->Bool)(ma:Nat)(qb:ci->am ce)
def qo(t:ce):am Bool:=(P.underlying t).map ry
def g0(t:ce):am Nat:=(P.info? t).map (·.size)
def sx(t:ce):am be:=(P.info? t).bind (·.zero)
def GY(t:ce)(e:pE)(x y:bi):Bool:=
 match e,P.underlying t with
 |.tl,some .bool=>true
 |.lk,some (.slice _)=>true
 |.y3,some (.map _ _)=>true
 |.wY,some (.func _ _ _)=>true
 |.wZ,some (.interface _)=>wQ x||wQ y
 |.ptr,some (.pointer el)=>match g0 P el with
  |some n=> !Nat.beq n 0
  |none=>false
 |_,_=>false
def ahN{t:ce}{e:pE}{x y:bi}(h:GY P t e x y=true):vE P t x y e:=by
 unfold GY at h;split at h
 ·rename_i hu;exact .tl hu
 ·rename_i hu;exact .lk _ hu
 ·rename_i hu;exact .y3 _ _ hu
 ·rename_i hu;exact .wY _ _ _ hu
 ·rename_i hu;exact .wZ _ hu (by simpa using h)
 ·rename_i hu;split at h
  ·rename_i n hn;unfold g0 at hn;obtain⟨i,af,e⟩:=zaO.1 hn;refine .ptr _ i hu af ?_;intro an;rw[<-e,an]at h;simp at h
  ·cases h
 ·cases h
def NY:gb->gb->Bool
 |.int k,.int k'=>decide (k=k')
 |.str,.str=>true
 |.arr k n,.arr k' ck=>decide (k=k')&&Nat.beq n ck
 |_,_=>false
def Ew(t:ce)(df:gb):Bool:=
 match P.underlying t with
 |some (.map fy _)=>(match keys fy with|some Yh=>NY df Yh|none=>false)
 |_=>false
def FI(op:Op)(y:vO):Bool:=
 match y,op with
 |.look df z ok m k,.lookup t fz k' w5=>b2 aF m fz&&b2 aF k k'&&(ok==w5)&&Ew P keys t df&&
  (match P.underlying t with|some (.map _ e)=>(match sx P e with|some v=>dJ z v&&kN z|none=>false)|_=>false)
 |.hd df m k v,.mapUpdate t fz k' v'|.hd df m k v,.insert t fz k' v'=>b2 aF m fz&&b2 aF k k'&&b2 aF v v'&&Ew P keys t df
 |.del df m k,.call {callee:=.builtin .delete,args:=⟨[fz,k']⟩,argTypes:=⟨[t,_]⟩}=>b2 aF m fz&&b2 aF k k'&&Ew P keys t df
 |.Bn m,.call {callee:=.builtin .len,args:=⟨[fz]⟩,argTypes:=⟨[t]⟩}=>b2 aF m fz&&(match P.underlying t with|some (.map _ _)=>true|_=>false)
 |.Bo m,.range t fz=>b2 aF m fz&&(match P.underlying t with|some (.map _ _)=>true|_=>false)
 |.Bl i,.entry iz=>b2 aF i iz
 |.q1 i,.next iz false=>b2 aF i iz
 |.Cg m,.range t fz=>b2 aF m fz&&(match P.underlying t with|some .string=>true|_=>false)
 |.Cf i,.next iz true=>b2 aF i iz
 |.Bm e a,.call {callee:=.value (.func f),args:=⟨[b]⟩,.. }=>b2 aF a b&&(match qb f with|some bL=>Nat.beq e bL|none=>false)
 |.z0 a,.call {callee:=.builtin .cap,args:=⟨[b]⟩,argTypes:=⟨[t]⟩}=>b2 aF a b&&(match P.underlying t with|some (.slice _)=>true|_=>false)
 |.xV gt a b,.binOp bh t a' eW _=>decide (bh=(if gt then .gtr else .leq))&&b2 aF a a'&&b2 aF b eW&&(match P.underlying t with|some (.int .i64)=>true|_=>false)
 |.idxs g a c,.call {callee:=.value (.func f),args:=⟨[b,d]⟩,.. }=>b2 aF a b&&b2 aF c d&&p9 f&&Nat.beq g ma
 |.bd a c,.call {callee:=.value (.func f),args:=⟨[b,d]⟩,.. }=>b2 aF a b&&b2 aF c d&&pP f
 |.ug neg n a b,.binOp bh t a' eW _=>decide (bh=(if neg then .neq else .eql))&&b2 aF a a'&&b2 aF b eW&&(match eqs t with|some ck=>Nat.beq n ck|none=>false)
 |_,_=>false
def avY(op:Op)(x:dd):Bool:=
 match x,op with
 |.ie a,.move b|.ie a,.assign b=>b2 aF a b
 |.pick c a b,.pick bE a' eW=>b2 aF c bE&&b2 aF a a'&&b2 aF b eW
 |.alloc z e,.alloc t=>Nat.beq e t&&(match sx P t with|some v=>mi z v.cells.toList&&nC z|none=>false)
 |.box e a,.box t b=>Nat.beq e t&&b2 aF a b
 |.build z ps,.build t parts=>
  (match sx P t with|some v=>mi z v.cells.toList&&nC z|none=>false)&&
  (match P.underlying t with
   |some (.struct fields)=>fields.toList.all (fun f=>(P.info? f.type).isSome)&&sd aF (fun j=>(fields.map fun f=>(f.offset,P.cellsOf f.type))[j]?) ps parts.toList
   |some (.array _ e)=>(match g0 P e with|some s=>sd aF (fun j=>some (j*s,s)) ps parts.toList|none=>false)
   |_=>false)
 |.pM e n z ps,.buildSlice t m parts=>
  Nat.beq n m&&(match P.underlying t with
   |some (.slice el)=>Nat.beq e el&&(match g0 P el,sx P el with
    |some s,some v=>Nat.ble (m*s) (2^24)&&mi z ((List.range (m*s)).map (fun j=>(if m*s=0 then(#[]:ap be)else v.cells)[j%(if m*s=0 then(#[]:ap be)else v.cells).size]!))&&nC z&&
     sd aF (fun j=>some (j*s,s)) ps parts.toList
    |_,_=>false)
   |_=>false)
 |.j8 a,.load t b=>b2 aF a b&&(match qo P t with|some g=> !g|none=>false)
 |.qY n a,.load t b=>b2 aF a b&&(match qo P t,g0 P t with|some g,some s=>g&&Nat.beq n s|_,_=>false)
 |.store n a x,.store t b y=>b2 aF a b&&b2 aF x y&&(match g0 P t with|some s=>Nat.beq n s|none=>false)
 |.tc a,.nilCheck b=>b2 aF a b
 |.bin o a b,.binOp bh _ a' eW _=>decide (o=bh)&&b2 aF a a'&&b2 aF b eW
 |.eqv neg e a b,.binOp bh t a' eW _=>decide (bh=(if neg then .neq else .eql))&&b2 aF a a'&&b2 aF b eW&&GY P t e a' eW
 |.un o a,.unOp bh _ b=>decide (o=bh)&&b2 aF a b
 |.tW k a,.convert s t b=>b2 aF a b&&(match P.underlying s,P.underlying t with|some _,some (.int k')=>decide (k=k')|_,_=>false)
 |.xT a,.convert s t b=>b2 aF a b&&(match P.underlying s,P.underlying t with|some _,some .string=>true|_,_=>false)
 |.z1 a,.convert s t b=>b2 aF a b&&(match P.underlying s,P.underlying t with|some (.slice e),some .string=>(match P.underlying e with|some (.int .u8)=>true|_=>false)|_,_=>false)
 |.v5 e a,.convert s t b=>b2 aF a b&&(match P.underlying s,P.underlying t with|some .string,some (.slice bL)=>Nat.beq e bL&&(match P.underlying bL,g0 P bL with|some (.int .u8),some 1=>true|_,_=>false)|_,_=>false)
 |.EF t a,.makeInterface hT b=>Nat.beq t hT&&b2 aF a b&&(match P.underlying hT with|some (.interface _)=>false|some _=>true|none=>false)
 |.sa (.func f) a c,.makeFunc (.func g) b d=>Nat.beq f g&&lo aF a b.toList&&lo aF c d.toList
 |.sa (.method f) a c,.makeFunc (.method g) b d=>f==g&&lo aF a b.toList&&lo aF c d.toList
 |.sb e bT z l c,.makeSlice t l' bE=>b2 aF l l'&&b2 aF c bE&&(match P.underlying t with
  |some (.slice el)=>Nat.beq e el&&(match P.info? el with
   |some i=>Nat.beq bT i.bytes&& !Nat.beq i.size 0&&(match i.zero with|some v=>mi z v.cells.toList&&nC z&&Nat.beq v.cells.toList.length i.size|none=>false)
   |none=>false)
  |_=>false)
 |.tw a aQ af,.slice t b r9 dG none=>b2 aF a b&&mT aF aQ r9&&mT aF af dG&&(match P.underlying t with|some .string=>true|_=>false)
 |.Ce n s a aQ af e7,.slice t b r9 dG qd=>b2 aF a b&&mT aF aQ r9&&mT aF af dG&&mT aF e7 qd&&(qd.isNone||dG.isSome)&&
  (match P.underlying t with|some (.array ck e)=>Nat.beq n ck&&(match g0 P e with|some bq=>Nat.beq s bq|none=>false)|_=>false)
 |.oO s a aQ af e7,.slice t b r9 dG qd=>b2 aF a b&&mT aF aQ r9&&mT aF af dG&&mT aF e7 qd&&(qd.isNone||dG.isSome)&&
  (match P.underlying t with|some (.slice e)=>(match g0 P e with|some bq=>Nat.beq s bq|none=>false)|_=>false)
 |.qB off a,.fieldAddr t b f=>b2 aF a b&&(match P.underlying t with
  |some (.struct fields)=>(match fields[f]? with|some fd=>Nat.beq off fd.offset&&(match g0 P fd.type with|some s=> !Nat.beq s 0|none=>false)|none=>false)
  |_=>false)
 |.pZ off a2 h7 a,.field t b f=>b2 aF a b&&(match P.underlying t with
  |some (.struct fields)=>(match fields[f]? with|some fd=>Nat.beq off fd.offset&&(match g0 P fd.type,qo P fd.type with|some s,some g=>Nat.beq a2 s&&(h7==g)|_,_=>false)|none=>false)
  |_=>false)
 |.qU n a2 a i,.indexAddr t b j=>b2 aF a b&&b2 aF i j&&(match P.underlying t with|some (.array ck e)=>Nat.beq n ck&&(match g0 P e with|some s=>Nat.beq a2 s|none=>false)|_=>false)
 |.l8 a2 a i,.indexAddr t b j=>b2 aF a b&&b2 aF i j&&(match P.underlying t with|some (.slice e)=>(match g0 P e with|some s=>Nat.beq a2 s|none=>false)|_=>false)
 |.uP a i,.index t b j=>b2 aF a b&&b2 aF i j&&(match P.underlying t with|some .string=>true|_=>false)
 |.Ii n a2 h7 a i,.index t b j=>b2 aF a b&&b2 aF i j&&(match P.underlying t with|some (.array ck e)=>Nat.beq n ck&&(match g0 P e,qo P e with|some s,some g=>Nat.beq a2 s&&(h7==g)|_,_=>false)|_=>false)
 |.Fz t z ok a,.typeAssert b _ hT w5=>b2 aF a b&&Nat.beq t hT&&(ok==w5)&&(match P.underlying hT with|some (.interface _)=>false|some _=>true|none=>false)&&(match sx P hT with|some v=>dJ z v&&kN z|none=>false)
 |.rL a i,.extract b j=>b2 aF a b&&Nat.beq i j
 |.call f as,.call {callee:=.value g,args,.. }=>b2 aF f g&&lo aF as args.toList&&(match g with|.func k=>((P.funcs[k]?).map (fun fn=>fn.body.isSome&& !(fn.name== "runtime.NumGoroutine"))).getD false|_=>true)
 |.ph a,.call {callee:=.builtin .len,args:=⟨[b]⟩,argTypes:=⟨[t]⟩}=>b2 aF a b&&(match P.underlying t with|some (.slice _)=>true|_=>false)
 |.uV a,.call {callee:=.builtin .len,args:=⟨[b]⟩,argTypes:=⟨[t]⟩}=>b2 aF a b&&(match P.underlying t with|some .string=>true|_=>false)
 |.yR n,.call {callee:=.builtin .len,args:=⟨[_]⟩,argTypes:=⟨[t]⟩}=>(match P.underlying t with|some (.array m _)=>Nat.beq n m|some (.pointer u)=>(match P.underlying u with|some (.array m _)=>Nat.beq n m|_=>false)|_=>false)
 |.app e a2 bT s a,.call {callee:=.builtin .append,args:=⟨[bq,b]⟩,argTypes:=⟨[t,u]⟩}=>b2 aF s bq&&b2 aF a b&&(match P.underlying t,P.underlying u with
  |some (.slice el),some d=>Nat.beq e el&&(match d with|.int _=>false|_=>true)&&(match P.info? el with
   |some i=>Nat.beq a2 i.size&&Nat.beq bT i.bytes&&(match i.zero with|some v=>Nat.beq v.cells.size i.size|none=>false)
   |none=>false)
  |_,_=>false)
 |.e7 a as,.call {callee:=.builtin .max,args:=⟨b::bT⟩,.. }=>b2 aF a b&&lo aF as bT
 |.y1 a as,.call {callee:=.builtin .min,args:=⟨b::bT⟩,.. }=>b2 aF a b&&lo aF as bT
 |.rF a2 d s,.call {callee:=.builtin .copy,args:=⟨[nG,bq]⟩,argTypes:=⟨[t,_]⟩}=>b2 aF d nG&&b2 aF s bq&&(match P.underlying t with|some (.slice e)=>(match g0 P e with|some n=>Nat.beq a2 n|none=>false)|_=>false)
 |.vl,.call {callee:=.builtin .recover,args:=⟨[]⟩,.. }=>true
 |.pS f as,.defer {callee:=.value g,args,.. }=>b2 aF f g&&lo aF as args.toList
 |.oI a,.panic b=>b2 aF a b
 |.C5 a,.convert s t b=>b2 aF a b&&(match P.underlying s,P.underlying t with|some (.pointer e),some .unsafePointer=>(match g0 P e with|some n=> !Nat.beq n 0|none=>false)|_,_=>false)
 |.C6 e n a,.convert s t b=>b2 aF a b&&(match P.underlying s,P.underlying t with|some .unsafePointer,some (.pointer bL)=>Nat.beq e bL&&(match g0 P bL with|some m=>Nat.beq n m&& !Nat.beq m 0|none=>false)|_,_=>false)
 |.B9 a,.call {callee:=.builtin .unsafeSliceData,args:=⟨[b]⟩,argTypes:=⟨[_]⟩}=>b2 aF a b
 |.tD e a n,.call {callee:=.builtin .unsafeString,args:=⟨[b,m]⟩,argTypes:=⟨[t,_]⟩}=>b2 aF a b&&b2 aF n m&&(match P.underlying t with|some (.pointer bL)=>Nat.beq e bL&&(match g0 P bL with|some 1=>true|_=>false)|_=>false)
 |.kV a c,.call {callee:=.value (.func f),args:=⟨[b,d]⟩,.. }=>b2 aF a b&&b2 aF c d&&kV f
 |.kJ a,.call {callee:=.value (.func f),args:=⟨[b]⟩,.. }=>b2 aF a b&&kJ f
 |.uY,.makeMap _ none=>true
 |.wV _,_=>true
 |.ext y,op=>FI P aF keys pP eqs p9 ma qb op y
 |.refuse,_=>true
 |_,_=>false
end
end Go.ar
namespace Go.ar
variable{X:Ctx}
section
variable{α β:Type}{r z:β}
variable{o:am bt}
def FE{v:be}{k:am Nat->β}(h:zz v k z=r)(an:z≠r):∃p,v= .map p∧k p=r:=by
 cases v<;>first|exact absurd h an|exact⟨_,rfl,h⟩
def yX{k:ac d8->Nat->β}(h:qa o k z=r)(an:z≠r):∃es c,o=some (.map es c)∧k es c=r:=by
 unfold qa at h;obtain⟨o,rfl,h⟩:=gh h an;cases o<;>first|exact absurd h an|exact⟨_,_,rfl,h⟩
def at6{k:f5->Nat->β}(h:P1 o k z=r)(an:z≠r):∃s p,o=some (.zs s p)∧k s p=r:=by
 unfold P1 at h;obtain⟨o,rfl,h⟩:=gh h an;cases o<;>first|exact absurd h an|exact⟨_,_,rfl,h⟩
def X4{k:am Nat->Nat->ac Nat->Nat->β}(h:Ih o k z=r)(an:z≠r):∃a b c d,o=some (.qZ a b c d)∧k a b c d=r:=by
 unfold Ih at h;obtain⟨o,rfl,h⟩:=gh h an;cases o<;>first|exact absurd h an|exact⟨_,_,_,_,rfl,h⟩
end
variable{es:ac d8}{k:be}{ι:bs}{df:gb}{clock k8:Nat}{v v':be}{e:d8}{j:Nat}{c:d8}
def gb.same(h:df.ok v=true)(aE:bp ι v v'):v'=v:=by
 cases df with
 |int k=>
  obtain⟨k',n,rfl,_⟩:=jT (v:=v) (z:=false) (r:=true) h (by decide);cases aE;rfl
 |str=>
  obtain⟨s,rfl,_⟩:=pC (v:=v) (z:=false) (r:=true) h (by decide);cases aE;rfl
 |arr k n=>
  obtain⟨xs,rfl,U⟩:=zy (v:=v) (z:=false) (r:=true) h (by decide);rw[bW,zaP]at U;cases aE with
  |agg _ av J hh=>
   congr 1;apply Array.ext
   ·exact J.symm
   ·intro i a b;have aa:=U.2 xs[i] (by simp);obtain⟨k',m,he,_⟩:=jT (v:=xs[i]) (z:=false) (r:=true) aa (by decide);have:=hh i b a;rw[he]at this⊢;generalize av[i]=y at this⊢;cases this;rfl
def uniq(h:es.Pairwise (fun a b=>a.key≠b.key)){a b:d8}(ha:a∈es)(hb:b∈es)(e:a.key=b.key):a=b:=by
 induction es with
 |nil=>cases ha
 |cons x xs a7=>
  rw[zdn]at h;rcases zak.1 ha with rfl|qH<;>rcases zak.1 hb with rfl|cK
  ·rfl
  ·exact absurd e (h.1 b cK)
  ·exact absurd e.symm (h.1 a qH)
  ·exact a7 h.2 qH cK
def EC(h:ko k es=some e):e∈es∧e.key=k:=by
 unfold ko at h;refine⟨zco h,?_⟩;have:=zcL h;exact(nB _ _ this).symm
def ID(h:ko k es=none):∀e∈es,e.key≠k:=by
 intro e he LV;unfold ko at h;have:=List.find?_eq_none.1 h e he;rw[LV,zB]at this;exact this rfl
def Im(h:wT df es=true)(he:e∈es):df.ok e.key=true:=
 zaP.1 h e he
def jH.find{bR:Nat->Nat}{C:ac d8}(h:jH ι bR es clock C k8){fy:ce}(dw:X.keys fy=some df)(ab:df.ok k=true)(he:wT df es=true)(w:co):
 ((Instr.findKey fy k C).run X.P w= .ok none w∧ko k es=none∧∀c∈C,c.key≠k)∨
 ∃e j c,(Instr.findKey fy k C).run X.P w= .ok (some (j,c.val)) w∧C[j]? =some c∧c.key=k∧ko k es=some e∧e∈es∧e.key=k∧bp ι e.val c.val∧c.born=bR e.born:=by
 obtain⟨K,bN⟩:=X.s4 fy df dw;obtain⟨l,hp,hlen,hl⟩:=h.same;have wF:∀(i:Nat) (a:i<l.length) (b:i<C.length),C[i].key=l[i].key:=by
  intro i a b;exact gb.same (Im he (hp.mem_iff.1 (dy a))) (hl i a b).1
 have ea:∀c∈C,∃l,keyOf X.P fy c.key=some l:=by
  intro c hc;obtain⟨i,af,rfl⟩:=zbn hc;have dG:i<l.length:=by omega
  rw[wF i dG af];exact bN _ (Im he (hp.mem_iff.1 (dy dG)))
 obtain⟨EA,yv⟩:=bN k ab;rcases K.find w yv C ea with⟨J,U⟩|⟨j,c,J,U,ag⟩
 ·left;refine⟨J,?_,U⟩;cases ae:ko k es with
  |none=>rfl
  |some e=>
   exfalso;obtain⟨eg,fh⟩:=EC ae;obtain⟨i,af,gw⟩:=zbn (hp.mem_iff.2 eg);have dG:i<C.length:=by omega
   exact U C[i] (dy dG) (by rw[wF i af dG,gw,fh])
 ·right;obtain⟨hj,wE⟩:=zaf.1 U;have mJ:j<l.length:=by omega
  have DW:l[j].key=k:=by rw[<-wF j mJ hj,wE,ag]
  have wH:l[j]∈es:=hp.mem_iff.1 (dy mJ);cases ae:ko k es with
  |none=>exact absurd DW (ID ae _ wH)
  |some e=>
   obtain⟨eg,fh⟩:=EC ae;have:e=l[j]:=uniq h.keys eg wH (by rw[fh,DW]);subst this;have:=hl j mJ hj;rw[wE]at this;exact⟨_,j,c,J,U,ag,rfl,wH,DW,this.2.1,this.2.2⟩
def jH.put{bR:Nat->Nat}{C:ac d8}(h:jH ι bR es clock C k8)(he:wT df es=true)(hj:C[j]? =some c)(hc:c.key=k)(aD:bp ι v v'):
 jH ι bR (Bk k v es) clock (C.set j {c with key:=k,val:=v'}) k8:=by
 obtain⟨l,hp,hlen,hl⟩:=h.same;have aw:∀e:d8,(cond (dJ k e.key) (⟨e.key,v,e.born⟩:d8) e).key=e.key:=by
  intro e;cases dJ k e.key<;>rfl
 have a0:∀e:d8,(cond (dJ k e.key) (⟨e.key,v,e.born⟩:d8) e).born=e.born:=by
  intro e;cases dJ k e.key<;>rfl
 have wF:∀(i:Nat) (a:i<l.length) (b:i<C.length),C[i].key=l[i].key:=by
  intro i a b;exact gb.same (Im he (hp.mem_iff.1 (dy a))) (hl i a b).1
 obtain⟨gT,wE⟩:=zaf.1 hj;refine⟨h.ki,h.ql,?_,?_,?_,l.map (fun e=>cond (dJ k e.key) ⟨e.key,v,e.born⟩ e),hp.map _,by simp[hlen],?_⟩
 ·intro e hm;obtain⟨bL,j3,rfl⟩:=zba.1 hm;rw[a0];exact h.born bL j3
 ·unfold Bk;rw[zdV];exact h.keys.imp (fun{a b} ib=>by rw[aw,aw];exact ib)
 ·unfold Bk;rw[zdV];exact h.vW.imp (fun{a b} ib=>by rw[a0,a0];exact ib)
 ·intro i a b;have a':i<l.length:=by simpa using a
  have eW:i<C.length:=by simpa using b
  rw[zcM,List.getElem_set];by_cases e:j=i
  ·subst e;rw[zab rfl];have ab:l[j].key=k:=by rw[<-wF j a' eW,wE,hc]
   have:dJ k l[j].key=true:=by rw[ab];exact zB k
   rw[this];have hh:=hl j a' eW;rw[wE]at hh;refine⟨?_,aD,hh.2.2⟩;have:=hh.1;rw[hc]at this;exact this
  ·rw[zaa e];have cd:dJ k l[i].key=false:=by
    rw[zbC];intro hq;have ab:=nB _ _ hq;have yr:j<l.length:=by omega
    have J:l[i].key=l[j].key:=by rw[<-ab,<-wF j yr gT,wE,hc]
    have qO:=(hp.symm.pairwise_iff (R:=fun a b:d8=>a.key≠b.key) (fun{a b} h=>h.symm)).1 h.keys;have U:i=j:=by
     rcases zcp i j with h|h|h
     ·exact absurd J (zbe.1 qO i j a' yr h)
     ·exact h
     ·exact absurd J.symm (zbe.1 qO j i yr a' h)
    exact e U.symm
   rw[cd];exact hl i a' eW
def jH.push{bR:Nat->Nat}{C:ac d8}(h:jH ι bR es clock C k8)(ab:bp ι k k)(hn:ko k es=none)(aD:bp ι v v'):
 jH ι bR (es++[⟨k,v,clock⟩]) (clock+1) (C++[⟨k,v',k8⟩]) (k8+1):=by
 obtain⟨l,hp,hlen,hl⟩:=h.same;have ah:=h.ql;refine⟨?_,⟨fun s t eB aW e=> ?_,fun s eB=> ?_,fun j=> ?_⟩,?_,?_,?_,l++[⟨k,v,clock⟩],hp.append_right _,by simp[hlen],?_⟩
 ·rw[h.ki,ah.up 1]
 ·rcases zai s clock with a|a<;>rcases zai t clock with b|b
  ·exact ah.inj s t a b e
  ·have:t=clock:=by omega
   subst this;have:=ah.lt s a;omega
  ·have:s=clock:=by omega
   subst this;have:=ah.lt t b;omega
  ·omega
 ·rw[ah.up 1];rcases zai s clock with a|a
  ·have:=ah.lt s a;omega
  ·have:s=clock:=by omega
   subst this;omega
 ·rw[show clock+1+j=clock+(1+j) by omega,ah.up,ah.up 1];omega
 ·intro e he;rcases zbF.1 he with he|he
  ·have:=h.born e he;omega
  ·have:e=⟨k,v,clock⟩:=by simpa using he
   subst this;exact zbo _
 ·rw[List.pairwise_append];refine⟨h.keys,by simp,fun a ha b hb=> ?_⟩;have:b=⟨k,v,clock⟩:=by simpa using hb
  subst this;exact ID hn a ha
 ·rw[List.pairwise_append];refine⟨h.vW,by simp,fun a ha b hb=> ?_⟩;have:b=⟨k,v,clock⟩:=by simpa using hb
  subst this;have:=h.born a ha;exact Nat.ne_of_lt this
 ·intro i a b;by_cases e:i<l.length
  ·rw[zdS e,zdS (by omega)];exact hl i e (by omega)
  ·have af:i=l.length:=by simp at a;omega
   subst af;rw[zdT (by omega),zdT (by omega)];simp only[hlen,zdo,List.getElem_cons_zero];exact⟨ab,aD,h.ki⟩
def jH.del{bR:Nat->Nat}{C:ac d8}(h:jH ι bR es clock C k8)(he:wT df es=true)(hj:C[j]? =some c)(hc:c.key=k):
 jH ι bR (Bj k es) clock (C.eraseIdx j) k8:=by
 obtain⟨l,hp,hlen,hl⟩:=h.same;have wF:∀(i:Nat) (a:i<l.length) (b:i<C.length),C[i].key=l[i].key:=by
  intro i a b;exact gb.same (Im he (hp.mem_iff.1 (dy a))) (hl i a b).1
 obtain⟨gT,wE⟩:=zaf.1 hj;have yr:j<l.length:=by omega
 have DW:l[j].key=k:=by rw[<-wF j yr gT,wE,hc]
 have qO:l.Pairwise (fun a b=>a.key≠b.key):=(hp.symm.pairwise_iff (R:=fun a b:d8=>a.key≠b.key) (fun{a b} h=>h.symm)).1 h.keys;have MQ:∀(l:ac d8) (j:Nat) (hj:j<l.length),l.Pairwise (fun a b=>a.key≠b.key)->l[j].key=k->l.filter (fun e=> !dJ k e.key)=l.eraseIdx j:=by
  intro l
  induction l with
  |nil=>intro j hj;simp at hj
  |cons x xs a7=>
   intro j hj qO ab;rw[zdn]at qO;cases j with
   |zero=>
    have aa:dJ k x.key=true:=by rw[show x.key=k from ab];exact zB k
    rw[List.filter_cons];simp only[aa,Bool.not_true,zaU,if_false,List.eraseIdx_cons_zero];rw[List.filter_eq_self];intro a ha;have:=qO.1 a ha;rw[show x.key=k from ab]at this;cases aD:dJ k a.key
    ·rfl
    ·exact absurd (nB _ _ aD) this
   |succ j=>
    have mJ:j<xs.length:=by simpa using hj
    have fF:xs[j].key=k:=by simpa using ab
    have aa:dJ k x.key=false:=by
     rw[zbC];intro hq;exact qO.1 xs[j] (dy mJ) (by rw[fF,nB _ _ hq])
    rw[List.filter_cons];simp only[aa,zdR,if_true,List.eraseIdx_cons_succ];rw[a7 j mJ qO.2 fF]
 refine⟨h.ki,h.ql,fun e hm=>h.born e (List.mem_filter.1 hm).1,h.keys.filter _,h.vW.filter _,l.eraseIdx j,?_,?_,?_⟩
 ·rw[<-MQ l j yr qO DW];exact hp.filter _
 ·rw[zew yr,zew gT,hlen]
 ·intro i a b;rw[List.getElem_eraseIdx,List.getElem_eraseIdx];split
  ·exact hl i _ _
  ·exact hl (i+1) _ _
section
variable{ι:bs}{fr aI:aP}{a:Act}{aJ:Nat}{st st':ay}{w:co}{o:Oper}{v:be}{call:bG}
open Go.MapKept
variable{fy:ce}{m:bi}{t kk:ce}
def aio(dw:X.keys fy=some df)(ab:df.ok k=true)(w:co):(Instr.findKey fy k []).run X.P w= .ok none w:=by
 obtain⟨K,bN⟩:=X.s4 fy df dw;obtain⟨EA,yv⟩:=bN k ab;rcases K.find w yv [] (by simp)with⟨J,_⟩|⟨j,c,_,U,_⟩
 ·exact J
 ·simp at U
def xS(dw:X.keys fy=some df)(ab:df.ok k=true)(em:Bool)(w:co):(Instr.checkKey em 10000 fy k).run X.P w= .ok () w:=by
 obtain⟨K,bN⟩:=X.s4 fy df dw;obtain⟨EA,yv⟩:=bN k ab;exact K.check w em yv
def atI{z:be}{ok:Bool}{k:bi}{i:f6}(hm:cI X.aF m=true)(ab:cI X.aF k=true)(al:o.op= .lookup t m k ok)(hu:X.P.underlying t=some (.map fy kk))
 (dw:X.keys fy=some df) (af:X.P.info? kk=some i) (an:i.zero=some z) (A8:kN z=true) (ae:cy ι fr a aJ) (hw:bo X ι st w)
 (h:nM fr st (.look df z ok m k)= .ok v aI st'):aI=fr∧cn X ι w v st st' (execOp a.eval o):=by
 obtain⟨iO,h⟩:=iJ h (by simp);obtain⟨r,aE,h⟩:=FE h (by simp);have wG:a.eval k=fr.ak k:=gb.same iO (ae.ak hw ab);have jL:=ae.ak hw hm;rw[aE]at jL;generalize nS:a.eval m=ie at jL;have H9:=vB (P:=X.P) af an w;have A9:bp ι z z:=bp.pure ι z A8;cases r with
 |none=>
  cases jL;have h:aV.ok (cond ok (.tuple #[z,.bool false]) z) fr st= .ok v aI st':=h;cases h;refine⟨rfl,cn.same (v':=cond ok (.tuple #[z,.bool false]) z) hw ?_ ?_⟩
  ·unfold execOp;rw[al];simp only[nS,wG,Instr.lookup,Sem.run_bind,run_underlying hu,Result.andThen,Sem.run_pure,xS dw iO,aio dw iO,H9];cases ok<;>rfl
  ·cases ok
   ·exact A9
   ·exact bp.n0 (bJ.cons A9 (bJ.cons (.bool _) (bJ.nil ι)))
 |some id=>
  have h:qa (st.h.get id) (fun es _=>cond (wT df es) (bk (ko (fr.ak k) es) (fun e=>.ok (cond ok (.tuple #[e.val,.bool true]) e.val) fr st) (.ok (cond ok (.tuple #[z,.bool false]) z) fr st)) .no) .no=aV.ok v aI st':=h;obtain⟨es,c,aR,h⟩:=yX h (by simp);obtain⟨ys,h⟩:=iJ h (by simp);obtain⟨l,hl,h0,jK,C,bE,hC,cT⟩:=hw.ez _ _ aR (by simp);cases jL with
  |map _ b bR hb=>
   rw[hl]at hb;cases hb;have hC:w.heap[b]? =some (.map C bE):=hC;rcases cT.find (X:=X) dw iO ys w with⟨J,U,_⟩|⟨e,j,sE,J,U,ag,az,a4,cl,dn,g6⟩
   ·rw[U]at h;cases h;refine⟨rfl,cn.same (v':=cond ok (.tuple #[z,.bool false]) z) hw ?_ ?_⟩
    ·unfold execOp;rw[al];simp only[nS,wG,Instr.lookup,Sem.run_bind,run_underlying hu,Result.andThen,Sem.run_pure,MapKept.run_getObj_map hC,xS dw iO,J,H9];cases ok<;>rfl
    ·cases ok
     ·exact A9
     ·exact bp.n0 (bJ.cons A9 (bJ.cons (.bool _) (bJ.nil ι)))
   ·rw[az]at h;cases h;refine⟨rfl,cn.same (v':=cond ok (.tuple #[sE.val,.bool true]) sE.val) hw ?_ ?_⟩
    ·unfold execOp;rw[al];simp only[nS,wG,Instr.lookup,Sem.run_bind,run_underlying hu,Result.andThen,Sem.run_pure,MapKept.run_getObj_map hC,xS dw iO,J];cases ok<;>rfl
    ·cases ok
     ·exact dn
     ·exact bp.n0 (bJ.cons dn (bJ.cons (.bool _) (bJ.nil ι)))
def atN(hm:cI X.aF m=true)(al:o.op= .call {callee:=.builtin .len,args:= #[m],argTypes:= #[t]})(hu:X.P.underlying t=some (.map fy kk))(ae:cy ι fr a aJ)(hw:bo X ι st w)
 (h:nM fr st (.Bn m)= .ok v aI st'):aI=fr∧cn X ι w v st st' (execOp a.eval o):=by
 obtain⟨r,aE,h⟩:=FE h (by simp);have jL:=ae.ak hw hm;rw[aE]at jL;generalize nS:a.eval m=ie at jL;cases r with
 |none=>
  cases jL;have h:aV.ok (.int .i64 0) fr st= .ok v aI st':=h;cases h;refine⟨rfl,cn.same (v':=.int .i64 0) hw ?_ (.int _ _)⟩;unfold execOp;rw[al];simp[resolve,invoke,builtin,nS,Builtin.len_,run_underlying hu,Result.andThen,goInt]
 |some id=>
  have h:qa (st.h.get id) (fun es _=>gm (db es) fun n=>aV.ok (.int .i64 (.ofNat n)) fr st) .no= .ok v aI st':=h;obtain⟨es,c,aR,h⟩:=yX h (by simp);rw[Aw,fg]at h;cases h;obtain⟨l,hl,h0,jK,C,bE,hC,cT⟩:=hw.ez _ _ aR (by simp);cases jL with
  |map _ b bR hb=>
   rw[hl]at hb;cases hb;have hC:w.heap[b]? =some (.map C bE):=hC;obtain⟨l,hp,hlen,_⟩:=cT.same;have e:es.length=C.size:=by rw[<-hp.length_eq,hlen];simp
   refine⟨rfl,cn.same (v':=.int .i64 es.length) hw ?_ (.int _ _)⟩;unfold execOp;rw[al];simp[resolve,invoke,builtin,nS,Builtin.len_,run_underlying hu,Result.andThen,goInt,MapKept.run_getObj_map hC,e]
end
