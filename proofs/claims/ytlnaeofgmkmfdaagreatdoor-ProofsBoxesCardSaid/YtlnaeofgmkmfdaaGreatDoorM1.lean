/- An abstract machine, and that its evaluations stand for runs of the model (part 1); no condition. -/
import Derived.Calls
import Derived.Laws.Cells
import Derived.Maps.Keyed
import Derived.Lib.Strings
import Derived.KernelRfl
noncomputable section
set_option linter.all false
namespace Go.an
universe u
def zaa:=@if_neg
def zab:=@if_pos
def zac:=@List.getElem?_eq_some_iff
def zad:=@decide_eq_false
def zae:=@decide_eq_true
def zaf:=@Nat.zero_le
def zag:=@Nat.le_trans
def zah:=@List.mem_cons
def zai:=@Nat.mod_lt
def zaj:=@Nat.lt_or_ge
def zak:=@Nat.add_mul
def zal:=@List.mem_of_getElem?
def zam:=@Nat.mul_comm
def zan:=@Nat.pow_succ
def zao:=@List.length_take
def zap:=@List.length_append
def zaq:=@List.drop_zero
def zar:=@Nat.zero_mul
def zas:=@Nat.zero_add
def zat:=@Nat.pow_add
def zau:=@List.take_of_length_le
def zav:=@List.getElem?_append_right
def zaw:=@List.getElem?_drop
def zax:=@Nat.beq_refl
def zay:=@List.length_cons
def zaz:=@List.length_drop
def zaA:=@Nat.mul_assoc
def zaB:=@Array.getElem_toList
def zaC:=@List.mem_cons_of_mem
def zaD:=@List.getElem?_append_left
def zaE:=@Nat.two_pow_pos
def zaF:=@Nat.min_eq_left
def zaG:=@List.getElem?_set
def zaH:=@List.drop_eq_nil_of_le
def zaI:=@Nat.mul_add
def zaJ:=@List.length_reverse
def zaK:=@List.getElem?_take
def zaL:=@Nat.pow_le_pow_right
def zaM:=@beq_eq_false_iff_ne
def zaN:=@List.all_eq_true
def zaO:=@Nat.le_refl
def zaP:=@List.take_succ_eq_append_getElem
def zaQ:=@List.map_cons
def zaR:=@Option.map_eq_some_iff
def zaS:=@List.mem_iff_getElem?
def zaT:=@List.getElem_set_self
def zaU:=@Bool.eq_iff_iff
def zaV:=@List.take_set_of_le
def zaW:=@Bool.false_eq_true
def zaX:=@List.eq_nil_of_length_eq_zero
def zaY:=@Int.natCast_mul
def zaZ:=@Nat.le_succ
def zba:=@Nat.add_zero
def zbb:=@Int.toNat_natCast
def zbc:=@List.mem_map
def zbd:=@of_decide_eq_true
def zbe:=@Nat.le_succ_of_le
def zbf:=@List.mem_cons_self
def zbg:=@Nat.div_le_self
def zbh:=@Array.getElem?_eq_some_iff
def zbi:=@List.length_pos_iff
def zbj:=@Nat.mul_one
def zbk:=@List.pairwise_iff_getElem
def zbl:=@List.mem_append
def zbm:=@Nat.one_mul
def zbn:=@List.getElem?_set_ne
def zbo:=@Nat.le_of_lt
def zbp:=@List.take_append_drop
def zbq:=@List.getElem?_eq_none
def zbr:=@Array.length_toList
def zbs:=@Nat.pos_of_ne_zero
def zbt:=@List.getElem_of_mem
def zbu:=@List.drop_drop
def zbv:=@List.length_set
def zbw:=@Int.mul_assoc
def zbx:=@Nat.mul_ne_zero
def zby:=@Array.getElem?_setIfInBounds_ne
def zbz:=@BitVec.ofInt_natCast
def zbA:=@List.ext_getElem?
def zbB:=@List.length_map
def zbC:=@List.getElem_inj
def zbD:=@Nat.lt_of_le_of_lt
def zbE:=@Int.sign_eq_one_of_pos
def zbF:=@List.append_assoc
def zbG:=@Bool.eq_false_iff
def zbH:=@Option.isSome_iff_exists
def zbI:=@Nat.add_assoc
def zbJ:=@Nat.lt_succ_self
def zbK:=@Option.bind_eq_some_iff
def zbL:=@eq_of_beq
def zbM:=@List.mem_of_mem_take
def zbN:=@Nat.div_add_mod
def zbO:=@Nat.div_eq_of_lt
def zbP:=@Nat.sub_le
def zbQ:=@Array.getElem?_eq_getElem
def zbR:=@List.take_length
def zbS:=@List.drop_of_length_le
def zbT:=@Nat.pow_mul
def zbU:=@Nat.le_div_iff_mul_le
def zbV:=@Nat.pow_zero
def zbW:=@Nat.eq_of_beq_eq_true
def zbX:=@List.map_nil
def zbY:=@Nat.add_comm
def zbZ:=@Nat.sub_self
def zca:=@Nat.mul_pos
def zcb:=@Nat.div_one
def zcc:=@Int.sign_eq_neg_one_of_neg
def zcd:=@Int.natAbs_mul
def zce:=@List.not_mem_nil
def zcf:=@List.getElem?_eq_getElem
def zcg:=@Bool.and_eq_true
def zch:=@Int.neg_mul
def zci:=@Nat.le_add_right
def zcj:=@List.getElem?_toArray
def zck:=@List.getElem?_cons_zero
def zcl:=@List.map_map
def zcm:=@List.map_toArray
def zcn:=@UInt8.toNat_inj
def zco:=@List.mem_of_find?_eq_some
def zcp:=@List.getElem_map
def zcq:=@Nat.lt_trichotomy
def zcr:=@Nat.not_lt_zero
def zcs:=@Bool.or_eq_true
def zct:=@List.mem_flatMap
def zcu:=@List.take_append_of_le_length
def zcv:=@Nat.add_eq
def zcw:=@Nat.mul_eq
def zcx:=@List.mem_of_mem_drop
def zcy:=@List.eq_nil_or_concat
def zcz:=@List.concat_eq_append
def zcA:=@Nat.pow_pos
def zcB:=@Nat.mul_zero
def zcC:=@Rat.neg_num
def zcD:=@Int.sign_mul_natAbs
def zcE:=@Int.sign_eq_zero_iff_zero
def zcF:=@Rat.not_lt
def zcG:=@List.reverse_append
def zcH:=@Int.ofNat_inj
def zcI:=@List.drop_eq_getElem_cons
def zcJ:=@Array.getElem?_push
def zcK:=@List.drop_set_of_lt
def zcL:=@Nat.succ_mul
def zcM:=@List.find?_some
def zcN:=@List.mem_range
def zcO:=@Bool.true_or
def zcP:=@List.any_eq_true
def zcQ:=@List.flatMap_cons
def zcR:=@List.getElem?_map
def zcS:=@Nat.eq_zero_or_pos
def zcT:=@Nat.lt_succ_of_lt
def zcU:=@List.mem_append_left
def zcV:=@List.drop_length
def zcW:=@Nat.div_lt_iff_lt_mul
def zcX:=@Nat.div_div_eq_div_mul
def zcY:=@Nat.pow_lt_pow_iff_right
def zcZ:=@Nat.div_pos
def zda:=@Int.natAbs_neg
def zdb:=@Rat.neg_den
def zdc:=@Rat.add_def'
def zdd:=@Nat.ble_eq_true_of_le
def zde:=@Array.ext_getElem?
def zdf:=@Array.toList_extract
def zdg:=@List.extract_eq_take_drop
def zdh:=@List.foldl_cons
def zdi:=@List.mapM_cons
def zdj:=@List.range_succ_eq_map
def zdk:=@List.pairwise_cons
def zdl:=@Array.mem_filter
def zdm:=@Nat.le_of_eq
def zdn:=@List.all_cons
def zdo:=@BitVec.toNat_ofNat
def zdp:=@List.take_take
def zdq:=@List.nodup_nil
def zdr:=@List.drop_left'
def zds:=@Nat.not_lt
def zdt:=@Nat.succ_pos
def zdu:=@Nat.mul_le_mul
def zdv:=@List.drop_set
def zdw:=@Nat.gcd_comm
def zdx:=@Nat.gcd_dvd_left
def zdy:=@Rat.sub_eq_add_neg
def zdz:=@Int.natAbs_pow
def zdA:=@Nat.pow_le_pow_left
def zdB:=@List.dropWhile_cons
def zdC:=@List.append_eq_nil_iff
def zdD:=@Nat.lt_of_lt_of_le
def zdE:=@Nat.mul_le_mul_right
def zdF:=@List.getElem_mem
def zdG:=@List.getElem_take
def zdH:=@List.getElem_drop
def zdI:=@Array.getElem?_setIfInBounds
def zdJ:=@Array.getElem?_modify
def zdK:=@Option.getD_some
def zdL:=@Nat.le_mul_of_pos_right
def zdM:=@List.getElem?_cons_succ
def zdN:=@Bool.not_false
def zdO:=@List.getElem_append_left
def zdP:=@List.getElem_append_right
def zdQ:=@List.find?_cons
def zdR:=@List.pairwise_map
def zdS:=@List.countP_cons
def zdT:=@Bool.and_false
def zdU:=@List.mem_zipIdx_iff_getElem?
def zdV:=@List.flatten_cons
def zdW:=@List.isEmpty_eq_false_iff
def zdX:=@List.drop_take
def zdY:=@List.nodup_append
def zdZ:=@List.drop_append_of_le_length
def zea:=@List.replicate_succ
def zeb:=@List.take_left'
def zec:=@Nat.add_sub_cancel_left
def zed:=@List.length_range'
def zee:=@List.mem_append_right
def zef:=@List.length_range
def zeg:=@List.map_drop
def zeh:=@Nat.add_mul_div_left
def zei:=@Nat.add_mul_mod_self_left
def zej:=@List.length_eq_one_iff
def zek:=@Nat.div_mul_le_self
def zel:=@Nat.mul_lt_mul''
def zem:=@Nat.gcd_pos_of_pos_left
def zen:=@List.length_eq_zero_iff
def zeo:=@Nat.gcd_one_right
def zep:=@Nat.gcd_le_right
def zeq:=@List.append_nil
def zer:=@Int.natCast_pow
def zes:=@Nat.div_lt_of_lt_mul
def zet:=@Nat.gcd_zero_left
def zeu:=@List.mem_reverse
def zev:=@List.all_append
def zew:=@Bool.false_or
def zex:=@List.mem_singleton
def zey:=@Array.mapM_eq_mapM_toList
def zez:=@List.length_eraseIdx_of_lt
def zeA:=@List.isPrefixOf_iff_prefix
def zeB:=@Nat.two_pow_add_eq_or_of_lt
def zeC:=@List.getElem?_replicate
def zeD:=@Nat.mul_lt_mul_of_pos_right
abbrev ac(α:Type u):=List α
abbrev am(α:Type u):=Option α
abbrev be(α:Type u):=Array α
abbrev bi:=Value
abbrev bv:=Operand
abbrev ce:=UInt8
abbrev ci:=TypeId
abbrev co:=FuncId
abbrev d7:=World
abbrev d8:=IntKind
abbrev d9:=MapEntry
abbrev f5:=Program
abbrev f6:=ByteArray
abbrev f7:=TypeInfo
variable{n m:Nat}{α:Type u}{i:Nat}{l:ac α}
def bg(h:i<l.length):l[i]? =some l[i]:=zcf h
def b1(a b:Bool):((a&&b)=true)=(a=true∧b=true):=zcg a b
def dI(h:Nat.beq n m=true):n=m:=zbW h
def fx{k:Nat}(h:n<m)(g:m<=k):n<k:=zdD h g
def ix(k:Nat)(h:m<=n):m*k<=n*k:=zdE k h
def nQ(k:Nat)(h:m<=n):k*m<=k*n:=Nat.mul_le_mul_left k h
def hy{a b:Nat}(h:a<b):a%b=a:=Nat.mod_eq_of_lt h
def cf(n:Nat):n<=n:=zaO n
def hx(h:i<l.length):l.drop i=l[i]::l.drop (i+1):=zcI h
def dp(h:n<l.length):l[n]∈l:=zdF h
def jw(h:Nat.ble n m=true):n<=m:=Nat.le_of_ble_eq_true h
inductive aq(α:Type)where
 |nil:aq α
 |node (l:aq α) (v:Option α) (r:aq α):aq α
namespace aq
variable{α β:Type}
def get(t:aq α):Nat->am α:=
 aq.rec (motive:=fun _=>Nat->am α) (fun _=>none)
  (fun _ v _ uA bc n=>Nat.rec (motive:=fun _=>am α) v (fun m _=>Nat.rec (motive:=fun _=>am α) (uA (Nat.div m 2)) (fun _ _=>bc (Nat.div m 2)) (Nat.mod m 2)) n) t
def jd(f:Nat):aq α->Nat->α->(aq α->β)->β:=
 Nat.rec (motive:=fun _=>aq α->Nat->α->(aq α->β)->β) (fun t _ _ k=>k t)
  (fun _ ba t n x k=>
   aq.rec (motive:=fun _=>β)
    (Nat.rec (motive:=fun _=>β) (k (.node .nil (some x) .nil))
     (fun m _=>Nat.rec (motive:=fun _=>β) (ba .nil (Nat.div m 2) x fun l'=>k (.node l' none .nil)) (fun _ _=>ba .nil (Nat.div m 2) x fun dV=>k (.node .nil none dV)) (Nat.mod m 2)) n)
    (fun l v r _ _=>
     Nat.rec (motive:=fun _=>β) (k (.node l (some x) r))
      (fun m _=>Nat.rec (motive:=fun _=>β) (ba l (Nat.div m 2) x fun l'=>k (.node l' v r)) (fun _ _=>ba r (Nat.div m 2) x fun dV=>k (.node l v dV)) (Nat.mod m 2)) n) t) f
def set(t:aq α)(n:Nat)(x:α):aq α:=jd (Nat.succ n) t n x id
def Zs(v:am α)(r:aq α)(l:aq α):aq α:=
 aq.rec (motive:=fun _=>aq α) (.node .nil v r) (fun a b c _ _=>.node (.node a b c) v r) l
def Zt(l:aq α)(v:am α)(r:aq α):aq α:=
 aq.rec (motive:=fun _=>aq α) (.node l v .nil) (fun a b c _ _=>.node l v (.node a b c)) r
def JA(ba:aq α->Nat->α->aq α)(l:aq α)(v:am α)(r:aq α)(m:Nat)(x:α):aq α:=
 Nat.rec (motive:=fun _=>aq α) (Zs v r (ba l (Nat.div m 2) x)) (fun _ _=>Zt l v (ba r (Nat.div m 2) x)) (Nat.mod m 2)
def Jz(ba:aq α->Nat->α->aq α)(l:aq α)(v:am α)(r:aq α)(n:Nat)(x:α):aq α:=
 Nat.rec (motive:=fun _=>aq α) (.node l (some x) r) (fun m _=>JA ba l v r m x) n
def arq(ba:aq α->Nat->α->aq α)(t:aq α)(n:Nat)(x:α):aq α:=
 aq.rec (motive:=fun _=>aq α) (Jz ba .nil none .nil n x) (fun l v r _ _=>Jz ba l v r n x) t
def lg(f:Nat):aq α->Nat->α->aq α:=
 Nat.rec (motive:=fun _=>aq α->Nat->α->aq α) (fun t _ _=>t) (fun _ ba=>arq ba) f
def fin(t:aq α)(k:aq α->β):β:=
 aq.rec (motive:=fun _=>β) (k .nil) (fun a b c _ _=>k (.node a b c)) t
end aq
inductive qw where
 |tG
 |lD
 |zu
 |xh
 |xi
 |ptr
 |agg (ps:List (Nat×Nat×Bool×qw))
inductive fQ where
 |int (k:IntKind)
 |str
 |arr (k:IntKind) (n:Nat)
inductive v5 where
 |look (c2:fQ) (zero:Value) (ok:Bool) (m k:Operand)
 |hv (c2:fQ) (m k v:Operand)
 |del (c2:fQ) (m k:Operand)
 |BO (m:Operand)
 |BP (m:Operand)
 |BN (it:Operand)
 |bj (s c:Operand)
 |rR (neg:Bool) (n:Nat) (x y:Operand)
 |ri (it:Operand)
 |yl (gt:Bool) (x y:Operand)
 |idxs (g:Nat) (s b:Operand)
 |Ks (x:Operand)
 |Kr (it:Operand)
 |I5 (e:TypeId) (n:Operand)
 |LN (x:Operand)
inductive da where
 |iu (x:Operand)
 |pick (c a b:Operand)
 |alloc (z:List Value) (elem:TypeId)
 |box (elem:TypeId) (x:Operand)
 |build (z:List Value) (ps:List (Nat×Nat×Operand))
 |pO (elem:TypeId) (len:Nat) (z:List Value) (ps:List (Nat×Nat×Operand))
 |jr (a:Operand)
 |rf (n:Nat) (a:Operand)
 |store (n:Nat) (a x:Operand)
 |tw (x:Operand)
 |OL (name:String) (CG:List (Nat×FuncId)) (x:Operand)
 |bin (op:BinOp) (x y:Operand)
 |eqv (neg:Bool) (e:qw) (x y:Operand)
 |un (op:UnOp) (x:Operand)
 |uk (k:IntKind) (x:Operand)
 |yj (x:Operand)
 |Aw (x:Operand)
 |wq (elem:TypeId) (x:Operand)
 |E7 (t:TypeId) (x:Operand)
 |sh (fn:Fn) (first fE:List Operand)
 |vg
 |si (elem:TypeId) (bytes:Nat) (z:List Value) (len cap:Operand)
 |tR (x:Operand) (aK ae:Option Operand)
 |CD (n a4:Nat) (x:Operand) (aK ae e8:Option Operand)
 |oj (a4:Nat) (x:Operand) (aK ae e8:Option Operand)
 |qS (off:Nat) (x:Operand)
 |p3 (off a4:Nat) (agg:Bool) (x:Operand)
 |u0 (n a4:Nat) (x i:Operand)
 |mY (a4:Nat) (x i:Operand)
 |xa (x i:Operand)
 |IJ (n a4:Nat) (agg:Bool) (x i:Operand)
 |Gb (t:TypeId) (zero:Value) (ok:Bool) (x:Operand)
 |rT (x:Operand) (i:Nat)
 |call (f:Operand) (args:List Operand)
 |inv (CG:List (Nat×FuncId)) (x:Operand) (args:List Operand)
 |pw (x:Operand)
 |vd (x:Operand)
 |zh (n:Nat)
 |xe (x:Operand)
 |app (elem:TypeId) (a4 bytes:Nat) (s x:Operand)
 |e8 (x:Operand) (xs:List Operand)
 |zs (x:Operand) (xs:List Operand)
 |rN (a4:Nat) (d s:Operand)
 |vy
 |pX (f:Operand) (args:List Operand)
 |oX (x:Operand)
 |G9 (x:Operand)
 |Hb (elem n:Nat) (x:Operand)
 |FZ (x:Operand)
 |xU (elem:TypeId) (x n:Operand)
 |la (s c:Operand)
 |kM (x:Operand)
 |ext (y:v5)
 |refuse
structure bA where
 d:am Tmp
 o:da
 g:am (Tmp×Bool)
inductive cD where
 |dY
 |hZ (ts:List Tmp)
 |read (back:Nat) (ts:List Tmp)
inductive du where
 |skip
 |g3 (ops:List bA)
 |rP (ops:List (bA×cD)) (cm:List Nat) (eb:List Tmp) (ms:List Nat)
 |seq (a b:du)
 |cond (c:Operand) (a b:du)
 |block (id:Nat) (b:du)
 |loop (b:du)
 |tP (f:Operand) (params:List Tmp) (assign body:du)
 |exit (id:Nat)
 |scope (b:du)
 |ret
 |refuse
inductive dq where
 |norm
 |exit (id:Nat)
 |ret
 |aQ (v:Value)
inductive hB where
 |tmp (t:Tmp)
 |cell (a:Tmp) (agg:Bool) (n:Nat)
structure cJ where
 aI:Nat
 res:ac hB
 body:du
inductive bB where
 |cells (cs:List Value) (elem:TypeId) (bk:Nat×Nat) (bc:Bool)
 |map (es:List MapEntry) (clock:Nat)
 |acy (s:ByteArray) (pos:Nat)
 |rh (m:Option Nat) (since:Nat) (seen:List Nat) (oo:Nat)
 |loop (st:LoopState) (pending:Option dq) (fn:FuncId) (tmps:aq Value) (params:List Tmp) (assign body:du) (defers:Nat)
 |hG (calls:Option (List Deferred))
 |dead
structure ar where
 h:aq bB
 ai:Nat
structure aO where
 t:aq bi
 cL:ac Deferred
 aQ:am bi
 cx:Bool
 bW:am Nat
def aO.tmp(fr:aO)(n:Nat):bi:=
 Option.rec (motive:=fun _=>bi) (.chan (some 0)) (fun v=>v) (fr.t.get n)
def aO.ak(fr:aO)(x:bv):bi:=
 Operand.rec (motive:=fun _=>bi) (fun t=>fr.tmp t) (fun v=>v) (fun g=>.pointer (some ⟨g,0,none⟩)) (fun f=>.func (.func f) #[] #[]) x
def aO.Zc(t:aq bi)(cL:ac Deferred)(aQ:am bi)(cx:Bool)(bW:am Nat):aO:=
 aq.rec (motive:=fun _=>aO) ⟨.nil,cL,aQ,cx,bW⟩ (fun a b c _ _=>⟨.node a b c,cL,aQ,cx,bW⟩) t
def aO.Jz(d:Nat)(v:bi)(fr:aO):aO:=
 aO.rec (motive:=fun _=>aO) (fun t cL aQ cx bW=>aO.Zc (aq.lg (Nat.succ d) t d v) cL aQ cx bW) fr
def aO.put(fr:aO)(d:am Tmp)(v:bi):aO:=
 Option.rec (motive:=fun _=>aO) fr (fun d=>aO.Jz d v fr) d
inductive a1 where
 |ok (v:Value) (fr:aO) (st:ar)
 |aQ (v:Value) (st:ar)
 |no
inductive dk where
 |ret (v:Value) (st:ar) (eD:Bool)
 |aQ (v:Value) (st:ar) (eD:Bool)
 |no
section lists
variable{α β:Type}
def KB(n:Nat):ac α->am (ac α):=
 Nat.rec (motive:=fun _=>ac α->am (ac α)) (fun _=>some [])
  (fun _ ba l=>List.rec (motive:=fun _=>am (ac α)) none
   (fun x xs _=>Option.rec (motive:=fun _=>am (ac α)) none (fun r=>some (x::r)) (ba xs)) l) n
def Hl(n:Nat):ac α->ac α:=
 Nat.rec (motive:=fun _=>ac α->ac α) (fun l=>l)
  (fun _ ba l=>List.rec (motive:=fun _=>ac α) [] (fun _ xs _=>ba xs) l) n
def rm(l:ac α):Nat->ac α->(ac α->β)->β->β:=
 List.rec (motive:=fun _=>Nat->ac α->(ac α->β)->β->β) (fun _ vs k z=>List.rec (motive:=fun _=>β) (k []) (fun _ _ _=>z) vs)
  (fun y aw ba n vs k z=>
   Nat.rec (motive:=fun _=>β)
    (List.rec (motive:=fun _=>β) (k (y::aw)) (fun v vs _=>ba 0 vs (fun l'=>k (v::l')) z) vs)
    (fun m _=>ba m vs (fun l'=>k (y::l')) z) n) l
end lists
variable{β:Type}
def gb(n:Nat)(k:Nat->β):β:=cond (Nat.beq n n) (k n) (k n)
def TW(n:Int)(k:Int->β):β:=
 Int.rec (motive:=fun _=>β) (fun m=>gb m fun m=>k (.ofNat m)) (fun m=>gb m fun m=>k (.negSucc m)) n
def ar.jU(st:ar)(o:bB)(k:Nat->ar->β):β:=
 gb st.ai fun n=>aq.fin (aq.lg (Nat.succ n) st.h n o) fun h=>k n ⟨h,Nat.succ n⟩
def ih(v:bi):ac bi:=v.cells.toList
def u6:bi->Bool
 |.chan (some _)=>true
 |_=>false
def nU:bi->Bool
 |.agg _|.tuple _|.chan (some _)=>false
 |_=>true
def hD(vs:ac bi):Bool:=List.rec (motive:=fun _=>Bool) true (fun v _ r=>cond (nU v) r false) vs
mutual
def dM:bi->bi->Bool
 |.bool a,.bool b=>a==b
 |.int k a,.int k' b=>decide (k=k')&&a==b
 |.float k a,.float k' b=>decide (k=k')&&a==b
 |.complex k a c,.complex k' b d=>decide (k=k')&&a==b&&c==d
 |.string a,.string b=>a.data.toList==b.data.toList
 |.pointer a,.pointer b=>a==b
 |.slice a l c,.slice b l' bL=>a==b&&l==l'&&c==bL
 |.map a,.map b=>a==b
 |.chan a,.chan b=>a==b
 |.func f x y,.func g u v=>decide (f=g)&&xX x u&&xX y v
 |.nilFunc,.nilFunc=>true
 |.iface t v,.iface u w=>t==u&&dM v w
 |.nilIface,.nilIface=>true
 |.agg a,.agg b=>xX a b
 |.tuple a,.tuple b=>xX a b
 |_,_=>false
def xX:be bi->be bi->Bool
 |⟨a⟩,⟨b⟩=>mv a b
def mv:ac bi->ac bi->Bool
 |[],[]=>true
 |a::as,b::bh=>dM a b&&mv as bh
 |_,_=>false
end
mutual
theorem z1:∀v:bi,dM v v=true
 |.bool a=>by simp[dM]
 |.int k a=>by simp[dM]
 |.float k a=>by simp[dM]
 |.complex k a c=>by simp[dM]
 |.string a=>by simp[dM]
 |.pointer a=>by simp[dM]
 |.slice a l c=>by simp[dM]
 |.map a=>by simp[dM]
 |.chan a=>by simp[dM]
 |.func f x y=>by simp[dM,KK x,KK y]
 |.nilFunc=>by simp[dM]
 |.iface t v=>by simp[dM,z1 v]
 |.nilIface=>by simp[dM]
 |.agg a=>by simp[dM,KK a]
 |.tuple a=>by simp[dM,KK a]
theorem KK:∀v:be bi,xX v v=true
 |⟨a⟩=>by simp[xX,adN a]
theorem adN:∀v:ac bi,mv v v=true
 |[]=>by simp[mv]
 |a::as=>by simp[mv,z1 a,adN as]
end
mutual
theorem nO:∀v w:bi,dM v w=true->v=w
 |.bool a,w,h=>by cases w<;>simp_all [dM]
 |.int k a,w,h=>by cases w<;>simp_all [dM]
 |.float k a,w,h=>by cases w<;>simp_all [dM]
 |.complex k a c,w,h=>by cases w<;>simp_all [dM]
 |.string a,w,h=>by
  cases w<;>simp_all [dM];rename_i b;cases a;cases b;simp_all
 |.pointer a,w,h=>by cases w<;>simp_all [dM]
 |.slice a l c,w,h=>by cases w<;>simp_all [dM]
 |.map a,w,h=>by cases w<;>simp_all [dM]
 |.chan a,w,h=>by cases w<;>simp_all [dM]
 |.func f x y,w,h=>by
  cases w<;>simp[dM]at h;rename_i g u v;simp[h.1.1,KJ x u h.1.2,KJ y v h.2]
 |.nilFunc,w,h=>by cases w<;>simp_all [dM]
 |.iface t v,w,h=>by
  cases w<;>simp[dM]at h;rename_i u x;simp[h.1,nO v x h.2]
 |.nilIface,w,h=>by cases w<;>simp_all [dM]
 |.agg a,w,h=>by
  cases w<;>simp[dM]at h;rename_i b;simp[KJ a b h]
 |.tuple a,w,h=>by
  cases w<;>simp[dM]at h;rename_i b;simp[KJ a b h]
theorem KJ:∀v w:be bi,xX v w=true->v=w
 |⟨a⟩,⟨b⟩,h=>by simp[xX]at h;simp[z0 a b h]
theorem z0:∀v w:ac bi,mv v w=true->v=w
 |[],[],_=>rfl
 |a::as,b::bh,h=>by simp[mv]at h;simp[nO a b h.1,z0 as bh h.2]
 |[],_::_,h=>by simp[mv]at h
 |_::_,[],h=>by simp[mv]at h
end
end Go.an
namespace Go.an
def vh(n:Int)(M:Nat):Nat:=
 Int.rec (motive:=fun _=>Nat) (fun m=>Nat.mod m M) (fun m=>Nat.sub (Nat.sub M 1) (Nat.mod m M)) n
def CP(M:Nat)(n:Int):Int:=.ofNat (vh n M)
def z3(M H:Nat)(n:Int):Int:=
 gb (vh n M) fun r=>cond (Nat.ble (Nat.succ r) H) (.ofNat r) (.negSucc (Nat.sub (Nat.sub M 1) r))
def o9(k:d8)(n:Int):Int:=
 IntKind.rec (motive:=fun _=>Int->Int) (z3 256 128) (z3 65536 32768) (z3 4294967296 2147483648) (z3 18446744073709551616 9223372036854775808)
  (CP 256) (CP 65536) (CP 4294967296) (CP 18446744073709551616) k n
def Ze(n:Int)(M:Nat)(h:0<M):(vh n M:Int)=n%M:=by
 cases n with
 |ofNat m=>rfl
 |negSucc m=>
  show((M-1-m%M:Nat):Int)=_;rw[Int.negSucc_emod _ (by omega)];have:m%M<M:=zai _ h;omega
def tV(M:Nat)(n:Int)(h:0<M):CP M n=n%M:=Ze n M h
def z4(M H:Nat)(n:Int)(h:0<M):z3 M H n=if n%M>=H then n%M-M else n%M:=by
 have e:=Ze n M h;have aT:vh n M<M:=by have:=Int.emod_lt_of_pos n (show(0:Int)<M by omega);omega
 unfold z3 gb;rw[zax];rw[<-e];simp only[cond];by_cases c:vh n M<H
 ·rw[zdd c];rw[zaa (by omega)];rfl
 ·have:Nat.ble (Nat.succ (vh n M)) H=false:=by
   rw[zbG];intro hh;exact c (jw hh)
  rw[this];rw[zab (by omega)];show Int.negSucc (M-1-vh n M)=_;omega
def l3(k:d8)(n:Int):o9 k n=k.wrap n:=by
 cases k
 all_goals simp only[o9,IntKind.wrap,IntKind.bits,IntKind.signed]
 ·rw[z4 256 128 n (by decide)];simp
 ·rw[z4 65536 32768 n (by decide)];simp
 ·rw[z4 4294967296 2147483648 n (by decide)];simp
 ·rw[z4 18446744073709551616 9223372036854775808 n (by decide)];simp
 ·rw[tV 256 n (by decide)];rfl
 ·rw[tV 65536 n (by decide)];rfl
 ·rw[tV 4294967296 n (by decide)];rfl
 ·rw[tV 18446744073709551616 n (by decide)];rfl
def zU(m n:Nat):Int:=cond (Nat.ble n m) (.ofNat (Nat.sub m n)) (.negSucc (Nat.sub (Nat.sub n m) 1))
def F8(m n:Nat):zU m n=(m:Int)-n:=by
 unfold zU;by_cases h:n<=m
 ·rw[zdd h];show((m-n:Nat):Int)=_;omega
 ·have:Nat.ble n m=false:=by rw[zbG];intro hh;exact h (jw hh)
  rw[this];show Int.negSucc (n-m-1)=_;omega
def C9(a b:Int):Int:=
 Int.rec (motive:=fun _=>Int)
  (fun m=>Int.rec (motive:=fun _=>Int) (fun n=>.ofNat (Nat.add m n)) (fun n=>zU m (Nat.succ n)) b)
  (fun m=>Int.rec (motive:=fun _=>Int) (fun n=>zU n (Nat.succ m)) (fun n=>.negSucc (Nat.succ (Nat.add m n))) b) a
def Rl(a b:Int):C9 a b=a+b:=by
 cases a with
 |ofNat m=>
  cases b with
  |ofNat n=>rfl
  |negSucc n=>simp only[C9,F8];show(m:Int)-((n+1:Nat):Int)=(m:Int)+Int.negSucc n;omega
 |negSucc m=>
  cases b with
  |ofNat n=>simp only[C9,F8];show(n:Int)-((m+1:Nat):Int)=Int.negSucc m+(n:Int);omega
  |negSucc n=>rfl
def Ja(a:Int):Int:=
 Int.rec (motive:=fun _=>Int) (fun m=>zU 0 m) (fun m=>.ofNat (Nat.succ m)) a
def OJ(a:Int):Ja a= -a:=by
 cases a with
 |ofNat m=>simp only[Ja,F8];show((0:Nat):Int)-(m:Int)= -(m:Int);omega
 |negSucc m=>rfl
def BQ(a b:Int):Int:=
 Int.rec (motive:=fun _=>Int)
  (fun m=>Int.rec (motive:=fun _=>Int) (fun n=>.ofNat (Nat.mul m n)) (fun n=>zU 0 (Nat.mul m (Nat.succ n))) b)
  (fun m=>Int.rec (motive:=fun _=>Int) (fun n=>zU 0 (Nat.mul (Nat.succ m) n)) (fun n=>.ofNat (Nat.mul (Nat.succ m) (Nat.succ n))) b) a
def OG(a b:Int):BQ a b=a*b:=by
 cases a with
 |ofNat m=>
  cases b with
  |ofNat n=>rfl
  |negSucc n=>
   simp only[BQ,F8];show(0:Int)-((m*(n+1):Nat):Int)=(m:Int)* -((n:Int)+1);rw[Int.mul_neg];push_cast;omega
 |negSucc m=>
  cases b with
  |ofNat n=>
   simp only[BQ,F8];show(0:Int)-(((m+1)*n:Nat):Int)= -((m:Int)+1)*n;rw[zch];push_cast;omega
  |negSucc n=>
   simp only[BQ];show(((m+1)*(n+1):Nat):Int)= -((m:Int)+1)* -((n:Int)+1);rw[Int.neg_mul_neg];push_cast;rfl
def nv(a b:Int):Bool:=
 Int.rec (motive:=fun _=>Bool)
  (fun m=>Int.rec (motive:=fun _=>Bool) (fun n=>Nat.ble m n) (fun _=>false) b)
  (fun m=>Int.rec (motive:=fun _=>Bool) (fun _=>true) (fun n=>Nat.ble n m) b) a
def tr(a b:Int):nv a b=decide (a<=b):=by
 cases a with
 |ofNat m=>
  cases b with
  |ofNat n=>simp only[nv];rw[zaU];simp
  |negSucc n=>simp only[nv];rw[zaU];simp;omega
 |negSucc m=>
  cases b with
  |ofNat n=>simp only[nv];rw[zaU];simp;omega
  |negSucc n=>simp only[nv];rw[zaU];simp;omega
def sZ(a b:Int):Bool:=
 Int.rec (motive:=fun _=>Bool)
  (fun m=>Int.rec (motive:=fun _=>Bool) (fun n=>Nat.beq m n) (fun _=>false) b)
  (fun m=>Int.rec (motive:=fun _=>Bool) (fun _=>false) (fun n=>Nat.beq n m) b) a
def DO(a b:Int):sZ a b=(a==b):=by
 cases a with
 |ofNat m=>
  cases b with
  |ofNat n=>simp only[sZ];rw[zaU];simp;omega
  |negSucc n=>simp only[sZ];rw[zaU];simp
 |negSucc m=>
  cases b with
  |ofNat n=>simp only[sZ];rw[zaU];simp
  |negSucc n=>simp only[sZ];rw[zaU];simp;omega
section
variable{β:Type}
def mu(v:bi)(k:Bool->β)(z:β):β:=
 @Value.rec (fun _=>β) (fun _=>Unit) (fun _=>Unit) (fun iO=>k iO) (fun _ _=>z) (fun _ _=>z) (fun _ _ _=>z) (fun _=>z) (fun _=>z) (fun _ _ _=>z) (fun _=>z) (fun _=>z) (fun _ _ _ _ _=>z) z (fun _ _ _=>z) z (fun _ _=>z) (fun _ _=>z) (fun _ _=>()) () (fun _ _ _ _=>()) v
def g6(v:bi)(k:d8->Int->β)(z:β):β:=
 @Value.rec (fun _=>β) (fun _=>Unit) (fun _=>Unit) (fun _=>z) (fun iO ez=>k iO ez) (fun _ _=>z) (fun _ _ _=>z) (fun _=>z) (fun _=>z) (fun _ _ _=>z) (fun _=>z) (fun _=>z) (fun _ _ _ _ _=>z) z (fun _ _ _=>z) z (fun _ _=>z) (fun _ _=>z) (fun _ _=>()) () (fun _ _ _ _=>()) v
def jv(v:bi)(k:f6->β)(z:β):β:=
 @Value.rec (fun _=>β) (fun _=>Unit) (fun _=>Unit) (fun _=>z) (fun _ _=>z) (fun _ _=>z) (fun _ _ _=>z) (fun iO=>k iO) (fun _=>z) (fun _ _ _=>z) (fun _=>z) (fun _=>z) (fun _ _ _ _ _=>z) z (fun _ _ _=>z) z (fun _ _=>z) (fun _ _=>z) (fun _ _=>()) () (fun _ _ _ _=>()) v
def iM(v:bi)(k:am Addr->β)(z:β):β:=
 @Value.rec (fun _=>β) (fun _=>Unit) (fun _=>Unit) (fun _=>z) (fun _ _=>z) (fun _ _=>z) (fun _ _ _=>z) (fun _=>z) (fun iO=>k iO) (fun _ _ _=>z) (fun _=>z) (fun _=>z) (fun _ _ _ _ _=>z) z (fun _ _ _=>z) z (fun _ _=>z) (fun _ _=>z) (fun _ _=>()) () (fun _ _ _ _=>()) v
def ju(v:bi)(k:am Addr->Nat->Nat->β)(z:β):β:=
 @Value.rec (fun _=>β) (fun _=>Unit) (fun _=>Unit) (fun _=>z) (fun _ _=>z) (fun _ _=>z) (fun _ _ _=>z) (fun _=>z) (fun _=>z) (fun iO ez CR=>k iO ez CR) (fun _=>z) (fun _=>z) (fun _ _ _ _ _=>z) z (fun _ _ _=>z) z (fun _ _=>z) (fun _ _=>z) (fun _ _=>()) () (fun _ _ _ _=>()) v
def CN(v:bi)(k:Fn->be bi->be bi->β)(z:β):β:=
 @Value.rec (fun _=>β) (fun _=>Unit) (fun _=>Unit) (fun _=>z) (fun _ _=>z) (fun _ _=>z) (fun _ _ _=>z) (fun _=>z) (fun _=>z) (fun _ _ _=>z) (fun _=>z) (fun _=>z) (fun iO ez CR _ _=>k iO ez CR) z (fun _ _ _=>z) z (fun _ _=>z) (fun _ _=>z) (fun _ _=>()) () (fun _ _ _ _=>()) v
def xV(v:bi)(k:ci->bi->β)(z:β):β:=
 @Value.rec (fun _=>β) (fun _=>Unit) (fun _=>Unit) (fun _=>z) (fun _ _=>z) (fun _ _=>z) (fun _ _ _=>z) (fun _=>z) (fun _=>z) (fun _ _ _=>z) (fun _=>z) (fun _=>z) (fun _ _ _ _ _=>z) z (fun iO ez _=>k iO ez) z (fun _ _=>z) (fun _ _=>z) (fun _ _=>()) () (fun _ _ _ _=>()) v
def sH(v:bi)(k:be bi->β)(z:β):β:=
 @Value.rec (fun _=>β) (fun _=>Unit) (fun _=>Unit) (fun _=>z) (fun _ _=>z) (fun _ _=>z) (fun _ _ _=>z) (fun _=>z) (fun _=>z) (fun _ _ _=>z) (fun _=>z) (fun _=>z) (fun _ _ _ _ _=>z) z (fun _ _ _=>z) z (fun iO _=>k iO) (fun _ _=>z) (fun _ _=>()) () (fun _ _ _ _=>()) v
def rD(v:bi)(k:be bi->β)(z:β):β:=
 @Value.rec (fun _=>β) (fun _=>Unit) (fun _=>Unit) (fun _=>z) (fun _ _=>z) (fun _ _=>z) (fun _ _ _=>z) (fun _=>z) (fun _=>z) (fun _ _ _=>z) (fun _=>z) (fun _=>z) (fun _ _ _ _ _=>z) z (fun _ _ _=>z) z (fun _ _=>z) (fun iO _=>k iO) (fun _ _=>()) () (fun _ _ _ _=>()) v
def zZ(v:bi)(k:am Nat->β)(z:β):β:=
 @Value.rec (fun _=>β) (fun _=>Unit) (fun _=>Unit) (fun _=>z) (fun _ _=>z) (fun _ _=>z) (fun _ _ _=>z) (fun _=>z) (fun _=>z) (fun _ _ _=>z) (fun iO=>k iO) (fun _=>z) (fun _ _ _ _ _=>z) z (fun _ _ _=>z) z (fun _ _=>z) (fun _ _=>z) (fun _ _=>()) () (fun _ _ _ _=>()) v
end
def vI{β:Type}(v:bi)(a z:β):β:=match v with|.chan none=>a|_=>z
def js:bi:=.chan (some 0)
abbrev bF:=bi->ac bi->am bi->ar->dk
section elim
variable{α β:Type}
def bp(o:am α)(k:α->β)(z:β):β:=Option.rec (motive:=fun _=>β) z k o
def eh(a b:Nat)(x y:β):β:=cond (Nat.ble a b) x y
def dQ(a b:Nat)(x y:β):β:=cond (Nat.beq a b) x y
def iv(n:Int)(k:Nat->β)(z:β):β:=Int.rec (motive:=fun _=>β) k (fun _=>z) n
def dd(l:ac α):Nat:=List.rec (motive:=fun _=>Nat) 0 (fun _ _ n=>Nat.succ n) l
def fk(l m:ac α):ac α:=List.rec (motive:=fun _=>ac α) m (fun x _ r=>x::r) l
def iB(l:ac α)(off n:Nat)(k:ac α->β)(z:β):β:=bp (KB n (Hl off l)) k z
def one(l:ac α)(k:α->β)(z:β):β:=
 List.rec (motive:=fun _=>β) z (fun x xs _=>List.rec (motive:=fun _=>β) (k x) (fun _ _ _=>z) xs) l
end elim
variable{β:Type}
def iI(k:d8)(n:Int)(c:bi->β):β:=TW n fun m=>c (.int k m)
def kK(a b:d8):Bool:=Nat.beq a.ctorIdx b.ctorIdx
def Dl(f:Nat->Nat->Nat)(g:Int)(k:d8)(a b:Int)(c:bi->a1):a1:=
 iv a (fun m=>iv b (fun n=>iI k (o9 k (.ofNat (f (vh (.ofNat m) (2^k.bits)) (vh (.ofNat n) (2^k.bits))))) c) (iI k g c)) (iI k g c)
def RZ(k:d8)(a b:Int)(c:bi->a1):a1:=iI k (o9 k (C9 a b)) c
def Sc(k:d8)(a b:Int)(c:bi->a1):a1:=iI k (o9 k (C9 a (Ja b))) c
def R7(k:d8)(a b:Int)(c:bi->a1):a1:=iI k (o9 k (BQ a b)) c
def Sa(k:d8)(a b:Int)(c:bi->a1):a1:=cond (sZ b 0) .no (iv a (fun m=>iv b (fun n=>iI k (o9 k (.ofNat (Nat.div m n))) c) (iI k (k.wrap (a.tdiv b)) c)) (iI k (k.wrap (a.tdiv b)) c))
def Sb(k:d8)(a b:Int)(c:bi->a1):a1:=cond (sZ b 0) .no (iv a (fun m=>iv b (fun n=>iI k (.ofNat (Nat.mod m n)) c) (iI k (a.tmod b) c)) (iI k (a.tmod b) c))
def R0(k:d8)(a b:Int)(c:bi->a1):a1:=Dl Nat.land (k.wrap (BitVec.ofInt k.bits a&&&BitVec.ofInt k.bits b).toNat) k a b c
def R9(k:d8)(a b:Int)(c:bi->a1):a1:=Dl Nat.lor (k.wrap (BitVec.ofInt k.bits a|||BitVec.ofInt k.bits b).toNat) k a b c
def Sd(k:d8)(a b:Int)(c:bi->a1):a1:=Dl Nat.xor (k.wrap (BitVec.ofInt k.bits a^^^BitVec.ofInt k.bits b).toNat) k a b c
def R1(k:d8)(a b:Int)(c:bi->a1):a1:=iI k (k.wrap (BitVec.ofInt k.bits a&&& ~~~(BitVec.ofInt k.bits b)).toNat) c
def R2(_k:d8)(a b:Int)(c:bi->a1):a1:=c (.bool (sZ a b))
def R8(_k:d8)(a b:Int)(c:bi->a1):a1:=c (.bool (!sZ a b))
def R6(_k:d8)(a b:Int)(c:bi->a1):a1:=c (.bool (!nv b a))
def R5(_k:d8)(a b:Int)(c:bi->a1):a1:=c (.bool (nv a b))
def R4(_k:d8)(a b:Int)(c:bi->a1):a1:=c (.bool (!nv a b))
def R3(_k:d8)(a b:Int)(c:bi->a1):a1:=c (.bool (nv b a))
def Lx(_k:d8)(_a _b:Int)(_c:bi->a1):a1:=.no
def As(op:BinOp)(k:d8)(a b:Int)(c:bi->a1):a1:=
 BinOp.rec (motive:=fun _=>d8->Int->Int->(bi->a1)->a1) RZ Sc R7 Sa Sb R0 R9 Sd Lx Lx R1 R2 R8 R6 R5 R4 R3 op k a b c
def Dk(op:BinOp)(x y:f6)(c:bi->a1):a1:=
 match op with
 |.add=>eh (Nat.add (dd x.data.toList) (dd y.data.toList)) (2^40) (c (.string ⟨⟨fk x.data.toList y.data.toList⟩⟩)) .no
 |.eql=>c (.bool (x.data.toList==y.data.toList))
 |.neq=>c (.bool (!(x.data.toList==y.data.toList)))
 |_=>.no
def zS(k:d8)(a:Int)(n:Nat):Int:=o9 k (BQ a (.ofNat (Nat.pow 2 (min n k.bits))))
def vC(k:d8)(a:Int)(n:Nat):Int:=
 iv a (fun m=>.ofNat (Nat.div m (Nat.pow 2 (min n k.bits)))) (a.fdiv (2^(min n k.bits)))
def ahT(_op:BinOp)(k:d8)(a:Int)(_yk:d8)(b:Int)(c:bi->a1):a1:=iv b (fun n=>iI k (zS k a n) c) .no
def ahU(_op:BinOp)(k:d8)(a:Int)(_yk:d8)(b:Int)(c:bi->a1):a1:=iv b (fun n=>iI k (vC k a n) c) .no
def oD(op:BinOp)(k:d8)(a:Int)(x0:d8)(b:Int)(c:bi->a1):a1:=cond (kK k x0) (As op k a b c) .no
def AW(op:BinOp)(k:d8)(a:Int)(x0:d8)(b:Int)(c:bi->a1):a1:=
 BinOp.rec (motive:=fun _=>BinOp->d8->Int->d8->Int->(bi->a1)->a1) oD oD oD oD oD oD oD oD ahT ahU oD oD oD oD oD oD oD op op k a x0 b c
def DP(op:BinOp)(x y:bi)(c:bi->a1):a1:=
 g6 x (fun k a=>g6 y (fun x0 b=>AW op k a x0 b c) .no)
 (jv x (fun a=>jv y (fun b=>Dk op a b c) .no) .no)
def vo(off a4:Nat)(agg:Bool)(cs:ac bi):am bi:=
 iB cs off a4 (fun vs=>cond agg (some (.agg ⟨vs⟩)) (one vs (fun v=>some v) none)) none
def p0:bi->bi->am Bool
 |.slice none _ _,.slice b _ _=>some b.isNone
 |.slice (some _) _ _,.slice none _ _=>some false
 |.chan none,.slice none _ _=>some false
 |_,_=>none
def DM:bi->bi->am Bool
 |.map none,.map b=>some b.isNone
 |.map (some _),.map none=>some false
 |_,_=>none
def AS:bi->bi->am Bool
 |.nilFunc,.nilFunc=>some true
 |.nilFunc,.func _ _ _=>some false
 |.func _ _ _,.nilFunc=>some false
 |_,_=>none
def DL:bi->bi->am Bool
 |.nilIface,.nilIface=>some true
 |.nilIface,.iface _ _=>some false
 |.iface _ _,.nilIface=>some false
 |_,_=>none
def wF:bi->bi->am Bool
 |.pointer none,.pointer b=>some b.isNone
 |.pointer (some _),.pointer none=>some false
 |.pointer (some a),.pointer (some b)=>if a.block=b.block∧a.spot=none∧b.spot=none then some (a.off==b.off)else none
 |_,_=>none
def AU:bi->bi->am Bool
 |.bool a,.bool b=>some (a==b)
 |.int k a,.int k' b=>if k=k' then some (a==b)else none
 |.string a,.string b=>some (a.data.toList==b.data.toList)
 |_,_=>none
def nY:Nat->qw->bi->bi->am Bool
 |_,.tG,x,y=>AU x y
 |_,.lD,x,y=>p0 x y
 |_,.zu,x,y=>DM x y
 |_,.xh,x,y=>AS x y
 |_,.xi,x,y=>DL x y
 |_,.ptr,x,y=>wF x y
 |0,.agg _,_,_=>none
 |n+1,.agg ps,.agg xs,.agg aw=>Tx n xs.toList aw.toList ps
 |_,.agg _,_,_=>none
 where
 Tx (n:Nat) (xs aw:ac bi):ac (Nat×Nat×Bool×qw)->am Bool
  |[]=>some true
  |(off,a4,ig,e)::rest=>
   match vo off a4 ig xs,vo off a4 ig aw with
   |some x,some y=>
    match nY n e x y with
    |some true=>Tx n xs aw rest
    |r=>r
   |_,_=>none
def AX(op:UnOp)(x:bi)(c:bi->a1):a1:=
 match op with
 |.neg=>g6 x (fun k n=>iI k (o9 k (Ja n)) c) .no
 |.xor=>g6 x (fun k n=>iI k (k.wrap (BitVec.ofInt k.bits (if k.signed then -1 else k.max)^^^BitVec.ofInt k.bits n).toNat) c) .no
 |.not=>mu x (fun b=>c (.bool (!b))) .no
 |_=>.no
def pe(fr:aO)(ps:ac (Nat×Nat×bv)):ac bi->(ac bi->a1)->a1:=
 List.rec (motive:=fun _=>ac bi->(ac bi->a1)->a1) (fun cs c=>c cs)
  (fun p _ ba cs c=>
   (fun v=>cond (u6 v) .no ((fun vs=>dQ (dd vs) p.2.1 (eh (Nat.add p.1 p.2.1) (dd cs) (rm cs p.1 vs (fun cs'=>ba cs' c) .no) .no) .no) (ih v))) (fr.ak p.2.2)) ps
def bytesOf(vs:ac bi):am (ac ce):=
 List.rec (motive:=fun _=>am (ac ce)) (some [])
  (fun v _ r=>g6 v (fun k n=>cond (kK k .u8) (bp r (fun bh=>some (UInt8.ofNat n.toNat::bh)) none) none) none) vs
def o8(bh:ac ce):ac bi:=
 List.rec (motive:=fun _=>ac bi) [] (fun b _ r=>Value.int .u8 (.ofNat b.toNat)::r) bh
def fl(fr:aO)(x:am bv)(dflt y:Nat)(k:Nat->a1):a1:=
 bp x (fun x=>g6 (fr.ak x) (fun _ n=>iv n (fun n=>eh n y (k n) .no) .no) .no) (k dflt)
def yh(o:am bB)(k:ac bi->ci->Nat×Nat->Bool->β)(z:β):β:=
 bp o (fun o=>bB.rec (motive:=fun _=>β) k (fun _ _=>z) (fun _ _=>z) (fun _ _ _ _=>z) (fun _ _ _ _ _ _ _ _=>z) (fun _=>z) z o) z
def ar.gN(st:ar)(a:Addr)(k:ac bi->ci->Nat×Nat->Bool->β)(z:β):β:=
 bp a.spot (fun _=>z) (yh (st.h.get a.block) k z)
def ar.load(st:ar)(a:Addr)(n:Nat)(k:ac bi->β)(z:β):β:=
 st.gN a (fun cs _ _ _=>iB cs a.off n k z) z
def ar.hU(st:ar)(id:Nat)(o:bB)(k:ar->β):β:=
 aq.fin (aq.lg (Nat.succ id) st.h id o) fun h=>k ⟨h,st.ai⟩
def ar.store(st:ar)(a:Addr)(vs:ac bi)(k:ar->β)(z:β):β:=
 st.gN a (fun cs elem bk bc=>eh bk.2 bk.1 (rm cs a.off vs (fun cs'=>st.hU a.block (.cells cs' elem bk bc) k) z) z) z
def k5(fr:aO)(st:ar)(elem:ci)(a4 bytes:Nat)(base:am Addr)(len cap:Nat)(n:Nat)(new:ac bi):a1:=
 (fun vi=>
  eh (Nat.mul (Nat.add (Nat.mul 5 vi) 1792) (Nat.succ bytes)) (2^50)
   (bp base
    (fun a=>st.gN a (fun cs el bk bc=>
     eh bk.2 bk.1 (eh len cap (eh (Nat.add a.off (Nat.mul cap a4)) (dd cs) (dQ el elem
      (dQ n 0 (.ok (.slice (some a) len cap) fr st)
       (cond bc
        (iB cs a.off (Nat.mul len a4) (fun old=>st.hU a.block .dead fun st=>st.jU (.cells (fk old new) elem (0,0) true) fun id st=>.ok (.slice (some ⟨id,0,none⟩) vi vi) fr st) .no)
        (eh vi cap
         (rm cs (Nat.add a.off (Nat.mul len a4)) new (fun cs'=>st.hU a.block (.cells cs' el bk false) fun st=>.ok (.slice (some a) vi cap) fr st) .no)
         (iB cs a.off (Nat.mul len a4) (fun old=>st.jU (.cells (fk old new) elem (0,0) true) fun id st=>.ok (.slice (some ⟨id,0,none⟩) vi vi) fr st) .no))))
      .no) .no) .no) .no) .no)
    (dQ len 0 (dQ cap 0
     (dQ n 0 (.ok (.slice none 0 0) fr st)
      (st.jU (.cells new elem (0,0) true) fun id st=>.ok (.slice (some ⟨id,0,none⟩) vi vi) fr st))
     .no) .no))
   .no) (Nat.add len n)
def E5(k:d8)(fr:aO)(xs:ac bv):Int->am Int:=
 List.rec (motive:=fun _=>Int->am Int) (fun m=>some m)
  (fun x _ ba m=>g6 (fr.ak x) (fun k' y=>cond (kK k k') (ba (cond (nv y m) m y)) none) none) xs
def E6(k:d8)(fr:aO)(xs:ac bv):Int->am Int:=
 List.rec (motive:=fun _=>Int->am Int) (fun m=>some m)
  (fun x _ ba m=>g6 (fr.ak x) (fun k' y=>cond (kK k k') (ba (cond (nv m y) m y)) none) none) xs
def dG(fr:aO)(xs:ac bv):ac bi:=
 List.rec (motive:=fun _=>ac bi) [] (fun x _ r=>fr.ak x::r) xs
def oA(z:ac bi)(n:Nat):ac bi:=
 Nat.rec (motive:=fun _=>ac bi) [] (fun _ r=>fk z r) n
def IF(k:d8)(n:Int):Bool:=nv k.min n&&nv n k.max
def fQ.ok(c2:fQ)(v:bi):Bool:=
 match c2 with
 |.int k=>g6 v (fun k' n=>kK k k'&&IF k n) false
 |.str=>jv v (fun s=>Nat.ble (dd s.data.toList) (2^40)) false
 |.arr k n=>sH v (fun xs=>Nat.beq (dd xs.toList) n&&xs.toList.all (fun x=>g6 x (fun k' m=>kK k k'&&IF k m) false)) false
def qg(o:am bB)(k:ac d9->Nat->β)(z:β):β:=
 bp o (fun o=>bB.rec (motive:=fun _=>β) (fun _ _ _ _=>z) k (fun _ _=>z) (fun _ _ _ _=>z) (fun _ _ _ _ _ _ _ _=>z) (fun _=>z) z o) z
def II(o:am bB)(k:am Nat->Nat->ac Nat->Nat->β)(z:β):β:=
 bp o (fun o=>bB.rec (motive:=fun _=>β) (fun _ _ _ _=>z) (fun _ _=>z) (fun _ _=>z) k (fun _ _ _ _ _ _ _ _=>z) (fun _=>z) z o) z
def xc(c2:fQ)(es:ac d9):Bool:=es.all (fun e=>c2.ok e.key)
def ko(k:bi)(es:ac d9):am d9:=es.find? (fun e=>dM k e.key)
def BM(k v:bi)(es:ac d9):ac d9:=es.map (fun e=>cond (dM k e.key) ⟨e.key,v,e.born⟩ e)
def BL(k:bi)(es:ac d9):ac d9:=es.filter (fun e=> !dM k e.key)
def Hr:bi->bi->am Bool
 |.int k a,.int k' b=>if k=k' then some (a==b)else none
 |_,_=>none
def DN:bi->bi->am Bool
 |.string a,.string b=>some (a.data.toList==b.data.toList)
 |_,_=>none
def Hp(i:Nat)(x y:bi):am Bool:=match i with
 |0=>DN x y
 |_=>Hr x y
def lN:Nat->ac bi->ac bi->am Bool
 |_,[],[]=>some true
 |i,x::xs,y::aw=>bp (Hp i x y) (fun b=>cond b (lN (i-1) xs aw) (bp (lN (i-1) xs aw) (fun _=>some false) none)) none
 |_,_,_=>none
def Dz(n:Nat):bi->am Bool
 |.chan (some c)=>if c%2=0 then(if 2<=c∧n<=(c-2)/2 then some true else none)else(if 3<=c∧(c-3)/2<=n then some false else none)
 |_=>none
def N2(n:Nat)(c:bi):Bool:=match Dz n c with|some true=>true|_=>false
def xv:ac ce->ac ce->Bool
 |[],_=>true
 |a::as,b::bh=>a==b&&xv as bh
 |_::_,[]=>false
def pH(b:ac ce):ac ce->am Nat
 |[]=>if b.isEmpty then some 0 else none
 |x::xs=>if xv b (x::xs)then some 0 else(pH b xs).map (· +1)
def apB(l:ac Nat):am Nat:=l.getLast?
def qR(fr:aO)(st:ar)(y:v5):a1:=
 match y with
 |.look c2 z ok m k=>(fun key=>cond (c2.ok key)
  (zZ (fr.ak m) (fun r=>bp r (fun id=>qg (st.h.get id) (fun es _=>cond (xc c2 es) (bp (ko key es) (fun e=>.ok (cond ok (.tuple #[e.val,.bool true]) e.val) fr st) (.ok (cond ok (.tuple #[z,.bool false]) z) fr st)) .no) .no)
   (.ok (cond ok (.tuple #[z,.bool false]) z) fr st)) .no) .no) (fr.ak k)
 |.hv c2 m k v=>(fun key=>cond (c2.ok key)
  (zZ (fr.ak m) (fun r=>bp r (fun id=>qg (st.h.get id) (fun es clock=>cond (xc c2 es)
   (bp (ko key es) (fun _=>st.hU id (.map (BM key (fr.ak v) es) clock) fun st=>.ok undef fr st)
    (st.hU id (.map (es++[⟨key,fr.ak v,clock⟩]) (Nat.succ clock)) fun st=>.ok undef fr st)) .no) .no) .no) .no) .no) (fr.ak k)
 |.del c2 m k=>(fun key=>cond (c2.ok key)
  (zZ (fr.ak m) (fun r=>bp r (fun id=>qg (st.h.get id) (fun es clock=>cond (xc c2 es) (st.hU id (.map (BL key es) clock) fun st=>.ok undef fr st) .no) .no) .no) .no) .no) (fr.ak k)
 |.BO m=>zZ (fr.ak m) (fun r=>bp r (fun id=>qg (st.h.get id) (fun es _=>gb (dd es) fun n=>.ok (.int .i64 (.ofNat n)) fr st) .no) (.ok (.int .i64 0) fr st)) .no
 |.BP m=>zZ (fr.ak m) (fun r=>bp r (fun id=>qg (st.h.get id) (fun _ clock=>st.jU (.rh (some id) clock [] clock) fun id st=>.ok (.pointer (some ⟨id,0,none⟩)) fr st) .no)
  (st.jU (.rh none 0 [] 0) fun id st=>.ok (.pointer (some ⟨id,0,none⟩)) fr st)) .no
 |.BN it=>iM (fr.ak it) (fun p=>bp p (fun a=>bp a.spot (fun _=>.no) (dQ a.off 0 (II (st.h.get a.block) (fun m _ seen oo=>
  bp m (fun id=>bp (apB seen) (fun s=>qg (st.h.get id) (fun es clock=>dQ clock oo (eh (Nat.succ s) clock (bp (es.find? (fun e=>Nat.beq e.born s)) (fun e=>.ok (.tuple #[e.key,e.val]) fr st) .no) .no) .no) .no) .no) .no) .no) .no)) .no) .no
 |.bj s c=>jv (fr.ak s) (fun s=>g6 (fr.ak c) (fun k c=>cond (kK k .u8) (iv c (fun c=>.ok (.int .i64 (.ofNat (s.data.toList.countP (fun b=>b==UInt8.ofNat c)))) fr st) .no) .no) .no) .no
 |.rR neg n x y=>sH (fr.ak x) (fun xs=>sH (fr.ak y) (fun aw=>dQ (dd xs.toList) (Nat.add (Nat.mod n 100) (Nat.div n 100)) (dQ (dd aw.toList) (Nat.add (Nat.mod n 100) (Nat.div n 100)) (bp (lN (Nat.mod n 100) xs.toList aw.toList) (fun b=>.ok (.bool (cond neg (!b) b)) fr st) .no) .no) .no) .no) .no
 |.ri _=>.no
 |.yl gt x y=>g6 (fr.ak x) (fun k n=>cond (kK k .i64) (iv n (fun n=>bp (Dz n (fr.ak y)) (fun b=>.ok (.bool (cond gt (!b) b)) fr st) .no) .no) .no) .no
 |.idxs g s b=>jv (fr.ak s) (fun s=>jv (fr.ak b) (fun b=>yh (st.h.get g) (fun cs _ _ bc=>cond bc .no (one cs (fun c=>cond (N2 (dd b.data.toList) c) (eh 2 (dd b.data.toList) (eh (dd s.data.toList) 1000000
  (.ok (.int .i64 (bp (pH b.data.toList s.data.toList) (fun i=>.ofNat i) (.negSucc 0))) fr st) .no) .no) .no) .no)) .no) .no) .no
 |.Ks _=>.no
 |.Kr _=>.no
 |.I5 _ _=>.no
 |.LN _=>.no
def ra(c:ce)(l:ac ce):am Nat:=
 List.rec (motive:=fun _=>am Nat) none (fun b _ r=>cond (Nat.beq b.toNat c.toNat) (some 0) (bp r (fun i=>some (Nat.succ i)) none)) l
def Z9(x:bv)(_call:bF)(fr:aO)(st:ar):a1:=
 .ok (fr.ak x) fr st
def aac(c:bv)(a:bv)(b:bv)(_call:bF)(fr:aO)(st:ar):a1:=
 mu (fr.ak c) (fun t=>.ok (cond t (fr.ak a) (fr.ak b)) fr st) .no
def zy(z:ac bi)(elem:ci)(_call:bF)(fr:aO)(st:ar):a1:=
 st.jU (.cells z elem (0,0) false) fun id st=>.ok (.pointer (some ⟨id,0,none⟩)) fr st
def B6(elem:ci)(x:bv)(_call:bF)(fr:aO)(st:ar):a1:=
 (fun v=>cond (u6 v) .no (st.jU (.cells (ih v) elem (0,0) false) fun id st=>.ok (.pointer (some ⟨id,0,none⟩)) fr st)) (fr.ak x)
def O6(z:ac bi)(ps:ac (Nat×Nat×bv))(_call:bF)(fr:aO)(st:ar):a1:=
 pe fr ps z fun cs=>.ok (.agg ⟨cs⟩) fr st
def B7(elem:ci)(len:Nat)(z:ac bi)(ps:ac (Nat×Nat×bv))(_call:bF)(fr:aO)(st:ar):a1:=
 pe fr ps z fun cs=>st.jU (.cells cs elem (0,0) false) fun id st=>.ok (.slice (some ⟨id,0,none⟩) len len) fr st
def Jm(a:bv)(_call:bF)(fr:aO)(st:ar):a1:=
 iM (fr.ak a) (fun p=>bp p (fun a=>st.load a 1 (fun vs=>one vs (fun v=>.ok v fr st) .no) .no) .no) .no
def Jn(n:Nat)(a:bv)(_call:bF)(fr:aO)(st:ar):a1:=
 iM (fr.ak a) (fun p=>bp p (fun a=>st.load a n (fun vs=>.ok (.agg ⟨vs⟩) fr st) .no) .no) .no
def aah(n:Nat)(a:bv)(x:bv)(_call:bF)(fr:aO)(st:ar):a1:=
 iM (fr.ak a) (fun p=>bp p (fun a=>(fun vs=>dQ (dd vs) n (cond (hD vs) (st.store a vs (fun st=>.ok undef fr st) .no) .no) .no) (ih (fr.ak x))) .no) .no
def O9(x:bv)(_call:bF)(fr:aO)(st:ar):a1:=
 iM (fr.ak x) (fun p=>bp p (fun a=>.ok (.pointer (some a)) fr st) .no) (CN (fr.ak x) (fun f a b=>match f with|.func g=>.ok (.func (.func g) a b) fr st|_=>.no) .no)
def aq2(_name:String)(_tab:ac (Nat×co))(_x:bv)(_call:bF)(_fr:aO)(_st:ar):a1:=
 .no
def O5(op:BinOp)(x:bv)(y:bv)(_call:bF)(fr:aO)(st:ar):a1:=
 DP op (fr.ak x) (fr.ak y) fun v=>.ok v fr st
def ZX(neg:Bool)(e:qw)(x:bv)(y:bv)(_call:bF)(fr:aO)(st:ar):a1:=
 bp (nY 8 e (fr.ak x) (fr.ak y)) (fun b=>.ok (.bool (cond neg (!b) b)) fr st) .no
def Pb(op:UnOp)(x:bv)(_call:bF)(fr:aO)(st:ar):a1:=
 AX op (fr.ak x) fun v=>.ok v fr st
def ZT(k:d8)(x:bv)(_call:bF)(fr:aO)(st:ar):a1:=
 g6 (fr.ak x) (fun _ n=>iI k (o9 k n) fun v=>.ok v fr st) .no
def ZS(x:bv)(_call:bF)(fr:aO)(st:ar):a1:=
 jv (fr.ak x) (fun s=>.ok (.string s) fr st) .no
def Jj(x:bv)(_call:bF)(fr:aO)(st:ar):a1:=
 ju (fr.ak x) (fun a n _=>bp a (fun a=>st.load a n (fun vs=>bp (bytesOf vs) (fun bh=>.ok (.string ⟨⟨bh⟩⟩) fr st) .no) .no) (.ok (.string ⟨⟨[]⟩⟩) fr st)) .no
def B8(elem:ci)(x:bv)(_call:bF)(fr:aO)(st:ar):a1:=
 jv (fr.ak x) (fun s=>(fun n=>eh n (2^40) (st.jU (.cells (o8 s.data.toList) elem (0,0) true) fun id st=>.ok (.slice (some ⟨id,0,none⟩) n n) fr st) .no) (dd s.data.toList)) .no
def Z7(t:ci)(x:bv)(_call:bF)(fr:aO)(st:ar):a1:=
 .ok (.iface t (fr.ak x)) fr st
def Z6(fn:Fn)(first:ac bv)(fE:ac bv)(_call:bF)(fr:aO)(st:ar):a1:=
 .ok (.func fn ⟨dG fr first⟩ ⟨dG fr fE⟩) fr st
def zz(_call:bF)(fr:aO)(st:ar):a1:=
 st.jU (.map [] 0) fun id st=>.ok (.map (some id)) fr st
def xt(elem:ci)(bytes:Nat)(z:ac bi)(len:bv)(cap:bv)(_call:bF)(fr:aO)(st:ar):a1:=
 g6 (fr.ak len) (fun _ l=>g6 (fr.ak cap) (fun _ c=>iv l (fun l=>iv c (fun c=>eh l c (eh (Nat.mul c (Nat.succ bytes)) (2^40) (st.jU (.cells (oA z c) elem (0,0) false) fun id st=>.ok (.slice (some ⟨id,0,none⟩) l c) fr st) .no) .no) .no) .no) .no) .no
def aag(x:bv)(aK:am bv)(ae:am bv)(_call:bF)(fr:aO)(st:ar):a1:=
 jv (fr.ak x) (fun s=>(fun n=>fl fr ae n n fun h=>fl fr aK 0 h fun l=>iB s.data.toList l (Nat.sub h l) (fun bh=>.ok (.string ⟨⟨bh⟩⟩) fr st) .no) (dd s.data.toList)) .no
def B9(n:Nat)(a4:Nat)(x:bv)(aK:am bv)(ae:am bv)(e8:am bv)(_call:bF)(fr:aO)(st:ar):a1:=
 iM (fr.ak x) (fun p=>bp p (fun a=>st.gN a (fun _ _ _ bc=>cond bc .no (fl fr e8 n n fun m=>fl fr ae n m fun h=>fl fr aK 0 h fun l=>.ok (.slice (some (dQ m l a (a.add (Nat.mul l a4)))) (Nat.sub h l) (Nat.sub m l)) fr st)) .no) .no) .no
def aaf(a4:Nat)(x:bv)(aK:am bv)(ae:am bv)(e8:am bv)(_call:bF)(fr:aO)(st:ar):a1:=
 ju (fr.ak x) (fun b len cap=>bp b (fun a=>st.gN a (fun _ _ _ bc=>cond bc (bp e8 (fun _=>.no) (eh len cap (fl fr ae len len fun h=>fl fr aK 0 h fun l=>.ok (.slice (some (a.add (Nat.mul l a4))) (Nat.sub h l) (Nat.sub cap l)) fr st) .no)) (fl fr e8 cap cap fun m=>fl fr ae len m fun h=>fl fr aK 0 h fun l=>.ok (.slice (some (dQ m l a (a.add (Nat.mul l a4)))) (Nat.sub h l) (Nat.sub m l)) fr st)) .no) (fl fr e8 cap cap fun m=>fl fr ae len m fun h=>fl fr aK 0 h fun l=>.ok (.slice none (Nat.sub h l) (Nat.sub m l)) fr st)) .no
def ZZ(off:Nat)(x:bv)(_call:bF)(fr:aO)(st:ar):a1:=
 iM (fr.ak x) (fun p=>bp p (fun a=>.ok (.pointer (some (a.add off))) fr st) .no) .no
def Z0(off:Nat)(a4:Nat)(agg:Bool)(x:bv)(_call:bF)(fr:aO)(st:ar):a1:=
 sH (fr.ak x) (fun cs=>bp (vo off a4 agg cs.toList) (fun v=>.ok v fr st) .no) .no
def xr(n:Nat)(a4:Nat)(x:bv)(i:bv)(_call:bF)(fr:aO)(st:ar):a1:=
 iM (fr.ak x) (fun p=>bp p (fun a=>g6 (fr.ak i) (fun _ j=>iv j (fun j=>eh (Nat.succ j) n (.ok (.pointer (some (a.add (Nat.mul j a4)))) fr st) .no) .no) .no) .no) .no
def Z1(a4:Nat)(x:bv)(i:bv)(_call:bF)(fr:aO)(st:ar):a1:=
 ju (fr.ak x) (fun b len _=>bp b (fun a=>g6 (fr.ak i) (fun _ j=>iv j (fun j=>eh (Nat.succ j) len (.ok (.pointer (some (a.add (Nat.mul j a4)))) fr st) .no) .no) .no) .no) .no
def Z3(x:bv)(i:bv)(_call:bF)(fr:aO)(st:ar):a1:=
 jv (fr.ak x) (fun s=>g6 (fr.ak i) (fun _ j=>iv j (fun j=>iB s.data.toList j 1 (fun bh=>one bh (fun b=>.ok (.int .u8 (.ofNat b.toNat)) fr st) .no) .no) .no) .no) .no
def Z2(n:Nat)(a4:Nat)(agg:Bool)(x:bv)(i:bv)(_call:bF)(fr:aO)(st:ar):a1:=
 sH (fr.ak x) (fun cs=>g6 (fr.ak i) (fun _ j=>iv j (fun j=>eh (Nat.succ j) n (bp (vo (Nat.mul j a4) a4 agg cs.toList) (fun v=>.ok v fr st) .no) .no) .no) .no) .no
def Pa(t:ci)(zero:bi)(ok:Bool)(x:bv)(_call:bF)(fr:aO)(st:ar):a1:=
 xV (fr.ak x) (fun u v=>dQ u t (.ok (cond ok (.tuple #[v,.bool true]) v) fr st) (cond ok (.ok (.tuple #[zero,.bool false]) fr st) .no)) (match fr.ak x with|.nilIface=>cond ok (.ok (.tuple #[zero,.bool false]) fr st) .no|_=>.no)
def ZY(x:bv)(i:Nat)(_call:bF)(fr:aO)(st:ar):a1:=
 rD (fr.ak x) (fun vs=>iB vs.toList i 1 (fun l=>one l (fun v=>.ok v fr st) .no) .no) .no
def aqR(f:bv)(args:ac bv)(call:bF)(fr:aO)(st:ar):a1:=
 dk.rec (motive:=fun _=>a1) (fun v st _=>.ok v fr st) (fun v st _=>.aQ v st) .no (call (fr.ak f) (dG fr args) none st)
def aqY(_tab:ac (Nat×co))(_x:bv)(_args:ac bv)(_call:bF)(_fr:aO)(_st:ar):a1:=
 .no
def Jl(x:bv)(_call:bF)(fr:aO)(st:ar):a1:=
 ju (fr.ak x) (fun _ n _=>.ok (.int .i64 (.ofNat n)) fr st) (vI (fr.ak x) (.ok (.int .i64 (.ofNat 0)) fr st) .no)
def Z5(x:bv)(_call:bF)(fr:aO)(st:ar):a1:=
 jv (fr.ak x) (fun s=>gb (dd s.data.toList) fun n=>.ok (.int .i64 (.ofNat n)) fr st) .no
def O7(n:Nat)(_call:bF)(fr:aO)(st:ar):a1:=
 .ok (.int .i64 (.ofNat n)) fr st
def aqZ(_x:bv)(_call:bF)(_fr:aO)(_st:ar):a1:=
 .no
def ZR(elem:ci)(a4:Nat)(bytes:Nat)(s:bv)(x:bv)(_call:bF)(fr:aO)(st:ar):a1:=
 ju (fr.ak s) (fun base len cap=>ju (fr.ak x) (fun b n _=>bp b (fun b=>st.load b (Nat.mul n a4) (fun new=>cond (hD new) (k5 fr st elem a4 bytes base len cap n new) .no) .no) (dQ n 0 (k5 fr st elem a4 bytes base len cap 0 []) .no)) (vI (fr.ak x) (k5 fr st elem a4 bytes base len cap 0 []) (jv (fr.ak x) (fun s=>dQ a4 1 (k5 fr st elem a4 bytes base len cap (dd s.data.toList) (o8 s.data.toList)) .no) .no))) .no
def aaa(x:bv)(xs:ac bv)(_call:bF)(fr:aO)(st:ar):a1:=
 g6 (fr.ak x) (fun k n=>bp (E5 k fr xs n) (fun m=>iI k m fun v=>.ok v fr st) .no) .no
def Z8(x:bv)(xs:ac bv)(_call:bF)(fr:aO)(st:ar):a1:=
 g6 (fr.ak x) (fun k n=>bp (E6 k fr xs n) (fun m=>iI k m fun v=>.ok v fr st) .no) .no
def ZV(a4:Nat)(d:bv)(s:bv)(_call:bF)(fr:aO)(st:ar):a1:=
 ju (fr.ak d) (fun a dl _=>ju (fr.ak s) (fun b a5 _=>bp a (fun a=>bp b (fun b=>(fun n=>st.load b (Nat.mul n a4) (fun vs=>cond (hD vs) (st.store a vs (fun st=>.ok (.int .i64 (.ofNat n)) fr st) .no) .no) .no) (eh a5 dl a5 dl)) (dQ a5 0 (.ok (.int .i64 0) fr st) .no)) (dQ dl 0 (.ok (.int .i64 0) fr st) .no)) .no) .no
def aq4(_call:bF)(fr:aO)(st:ar):a1:=
 bp fr.bW (fun _=>.no) (bp fr.aQ (fun v=>cond fr.cx (.ok .nilIface fr st) (.ok v ⟨fr.t,fr.cL,fr.aQ,true,fr.bW⟩ st)) (.ok .nilIface fr st))
def aqT(f:bv)(args:ac bv)(_call:bF)(fr:aO)(st:ar):a1:=
 bp fr.bW (fun _=>.no) (CN (fr.ak f) (fun fn first fE=>match fn with|.func g=>.ok undef ⟨fr.t,{target:=.fn (.func g) fE,args:=⟨fk first.toList (dG fr args)⟩}::fr.cL,fr.aQ,fr.cx,fr.bW⟩ st|_=>.no) .no)
def aq3(x:bv)(_call:bF)(fr:aO)(st:ar):a1:=
 xV (fr.ak x) (fun t v=>.aQ (.iface t v) st) .no
def ZU(x:bv)(_call:bF)(fr:aO)(st:ar):a1:=
 iM (fr.ak x) (fun p=>bp p (fun a=>st.gN a (fun cs _ _ _=>eh (Nat.succ a.off) (dd cs) (.ok (.pointer (some a)) fr st) .no) .no) .no) .no
def ZW(elem:Nat)(n:Nat)(x:bv)(_call:bF)(fr:aO)(st:ar):a1:=
 iM (fr.ak x) (fun p=>bp p (fun a=>st.gN a (fun cs el _ bc=>cond bc .no (dQ a.off 0 (dQ el elem (dQ (dd cs) n (.ok (.pointer (some a)) fr st) .no) .no) .no)) .no) .no) .no
def aae(x:bv)(_call:bF)(fr:aO)(st:ar):a1:=
 ju (fr.ak x) (fun b _ c=>bp b (fun a=>dQ c 0 .no (.ok (.pointer (some a)) fr st)) (.ok (.pointer none) fr st)) .no
def aai(elem:ci)(x:bv)(n:bv)(_call:bF)(fr:aO)(st:ar):a1:=
 iM (fr.ak x) (fun p=>g6 (fr.ak n) (fun _ n=>iv n (fun n=>dQ n 0 (.ok (.string ⟨⟨[]⟩⟩) fr st) (bp p (fun a=>eh n (2^40) (st.gN a (fun cs el bk bc=>eh bk.2 bk.1 (dQ el elem (iB cs a.off n (fun vs=>bp (bytesOf vs) (fun bh=>st.hU a.block (.cells cs el (a.off,Nat.add a.off n) bc) fun st=>.ok (.string ⟨⟨bh⟩⟩) fr st) .no) .no) .no) .no) .no) .no) .no)) .no) .no) .no
def Jk(s:bv)(c:bv)(_call:bF)(fr:aO)(st:ar):a1:=
 jv (fr.ak s) (fun s=>g6 (fr.ak c) (fun k c=>cond (kK k .u8) (iv c (fun c=>.ok (.int .i64 (bp (ra (UInt8.ofNat c) s.data.toList) (fun i=>.ofNat i) (.negSucc 0))) fr st) .no) .no) .no) .no
def aab(x:bv)(_call:bF)(fr:aO)(st:ar):a1:=
 .ok (fr.ak x) fr st
def aqU(y:v5)(_call:bF)(fr:aO)(st:ar):a1:=
 qR fr st y
def aq5(_call:bF)(_fr:aO)(_st:ar):a1:=
 .no
def bG(call:bF)(o:da)(fr:aO)(st:ar):a1:=
 da.rec (motive:=fun _=>bF->aO->ar->a1) Z9 aac zy B6 O6 B7 Jm Jn aah O9 aq2 O5 ZX Pb ZT ZS Jj B8 Z7 Z6 zz xt aag B9 aaf ZZ Z0 xr Z1 Z3 Z2 Pa ZY aqR aqY Jl Z5 O7 aqZ ZR aaa Z8 ZV aq4 aqT aq3 ZU ZW aae aai Jk aab aqU aq5 o call fr st
inductive ct where
 |out (e:dq) (fr:aO) (st:ar)
 |no
def gC(fr:aO)(g:am (Tmp×Bool))(yes h7 z:β):β:=
 bp g (fun p=>mu (fr.tmp p.1) (fun b=>cond b (cond p.2 yes h7) (cond p.2 h7 yes)) (rD (fr.tmp p.1) (fun _=>h7) z)) yes
def da.jh:da->Bool
 |.call _ _|.inv _ _ _|.oX _=>true
 |_=>false
def fT(call:bF)(ops:ac bA):aO->ar->ct:=
 List.rec (motive:=fun _=>aO->ar->ct) (fun fr st=>.out .norm fr st)
  (fun x _ ba fr st=>
   gC fr x.g
    (a1.rec (motive:=fun _=>ct) (fun v fr st=>ba (fr.put x.d v) st) (fun v st=>cond x.o.jh (.out (.aQ v) fr st) .no) .no (bG call x.o fr st))
    (ba (fr.put x.d undef) st) .no) ops
def sameAt(call:bF)(o:da)(fr:aO)(v:bi)(ai:Nat)(n:Nat):ac (aq bB)->Bool:=
 Nat.rec (motive:=fun _=>ac (aq bB)->Bool) (fun _=>true)
  (fun _ ba ah=>List.rec (motive:=fun _=>Bool) false
   (fun h ah _=>a1.rec (motive:=fun _=>Bool) (fun v' _ _=>cond (dM v v') (ba ah) false) (fun _ _=>false) false (bG call o fr ⟨h,ai⟩)) ah) n
def kp(t:aq bi)(ts:ac Tmp)(k:aq bi->β):β:=
 List.rec (motive:=fun _=>aq bi->β) (fun m=>k m) (fun x _ ba m=>bp (t.get x) (fun v=>aq.jd (Nat.succ x) m x v ba) (ba m)) ts .nil
def ql(fr:aO)(ts:ac Tmp):aO:=
 List.rec (motive:=fun _=>aO->aO) (fun fr=>fr) (fun t _ ba fr=>ba (fr.put (some t) js)) ts fr
def kg(call:bF)(ms:ac Nat)(n:Nat)(ops:ac (bA×cD)):Nat->ac (aq bB)->aO->ar->Bool:=
 List.rec (motive:=fun _=>Nat->ac (aq bB)->aO->ar->Bool) (fun _ _ _ _=>true)
  (fun x _ ba p nK fr st=>
   cond (Nat.testBit (ms.getD p 0) n)
    (cD.rec (motive:=fun _=>Bool) (ba (Nat.succ p) (st.h::nK) (fr.put x.1.d undef) st) (fun _=>ba (Nat.succ p) nK (fr.put x.1.d undef) st) (fun _ _=>ba (Nat.succ p) nK (fr.put x.1.d undef) st) x.2)
    (cD.rec (motive:=fun _=>Bool) false
     (fun ts=>kp fr.t ts fun t=>gC ⟨t,[],none,false,none⟩ x.1.g
      (a1.rec (motive:=fun _=>Bool) (fun v _ st'=>ba (Nat.succ p) nK (fr.put x.1.d v) st') (fun _ _=>false) false (bG call x.1.o ⟨t,[],none,false,none⟩ st))
      (ba (Nat.succ p) nK (fr.put x.1.d undef) st) false)
     (fun back ts=>kp fr.t ts fun t=>gC ⟨t,[],none,false,none⟩ x.1.g
      (a1.rec (motive:=fun _=>Bool) (fun v _ _=>cond (sameAt call x.1.o ⟨t,[],none,false,none⟩ v st.ai (Nat.succ back) nK) (ba (Nat.succ p) nK (fr.put x.1.d v) st) false) (fun _ _=>false) false (bG call x.1.o ⟨t,[],none,false,none⟩ st))
      (ba (Nat.succ p) nK (fr.put x.1.d undef) st) false)
     x.2)) ops
abbrev sK:=ac (bA×cD)->ac (aq bB)->aO->ar->Bool
def ga(call:bF)(cQ:sK)(ops:ac (bA×cD)):ac (aq bB)->aO->ar->ct:=
 List.rec (motive:=fun _=>ac (aq bB)->aO->ar->ct) (fun _ fr st=>.out .norm fr st)
  (fun x xs ba nK fr st=>
   cD.rec (motive:=fun _=>ct)
    (gC fr x.1.g
     (a1.rec (motive:=fun _=>ct) (fun v aF st'=>eh st.ai st'.ai (ba (st'.h::nK) (aO.put ⟨fr.t,aF.cL,aF.aQ,aF.cx,aF.bW⟩ x.1.d v) st') .no) (fun v st'=>cond x.1.o.jh (cond (cQ xs (st.h::nK) (fr.put x.1.d undef) st) (.out (.aQ v) fr st') .no) .no) .no (bG call x.1.o fr st))
     (ba (st.h::nK) (fr.put x.1.d undef) st) .no)
    (fun ts=>kp fr.t ts fun t=>gC ⟨t,[],none,false,none⟩ x.1.g
     (a1.rec (motive:=fun _=>ct) (fun v _ st'=>ba nK (fr.put x.1.d v) st') (fun _ _=>.no) .no (bG call x.1.o ⟨t,[],none,false,none⟩ st))
     (ba nK (fr.put x.1.d undef) st) .no)
    (fun back ts=>kp fr.t ts fun t=>gC ⟨t,[],none,false,none⟩ x.1.g
     (a1.rec (motive:=fun _=>ct) (fun v _ _=>cond (sameAt call x.1.o ⟨t,[],none,false,none⟩ v st.ai (Nat.succ back) nK) (ba nK (fr.put x.1.d v) st) .no) (fun _ _=>.no) .no (bG call x.1.o ⟨t,[],none,false,none⟩ st))
     (ba nK (fr.put x.1.d undef) st) .no)
    x.2) ops
def qK(call:bF)(ms:ac Nat)(len:Nat):sK:=fun xs=>kg call ms (Nat.sub len (Nat.succ (dd xs))) xs (Nat.sub len (dd xs))
def nw(o:am bB)(k:LoopState->am dq->co->aq bi->ac Tmp->du->du->Nat->β)(z:β):β:=
 bp o (fun o=>bB.rec (motive:=fun _=>β) (fun _ _ _ _=>z) (fun _ _=>z) (fun _ _=>z) (fun _ _ _ _=>z) k (fun _=>z) z o) z
def l0(r:ct)(k:aO->ar->ct):ct:=
 ct.rec (motive:=fun _=>ct) (fun e fr st=>dq.rec (motive:=fun _=>ct) (k fr st) (fun i=>.out (.exit i) fr st) (.out .ret fr st) (fun v=>.out (.aQ v) fr st) e) .no r
def qG(id:Nat)(r:ct):ct:=
 ct.rec (motive:=fun _=>ct) (fun e fr st=>dq.rec (motive:=fun _=>ct) (.out .norm fr st) (fun i=>dQ i id (.out .norm fr st) (.out (.exit i) fr st)) (.out .ret fr st) (fun v=>.out (.aQ v) fr st) e) .no r
def G6(v:bi)(a b:ct):ct:=mu v (fun t=>cond t a b) .no
def Cv(l:Nat)(aF:aO)(r:dk):ct:=
 dk.rec (motive:=fun _=>ct)
  (fun _ st _=>nw (st.h.get l) (fun s gL rV t ps a b d=>
   LoopState.rec (motive:=fun _=>ct)
    (st.hU l (.loop .exhausted gL rV t ps a b d) fun st=>bp gL (fun e=>.out e aF st) (.out .norm aF st))
    .no
    (st.hU l (.loop .exhausted gL rV t ps a b d) fun st=>bp gL (fun e=>.out e aF st) (.out .norm aF st))
    .no s) .no)
  (fun v st _=>.out (.aQ v) aF st) .no r
def DQ(call:bF)(fn:co)(f:bv)(params:ac Tmp)(assign body:du)(fr:aO)(st:ar):ct:=
 bp fr.bW (fun _=>.no)
  (st.jU (.hG (some [])) fun r st=>
   st.jU (.loop .ready none fn fr.t params assign body r) fun l st=>
   Cv l ⟨fr.t,{target:=.collected r,args:= #[]}::fr.cL,fr.aQ,fr.cx,fr.bW⟩ (call (fr.ak f) [.func (.yield l) #[] #[]] none st))
def cR(call:bF)(bE:Nat)(fn:co)(c:du):aO->ar->ct:=
 du.rec (motive:=fun _=>aO->ar->ct)
  (fun fr st=>.out .norm fr st)
  (fun ops=>fT call ops)
  (fun ops _ eb ms fr st=>ga call (qK call ms (dd ops)) ops [st.h] (ql fr eb) st)
  (fun _ _ wD ki fr st=>l0 (wD fr st) ki)
  (fun c _ _ wD ki fr st=>G6 (fr.ak c) (wD fr st) (ki fr st))
  (fun id _ e fr st=>qG id (e fr st))
  (fun _ e fr st=>
   Nat.rec (motive:=fun _=>aO->ar->ct) (fun _ _=>.no)
    (fun _ ba fr st=>l0 (e fr st) ba) bE fr st)
  (fun f params assign body _ _=>DQ call fn f params assign body)
  (fun id fr st=>.out (.exit id) fr st)
  (fun _ e=>e)
  (fun fr st=>.out .ret fr st)
  (fun _ _=>.no) c
def l7(vs:ac bi):Nat->aq bi->aq bi:=
 List.rec (motive:=fun _=>Nat->aq bi->aq bi) (fun _ t=>t) (fun v _ ba i t=>aq.jd (Nat.succ i) t i v fun t=>ba (Nat.succ i) t) vs
def oZ(ts:ac Tmp):ac bi->aq bi->aq bi:=
 List.rec (motive:=fun _=>ac bi->aq bi->aq bi) (fun _ m=>m)
  (fun t _ ba vs m=>List.rec (motive:=fun _=>aq bi) m (fun v vs _=>aq.jd (Nat.succ t) m t v fun m=>ba vs m) vs) ts
def pd(fr:aO)(st:ar)(rs:ac hB):am (ac bi):=
 List.rec (motive:=fun _=>am (ac bi)) (some [])
  (fun r _ ba=>bp ba (fun vs=>
   hB.rec (motive:=fun _=>am (ac bi)) (fun t=>some (fr.tmp t::vs))
    (fun a agg n=>iM (fr.tmp a) (fun p=>bp p (fun ad=>st.load ad n (fun cs=>cond agg (some (.agg ⟨cs⟩::vs)) (one cs (fun v=>some (v::vs)) none)) none) none) none) r) none) rs
def jf(call:bF):ac Deferred->am bi->ar->am (am bi×ar)
 |[],m,st=>some (m,st)
 |{target:=.collected r,.. }::ds,m,st=>
  match st.h.get r with
  |some (.hG (some []))=>st.hU r (.hG none) fun st=>jf call ds m st
  |_=>none
 |{target:=.fn (.func g) fE,args}::ds,m,st=>
  match call (.func (.func g) #[] fE) args.toList m st with
  |.ret _ st eD=>
   match m,eD with
   |some _,true=>jf call ds none st
   |_,_=>jf call ds m st
  |.aQ v st _=>
   match m with
   |none=>jf call ds (some v) st
   |some _=>none
  |.no=>none
 |_::_,_,_=>none
abbrev na:=co->ac bi->ar->am dk
def ff(call:bF)(res:ac hB)(m:am bi)(fr:aO)(st:ar):dk:=
 bp (jf call fr.cL m st)
  (fun p=>bp p.1 (fun v=>.aQ v p.2 fr.cx)
   (bp (pd fr p.2 res) (fun vs=>one vs (fun v=>.ret v p.2 fr.cx) (.ret (.tuple ⟨vs⟩) p.2 fr.cx)) .no)) .no
def hF(call:bF)(n:Nat)(f:co)(xf:cJ)(as:ac bi)(aQ:am bi)(st:ar):dk:=
 eh (dd as) xf.aI
  (ct.rec (motive:=fun _=>dk)
   (fun e fr st=>dq.rec (motive:=fun _=>dk) (ff call xf.res none fr st) (fun _=>.no) (ff call xf.res none fr st) (fun v=>ff call xf.res (some v) fr st) e)
   .no (cR call n f xf.body ⟨l7 as 0 .nil,[],aQ,false,none⟩ st)) .no
def ru(l:Nat)(r:ct):dk:=
 ct.rec (motive:=fun _=>dk)
  (fun e fr st=>
   List.rec (motive:=fun _=>dk)
    (dq.rec (motive:=fun _=>dk)
     (nw (st.h.get l) (fun _ _ fn t ps a b d=>st.hU l (.loop .ready none fn t ps a b d) fun st=>.ret (.bool true) st false) .no)
     (fun i=>nw (st.h.get l) (fun _ _ fn t ps a b d=>st.hU l (.loop .done (some (.exit i)) fn t ps a b d) fun st=>.ret (.bool false) st false) .no)
     (nw (st.h.get l) (fun _ _ fn t ps a b d=>st.hU l (.loop .done (some .ret) fn t ps a b d) fun st=>.ret (.bool false) st false) .no)
     (fun v=>.aQ v st false) e)
    (fun _ _ _=>.no) fr.cL)
  .no r
def Cw(call:bF)(n:Nat)(l:Nat)(f:co)(body:du)(fr:aO)(st:ar):dk:=
 nw (st.h.get l) (fun s gL fn t ps a b d=>
  LoopState.rec (motive:=fun _=>dk)
   (st.hU l (.loop .busy gL fn t ps a b d) fun st=>ru l (cR call n f body fr st))
   .no .no .no s) .no
def z7(call:bF)(n:Nat)(l:Nat)(args:ac bi)(st:ar):dk:=
 nw (st.h.get l) (fun _ _ fn t ps dt body _=>
  dQ (dd args) (dd ps)
   (ct.rec (motive:=fun _=>dk)
    (fun e fr st=>dq.rec (motive:=fun _=>dk) (Cw call n l fn body fr st) (fun _=>.no) .no (fun _=>.no) e) .no
    (cR call n fn dt ⟨oZ ps args t,[],none,false,some l⟩ st)) .no) .no
def bH(aS:aq cJ)(fm:na)(fuel:Nat):bF:=
 Nat.rec (motive:=fun _=>bF) (fun _ _ _ _=>.no)
  (fun n ba fv args aQ st=>
   CN fv (fun fn first fE=>
    Fn.rec (motive:=fun _=>dk)
     (fun f=>(fun as=>bp aQ (fun _=>bp (aS.get f) (fun xf=>hF ba n f xf as aQ st) .no) (bp (fm f as st) (fun r=>r) (bp (aS.get f) (fun xf=>hF ba n f xf as aQ st) .no))) (fk first.toList (fk args fE.toList)))
     (fun _=>.no) (fun _ _=>.no) (fun _ _ _ _=>.no)
     (fun l=>List.rec (motive:=fun _=>dk) (List.rec (motive:=fun _=>dk) (bp aQ (fun _=>.no) (z7 ba n l args st)) (fun _ _ _=>.no) fE.toList) (fun _ _ _=>.no) first.toList)
     fn) .no) fuel
end Go.an
namespace Go.an
namespace aq
variable{α β:Type}
@[simp] theorem get_nil (n:Nat):(aq.nil:aq α).get n=none:=rfl
def wN(l r:aq α)(v:am α):(aq.node l v r).get 0=v:=rfl
def I6{β:Sort _}(m:Nat)(a b:β):Nat.rec (motive:=fun _=>β) a (fun _ _=>b) (Nat.mod m 2)=if m%2=0 then a else b:=by
 show Nat.rec (motive:=fun _=>β) a (fun _ _=>b) (m%2)=_;rcases Nat.mod_two_eq_zero_or_one m with h|h
 ·rw[h];rfl
 ·rw[h];rfl
def p5(l r:aq α)(v:am α)(m:Nat):(aq.node l v r).get (m+1)=if m%2=0 then l.get (m/2)else r.get (m/2):=
 I6 m (l.get (m/2)) (r.get (m/2))
def ati(f:Nat)(x:α)(k:aq α->β):jd (f+1) .nil 0 x k=k (.node .nil (some x) .nil):=rfl
def Kj(f m:Nat)(x:α)(k:aq α->β):jd (f+1) .nil (m+1) x k=if m%2=0 then jd f .nil (m/2) x (fun l'=>k (.node l' none .nil))else jd f .nil (m/2) x (fun dV=>k (.node .nil none dV)):=I6 m _ _
def atj(f:Nat)(l r:aq α)(v:am α)(x:α)(k:aq α->β):jd (f+1) (.node l v r) 0 x k=k (.node l (some x) r):=rfl
def Kk(f m:Nat)(l r:aq α)(v:am α)(x:α)(k:aq α->β):jd (f+1) (.node l v r) (m+1) x k=if m%2=0 then jd f l (m/2) x (fun l'=>k (.node l' v r))else jd f r (m/2) x (fun dV=>k (.node l v dV)):=I6 m _ _
theorem nI{α:Type}:∀(f:Nat) (β:Type) (t:aq α) (n:Nat) (x:α) (k:aq α->β),jd f t n x k=k (jd f t n x id)
 |0,_,_,_,_,_=>rfl
 |f+1,β,t,n,x,k=>by
  cases t with
  |nil=>
   cases n with
   |zero=>rfl
   |succ m=>
    rw[Kj,Kj];split
    ·rw[nI f _ .nil (m/2) x (fun l'=>k (aq.node l' none aq.nil)),nI f _ .nil (m/2) x (fun l'=>id (aq.node l' none aq.nil))];rfl
    ·rw[nI f _ .nil (m/2) x (fun dV=>k (aq.node aq.nil none dV)),nI f _ .nil (m/2) x (fun dV=>id (aq.node aq.nil none dV))];rfl
  |node l v r=>
   cases n with
   |zero=>rfl
   |succ m=>
    rw[Kk,Kk];split
    ·rw[nI f _ l (m/2) x (fun l'=>k (aq.node l' v r)),nI f _ l (m/2) x (fun l'=>id (aq.node l' v r))];rfl
    ·rw[nI f _ r (m/2) x (fun dV=>k (aq.node l v dV)),nI f _ r (m/2) x (fun dV=>id (aq.node l v dV))];rfl
def zQ(t:aq α)(n:Nat)(x:α)(k:aq α->β):jd (Nat.succ n) t n x k=k (t.set n x):=nI _ _ t n x k
def aqt(v:am α)(r l:aq α):Zs v r l= .node l v r:=by cases l<;>rfl
def aqu(v:am α)(l r:aq α):Zt l v r= .node l v r:=by cases r<;>rfl
def p1(t:aq α)(k:aq α->β):fin t k=k t:=by cases t<;>rfl
def aaI(ba:aq α->Nat->α->aq α)(l r:aq α)(v:am α)(m:Nat)(x:α):
 JA ba l v r m x=if m%2=0 then .node (ba l (m/2) x) v r else .node l v (ba r (m/2) x):=by
 rw[<-aqt,<-aqu];exact I6 m _ _
theorem JB:∀(f:Nat) (t:aq α) (n:Nat) (x:α),lg f t n x=jd f t n x id
 |0,_,_,_=>rfl
 |f+1,t,n,x=>by
  cases t with
  |nil=>
   cases n with
   |zero=>rfl
   |succ m=>
    rw[Kj];show JA (lg f) .nil none .nil m x=_;rw[aaI,JB f];split
    ·rw[nI f _ .nil (m/2) x (fun l'=>id (aq.node l' none aq.nil))];rfl
    ·rw[nI f _ .nil (m/2) x (fun dV=>id (aq.node aq.nil none dV))];rfl
  |node l v r=>
   cases n with
   |zero=>rfl
   |succ m=>
    rw[Kk];show JA (lg f) l v r m x=_;rw[aaI,JB f,JB f];split
    ·rw[nI f _ l (m/2) x (fun l'=>id (aq.node l' v r))];rfl
    ·rw[nI f _ r (m/2) x (fun dV=>id (aq.node l v dV))];rfl
def xw(t:aq α)(n:Nat)(x:α):lg (Nat.succ n) t n x=t.set n x:=JB _ t n x
theorem HK:∀(f:Nat) (t:aq α) (n:Nat) (x:α) (j:Nat),n<f->(jd f t n x id).get j=if j=n then some x else t.get j
 |0,_,_,_,_,h=>by omega
 |f+1,t,n,x,j,h=>by
  cases t with
  |nil=>
   cases n with
   |zero=>
    cases j with
    |zero=>rfl
    |succ j=>rw[ati];show(aq.node .nil (some x) .nil:aq α).get (j+1)=_;rw[p5];simp
   |succ m=>
    have ba:=fun i=>HK f (.nil:aq α) (m/2) x i (by omega);rw[Kj];split
    ·rename_i hm;rw[nI f _ .nil (m/2) x (fun l'=>id (aq.node l' none aq.nil))];show(aq.node _ none .nil:aq α).get j=_;cases j with
     |zero=>rw[wN];simp
     |succ j=>
      rw[p5];by_cases hj:j%2=0
      ·rw[zab hj,ba];by_cases e:j=m
       ·subst e;simp
       ·rw[zaa (by omega),zaa (by omega)];simp
      ·rw[zaa hj,zaa (by omega)];simp
    ·rename_i hm;rw[nI f _ .nil (m/2) x (fun dV=>id (aq.node aq.nil none dV))];show(aq.node .nil none _:aq α).get j=_;cases j with
     |zero=>rw[wN];simp
     |succ j=>
      rw[p5];by_cases hj:j%2=0
      ·rw[zab hj,zaa (by omega)];simp
      ·rw[zaa hj,ba];by_cases e:j=m
       ·subst e;simp
       ·rw[zaa (by omega),zaa (by omega)];simp
  |node l v r=>
   cases n with
   |zero=>
    cases j with
    |zero=>rfl
    |succ j=>rw[atj];show(aq.node l (some x) r:aq α).get (j+1)=_;rw[p5,p5,zaa (by omega:¬(j+1=0))]
   |succ m=>
    rw[Kk];split
    ·rename_i hm;have ba:=fun i=>HK f l (m/2) x i (by omega);rw[nI f _ l (m/2) x (fun l'=>id (aq.node l' v r))];show(aq.node _ v r:aq α).get j=_;cases j with
     |zero=>rw[wN,zaa (by omega)];rfl
     |succ j=>
      rw[p5,p5];by_cases hj:j%2=0
      ·rw[zab hj,zab hj,ba];by_cases e:j=m
       ·subst e;simp
       ·rw[zaa (by omega),zaa (by omega)]
      ·rw[zaa hj,zaa hj,zaa (by omega)]
    ·rename_i hm;have ba:=fun i=>HK f r (m/2) x i (by omega);rw[nI f _ r (m/2) x (fun dV=>id (aq.node l v dV))];show(aq.node l v _:aq α).get j=_;cases j with
     |zero=>rw[wN,zaa (by omega)];rfl
     |succ j=>
      rw[p5,p5];by_cases hj:j%2=0
      ·rw[zab hj,zab hj,zaa (by omega)]
      ·rw[zaa hj,zaa hj,ba];by_cases e:j=m
       ·subst e;simp
       ·rw[zaa (by omega),zaa (by omega)]
def eI(t:aq α)(n:Nat)(x:α)(j:Nat):(t.set n x).get j=if j=n then some x else t.get j:=
 HK (n+1) t n x j (by omega)
@[simp] theorem oF (t:aq α) (n:Nat) (x:α):(t.set n x).get n=some x:=by rw[eI,zab rfl]
def gq(t:aq α){n j:Nat}(x:α)(h:j≠n):(t.set n x).get j=t.get j:=by rw[eI,zaa h]
end aq
def Pt(fr:aO)(d:Tmp)(v:bi):fr.put (some d) v=⟨fr.t.set d v,fr.cL,fr.aQ,fr.cx,fr.bW⟩:=by
 show aO.Zc (aq.lg (Nat.succ d) fr.t d v) fr.cL fr.aQ fr.cx fr.bW=_;rw[aq.xw];cases fr.t.set d v<;>rfl
def sG(fr:aO)(d:am Tmp)(v:bi)(j:Nat):(fr.put d v).tmp j=if d=some j then v else fr.tmp j:=by
 cases d with
 |none=>simp[aO.put]
 |some d=>
  rw[Pt];simp only[aO.tmp,aq.eI,Option.some.injEq];by_cases h:j=d
  ·subst h;simp
  ·rw[zaa h,zaa (fun e=>h e.symm)]
def sq(fr:aO)(d:am Tmp)(v:bi):(fr.put d v).cL=fr.cL∧(fr.put d v).aQ=fr.aQ∧(fr.put d v).cx=fr.cx∧(fr.put d v).bW=fr.bW:=by
 cases d with
 |none=>simp[aO.put]
 |some d=>rw[Pt];exact⟨rfl,rfl,rfl,rfl⟩
structure Loc where
 cK:Nat
 cW:Nat
 ex:Nat
 bY:Nat->Nat
def h3:Nat->Nat:=fun _=>0
def N1:(id:Nat->Nat)≠h3:=fun h=>by have:=congrFun h 1;simp[h3]at this
abbrev bu:=Nat->am Loc
def bu.le(ι aU:bu):Prop:=∀i l,ι i=some l->aU i=some l
def bu.le.refl(ι:bu):ι.le ι:=fun _ _ h=>h
def bu.le.trans{ι aU dF:bu}(h:ι.le aU)(aG:aU.le dF):ι.le dF:=fun i l ae=>aG i l (h i l ae)
def Ac(ι:bu)(f g:Fn):Prop:=(f=g∧∀l,f≠.yield l)∨∃l b,f= .yield l∧g= .yield b∧ι l=some ⟨b,0,0,id⟩
def QM(c:Nat)(m:Int):Prop:=c=1∨(∃k:Nat,c=2*k+2∧(k:Int)<=m)∨∃k:Nat,c=2*k+3∧m<k
inductive bw(ι:bu):Value->Value->Prop
 |bool (b:Bool):bw ι (.bool b) (.bool b)
 |int (k:IntKind) (n:Int):bw ι (.int k n) (.int k n)
 |float (k:FloatKind) (b:Nat):bw ι (.float k b) (.float k b)
 |string (s:ByteArray):bw ι (.string s) (.string s)
 |nF:bw ι (.pointer none) (.pointer none)
 |ptr (a:Addr) (l:Loc) (h:ι a.block=some l) (ah:a.spot=none):bw ι (.pointer (some a)) (.pointer (some ⟨l.cK,l.cW+a.off,none⟩))
 |nJ (n c:Nat):bw ι (.slice none n c) (.slice none n c)
 |gV (a:Addr) (l:Loc) (o n c:Nat) (h:ι a.block=some l) (ah:a.spot=none) (al:o=l.cW+a.off∨(n=0∧c=0∧l.ex=0)):
  bw ι (.slice (some a) n c) (.slice (some ⟨l.cK,o,none⟩) n (c+l.ex))
 |px:bw ι (.map none) (.map none)
 |map (r b:Nat) (bY:Nat->Nat) (h:ι r=some ⟨b,0,0,bY⟩):bw ι (.map (some r)) (.map (some b))
 |func (f g:Fn) (xs aw us vs:Array Value) (af:Ac ι f g) (I:xs.size=aw.size) (U:∀i (h:i<xs.size) (aG:i<aw.size),bw ι xs[i] aw[i])
  (ag:us.size=vs.size) (au:∀i (h:i<us.size) (aG:i<vs.size),bw ι us[i] vs[i]):bw ι (.func f xs us) (.func g aw vs)
 |nilFunc:bw ι .nilFunc .nilFunc
 |iface (t:TypeId) (v w:Value) (h:bw ι v w):bw ι (.iface t v) (.iface t w)
 |nilIface:bw ι .nilIface .nilIface
 |agg (xs aw:Array Value) (I:xs.size=aw.size) (U:∀i (h:i<xs.size) (aG:i<aw.size),bw ι xs[i] aw[i]):bw ι (.agg xs) (.agg aw)
 |tuple (xs aw:Array Value) (I:xs.size=aw.size) (U:∀i (h:i<xs.size) (aG:i<aw.size),bw ι xs[i] aw[i]):bw ι (.tuple xs) (.tuple aw)
 |je (c:Nat) (m:Int) (h:QM c m):bw ι (.chan (some c)) (.int .i64 m)
 |emp (p:Addr) (c:Nat):bw ι (.chan none) (.slice (some p) 0 c)
 |top (c:Value):bw ι js c
variable{ι aU:bu}
def Ac.mono(hle:ι.le aU){f g:Fn}(h:Ac ι f g):Ac aU f g:=by
 rcases h with h|⟨l,b,I,U,ag⟩
 ·exact .inl h
 ·exact .inr ⟨l,b,I,U,hle _ _ ag⟩
def bw.mono(hle:ι.le aU){v w:bi}(h:bw ι v w):bw aU v w:=by
 induction h with
 |bool b=>exact .bool b
 |int k n=>exact .int k n
 |float k n=>exact .float k n
 |string s=>exact .string s
 |nF=>exact .nF
 |ptr a l h ah=>exact .ptr a l (hle _ _ h) ah
 |nJ n c=>exact .nJ n c
 |gV a l o n c h ah al=>exact .gV a l o n c (hle _ _ h) ah al
 |px=>exact .px
 |map r b bY h=>exact .map r b bY (hle _ _ h)
 |func f g xs aw us vs af I _ ag _ nu u2=>exact .func f g xs aw us vs (af.mono hle) I nu ag u2
 |nilFunc=>exact .nilFunc
 |iface t v w _ ba=>exact .iface t v w ba
 |nilIface=>exact .nilIface
 |agg xs aw I _ ba=>exact .agg xs aw I ba
 |tuple xs aw I _ ba=>exact .tuple xs aw I ba
 |je c m h=>exact .je c m h
 |emp p c=>exact .emp p c
 |top c=>exact .top c
def bP(ι:bu)(xs aw:ac bi):Prop:=xs.length=aw.length∧∀(i:Nat) (h:i<xs.length) (aG:i<aw.length),bw ι xs[i] aw[i]
variable{xs aw:be bi}
def bP.mono(hle:ι.le aU){xs aw:ac bi}(h:bP ι xs aw):bP aU xs aw:=⟨h.1,fun i a b=>(h.2 i a b).mono hle⟩
def bP.nil(ι:bu):bP ι [] []:=⟨rfl,fun i h=>by simp at h⟩
def bP.cons{ι:bu}{x y:bi}{xs aw:ac bi}(h:bw ι x y)(ah:bP ι xs aw):bP ι (x::xs) (y::aw):=by
 refine⟨by simp[ah.1],fun i a b=> ?_⟩;cases i with
 |zero=>exact h
 |succ i=>exact ah.2 i (by simpa using a) (by simpa using b)
def bP.cons_inv{x:bi}{xs aw:ac bi}(h:bP ι (x::xs) aw):∃y jY,aw=y::jY∧bw ι x y∧bP ι xs jY:=by
 cases aw with
 |nil=>have:=h.1;simp at this
 |cons y jY=>
  refine⟨y,jY,rfl,h.2 0 (by simp) (by simp),by simpa using h.1,fun i a b=> ?_⟩;exact h.2 (i+1) (by simpa using a) (by simpa using b)
def bP.xj{aw:ac bi}(h:bP ι [] aw):aw=[]:=by
 cases aw with
 |nil=>rfl
 |cons y aw=>have:=h.1;simp at this
def bP.append:∀{xs aw us vs:ac bi},bP ι xs aw->bP ι us vs->bP ι (xs++us) (aw++vs)
 |[],aw,us,vs,h,aG=>by rw[h.xj];simpa using aG
 |x::xs,aw,us,vs,h,aG=>by
  obtain⟨y,jY,rfl,I,U⟩:=h.cons_inv;simpa using bP.cons I (U.append aG)
def bP.drop:∀(n:Nat) {xs aw:ac bi},bP ι xs aw->bP ι (xs.drop n) (aw.drop n)
 |0,_,_,h=>by simpa using h
 |n+1,[],aw,h=>by rw[h.xj];simpa using bP.nil ι
 |n+1,x::xs,aw,h=>by
  obtain⟨y,jY,rfl,_,U⟩:=h.cons_inv;simpa using U.drop n
def bP.take:∀(n:Nat) {xs aw:ac bi},bP ι xs aw->bP ι (xs.take n) (aw.take n)
 |0,_,_,_=>by simpa using bP.nil ι
 |n+1,[],aw,h=>by rw[h.xj];simpa using bP.nil ι
 |n+1,x::xs,aw,h=>by
  obtain⟨y,jY,rfl,I,U⟩:=h.cons_inv;simpa using bP.cons I (U.take n)
def bw.B4(h:bP ι xs.toList aw.toList):bw ι (.agg xs) (.agg aw):=
 .agg xs aw (by simpa using h.1) fun i a b=>by have:=h.2 i (by simpa using a) (by simpa using b);rwa [zaB,zaB]at this
def bw.pB(h:bP ι xs.toList aw.toList):bw ι (.tuple xs) (.tuple aw):=
 .tuple xs aw (by simpa using h.1) fun i a b=>by have:=h.2 i (by simpa using a) (by simpa using b);rwa [zaB,zaB]at this
def bP.xn(I:xs.size=aw.size)(U:∀i (h:i<xs.size) (aG:i<aw.size),bw ι xs[i] aw[i]):bP ι xs.toList aw.toList:=
 ⟨by simpa using I,fun i a b=>by have:=U i (by simpa using a) (by simpa using b);rwa [<-zaB,<-zaB]at this⟩
def bw.Jh{f g:Fn}{us vs:be bi}(af:Ac ι f g)(h:bP ι xs.toList aw.toList)(aG:bP ι us.toList vs.toList):bw ι (.func f xs us) (.func g aw vs):=
 .func f g xs aw us vs af (by simpa using h.1) (fun i a b=>by have:=h.2 i (by simpa using a) (by simpa using b);rwa [zaB,zaB]at this) (by simpa using aG.1) (fun i a b=>by have:=aG.2 i (by simpa using a) (by simpa using b);rwa [zaB,zaB]at this)
def bP.cells{v w:bi}(h:bw ι v w)(hp:v≠js):bP ι v.cells.toList w.cells.toList:=by
 cases h<;>first
  |exact absurd rfl hp
  |(rename_i xs aw I U;exact bP.xn I U)
  |(simp only[Value.cells];refine bP.cons ?_ (bP.nil ι);constructor<;>assumption)
end Go.an
namespace Go.an
section
variable{α β:Type}{r z:β}
variable{v:bi}{x:β}{k:α->β}{a b:Nat}{l:ac α}{n:Nat}{st:ar}{o:am α}
def qs{k:am Addr->β}(h:iM v k z=r)(ax:z≠r):∃p,v= .pointer p∧k p=r:=by
 cases v<;>first|exact absurd h ax|exact⟨_,rfl,h⟩
def ke{k:d8->Int->β}(h:g6 v k z=r)(ax:z≠r):∃a n,v= .int a n∧k a n=r:=by
 cases v<;>first|exact absurd h ax|exact⟨_,_,rfl,h⟩
def QQ{k:Bool->β}(h:mu v k z=r)(ax:z≠r):∃b,v= .bool b∧k b=r:=by
 cases v<;>first|exact absurd h ax|exact⟨_,rfl,h⟩
def qu{k:f6->β}(h:jv v k z=r)(ax:z≠r):∃s,v= .string s∧k s=r:=by
 cases v<;>first|exact absurd h ax|exact⟨_,rfl,h⟩
def xW{k:am Addr->Nat->Nat->β}(h:ju v k z=r)(ax:z≠r):∃a n c,v= .slice a n c∧k a n c=r:=by
 cases v<;>first|exact absurd h ax|exact⟨_,_,_,rfl,h⟩
def zY{k:be bi->β}(h:sH v k z=r)(ax:z≠r):∃a,v= .agg a∧k a=r:=by
 cases v<;>first|exact absurd h ax|exact⟨_,rfl,h⟩
def adL{k:be bi->β}(h:rD v k z=r)(ax:z≠r):∃a,v= .tuple a∧k a=r:=by
 cases v<;>first|exact absurd h ax|exact⟨_,rfl,h⟩
def QR{k:Fn->be bi->be bi->β}(h:CN v k z=r)(ax:z≠r):∃f a b,v= .func f a b∧k f a b=r:=by
 cases v<;>first|exact absurd h ax|exact⟨_,_,_,rfl,h⟩
def QS{k:ci->bi->β}(h:xV v k z=r)(ax:z≠r):∃t x,v= .iface t x∧k t x=r:=by
 cases v<;>first|exact absurd h ax|exact⟨_,_,rfl,h⟩
def gA(h:bp o k z=r)(ax:z≠r):∃a,o=some a∧k a=r:=by
 cases o<;>first|exact absurd h ax|exact⟨_,rfl,h⟩
def BY(h:bp o k z=r)(ab:∀a,k a≠r):o=none∧z=r:=by
 cases o<;>first|exact⟨rfl,h⟩|exact absurd h (ab _)
def nx{n:Int}{k:Nat->β}(h:iv n k z=r)(ax:z≠r):∃m:Nat,n=(m:Int)∧k m=r:=by
 cases n with
 |ofNat m=>exact⟨m,rfl,h⟩
 |negSucc m=>exact absurd h ax
def mA:Nat.ble a b=true↔a<=b:=by simp
def od(a b:Nat)(x y:β):eh a b x y=if a<=b then x else y:=by
 unfold eh;by_cases h:a<=b
 ·rw[zab h,mA.2 h];rfl
 ·rw[zaa h];have:Nat.ble a b=false:=by rw[zbG];intro hh;exact h (mA.1 hh)
  rw[this];rfl
def pZ(a b:Nat)(x y:β):dQ a b x y=if a=b then x else y:=by
 unfold dQ;by_cases h:a=b
 ·rw[zab h,h,zax];rfl
 ·rw[zaa h];have:Nat.beq a b=false:=by rw[zbG];intro hh;exact h (dI hh)
  rw[this];rfl
def kb(h:eh a b x z=r)(ax:z≠r):a<=b∧x=r:=by
 rw[od]at h;split at h
 ·exact⟨by assumption,h⟩
 ·exact absurd h ax
def lv(h:dQ a b x z=r)(ax:z≠r):a=b∧x=r:=by
 rw[pZ]at h;split at h
 ·exact⟨by assumption,h⟩
 ·exact absurd h ax
def jj{b:Bool}(h:cond b x z=r)(ax:z≠r):b=true∧x=r:=by
 cases b
 ·exact absurd h ax
 ·exact⟨rfl,h⟩
def BU{b:Bool}(h:cond b z x=r)(ax:z≠r):b=false∧x=r:=by
 cases b
 ·exact⟨rfl,h⟩
 ·exact absurd h ax
@[simp] theorem fe:∀l:ac α,dd l=l.length
 |[]=>rfl
 |x::xs=>by show Nat.succ (dd xs)=_;rw[fe xs];rfl
@[simp] theorem qB (m:ac α):∀l:ac α,fk l m=l++m
 |[]=>rfl
 |x::xs=>by show x::fk xs m=_;rw[qB m xs];rfl
@[simp] theorem DJ:∀(n:Nat) (l:ac α),Hl n l=l.drop n
 |0,l=>rfl
 |n+1,[]=>rfl
 |n+1,x::xs=>by show Hl n xs=_;rw[DJ n xs];rfl
theorem Ga:∀(n:Nat) (l:ac α),KB n l=if n<=l.length then some (l.take n)else none
 |0,l=>by rw[zab (zaf _)];rfl
 |n+1,[]=>rfl
 |n+1,x::xs=>by
  show Option.rec (motive:=fun _=>am (ac α)) none (fun r=>some (x::r)) (KB n xs)=_;rw[Ga n xs];by_cases h:n<=xs.length
  ·rw[zab h,zab (by simpa using h)];rfl
  ·rw[zaa h,zaa (by simpa using h)]
def B5(h:one l k z=r)(ax:z≠r):∃x,l=[x]∧k x=r:=by
 cases l with
 |nil=>exact absurd h ax
 |cons x xs=>
  cases xs with
  |nil=>exact⟨x,rfl,h⟩
  |cons y aw=>exact absurd h ax
def wu{off:Nat}{k:ac α->β}(h:iB l off n k z=r)(ax:z≠r):n<=(l.drop off).length∧k ((l.drop off).take n)=r:=by
 unfold iB at h;rw[DJ,Ga]at h;split at h
 ·exact⟨by assumption,h⟩
 ·exact absurd h ax
theorem rn:∀(l:ac α) (n:Nat) (vs:ac α) (k:ac α->β) (z:β),
 rm l n vs k z=if n+vs.length<=l.length then k (l.take n++(vs++l.drop (n+vs.length)))else if vs=[]then k l else z
 |[],n,[],k,z=>by
  by_cases h:n=0
  ·subst h;rfl
  ·rw[zaa (by simpa using h),zab rfl];rfl
 |[],n,v::vs,k,z=>by rw[zaa (by simp),zaa (by simp)];rfl
 |y::aw,0,[],k,z=>by rw[zab (by simp)];rfl
 |y::aw,0,v::vs,k,z=>by
  show rm aw 0 vs (fun l'=>k (v::l')) z=_;rw[rn aw 0 vs];by_cases h:vs.length<=aw.length
  ·have I:0+vs.length<=aw.length:=by omega
   have U:0+(v::vs).length<=(y::aw).length:=by simp only[zay];omega
   rw[zab I,zab U];simp
  ·have I:¬0+vs.length<=aw.length:=by omega
   have U:¬0+(v::vs).length<=(y::aw).length:=by simp only[zay];omega
   have ag:vs≠[]:=by intro e;subst e;simp at h
   rw[zaa I,zaa U,zaa ag,zaa (by simp)]
 |y::aw,n+1,vs,k,z=>by
  show rm aw n vs (fun l'=>k (y::l')) z=_;rw[rn aw n vs];by_cases h:n+vs.length<=aw.length
  ·have U:n+1+vs.length<=(y::aw).length:=by simp only[zay];omega
   rw[zab h,zab U];rw[show n+1+vs.length=(n+vs.length)+1 by omega];simp
  ·have U:¬n+1+vs.length<=(y::aw).length:=by simp only[zay];omega
   rw[zaa h,zaa U]
def Pu{vs:ac α}{k:ac α->β}(h:rm l n vs k z=r)(ax:z≠r):
 (n+vs.length<=l.length∧k (l.take n++(vs++l.drop (n+vs.length)))=r)∨(vs=[]∧k l=r):=by
 rw[rn]at h;split at h
 ·exact .inl ⟨by assumption,h⟩
 ·split at h
  ·exact .inr ⟨by assumption,h⟩
  ·exact absurd h ax
def wk{a:Addr}{k:ac bi->ci->Nat×Nat->Bool->β}(h:st.gN a k z=r)(ax:z≠r):
 a.spot=none∧∃cs elem bk bc,st.h.get a.block=some (.cells cs elem bk bc)∧k cs elem bk bc=r:=by
 unfold ar.gN at h;obtain⟨I,U⟩:=BY h (fun _=>ax);refine⟨I,?_⟩;unfold yh at U;obtain⟨o,al,ag⟩:=gA U ax;cases o<;>first|exact absurd ag ax|exact⟨_,_,_,_,al,ag⟩
def BJ{a:Addr}{k:ac bi->β}(h:st.load a n k z=r)(ax:z≠r):
 a.spot=none∧∃cs elem bk bc,st.h.get a.block=some (.cells cs elem bk bc)∧n<=(cs.drop a.off).length∧k ((cs.drop a.off).take n)=r:=by
 obtain⟨I,cs,e,bk,bc,U,ag⟩:=wk h ax;obtain⟨au,a0⟩:=wu ag ax;exact⟨I,cs,e,bk,bc,U,au,a0⟩
def kR(st:ar)(id:Nat)(o:bB)(k:ar->β):st.hU id o k=k ⟨st.h.set id o,st.ai⟩:=by
 unfold ar.hU;rw[aq.xw,aq.p1]
def A2(n:Nat)(k:Nat->β):gb n k=k n:=by unfold gb;rw[zax];rfl
def gR(st:ar)(o:bB)(k:Nat->ar->β):st.jU o k=k st.ai ⟨st.h.set st.ai o,st.ai+1⟩:=by
 unfold ar.jU;rw[A2,aq.xw,aq.p1]
def aiT(n:Int)(k:Int->β):TW n k=k n:=by
 cases n with
 |ofNat m=>exact A2 m (fun m=>k (.ofNat m))
 |negSucc m=>exact A2 m (fun m=>k (.negSucc m))
def iZ(a:d8)(n:Int)(c:bi->β):iI a n c=c (.int a n):=aiT _ _
def acZ{a:Addr}{vs:ac bi}{k:ar->β}(h:st.store a vs k z=r)(ax:z≠r):
 a.spot=none∧∃cs elem bk bc,st.h.get a.block=some (.cells cs elem bk bc)∧bk.2<=bk.1∧
  ((a.off+vs.length<=cs.length∧k ⟨st.h.set a.block (.cells (cs.take a.off++(vs++cs.drop (a.off+vs.length))) elem bk bc),st.ai⟩=r)∨
   (vs=[]∧k ⟨st.h.set a.block (.cells cs elem bk bc),st.ai⟩=r)):=by
 obtain⟨I,cs,e,bk,bc,U,ag⟩:=wk h ax;obtain⟨au,a0⟩:=kb ag ax;refine⟨I,cs,e,bk,bc,U,au,?_⟩;rcases Pu a0 ax with⟨ha,hb⟩|⟨ha,hb⟩
 ·left;refine⟨ha,?_⟩;rw[kR]at hb;exact hb
 ·right;refine⟨ha,?_⟩;rw[kR]at hb;exact hb
end
structure tY(P:f5)(ι:bu)(w:d7)(cs:ac bi)(elem:ci)(bk:Nat×Nat)(bc:Bool)(l:Loc)(C:be bi)(eA:Nat×Nat):Prop where
 there:w.heap[l.cK]? =some (.cells C elem eA)
 room:l.cW+cs.length+l.ex*P.cellsOf elem<=C.size
 cell:∀(i:Nat) (h:i<cs.length),∃c,C[l.cW+i]? =some c∧bw ι cs[i] c
 xY:bk.2<=bk.1->∀i,l.cW<=i->i<l.cW+cs.length+l.ex*P.cellsOf elem->¬(eA.1<=i∧i<eA.2)
 plain:bc=false->l.ex=0∧l.cW=0∧C.size=cs.length
def CJ(t:aq bi)(n:Nat):bi:=Option.rec (motive:=fun _=>bi) (.chan (some 0)) (fun v=>v) (t.get n)
def Gz:am dq->am Code->Prop
 |none,none=>True
 |some (.exit i),some (.exit j)=>i=j
 |some .ret,some .ret=>True
 |_,_=>False
structure Rg(bY:Nat->Nat)(clock:Nat):Prop where
 inj:∀s t,s<clock->t<clock->bY s=bY t->s=t
 lt:∀s,s<clock->bY s<bY clock
 up:∀j,bY (clock+j)=bY clock+j
structure jM(ι:bu)(bY:Nat->Nat)(es:ac d9)(clock:Nat)(C:ac d9)(lu:Nat):Prop where
 kh:lu=bY clock
 qo:Rg bY clock
 born:∀e∈es,e.born<clock
 keys:es.Pairwise (fun a b=>a.key≠b.key)
 wg:es.Pairwise (fun a b=>a.born≠b.born)
 same:∃l:ac d9,l.Perm es∧l.length=C.length∧∀(i:Nat) (h:i<l.length) (aG:i<C.length),bw ι l[i].key C[i].key∧bw ι l[i].val C[i].val∧C[i].born=bY l[i].born
def jM.mono{ι aU:bu}{bY:Nat->Nat}{es:ac d9}{clock:Nat}{C:ac d9}{lu:Nat}(hle:ι.le aU)(h:jM ι bY es clock C lu):jM aU bY es clock C lu:=
 ⟨h.kh,h.qo,h.born,h.keys,h.wg,let⟨l,I,U,ag⟩:=h.same;⟨l,I,U,fun i a b=>⟨(ag i a b).1.mono hle,(ag i a b).2.1.mono hle,(ag i a b).2.2⟩⟩⟩
structure Ctx where
 P:f5
 ok:co->Code->du->Prop
 aH:Nat
 kM:co->Bool
 la:co->Bool
 Fe:∀f,kM f=true->∀x w,(callFunc f #[x]).run P w= .ok (.value x) w
 EP:∀f,la f=true->∀s c w,(callFunc f #[.string s,.int .u8 c]).run P w= .ok (.value (goInt (match(List.range s.size).find? (fun i=>s[i]! ==c.toNat.toUInt8)with|some i=>(i:Int)|none=> -1))) w
 keys:ci->am fQ
 tp:∀k c2,keys k=some c2->Maps.Keyed P k∧∀v,c2.ok v=true->∃l,keyOf P k v=some l
 pU:co->Bool
 DA:∀f,pU f=true->∀s c w,(callFunc f #[.string s,.int .u8 c]).run P w= .ok (.value (goInt (s.data.toList.countP (fun b=>b==c.toNat.toUInt8):Nat))) w
 qf:co->Bool
 mj:Nat
 E8:mj<aH
 ES:∀f,qf f=true->∀(s b:f6) (m:Int) w,(load ⟨mj,0,none⟩).run P w= .ok (.int .i64 m) w->2<=b.size->(b.size:Int)<=m->s.size<=1000000->
  (callFunc f #[.string s,.string b]).run P w= .ok (.value (goInt (match pH b.data.toList s.data.toList with|some i=>(i:Int)|none=> -1))) w
 eqs:ci->am Nat
 yw:∀t n,eqs t=some n->P.eqGuardType P.depth t=false∧∀xs aw b w,xs.size=n%100+n/100->aw.size=n%100+n/100->lN (n%100) xs.toList aw.toList=some b->(Op.equalIn 10000 t (.agg xs) (.agg aw)).run P w= .ok b w
variable(X:Ctx)
def kf(ι:bu)(w:d7)(o:bB)(l:Loc):Prop:=
 match o with
 |.cells cs elem bk bc=>∃C eA,tY X.P ι w cs elem bk bc l C eA
 |.map es clock=>l.cW=0∧l.ex=0∧∃C lu,w.heap[l.cK]? =some (.map C lu)∧jM ι l.bY es clock C.toList lu
 |.acy s pos=>l.cW=0∧l.ex=0∧w.heap[l.cK]? =some (.stringIter s pos)
 |.rh m since seen oo=>l.cW=0∧l.ex=0∧∃eG F3 m6 BF,w.heap[l.cK]? =some (.mapIter eG F3 m6 BF)∧
  (m=none∧eG=none∨∃r b bY,m=some r∧eG=some b∧ι r=some ⟨b,0,0,bY⟩∧F3=bY since∧m6.toList=seen.map bY∧BF=bY oo)
 |.loop s gL fn t ps dt body d=>l.cW=0∧l.ex=0∧∃L:Loop,w.heap[l.cK]? =some (.loop L)∧L.state=s∧Gz gL L.pending∧L.fn=fn∧
  (∀n,bw ι (CJ t n) (L.tmps.getD n undef))∧L.params.toList=ps∧X.ok fn L.assign dt∧X.ok fn L.body body∧ι d=some ⟨L.defers,0,0,id⟩∧
  (∃F,X.P.funcs[fn]? =some F∧L.tmps.size=F.ntmps)∧∀t∈ps,t<L.tmps.size
 |.hG calls=>l.cW=0∧l.ex=0∧((calls=some []∧w.heap[l.cK]? =some (.deferred (some [])))∨(calls=none∧w.heap[l.cK]? =some (.deferred none)))
 |.dead=>True
def bB.wJ:bB->Prop
 |.cells _ _ bk bc=>bc=false∧bk.1<bk.2
 |_=>False
structure bx(ι:bu)(st:ar)(w:d7):Prop where
 eC:∀id o,st.h.get id=some o->o≠.dead->∃l,ι id=some l∧kf X ι w o l
 inj:∀i j o p l m,st.h.get i=some o->o≠.dead->st.h.get j=some p->p≠.dead->ι i=some l->ι j=some m->(l.bY≠h3∨m.bY≠h3)->l.cK=m.cK->i=j
 fresh:∀id,st.ai<=id->ι id=none∧st.h.get id=none
 gY:∀id l,ι id=some l->l.cK<w.heap.size
 mG:∀g,g<X.aH->ι g=some ⟨g,0,0,h3⟩
 p6:X.aH<=st.ai
 mn:∀i l o,ι i=some l->l.bY=h3->st.h.get i=some o->o≠.dead->o.wJ
def rI(w w':d7):Prop:=w'.os=w.os∧w'.output=w.output
structure e4(ι aU:bu)(w w':d7):Prop where
 le:ι.le aU
 size:w.heap.size<=w'.heap.size
 kept:∀b,b<w.heap.size->(∀id l,ι id=some l->l.bY≠h3->l.cK≠b)->w'.heap[b]? =w.heap[b]?
 new:∀id l,aU id=some l->ι id=some l∨w.heap.size<=l.cK∨∃j m,ι j=some m∧m.bY≠h3∧m.cK=l.cK
 g4:rI w w'
variable{w:d7}{ι:bu}{w':d7}{aU:bu}{l:Loc}{st:ar}
def e4.refl(ι:bu)(w:d7):e4 ι ι w w:=⟨.refl ι,cf _,fun _ _ _=>rfl,fun _ _ h=>.inl h,⟨rfl,rfl⟩⟩
def e4.trans{dF:bu}{ky:d7}(h:e4 ι aU w w')(aG:e4 aU dF w' ky):e4 ι dF w ky:=by
 refine⟨h.le.trans aG.le,zag h.size aG.size,fun b hb ae=> ?_,fun id l hl=> ?_,⟨aG.g4.1.trans h.g4.1,aG.g4.2.trans h.g4.2⟩⟩
 ·rw[aG.kept b (fx hb h.size) ?_,h.kept b hb ae];intro id l hl ah e;rcases h.new id l hl with hn|hn|⟨j,m,hj,dP,hm⟩
  ·exact ae id l hn ah e
  ·omega
  ·exact ae j m hj dP (by omega)
 ·rcases aG.new id l hl with hn|hn|⟨j,m,hj,ah,hm⟩
  ·exact h.new id l hn
  ·exact .inr (.inl (zag h.size hn))
  ·rcases h.new j m hj with I|I|⟨BE,eG,I,U,ag⟩
   ·exact .inr (.inr ⟨j,m,I,ah,hm⟩)
   ·exact .inr (.inl (by omega))
   ·exact .inr (.inr ⟨BE,eG,I,U,by omega⟩)
def tY.mono{P:f5}{cs:ac bi}{elem:ci}{bk:Nat×Nat}{bc:Bool}{C:be bi}{eA:Nat×Nat}
 (h:tY P ι w cs elem bk bc l C eA) (hle:ι.le aU) (e:w'.heap[l.cK]? =w.heap[l.cK]?):tY P aU w' cs elem bk bc l C eA:=
 ⟨by rw[e];exact h.there,h.room,fun i ae=>let⟨c,I,U⟩:=h.cell i ae;⟨c,I,U.mono hle⟩,h.xY,h.plain⟩
def kf.mono{o:bB}(h:kf X ι w o l)(hle:ι.le aU)(e:w'.heap[l.cK]? =w.heap[l.cK]?):kf X aU w' o l:=by
 cases o with
 |cells cs elem bk bc=>obtain⟨C,eA,hc⟩:=h;exact⟨C,eA,hc.mono hle e⟩
 |map es clock=>
  obtain⟨h0,k6,C,bL,I,U⟩:=h;exact⟨h0,k6,C,bL,by rw[e];exact I,U.mono hle⟩
 |acy s pos=>obtain⟨h0,k6,I⟩:=h;exact⟨h0,k6,by rw[e];exact I⟩
 |rh m since seen oo=>
  obtain⟨h0,k6,eG,bo,ch,hM,I,U⟩:=h;refine⟨h0,k6,eG,bo,ch,hM,by rw[e];exact I,?_⟩;rcases U with U|⟨r,b,bY,ag,au,a0,b5⟩
  ·exact .inl U
  ·exact .inr ⟨r,b,bY,ag,au,hle _ _ a0,b5⟩
 |loop s gL fn t ps dt body d=>
  obtain⟨h0,k6,L,I,U,ag,au,a0,b5,cY,h4,jl,rX⟩:=h;exact⟨h0,k6,L,by rw[e];exact I,U,ag,au,fun n=>(a0 n).mono hle,b5,cY,h4,hle _ _ jl,rX⟩
 |hG calls=>
  obtain⟨h0,k6,I⟩:=h;refine⟨h0,k6,?_⟩;rw[e];exact I
 |dead=>trivial
def bx.xH(h:bx X ι st w)(e:w'.heap=w.heap):bx X ι st w':=by
 refine⟨fun id o al ay=> ?_,h.inj,h.fresh,fun id l hl=>by rw[e];exact h.gY id l hl,h.mG,h.p6,h.mn⟩;obtain⟨l,hl,hm⟩:=h.eC id o al ay;exact⟨l,hl,kf.mono X hm (.refl ι) (by rw[e])⟩
def e4.xH(ι:bu)(e:w'.heap=w.heap)(g4:rI w w':=by exact⟨rfl,rfl⟩):e4 ι ι w w':=
 ⟨.refl ι,by rw[e];exact cf _,fun _ _ _=>by rw[e],fun _ _ h=>.inl h,g4⟩
def iD(ι:bu)(id:Nat)(l:Loc):bu:=fun i=>if i=id then some l else ι i
def bx.alloc(h:bx X ι st w)(o:bB)(O:Obj)(ex:Nat)
 (hm:∀aU w',ι.le aU->aU st.ai=some ⟨w.heap.size,0,ex,id⟩->w'.heap[w.heap.size]? =some O->kf X aU w' o ⟨w.heap.size,0,ex,id⟩) (w':d7) (hw:w'.heap=w.heap.push O) (g4:rI w w':=by exact⟨rfl,rfl⟩):
 ∃aU,bx X aU ⟨st.h.set st.ai o,st.ai+1⟩ w'∧e4 ι aU w w'∧aU st.ai=some ⟨w.heap.size,0,ex,id⟩∧aU=iD ι st.ai ⟨w.heap.size,0,ex,id⟩:=by
 refine⟨fun i=>if i=st.ai then some ⟨w.heap.size,0,ex,id⟩else ι i,?_,?_,zab rfl,rfl⟩
 ·have hle:ι.le (fun i=>if i=st.ai then some ⟨w.heap.size,0,ex,id⟩else ι i):=by
   intro i l hl;show(if i=st.ai then _ else ι i)=_;rw[zaa];exact hl;intro e;subst e;rw[(h.fresh _ (cf _)).1]at hl;cases hl
  refine⟨fun id p hp ay=> ?_,fun i j p q l m ae h5 hj iF iV hS aM e=> ?_,fun id pj=> ?_,fun id l hl=> ?_,fun g aM=> ?_,zbe h.p6,fun i l p hl ah hp ay=> ?_⟩
  ·rw[aq.eI]at hp;by_cases e:id=st.ai
   ·rw[zab e]at hp;cases hp;subst e;exact⟨_,zab rfl,hm _ _ hle (zab rfl) (by rw[hw];simp)⟩
   ·rw[zaa e]at hp;obtain⟨l,hl,al⟩:=h.eC id p hp ay;refine⟨l,hle _ _ hl,kf.mono X al hle ?_⟩;have:=h.gY id l hl;rw[hw,zcJ,zaa (by omega)]
  ·rw[aq.eI]at ae hj;by_cases iQ:i=st.ai<;>by_cases kj:j=st.ai
   ·rw[iQ,kj]
   ·exfalso;simp only[zaa kj]at hS;simp only[zab iQ]at iV;have:=h.gY j m hS;cases iV;simp only at e;omega
   ·exfalso;simp only[zaa iQ]at iV;simp only[zab kj]at hS;have:=h.gY i l iV;cases hS;simp only at e;omega
   ·simp only[zaa iQ]at iV ae;simp only[zaa kj]at hS hj;exact h.inj i j p q l m ae h5 hj iF iV hS aM e
  ·have anl:st.ai+1<=id:=pj;have:=h.fresh id (by omega);refine⟨?_,?_⟩
   ·show(if id=st.ai then _ else ι id)=_;rw[zaa (by omega)];exact this.1
   ·rw[aq.eI,zaa (by omega)];exact this.2
  ·rw[hw,Array.size_push];by_cases e:id=st.ai
   ·simp only[zab e]at hl;cases hl;simp
   ·simp only[zaa e]at hl;have:=h.gY id l hl;omega
  ·exact hle _ _ (h.mG g aM)
  ·rw[aq.eI]at hp;by_cases e:i=st.ai
   ·simp only[zab e]at hl;cases hl;exact absurd ah N1
   ·simp only[zaa e]at hl hp;exact h.mn i l p hl ah hp ay
 ·refine⟨?_,by rw[hw];simp,fun b hb _=>by rw[hw,zcJ,zaa (by omega)],fun id l hl=> ?_,g4⟩
  ·intro i l hl;show(if i=st.ai then _ else ι i)=_;rw[zaa];exact hl;intro e;subst e;rw[(h.fresh _ (cf _)).1]at hl;cases hl
  ·by_cases e:id=st.ai
   ·simp only[zab e]at hl;cases hl;exact .inr (.inl (cf _))
   ·simp only[zaa e]at hl;exact .inl hl
def bx.vF(h:bx X ι st w){id:Nat}{nA:bB}(h₀:st.h.get id=some nA)(uI:nA≠.dead)(yV:¬nA.wJ)(hl:ι id=some l)(o:bB)(O:Obj)
 (w':d7) (hw:w'.heap=w.heap.setIfInBounds l.cK O) (hm:o≠.dead->w'.heap[l.cK]? =some O->kf X ι w' o l) (g4:rI w w':=by exact⟨rfl,rfl⟩):
 bx X ι ⟨st.h.set id o,st.ai⟩ w'∧e4 ι ι w w':=by
 have hb:=h.gY id l hl;have oP:l.bY≠h3:=fun e=>yV (h.mn id l nA hl e h₀ uI);refine⟨⟨fun j p hp ay=> ?_,fun i j p q a b ae h5 hj iF iV hS aM e=> ?_,fun j hj=> ?_,fun j a ha=> ?_,h.mG,h.p6,fun j a p ha ah hp ay=> ?_⟩,?_⟩
 ·rw[aq.eI]at hp;by_cases e:j=id
  ·rw[zab e]at hp;cases hp;subst e;exact⟨l,hl,hm ay (by rw[hw];simp[hb])⟩
  ·rw[zaa e]at hp;obtain⟨m,kG,al⟩:=h.eC j p hp ay;refine⟨m,kG,kf.mono X al (.refl ι) ?_⟩;have hne:m.cK≠l.cK:=fun ki=>e (h.inj j id p nA m l hp ay h₀ uI kG hl (.inr oP) ki);rw[hw,zby (Ne.symm hne)]
 ·rw[aq.eI]at ae hj;have alN:∃gK,st.h.get i=some gK∧gK≠.dead:=by
   by_cases e:i=id
   ·subst e;exact⟨nA,h₀,uI⟩
   ·rw[zaa e]at ae;exact⟨p,ae,h5⟩
  have alP:∃gK,st.h.get j=some gK∧gK≠.dead:=by
   by_cases e:j=id
   ·subst e;exact⟨nA,h₀,uI⟩
   ·rw[zaa e]at hj;exact⟨q,hj,iF⟩
  obtain⟨gK,w1,yY⟩:=alN;obtain⟨gl,qc,uV⟩:=alP;exact h.inj i j gK gl a b w1 yY qc uV iV hS aM e
 ·have:=h.fresh j hj;refine⟨this.1,?_⟩;rw[aq.eI,zaa];exact this.2;intro e;subst e;rw[this.2]at h₀;cases h₀
 ·rw[hw];simpa using h.gY j a ha
 ·rw[aq.eI]at hp;by_cases e:j=id
  ·subst e;rw[hl]at ha;cases ha;exact absurd ah oP
  ·rw[zaa e]at hp;exact h.mn j a p ha ah hp ay
 ·refine⟨.refl ι,by rw[hw];simp,fun b _ ae=> ?_,fun _ _ hh=>.inl hh,g4⟩;rw[hw,zby (ae id l hl oP)]
end Go.an
namespace Go.an
mutual
def kV:bi->Bool
 |.bool _|.int _ _|.float _ _|.string _|.pointer none|.slice none _ _|.map none|.nilFunc|.nilIface=>true
 |.func (.func _) x y=>Gi x&&Gi y
 |.iface _ v=>kV v
 |.agg a|.tuple a=>Gi a
 |_=>false
def Gi:be bi->Bool
 |⟨a⟩=>nP a
def nP:ac bi->Bool
 |[]=>true
 |a::as=>kV a&&nP as
end
mutual
theorem bw.pure(ι:bu):∀v:bi,kV v=true->bw ι v v
 |.bool b,_=>.bool b
 |.int k n,_=>.int k n
 |.float k n,_=>.float k n
 |.complex _ _ _,h=>by simp[kV]at h
 |.string s,_=>.string s
 |.pointer none,_=>.nF
 |.pointer (some _),h=>by simp[kV]at h
 |.slice none n c,_=>.nJ n c
 |.slice (some _) _ _,h=>by simp[kV]at h
 |.map none,_=>.px
 |.map (some _),h=>by simp[kV]at h
 |.chan _,h=>by simp[kV]at h
 |.func (.func f) x y,h=>by
  simp only[kV,b1]at h;exact bw.Jh (.inl ⟨rfl,by simp⟩) (bP.oY ι x h.1) (bP.oY ι y h.2)
 |.func (.method _) _ _,h=>by simp[kV]at h
 |.func (.methodOf _ _) _ _,h=>by simp[kV]at h
 |.func (.via _ _ _ _) _ _,h=>by simp[kV]at h
 |.func (.yield _) _ _,h=>by simp[kV]at h
 |.nilFunc,_=>.nilFunc
 |.iface t v,h=>.iface t v v (bw.pure ι v (by simpa[kV]using h))
 |.nilIface,_=>.nilIface
 |.agg a,h=>bw.B4 (bP.oY ι a (by simpa[kV]using h))
 |.tuple a,h=>bw.pB (bP.oY ι a (by simpa[kV]using h))
theorem bP.oY(ι:bu):∀v:be bi,Gi v=true->bP ι v.toList v.toList
 |⟨a⟩,h=>bP.zC ι a (by simpa[Gi]using h)
theorem bP.zC(ι:bu):∀v:ac bi,nP v=true->bP ι v v
 |[],_=>bP.nil ι
 |a::as,h=>by
  simp only[nP,b1]at h;exact bP.cons (bw.pure ι a h.1) (bP.zC ι as h.2)
end
theorem bw.undef(ι:bu):bw ι undef undef:=bw.pure ι _ rfl
def cN(aH:Nat):bv->Bool
 |.tmp _=>true
 |.const v=>kV v
 |.global g=>Nat.ble (Nat.succ g) aH
 |.func _=>true
def Gs(ι:bu)(d e:Deferred):Prop:=
 bP ι d.args.toList e.args.toList∧
 match d.target,e.target with
 |.fn f c,.fn g bL=>Ac ι f g∧bP ι c.toList bL.toList
 |.collected r,.collected b=>ι r=some ⟨b,0,0,id⟩
 |_,_=>False
variable{ι aU:bu}
def tZ(ι:bu):ac Deferred->ac Deferred->Prop
 |[],[]=>True
 |d::ds,e::es=>Gs ι d e∧tZ ι ds es
 |_,_=>False
def Gs.mono(hle:ι.le aU){d e:Deferred}(h:Gs ι d e):Gs aU d e:=by
 obtain⟨I,U⟩:=h;refine⟨I.mono hle,?_⟩;cases ay:d.target<;>cases he:e.target<;>simp only[ay,he]at U⊢
 ·exact⟨U.1.mono hle,U.2.mono hle⟩
 ·exact hle _ _ U
def tZ.mono(hle:ι.le aU):∀{ds es:ac Deferred},tZ ι ds es->tZ aU ds es
 |[],[],_=>trivial
 |_::_,_::_,h=>⟨h.1.mono hle,tZ.mono hle h.2⟩
 |[],_::_,h=>h.elim
 |_::_,[],h=>h.elim
structure cE(ι:bu)(fr:aO)(a:Act)(aI:Nat):Prop where
 tmp:∀t,bw ι (fr.tmp t) (a.tmps.getD t undef)
 size:a.tmps.size=aI
 cL:tZ ι fr.cL a.defers
def cE.mono(hle:ι.le aU){fr:aO}{a:Act}{aI:Nat}(h:cE ι fr a aI):cE aU fr a aI:=
 ⟨fun t=>(h.tmp t).mono hle,h.size,h.cL.mono hle⟩
variable{X:Ctx}
variable{fr:aO}{a:Act}{aI:Nat}
def cE.ak{st:ar}{w:d7}(h:cE ι fr a aI)(hw:bx X ι st w){x:bv}(aa:cN X.aH x=true):bw ι (fr.ak x) (a.eval x):=by
 cases x with
 |tmp t=>exact h.tmp t
 |const v=>exact bw.pure ι v aa
 |global g=>
  have aM:g<X.aH:=mA.1 aa;have:=bw.ptr (ι:=ι) ⟨g,0,none⟩ ⟨g,0,0,h3⟩ (hw.mG g aM) rfl;show bw ι (.pointer (some ⟨g,0,none⟩)) (.pointer (some ⟨g,0,none⟩));simpa using this
 |func f=>exact bw.Jh (.inl ⟨rfl,by simp⟩) (bP.nil ι) (bP.nil ι)
def cE.put(h:cE ι fr a aI){d:am Tmp}(ay:∀t,d=some t->t<aI){v v':bi}(aE:bw ι v v'):cE ι (fr.put d v) (a.put d v') aI:=by
 cases d with
 |none=>exact h
 |some d=>
  refine⟨fun t=> ?_,by simp[Act.put,h.size],by rw[(sq fr (some d) v).1];exact h.cL⟩;rw[sG];have aT:d<a.tmps.size:=by rw[h.size];exact ay d rfl
  simp only[Act.put,Option.some.injEq];by_cases e:d=t
  ·subst e;rw[zab rfl];simp[Array.getD,aT];exact aE
  ·rw[zaa e];have:=h.tmp t;simp only[Array.getD_eq_getD_getElem?]at this⊢;rw[zby e];exact this
def ad8(aU:bu)(v:bi)(n:Next):Prop:=(∃v',n= .value v'∧bw aU v v')∨(n= .skip∧v=undef)
def lI(X:Ctx)(ι:bu)(w:d7)(v:bi)(st':ar)(s:Sem Next):Prop:=
 ∃aU n w',s.run X.P w= .ok n w'∧ad8 aU v n∧bx X aU st' w'∧e4 ι aU w w'
def cy(X:Ctx)(ι:bu)(w:d7)(v:bi)(st st':ar)(s:Sem Next):Prop:=
 st'=st∧bx X ι st w∧∃v',s.run X.P w= .ok (.value v') w∧bw ι v v'
variable{w:d7}{v:bi}{st:ar}{s:Sem Next}
def cy.same{v':bi}(hw:bx X ι st w)(aD:s.run X.P w= .ok (.value v') w)(aE:bw ι v v'):cy X ι w v st st s:=
 ⟨rfl,hw,v',aD,aE⟩
def cy.Qs{st':ar}(h:cy X ι w v st st' s):lI X ι w v st' s:=by
 obtain⟨rfl,hw,v',aD,aE⟩:=h;exact⟨ι,_,w,aD,.inl ⟨v',rfl,aE⟩,hw,.refl ι w⟩
def ue(X:Ctx)(ι:bu)(w:d7)(v:bi)(st st':ar)(s:Sem Next):Prop:=
 ∃o O ex v' w',st'=⟨st.h.set st.ai o,st.ai+1⟩∧o≠.dead∧s.run X.P w= .ok (.value v') w'∧w'.heap=w.heap.push O∧
  bw (iD ι st.ai ⟨w.heap.size,0,ex,id⟩) v v'∧bx X (iD ι st.ai ⟨w.heap.size,0,ex,id⟩) st' w'∧e4 ι (iD ι st.ai ⟨w.heap.size,0,ex,id⟩) w w'
def ue.Qs{st':ar}(h:ue X ι w v st st' s):lI X ι w v st' s:=by
 obtain⟨o,O,ex,v',w',_,_,aD,_,aE,hw,ab⟩:=h;exact⟨_,_,w',aD,.inl ⟨v',rfl,aE⟩,hw,ab⟩
def lI.same{v':bi}(hw:bx X ι st w)(aD:s.run X.P w= .ok (.value v') w)(aE:bw ι v v'):lI X ι w v st s:=
 ⟨ι,_,w,aD,.inl ⟨v',rfl,aE⟩,hw,.refl ι w⟩
section
variable{ι:bu}{fr aF:aO}{a:Act}{aI:Nat}{st st':ar}{w:d7}{o:Oper}{v:bi}{call:bF}
variable{x:bv}
def acw(aa:cN X.aH x=true)(al:o.op= .move x∨o.op= .assign x)(af:cE ι fr a aI)(hw:bx X ι st w)(h:Z9 x call fr st= .ok v aF st'):
 aF=fr∧cy X ι w v st st' (execOp a.eval o):=by
 cases h;refine⟨rfl,cy.same (v':=a.eval x) hw ?_ (af.ak hw aa)⟩;unfold execOp;rcases al with al|al<;>rw[al]<;>rfl
def aul{c y:bv}(hc:cN X.aH c=true)(aa:cN X.aH x=true)(aJ:cN X.aH y=true)(al:o.op= .pick c x y)(af:cE ι fr a aI)(hw:bx X ι st w)(h:aac c x y call fr st= .ok v aF st'):
 aF=fr∧cy X ι w v st st' (execOp a.eval o):=by
 obtain⟨t,aV,h⟩:=QQ h (by simp);cases h;have n4:=af.ak hw hc;rw[aV]at n4;generalize M6:a.eval c=Hd at n4;cases n4;refine⟨rfl,cy.same (v':=if t then a.eval x else a.eval y) hw ?_ ?_⟩
 ·unfold execOp;rw[al];simp[M6,asBool]
 ·cases t
  ·exact af.ak hw aJ
  ·exact af.ak hw aa
end
end Go.an
namespace Go.an
variable{X:Ctx}
variable{w:d7}{bk:Nat×Nat}{b o:Nat}{e:ci}{P:f5}
def cell_of{C:be bi}(h:w.heap[b]? =some (.cells C e bk)):w.cell? ⟨b,o,none⟩=C[o]? :=by
 simp[World.cell?,h]
def ai0{C:be bi}(h:w.heap[b]? =some (.cells C e bk)):w.frozen? ⟨b,o,none⟩=(decide (bk.1<=o)&&decide (o<bk.2)):=by
 obtain⟨aK,ae⟩:=bk;simp[World.frozen?,h]
def tY.row{ι:bu}{cs:ac bi}{elem:ci}{bc:Bool}{l:Loc}{C:be bi}{eA:Nat×Nat}
 (h:tY P ι w cs elem bk bc l C eA) (off n:Nat) (hn:n<=(cs.drop off).length):bP ι ((cs.drop off).take n) ((C.toList.drop (l.cW+off)).take n):=by
 have hlen:(cs.drop off).length=cs.length-off:=by simp
 have q8:=h.room;refine⟨by simp;omega,fun i a b=> ?_⟩;simp only[zao,zaz]at a b;obtain⟨c,I,U⟩:=h.cell (off+i) (by omega);have ae:l.cW+(off+i)<C.size:=(zbh.1 I).1;rw[zbQ ae]at I;cases I;simp only[zdG,zdH,zaB];have e:l.cW+off+i=l.cW+(off+i):=by omega
 simp only[e];exact U
def FV{n:Nat}{C:be bi}(h:w.heap[b]? =some (.cells C e bk))(hn:o+n<=C.size):
 (loadCells ⟨b,o,none⟩ n).run P w= .ok ((C.toList.drop o).take n).toArray w:=by
 have hl:((C.toList.drop o).take n).length=n:=by simp;omega
 have:=run_loadCells_list (P:=P) w ⟨b,o,none⟩ ((C.toList.drop o).take n) (fun j v hj=>by
  have ann:j<n:=by
   have:=(zac.1 hj).1;omega
  have az:(Addr.add ⟨b,o,none⟩ j)=⟨b,o+j,none⟩:=by unfold Addr.add;split<;>simp_all
  rw[az,cell_of h];rw[zaK,zab ann,zaw]at hj;simpa using hj)
 rwa [hl]at this
theorem Qk{P:f5}{b o:Nat}{e:ci}{bk:Nat×Nat}:∀(vs:ac bi) (i:Nat) (C:be bi) (w:d7),w.heap[b]? =some (.cells C e bk)->o+i+vs.length<=C.size->
 (∀v∈vs,v.oneCell'=true)->(∀j,o+i<=j->j<o+i+vs.length->¬(bk.1<=j∧j<bk.2))->
 ∃w',(storeCells ⟨b,o,none⟩ vs i).run P w= .ok () w'∧
  w'.heap=w.heap.setIfInBounds b (.cells (C.toList.take (o+i)++(vs++C.toList.drop (o+i+vs.length))).toArray e bk)∧rI w w'
 |[],i,C,w,h,hn,_,_=>by
  refine⟨w,rfl,?_,⟨rfl,rfl⟩⟩;have:(C.toList.take (o+i)++([]++C.toList.drop (o+i+([]:ac bi).length))).toArray=C:=by simp
  rw[this];apply zde;intro j;by_cases kj:b=j
  ·subst kj;have:=(zbh.1 h).1;rw[zdI];simp[this];exact(zbh.1 h).2
  ·rw[zby kj]
 |v::vs,i,C,w,h,hn,I,af=>by
  simp only[zay]at hn af;have az:(Addr.add ⟨b,o,none⟩ i)=⟨b,o+i,none⟩:=by unfold Addr.add;split<;>simp_all
  have aT:o+i<C.size:=by omega
  have hc:w.cell? ⟨b,o+i,none⟩=some C[o+i]:=by rw[cell_of h,zbQ aT]
  have oK:w.frozen? ⟨b,o+i,none⟩=false:=by
   rw[ai0 h];have:=af (o+i) (by omega) (by omega);simp only[Bool.and_eq_false_iff,decide_eq_false_iff_not];omega
  have ah:(store ⟨b,o+i,none⟩ v).run P w= .ok () (w.setCell ⟨b,o+i,none⟩ v):=by
   rw[run_store P w _ v _ (I v (by simp)),hc];simp[oK]
  have hb:=(zbh.1 h).1;have hh:(w.setCell ⟨b,o+i,none⟩ v).heap=w.heap.setIfInBounds b (.cells (C.setIfInBounds (o+i) v) e bk):=by
   simp only[World.setCell];apply zde;intro j;rw[zdJ];by_cases kj:b=j
   ·subst kj;rw[zab rfl,h,zdI];simp[hb]
   ·rw[zaa kj,zby kj]
  have aG:(w.setCell ⟨b,o+i,none⟩ v).heap[b]? =some (.cells (C.setIfInBounds (o+i) v) e bk):=by rw[hh];simp[hb]
  obtain⟨w',aD,en,g4⟩:=Qk (P:=P) (o:=o) vs (i+1) (C.setIfInBounds (o+i) v) (w.setCell ⟨b,o+i,none⟩ v) aG (by simp;omega) (fun x aa=>I x (by simp[aa])) (fun j a c=>af j (by omega) (by omega));refine⟨w',?_,?_,g4⟩
  ·unfold storeCells;rw[az,Sem.run_bind,ah];exact aD
  ·rw[en,hh];rw[Array.setIfInBounds_setIfInBounds];congr 3;have kJ:(C.setIfInBounds (o+i) v).toList=C.toList.set (o+i) v:=by simp
   rw[kJ];have hl:o+i<C.toList.length:=by simpa using aT
   have t1:(C.toList.set (o+i) v).take (o+(i+1))=C.toList.take (o+i)++[v]:=by
    rw[show o+(i+1)=(o+i)+1 by omega,zaP (by simpa using aT),zaV (cf _)];simp
   have t2:(C.toList.set (o+i) v).drop (o+(i+1)+vs.length)=C.toList.drop (o+i+(v::vs).length):=by
    rw[zcK (by omega)];congr 1;simp only[zay];omega
   rw[t1,t2];simp
section
variable{ι:bu}{fr aF:aO}{a:Act}{aI:Nat}{st st':ar}{w:d7}{o:Oper}{v:bi}{call:bF}
variable{t:ci}{d:TypeDesc}{i:f7}{x:bv}
def rL:TypeDesc->Bool
 |.struct _|.array _ _=>true
 |_=>false
def EV(h:P.underlying t=some d)(w:d7):(isAgg t).run P w= .ok (rL d) w:=by
 unfold isAgg;rw[Sem.run_bind,run_underlying h];cases d<;>rfl
def kv(h:P.info? t=some i)(w:d7):(sizeOf t).run P w= .ok i.size w:=by
 simp[sizeOf,typeInfo,h]
def acs(aa:cN X.aH x=true)(al:o.op= .load t x)(ay:X.P.underlying t=some d)(p8:rL d=false)
 (af:cE ι fr a aI) (hw:bx X ι st w) (h:Jm x call fr st= .ok v aF st'):
 aF=fr∧cy X ι w v st st' (execOp a.eval o):=by
 obtain⟨p,hp,h⟩:=qs h (by simp);obtain⟨ad,rfl,h⟩:=gA h (by simp);obtain⟨ah,cs,elem,bk,bc,aM,hn,h⟩:=BJ h (by simp);obtain⟨v1,oa,h⟩:=B5 h (by simp);cases h;obtain⟨l,hl,C,eA,hc⟩:=hw.eC _ _ aM (by simp);have b4:=af.ak hw aa;rw[hp]at b4;generalize cI:a.eval x=fB at b4;cases b4 with
 |ptr _ l' cC dP=>
  rw[hl]at cC;cases cC;have hlen:ad.off<cs.length:=by simp at hn;omega
  have kI:=hc.row ad.off 1 hn;rw[oa]at kI;obtain⟨y,aw,aJ,aor,_⟩:=kI.cons_inv;have q8:=hc.room;have w7:C[l.cW+ad.off]? =some y:=by
   have:=congrArg (fun z=>z[0]?) aJ;simpa using this
  refine⟨rfl,cy.same (v':=y) hw ?_ aor⟩;unfold execOp;rw[al];simp only[cI,Instr.loadAt,Instr.sureAddr,loadVar,Sem.run_bind,Sem.run_pure,Result.andThen,EV ay,p8,zaW,if_false,run_load];rw[cell_of hc.there,w7]
def acu(aa:cN X.aH x=true)(al:o.op= .load t x)(ay:X.P.underlying t=some d)(p8:rL d=true)
 (ae:X.P.info? t=some i) (af:cE ι fr a aI) (hw:bx X ι st w) (h:Jn i.size x call fr st= .ok v aF st'):
 aF=fr∧cy X ι w v st st' (execOp a.eval o):=by
 obtain⟨p,hp,h⟩:=qs h (by simp);obtain⟨ad,rfl,h⟩:=gA h (by simp);obtain⟨ah,cs,elem,bk,bc,aM,hn,h⟩:=BJ h (by simp);cases h;obtain⟨l,hl,C,eA,hc⟩:=hw.eC _ _ aM (by simp);have b4:=af.ak hw aa;rw[hp]at b4;generalize cI:a.eval x=fB at b4;cases b4 with
 |ptr _ l' cC dP=>
  rw[hl]at cC;cases cC;have kI:=hc.row ad.off i.size hn;have q8:=hc.room;simp only[zaz]at hn;by_cases ax:i.size=0
  ·refine⟨rfl,cy.same (v':=.agg #[]) hw ?_ ?_⟩
   ·unfold execOp;rw[al];simp only[cI,Instr.loadAt,Instr.sureAddr,loadVar,Sem.run_bind,Sem.run_pure,Result.andThen,EV ay,p8,if_true,kv ae,ax];rfl
   ·rw[ax];exact bw.B4 (by simpa using bP.nil ι)
  refine⟨rfl,cy.same (v':=.agg ((C.toList.drop (l.cW+ad.off)).take i.size).toArray) hw ?_ (bw.B4 (by simpa using kI))⟩;unfold execOp;rw[al];simp only[cI,Instr.loadAt,Instr.sureAddr,loadVar,Sem.run_bind,Sem.run_pure,Result.andThen,EV ay,p8,if_true,kv ae];rw[FV hc.there (by omega)]
end
variable{ι:bu}{cs:ac bi}{elem:ci}{bc:Bool}{l:Loc}{v:bi}{st:ar}
def Qu{α:Type}(l vs:ac α)(n i:Nat)(h:n+vs.length<=l.length):
 (l.take n++(vs++l.drop (n+vs.length)))[i]? =if i<n then l[i]? else if i<n+vs.length then vs[i-n]? else l[i]? :=by
 by_cases I:i<n
 ·rw[zab I,zaD (by simp;omega),zaK,zab I]
 ·rw[zaa I,zav (by simp;omega)];have e:i-(l.take n).length=i-n:=by simp;omega
  rw[e];by_cases U:i<n+vs.length
  ·rw[zab U,zaD (by omega)]
  ·rw[zaa U,zav (by omega),zaw];congr 1;omega
def tY.store{w':d7}{C:be bi}{eA:Nat×Nat}
 (h:tY P ι w cs elem bk bc l C eA) {off:Nat} {vs gB:ac bi} (hle:off+vs.length<=cs.length) (aE:bP ι vs gB)
 (hw:w'.heap[l.cK]? =some (.cells (C.toList.take (l.cW+off)++(gB++C.toList.drop (l.cW+off+gB.length))).toArray elem eA)):
 tY P ι w' (cs.take off++(vs++cs.drop (off+vs.length))) elem bk bc l (C.toList.take (l.cW+off)++(gB++C.toList.drop (l.cW+off+gB.length))).toArray eA:=by
 have hlen:=aE.1;have q8:=h.room;have jR:l.cW+cs.length<=C.size:=by
  have:=zci (l.cW+cs.length) (l.ex*P.cellsOf elem);omega
 have Eo:(cs.take off++(vs++cs.drop (off+vs.length))).length=cs.length:=by simp;omega
 have e0:((C.toList.take (l.cW+off)++(gB++C.toList.drop (l.cW+off+gB.length))).toArray).size=C.size:=by simp;omega
 refine⟨hw,by rw[Eo,e0];exact q8,fun i ae=> ?_,fun af j=>by rw[Eo];exact h.xY af j,fun aM=>by rw[Eo,e0];exact h.plain aM⟩;have dE:i<cs.length:=by omega
 have az:=Qu cs vs off i hle;have e2:=Qu C.toList gB (l.cW+off) (l.cW+i) (by simp;omega);rw[bg ae]at az;simp only[zcj];rw[e2];obtain⟨c,I,U⟩:=h.cell i dE;by_cases eF:i<off
 ·rw[zab eF,bg dE]at az;rw[zab (by omega)];refine⟨c,by simpa using I,?_⟩;rw[Option.some.inj az];exact U
 ·by_cases e5:i<off+vs.length
  ·rw[zaa eF,zab e5,bg (by omega)]at az;rw[zaa (by omega),zab (by omega)];have b8:l.cW+i-(l.cW+off)=i-off:=by omega
   rw[b8,bg (by omega)];refine⟨_,rfl,?_⟩;rw[Option.some.inj az];exact aE.2 (i-off) (by omega) (by omega)
  ·rw[zaa eF,zaa e5,bg dE]at az;rw[zaa (by omega),zaa (by omega)];refine⟨c,by simpa using I,?_⟩;rw[Option.some.inj az];exact U
def aqO{c:bi}(h:bw ι v c)(aE:nU v=true):c.oneCell'=true:=by
 cases h<;>first|rfl|(simp[nU,js]at aE)
theorem O0{ι:bu}:∀{vs cs:ac bi},bP ι vs cs->hD vs=true->∀c∈cs,c.oneCell'=true
 |[],cs,h,_,c,hc=>by rw[h.xj]at hc;simp at hc
 |v::vs,cs,h,ha,c,hc=>by
  obtain⟨y,aw,rfl,I,U⟩:=h.cons_inv;have qY:cond (nU v) (hD vs) false=true:=ha;obtain⟨eW,eQ⟩:=jj qY (by simp);rcases zah.1 hc with rfl|hc
  ·exact aqO I eW
  ·exact O0 U eQ c hc
def bx.store(hw:bx X ι st w){id off:Nat}
 (aM:st.h.get id=some (.cells cs elem bk bc)) (hl:ι id=some l) (oK:bk.2<=bk.1) {vs gB:ac bi} (hle:off+vs.length<=cs.length) (aE:bP ι vs gB) (bR:hD vs=true):
 ∃w',(storeCells ⟨l.cK,l.cW+off,none⟩ gB).run X.P w= .ok () w'∧bx X ι ⟨st.h.set id (.cells (cs.take off++(vs++cs.drop (off+vs.length))) elem bk bc),st.ai⟩ w'∧e4 ι ι w w':=by
 obtain⟨l',cC,C,eA,hc⟩:=hw.eC _ _ aM (by simp);rw[hl]at cC;cases cC;have q8:=hc.room;have hlen:=aE.1;have jR:l.cW+cs.length<=C.size:=by
  have:=zci (l.cW+cs.length) (l.ex*X.P.cellsOf elem);omega
 obtain⟨w',aD,hh,g4⟩:=Qk (P:=X.P) (o:=l.cW+off) gB 0 C w hc.there (by omega) (O0 aE bR) (fun j I U=>hc.xY oK j (by omega) (by
  have:=zci (l.cW+cs.length) (l.ex*X.P.cellsOf elem);omega))
 simp only[zba]at hh;obtain⟨t1,t2⟩:=bx.vF X hw aM (by simp) (fun af=>by have:=af.2;omega) hl (.cells (cs.take off++(vs++cs.drop (off+vs.length))) elem bk bc) _ w' hh (fun _ aV=>⟨_,eA,hc.store hle aE aV⟩) g4;exact⟨w',aD,t1,t2⟩
def bx.Qp(hw:bx X ι st w){id:Nat}{o:bB}(aM:st.h.get id=some o):bx X ι ⟨st.h.set id o,st.ai⟩ w:=by
 have e:∀j,(st.h.set id o).get j=st.h.get j:=by
  intro j;rw[aq.eI];split
  ·subst_vars;exact aM.symm
  ·rfl
 exact⟨fun j p hp ay=>hw.eC j p (by rw[<-e];exact hp) ay,fun i j p q l m ae I hj U=>hw.inj i j p q l m (by rw[<-e];exact ae) I (by rw[<-e];exact hj) U,
  fun j hj=>⟨(hw.fresh j hj).1,by rw[e];exact(hw.fresh j hj).2⟩,hw.gY,hw.mG,hw.p6,fun j l p hl ah hp ay=>hw.mn j l p hl ah (by rw[<-e];exact hp) ay⟩
def afD(h:hD v.cells.toList=true):v≠js:=by
 intro e;subst e;simp[js,Value.cells]at h;have aG:cond (nU (.chan (some 0))) true false=true:=h;simp[nU]at aG
section
variable{ι:bu}{fr aF:aO}{a:Act}{aI:Nat}{st st':ar}{w:d7}{o:Oper}{v:bi}{call:bF}
variable{t:ci}{i:f7}{x:bv}{z:bi}
def auq{y:bv}(aa:cN X.aH x=true)(aJ:cN X.aH y=true)(al:o.op= .store t x y)(ae:X.P.info? t=some i)
 (af:cE ι fr a aI) (hw:bx X ι st w) (h:aah i.size x y call fr st= .ok v aF st'):
 aF=fr∧lI X ι w v st' (execOp a.eval o):=by
 obtain⟨p,hp,h⟩:=qs h (by simp);obtain⟨ad,rfl,h⟩:=gA h (by simp);obtain⟨hn,h⟩:=lv h (by simp);obtain⟨bR,h⟩:=jj h (by simp);obtain⟨ah,cs,elem,bk,bc,aM,oK,h⟩:=acZ h (by simp);rw[fe]at hn;obtain⟨l,hl,hm⟩:=hw.eC _ _ aM (by simp);have b4:=af.ak hw aa;rw[hp]at b4;generalize cI:a.eval x=fB at b4;cases b4 with
 |ptr _ l' cC dP=>
  rw[hl]at cC;cases cC;have gy:=af.ak hw aJ;have NY:=bP.cells gy (afD bR);have e0:(a.eval y).cells.size=i.size:=by have:=NY.1;simp[ih]at this hn;omega
  have fU:∀w',(storeCells ⟨l.cK,l.cW+ad.off,none⟩ (a.eval y).cells.toList).run X.P w= .ok () w'->(execOp a.eval o).run X.P w= .ok .skip w':=by
   intro w' aD;unfold execOp;rw[al];simp only[cI,Instr.storeAt,Instr.sureAddr,storeVar,Sem.run_bind,Sem.run_pure,Result.andThen,kv ae];rw[zaa (by simp[e0])];simp[aD]
  rcases h with⟨hle,h⟩|⟨he,h⟩
  ·cases h;obtain⟨w',aD,I,U⟩:=hw.store aM hl oK hle NY bR;exact⟨rfl,ι,.skip,w',fU w' aD,.inr ⟨rfl,rfl⟩,I,U⟩
  ·cases h;have:(a.eval y).cells.toList=[]:=by
    have:=NY.1;rw[show(fr.ak y).cells.toList=[]from he]at this;exact zaX this.symm
   refine⟨rfl,ι,.skip,w,fU w ?_,.inr ⟨rfl,rfl⟩,hw.Qp aM,.refl ι w⟩;rw[this];rfl
def bx.Jb{cs':ac bi}(hw:bx X ι st w)(elem:ci)(aE:bP ι cs cs')(w':d7)(hh:w'.heap=w.heap.push (.cells cs'.toArray elem))(g4:rI w w':=by exact⟨rfl,rfl⟩):
 ∃aU,bx X aU ⟨st.h.set st.ai (.cells cs elem (0,0) false),st.ai+1⟩ w'∧e4 ι aU w w'∧aU st.ai=some ⟨w.heap.size,0,0,id⟩∧aU=iD ι st.ai ⟨w.heap.size,0,0,id⟩:=by
 refine bx.alloc X hw _ _ 0 (fun aU ky hle _ aV=> ?_) w' hh g4;refine⟨cs'.toArray,(0,0),⟨aV,by simp[aE.1],fun i ae=> ?_,fun _ j _ _=>by simp,fun _=>⟨rfl,rfl,by simp[aE.1]⟩⟩⟩;have dE:i<cs'.length:=by rw[<-aE.1];exact ae
 exact⟨cs'[i],by simp[dE],(aE.2 i ae dE).mono hle⟩
def vM(h:P.info? t=some i)(ax:i.zero=some z)(w:d7):(zeroValue t).run P w= .ok z w:=by
 simp[zeroValue,typeInfo,h,ax]
def atA(al:o.op= .alloc t)(ae:X.P.info? t=some i)(ax:i.zero=some z)(hp:nP z.cells.toList=true)
 (hw:bx X ι st w) (h:zy z.cells.toList t call fr st= .ok v aF st'):
 aF=fr∧ue X ι w v st st' (execOp a.eval o):=by
 unfold zy at h;rw[gR]at h;cases h;obtain⟨aU,I,U,ag,mX⟩:=hw.Jb t (bP.zC ι _ hp) {w with heap:=w.heap.push (.cells z.cells t)} (by simp);rw[mX]at I U ag;refine⟨rfl,_,_,_,.pointer (some ⟨w.heap.size,0,none⟩),_,rfl,by simp,?_,rfl,?_,I,U⟩
 ·unfold execOp;rw[al];simp[Instr.alloc,vM ae ax,newVar,newRow,Result.andThen]
 ·have:=bw.ptr (ι:=iD ι st.ai ⟨w.heap.size,0,0,id⟩) ⟨st.ai,0,none⟩ ⟨w.heap.size,0,0,id⟩ ag rfl;simpa using this
def atD(aa:cN X.aH x=true)(al:o.op= .box t x)(af:cE ι fr a aI)(hw:bx X ι st w)(h:B6 t x call fr st= .ok v aF st'):
 aF=fr∧ue X ι w v st st' (execOp a.eval o):=by
 obtain⟨hp,h⟩:=BU h (by simp);rw[gR]at h;cases h;have hne:fr.ak x≠js:=by intro e;rw[e]at hp;simp[u6,js]at hp
 obtain⟨aU,I,U,ag,mX⟩:=hw.Jb t (bP.cells (af.ak hw aa) hne) {w with heap:=w.heap.push (.cells (a.eval x).cells t)} (by simp);rw[mX]at I U ag;refine⟨rfl,_,_,_,.pointer (some ⟨w.heap.size,0,none⟩),_,rfl,by simp,?_,rfl,?_,I,U⟩
 ·unfold execOp;rw[al];simp[Instr.box,newVar,newRow,Result.andThen]
 ·have:=bw.ptr (ι:=iD ι st.ai ⟨w.heap.size,0,0,id⟩) ⟨st.ai,0,none⟩ ⟨w.heap.size,0,0,id⟩ ag rfl;simpa using this
end
def aii{op:BinOp}{x y:bi}{c:bi->a1}{r:a1}(h:DP op x y c=r)(aD:a1.no≠r):
 (∃k a k' b,x= .int k a∧y= .int k' b∧AW op k a k' b c=r)∨(∃s t,x= .string s∧y= .string t∧Dk op s t c=r):=by
 cases x with
 |int k a=>
  cases y with
  |int k' b=>exact .inl ⟨k,a,k',b,rfl,rfl,h⟩
  |_=>exact absurd h aD
 |string s=>
  cases y with
  |string t=>exact .inr ⟨s,t,rfl,rfl,h⟩
  |_=>exact absurd h aD
 |_=>exact absurd h aD
def vb{a b:d8}(h:kK a b=true):a=b:=by
 cases a<;>cases b<;>first|rfl|(exact absurd h (by decide))
def ae2(k:d8)(m n:Nat):(BitVec.ofInt k.bits (m:Int)&&&BitVec.ofInt k.bits (n:Int)).toNat=Nat.land (m%2^k.bits) (n%2^k.bits):=by
 rw[zbz,zbz,BitVec.toNat_and];simp
def ae3(k:d8)(m n:Nat):(BitVec.ofInt k.bits (m:Int)|||BitVec.ofInt k.bits (n:Int)).toNat=Nat.lor (m%2^k.bits) (n%2^k.bits):=by
 rw[zbz,zbz,BitVec.toNat_or];simp
def ae4(k:d8)(m n:Nat):(BitVec.ofInt k.bits (m:Int)^^^BitVec.ofInt k.bits (n:Int)).toNat=Nat.xor (m%2^k.bits) (n%2^k.bits):=by
 rw[zbz,zbz,BitVec.toNat_xor];simp
def Lz(f:Nat->Nat->Nat)(g:Int)(k:d8)(a b:Int)(c:bi->a1)(aM:∀m n:Nat,a=m->b=n->g=k.wrap (f (m%2^k.bits) (n%2^k.bits):Nat)):
 Dl f g k a b c=c (.int k g):=by
 unfold Dl;cases a with
 |ofNat m=>
  cases b with
  |ofNat n=>
   show iI k (o9 k (.ofNat (f (Nat.mod m (2^k.bits)) (Nat.mod n (2^k.bits))))) c=_;rw[iZ,l3,aM m n rfl rfl];rfl
  |negSucc n=>exact iZ _ _ _
 |negSucc m=>exact iZ _ _ _
def sc(op:BinOp)(k:d8)(a b:Int):am bi:=
 match op with
 |.add=>some (.int k (k.wrap (a+b)))
 |.sub=>some (.int k (k.wrap (a-b)))
 |.mul=>some (.int k (k.wrap (a*b)))
 |.quo=>if b=0 then none else some (.int k (k.wrap (a.tdiv b)))
 |.rem=>if b=0 then none else some (.int k (a.tmod b))
 |.and=>some (.int k (k.wrap (BitVec.ofInt k.bits a&&&BitVec.ofInt k.bits b).toNat))
 |.or=>some (.int k (k.wrap (BitVec.ofInt k.bits a|||BitVec.ofInt k.bits b).toNat))
 |.xor=>some (.int k (k.wrap (BitVec.ofInt k.bits a^^^BitVec.ofInt k.bits b).toNat))
 |.andNot=>some (.int k (k.wrap (BitVec.ofInt k.bits a&&& ~~~(BitVec.ofInt k.bits b)).toNat))
 |.eql=>some (.bool (a==b))
 |.neq=>some (.bool (a != b))
 |.lss=>some (.bool (decide (a<b)))
 |.leq=>some (.bool (decide (a<=b)))
 |.gtr=>some (.bool (decide (b<a)))
 |.geq=>some (.bool (decide (b<=a)))
 |_=>none
def Ly(op:BinOp)(k:d8)(a b:Int)(c:bi->a1):As op k a b c=match sc op k a b with|some v=>c v|none=>.no:=by
 cases op<;>simp only[As,RZ,Sc,R7,Sa,Sb,R0,R9,Sd,R1,R2,R8,R6,R5,R4,R3,Lx,sc]
 ·rw[iZ,l3,Rl]
 ·rw[iZ,l3,Rl,OJ];rfl
 ·rw[iZ,l3,OG]
 ·rw[DO];by_cases h:b=0
  ·subst h;rfl
  ·rw[zaa h,show(b==0)=false by simpa using h];cases a with
   |ofNat m=>
    cases b with
    |ofNat n=>
     show iI k (o9 k (.ofNat (m/n))) c=c (.int k (k.wrap ((m:Int).tdiv (n:Int))));rw[iZ,l3];rfl
    |negSucc n=>exact iZ _ _ _
   |negSucc m=>exact iZ _ _ _
 ·rw[DO];by_cases h:b=0
  ·subst h;rfl
  ·rw[zaa h,show(b==0)=false by simpa using h];cases a with
   |ofNat m=>
    cases b with
    |ofNat n=>exact iZ k (Int.ofNat (m%n)) c
    |negSucc n=>exact iZ k ((Int.ofNat m).tmod (Int.negSucc n)) c
   |negSucc m=>exact iZ k ((Int.negSucc m).tmod b) c
 ·exact Lz _ _ _ _ _ _ (fun m n ha hb=>by subst ha hb;rw[ae2])
 ·exact Lz _ _ _ _ _ _ (fun m n ha hb=>by subst ha hb;rw[ae3])
 ·exact Lz _ _ _ _ _ _ (fun m n ha hb=>by subst ha hb;rw[ae4])
 ·exact iZ _ _ _
 ·rw[DO]
 ·rw[DO];rfl
 ·rw[tr];congr 2;rw[zaU];simp
 ·rw[tr]
 ·rw[tr];congr 2;rw[zaU];simp
 ·rw[tr]
def atq(k:d8)(a:Int)(n:Nat):zS k a n=k.wrap (a*2^(min n k.bits)):=by
 unfold zS;rw[l3,OG];congr 2
def atw(k:d8)(a:Int)(n:Nat):vC k a n=a.fdiv (2^(min n k.bits)):=by
 unfold vC;cases a with
 |ofNat m=>
  show((m/2^(min n k.bits):Nat):Int)=Int.fdiv (m:Int) _;rw[Int.fdiv_eq_ediv_of_nonneg _ (Int.pow_nonneg (by decide))]
  push_cast;rfl
 |negSucc m=>rfl
section
variable{ι:bu}{fr aF:aO}{a:Act}{aI:Nat}{st st':ar}{w:d7}{o:Oper}{v:bi}{call:bF}
variable{op:BinOp}
def xq{v':bi}(h:a1.ok v fr st=a1.ok v' aF st'):v=v'∧fr=aF∧st=st':=by cases h;exact⟨rfl,rfl,rfl⟩
def ah4(P:f5)(w:d7)(op:BinOp)(t:ci)(x y:bv)(k k':d8)(m n:Int):(eqGuard op t x y (.int k m) (.int k' n)).run P w= .ok () w:=by
 cases op<;>simp[eqGuard]
def Hq(P:f5)(w:d7)(op:BinOp)(t:ci)(x y:bv)(s u:f6):(eqGuard op t x y (.string s) (.string u)).run P w= .ok () w:=by
 cases op<;>simp[eqGuard]
def as6(P:f5)(w:d7)(op:BinOp)(t:ci)(k:d8)(m n:Int)(ah:op≠.shl)(dP:op≠.shr)(h:sc op k m n=some v):(binOp op t (.int k m) (.int k n)).run P w= .ok v w:=by
 cases op<;>simp only[sc]at h<;>first
  |(exact absurd rfl ah)|(exact absurd rfl dP)
  |(cases h;simp[binOp,Op.intArith,Op.intBits,Op.intCmp];done)
  |(split at h
    ·cases h
    ·cases h;rename_i hb;simp[binOp,Op.intDiv,hb])
  |(simp at h)
def toList_eq(x y:f6):(x.toList==y.toList)=(x.data.toList==y.data.toList):=by
 rw[Lib.toList_data,Lib.toList_data]
def aim{k k':d8}{m n:Int}{c:bi->a1}{r:a1}(h:AW op k m k' n c=r)(aD:a1.no≠r):
 ∃v,c v=r∧∀(P:f5) (w:d7) (t:ci),(binOp op t (.int k m) (.int k' n)).run P w= .ok v w:=by
 by_cases I:op= .shl
 ·subst I;obtain⟨b,hb,h⟩:=nx h aD;rw[iZ,atq]at h;exact⟨_,h,fun P w t=>by subst hb;simp[binOp,Op.shift,show¬((b:Int)<0) by omega]⟩
 ·by_cases U:op= .shr
  ·subst U;obtain⟨b,hb,h⟩:=nx h aD;rw[iZ,atw]at h;exact⟨_,h,fun P w t=>by subst hb;simp[binOp,Op.shift,show¬((b:Int)<0) by omega]⟩
  ·have aG:cond (kK k k') (As op k m n c) .no=r:=by
    rw[<-h];cases op<;>first|rfl|(exact absurd rfl I)|(exact absurd rfl U)
   obtain⟨ab,ag⟩:=jj aG aD;have:=vb ab;subst this;rw[Ly]at ag;cases ae:sc op k m n with
   |none=>rw[ae]at ag;exact absurd ag aD
   |some v=>rw[ae]at ag;exact⟨v,ag,fun P w t=>as6 P w op t k m n I U ae⟩
def atC{t z8:ci}{x y:bv}(aa:cN X.aH x=true)(aJ:cN X.aH y=true)(al:o.op= .binOp op t x y z8)(af:cE ι fr a aI)(hw:bx X ι st w)
 (h:O5 op x y call fr st= .ok v aF st'):aF=fr∧cy X ι w v st st' (execOp a.eval o):=by
 have b4:=af.ak hw aa;have w6:=af.ak hw aJ;unfold O5 at h;rcases aii h (by simp)with⟨k,m,k',n,ex,uz,h⟩|⟨s,u,ex,uz,h⟩
 ·rw[ex]at b4;rw[uz]at w6;generalize cI:a.eval x=fB at b4;generalize gy:a.eval y=rF at w6;cases b4;cases w6;obtain⟨v1,oa,fU⟩:=aim h (by simp);obtain⟨az,e2,b8⟩:=xq oa;subst az e2 b8;refine⟨rfl,cy.same (v':=v1) hw ?_ ?_⟩
  ·unfold execOp;rw[al];simp[cI,gy,ah4,fU,Result.andThen]
  ·have:kV v1=true:=by
    clear fU oa af hw aa aJ ex uz cI gy al;rw[show AW op k m k' n (fun v=>a1.ok v fr st)=(match op with
     |.shl=>iv n (fun b=>iI k (zS k m b) (fun v=>a1.ok v fr st)) .no
     |.shr=>iv n (fun b=>iI k (vC k m b) (fun v=>a1.ok v fr st)) .no
     |op=>cond (kK k k') (As op k m n (fun v=>a1.ok v fr st)) .no) by cases op<;>rfl]at h
    split at h
    ·obtain⟨b,_,h⟩:=nx h (by simp);rw[iZ]at h;cases h;rfl
    ·obtain⟨b,_,h⟩:=nx h (by simp);rw[iZ]at h;cases h;rfl
    ·obtain⟨_,h⟩:=jj h (by simp);rw[Ly]at h;split at h
     ·rename_i v2 mW;cases h;unfold sc at mW;split at mW<;>first|(cases mW;rfl)|(split at mW<;>first|(cases mW;done)|(cases mW;rfl))|(cases mW)
     ·cases h
   exact bw.pure ι v1 this
 ·rw[ex]at b4;rw[uz]at w6;generalize cI:a.eval x=fB at b4;generalize gy:a.eval y=rF at w6;cases b4;cases w6;unfold Dk at h;split at h
  ·obtain⟨hle,h⟩:=kb h (by simp);cases h;simp only[fe]at hle;refine⟨rfl,cy.same (v':=.string (s++u)) hw ?_ ?_⟩
   ·unfold execOp;rw[al];have e0:¬(((s.size+u.size:Nat):Int)>IntKind.i64.max):=by
     have I:s.size=s.data.toList.length:=(zbr (xs:=s.data)).symm;have U:u.size=u.data.toList.length:=(zbr (xs:=u.data)).symm;have ag:IntKind.i64.max=9223372036854775807:=by decide
     have au:s.data.toList.length+u.data.toList.length<=1099511627776:=hle;rw[ag,I,U];omega
    simp only[cI,gy,Sem.run_bind,Hq,Result.andThen,binOp,Op.stringOp];rw[zaa e0];rfl
   ·have:(⟨⟨fk s.data.toList u.data.toList⟩⟩:f6)=s++u:=by
     rw[qB];apply ByteArray.ext;simp[ByteArray.data_append]
    rw[this];exact .string _
  ·cases h;refine⟨rfl,cy.same (v':=.bool (s.data.toList==u.data.toList)) hw ?_ (.bool _)⟩;unfold execOp;rw[al];simp only[cI,gy,Sem.run_bind,Hq,Result.andThen,binOp,Op.stringOp,toList_eq];rfl
  ·cases h;refine⟨rfl,cy.same (v':=.bool (!(s.data.toList==u.data.toList))) hw ?_ (.bool _)⟩;unfold execOp;rw[al];simp only[cI,gy,Sem.run_bind,Hq,Result.andThen,binOp,Op.stringOp,toList_eq];rfl
  ·cases h
end
def add_eq(b o n:Nat):Addr.add ⟨b,o,none⟩ n=⟨b,o+n,none⟩:=by unfold Addr.add;split<;>simp_all
def Da(a:Addr)(n:Nat):(a.add n).block=a.block:=by unfold Addr.add;split<;>rfl
def Db(a:Addr)(n:Nat)(h:a.spot=none):(a.add n).spot=none:=by unfold Addr.add;split<;>simp_all
def GH(a:Addr)(n:Nat):(a.add n).off=a.off+n:=by unfold Addr.add;split<;>simp_all
def bw.Ps{a:Addr}(h:ι a.block=some l)(ah:a.spot=none)(n:Nat):bw ι (.pointer (some (a.add n))) (.pointer (some (Addr.add ⟨l.cK,l.cW+a.off,none⟩ n))):=by
 have:=bw.ptr (ι:=ι) (a.add n) l (by rw[Da];exact h) (Db a n ah);rw[GH]at this;rw[add_eq,show l.cW+a.off+n=l.cW+(a.off+n) by omega];exact this
section
variable{ι:bu}{fr aF:aO}{a:Act}{aI:Nat}{st st':ar}{w:d7}{o:Oper}{v:bi}{call:bF}
variable{x:bv}{t s:ci}{n:Nat}{i:bv}{cw:f7}{FY:TypeDesc}{d:ci}
def atW{f:Nat}{fields:be Field}{fd:Field}{i:f7}(aa:cN X.aH x=true)(al:o.op= .fieldAddr s x f)(hu:X.P.underlying s=some (.struct fields))(uK:fields[f]? =some fd)
 (ae:X.P.info? fd.type=some i) (ax:i.size≠0) (af:cE ι fr a aI) (hw:bx X ι st w) (h:ZZ fd.offset x call fr st= .ok v aF st'):
 aF=fr∧cy X ι w v st st' (execOp a.eval o):=by
 obtain⟨p,hp,h⟩:=qs h (by simp);obtain⟨ad,rfl,h⟩:=gA h (by simp);cases h;have b4:=af.ak hw aa;rw[hp]at b4;generalize cI:a.eval x=fB at b4;cases b4 with
 |ptr _ l hl ah=>
  refine⟨rfl,cy.same (v':=.pointer (some (Addr.add ⟨l.cK,l.cW+ad.off,none⟩ fd.offset))) hw ?_ (bw.Ps hl ah _)⟩;unfold execOp;rw[al];simp[cI,Instr.fieldAt,run_underlying hu,uK,Instr.sureAddr,fieldPlace,kv ae,ax,Result.andThen]
def atY(aa:cN X.aH x=true)(dE:cN X.aH i=true)(al:o.op= .indexAddr t x i)(hu:X.P.underlying t=some (.array n e))(ae:X.P.info? e=some cw)
 (af:cE ι fr a aI) (hw:bx X ι st w) (h:xr n cw.size x i call fr st= .ok v aF st'):
 aF=fr∧cy X ι w v st st' (execOp a.eval o):=by
 obtain⟨p,hp,h⟩:=qs h (by simp);obtain⟨ad,rfl,h⟩:=gA h (by simp);obtain⟨k,m,hm,h⟩:=ke h (by simp);obtain⟨j,rfl,h⟩:=nx h (by simp);obtain⟨hj,h⟩:=kb h (by simp);cases h;have b4:=af.ak hw aa;rw[hp]at b4;generalize cI:a.eval x=fB at b4;have k8:=af.ak hw dE;rw[hm]at k8;generalize yP:a.eval i=mZ at k8;cases k8;cases b4 with
 |ptr _ l hl ah=>
  refine⟨rfl,cy.same (v':=.pointer (some (Addr.add ⟨l.cK,l.cW+ad.off,none⟩ (j*cw.size)))) hw ?_ (bw.Ps hl ah _)⟩;unfold execOp;rw[al];have mO:j<n:=by omega
  simp[cI,yP,Instr.indexAt,asIntOf,run_underlying hu,Instr.sureAddr,kv ae,Result.andThen,mO]
def atZ(aa:cN X.aH x=true)(dE:cN X.aH i=true)(al:o.op= .indexAddr t x i)(hu:X.P.underlying t=some (.slice e))(ae:X.P.info? e=some cw)
 (af:cE ι fr a aI) (hw:bx X ι st w) (h:Z1 cw.size x i call fr st= .ok v aF st'):
 aF=fr∧cy X ι w v st st' (execOp a.eval o):=by
 obtain⟨b,len,cap,hp,h⟩:=xW h (by simp);obtain⟨ad,rfl,h⟩:=gA h (by simp);obtain⟨k,m,hm,h⟩:=ke h (by simp);obtain⟨j,rfl,h⟩:=nx h (by simp);obtain⟨hj,h⟩:=kb h (by simp);cases h;have b4:=af.ak hw aa;rw[hp]at b4;generalize cI:a.eval x=fB at b4;have k8:=af.ak hw dE;rw[hm]at k8;generalize yP:a.eval i=mZ at k8;cases k8;cases b4 with
 |gV _ l off _ _ hl ah iW=>
  have uS:off=l.cW+ad.off:=by rcases iW with h|⟨h,_⟩<;>omega
  subst uS;refine⟨rfl,cy.same (v':=.pointer (some (Addr.add ⟨l.cK,l.cW+ad.off,none⟩ (j*cw.size)))) hw ?_ (bw.Ps hl ah _)⟩;unfold execOp;rw[al];have mO:j<len:=by omega
  simp[cI,yP,Instr.indexAt,asIntOf,run_underlying hu,kv ae,Result.andThen,mO]
def atJ{k:d8}(aa:cN X.aH x=true)(al:o.op= .convert s t x)(ah:X.P.underlying s=some FY)(aV:X.P.underlying t=some (.int k))
 (af:cE ι fr a aI) (hw:bx X ι st w) (h:ZT k x call fr st= .ok v aF st'):
 aF=fr∧cy X ι w v st st' (execOp a.eval o):=by
 obtain⟨k',n,hp,h⟩:=ke h (by simp);rw[iZ,l3]at h;cases h;have b4:=af.ak hw aa;rw[hp]at b4;generalize cI:a.eval x=fB at b4;cases b4;refine⟨rfl,cy.same (v':=.int k (k.wrap n)) hw ?_ (.int _ _)⟩;unfold execOp;rw[al];simp[cI,convert,run_underlying ah,run_underlying aV,Result.andThen,Conv.intToInt]
def atI(aa:cN X.aH x=true)(al:o.op= .convert s t x)(ah:X.P.underlying s=some FY)(aV:X.P.underlying t=some .string)
 (af:cE ι fr a aI) (hw:bx X ι st w) (h:ZS x call fr st= .ok v aF st'):
 aF=fr∧cy X ι w v st st' (execOp a.eval o):=by
 obtain⟨bo,hp,h⟩:=qu h (by simp);cases h;have b4:=af.ak hw aa;rw[hp]at b4;generalize cI:a.eval x=fB at b4;cases b4;refine⟨rfl,cy.same (v':=.string bo) hw ?_ (.string _)⟩;unfold execOp;rw[al];simp[cI,convert,run_underlying ah,run_underlying aV,Result.andThen]
def auc{d:TypeDesc}(aa:cN X.aH x=true)(al:o.op= .makeInterface t x)(aV:X.P.underlying t=some d)(ay:∀ms,d≠.interface ms)
 (af:cE ι fr a aI) (hw:bx X ι st w) (h:Z7 t x call fr st= .ok v aF st'):
 aF=fr∧cy X ι w v st st' (execOp a.eval o):=by
 cases h;refine⟨rfl,cy.same (v':=.iface t (a.eval x)) hw ?_ (.iface _ _ _ (af.ak hw aa))⟩;unfold execOp;rw[al];simp only[Instr.makeInterface,Sem.run_bind,run_underlying aV,Result.andThen];cases d<;>first|rfl|(exact absurd rfl (ay _))
theorem AY(af:cE ι fr a aI)(hw:bx X ι st w):∀xs:ac bv,(∀x∈xs,cN X.aH x=true)->bP ι (dG fr xs) (xs.map a.eval)
 |[],_=>bP.nil ι
 |x::xs,h=>bP.cons (af.ak hw (h x (by simp))) (AY af hw xs (fun y aJ=>h y (by simp[aJ])))
def acv{f:Fn}(q0:∀l,f≠.yield l){first fE:be bv}(I:∀x∈first.toList,cN X.aH x=true)(U:∀x∈fE.toList,cN X.aH x=true)(al:o.op= .makeFunc f first fE)
 (af:cE ι fr a aI) (hw:bx X ι st w) (h:Z6 f first.toList fE.toList call fr st= .ok v aF st'):
 aF=fr∧cy X ι w v st st' (execOp a.eval o):=by
 cases h;refine⟨rfl,cy.same (v':=.func f (first.map a.eval) (fE.map a.eval)) hw ?_ (bw.Jh (.inl ⟨rfl,q0⟩) ?_ ?_)⟩
 ·unfold execOp;rw[al];simp[Instr.makeFunc]
 ·simpa using AY af hw first.toList I
 ·simpa using AY af hw fE.toList U
def atV{i:Nat}(aa:cN X.aH x=true)(al:o.op= .extract x i)(af:cE ι fr a aI)(hw:bx X ι st w)(h:ZY x i call fr st= .ok v aF st'):
 aF=fr∧cy X ι w v st st' (execOp a.eval o):=by
 obtain⟨vs,hp,h⟩:=adL h (by simp);obtain⟨hn,h⟩:=wu h (by simp);obtain⟨y,aJ,h⟩:=B5 h (by simp);cases h;have b4:=af.ak hw aa;rw[hp]at b4;generalize cI:a.eval x=fB at b4;cases b4 with
 |tuple _ aw I U=>
  have hlen:i<vs.size:=by simp at hn;omega
  have ae:vs[i]=v:=by
   have:=congrArg (fun l=>l[0]?) aJ;simpa[hlen]using this
  refine⟨rfl,cy.same (v':=aw[i]'(by omega)) hw ?_ ?_⟩
  ·unfold execOp;rw[al];simp[cI,Instr.extract,show i<aw.size by omega]
  ·rw[<-ae];exact U i hlen (by omega)
def at4(al:o.op= .call {callee:=.builtin .len,args:= #[x],argTypes:= #[t]})(hu:X.P.underlying t=some (.array n d))(hw:bx X ι st w)
 (h:O7 n call fr st= .ok v aF st'):aF=fr∧cy X ι w v st st' (execOp a.eval o):=by
 cases h;refine⟨rfl,cy.same (v':=.int .i64 (.ofNat n)) hw ?_ (.int _ _)⟩;unfold execOp;rw[al];simp[resolve,invoke,builtin,Builtin.len_,run_underlying hu,Result.andThen,goInt]
def at5{u:ci}(al:o.op= .call {callee:=.builtin .len,args:= #[x],argTypes:= #[t]})(hu:X.P.underlying t=some (.pointer u))(EI:X.P.underlying u=some (.array n d))(hw:bx X ι st w)
 (h:O7 n call fr st= .ok v aF st'):aF=fr∧cy X ι w v st st' (execOp a.eval o):=by
 cases h;refine⟨rfl,cy.same (v':=.int .i64 (.ofNat n)) hw ?_ (.int _ _)⟩;unfold execOp;rw[al];simp[resolve,invoke,builtin,Builtin.len_,run_underlying hu,run_underlying EI,Result.andThen,goInt]
def apO(h:Jl x call fr st= .ok v aF st'):(∃b n c,fr.ak x= .slice b n c∧a1.ok (.int .i64 (.ofNat n)) fr st= .ok v aF st')∨(fr.ak x= .chan none∧a1.ok (.int .i64 (.ofNat 0)) fr st= .ok v aF st'):=by
 unfold Jl at h;cases aE:fr.ak x with
 |slice b n c=>rw[aE]at h;exact .inl ⟨b,n,c,rfl,h⟩
 |chan p=>
  rw[aE]at h;cases p with
  |none=>exact .inr ⟨rfl,h⟩
  |some _=>cases h
 |_=>rw[aE]at h;cases h
def at6(aa:cN X.aH x=true)(al:o.op= .call {callee:=.builtin .len,args:= #[x],argTypes:= #[t]})(hu:X.P.underlying t=some (.slice e))
 (af:cE ι fr a aI) (hw:bx X ι st w) (h:Jl x call fr st= .ok v aF st'):aF=fr∧cy X ι w v st st' (execOp a.eval o):=by
 rcases apO h with⟨b,n,c,hp,h⟩|⟨hp,h⟩
 ·cases h;have b4:=af.ak hw aa;rw[hp]at b4;generalize cI:a.eval x=fB at b4;refine⟨rfl,cy.same (v':=.int .i64 (.ofNat n)) hw ?_ (.int _ _)⟩;unfold execOp;rw[al];cases b4<;>simp[cI,resolve,invoke,builtin,Builtin.len_,run_underlying hu,Result.andThen,goInt]
 ·cases h;have b4:=af.ak hw aa;rw[hp]at b4;generalize cI:a.eval x=fB at b4;refine⟨rfl,cy.same (v':=.int .i64 (.ofNat 0)) hw ?_ (.int _ _)⟩;unfold execOp;rw[al];cases b4<;>simp[cI,resolve,invoke,builtin,Builtin.len_,run_underlying hu,Result.andThen,goInt]
def at7(aa:cN X.aH x=true)(al:o.op= .call {callee:=.builtin .len,args:= #[x],argTypes:= #[t]})(hu:X.P.underlying t=some .string)
 (af:cE ι fr a aI) (hw:bx X ι st w) (h:Z5 x call fr st= .ok v aF st'):aF=fr∧cy X ι w v st st' (execOp a.eval o):=by
 obtain⟨s,hp,h⟩:=qu h (by simp);rw[A2,fe]at h;cases h;have b4:=af.ak hw aa;rw[hp]at b4;generalize cI:a.eval x=fB at b4;cases b4;have e:Int.ofNat s.data.toList.length=(s.size:Int):=by rw[zbr];rfl
 rw[e];refine⟨rfl,cy.same (v':=.int .i64 s.size) hw ?_ (.int _ _)⟩;unfold execOp;rw[al];simp[cI,resolve,invoke,builtin,Builtin.len_,run_underlying hu,Result.andThen,goInt]
end
def aaw{t:ci}{d:TypeDesc}{i:f7}{off:Nat}{cs cs':be bi}(ay:P.underlying t=some d)(ae:P.info? t=some i)
 (aD:bP ι cs.toList cs'.toList) (h:vo off i.size (rL d) cs.toList=some v) (w:d7):∃v',(part t cs' off).run P w= .ok v' w∧bw ι v v':=by
 unfold vo at h;obtain⟨hn,h⟩:=wu h (by simp);have mU:=(aD.drop off).take i.size;cases aM:rL d with
 |true=>
  rw[aM]at h;cases h;refine⟨.agg (cs'.extract off (off+i.size)),?_,bw.B4 ?_⟩
  ·simp only[part,Sem.run_bind,EV ay,aM,Result.andThen,if_true,kv ae,Sem.run_pure]
  ·have e:(cs'.extract off (off+i.size)).toList=(cs'.toList.drop off).take i.size:=by
    rw[zdf,zdg];congr 1;omega
   rw[e];simpa using mU
 |false=>
  rw[aM]at h;obtain⟨y,aJ,h⟩:=B5 h (by simp);cases h;rw[aJ]at mU;obtain⟨z,jx,ax,aE,r8⟩:=mU.cons_inv;have e:cs'[off]? =some z:=by
   have:=congrArg (fun l=>l[0]?) ax;simp only[zaK,zaw,zck,zba]at this;split at this
   ·simpa using this
   ·cases this
  refine⟨z,?_,aE⟩;simp only[part,Sem.run_bind,EV ay,aM,Result.andThen,zaW,if_false,e,Sem.run_pure]
theorem acH(off:Nat):∀(vs:ac bi) (k:Nat) (C:be bi),off+k+vs.length<=C.size->
 (vs.zipIdx k).foldl (fun cs (p:bi×Nat)=>cs.setIfInBounds (off+p.2) p.1) C=(C.toList.take (off+k)++(vs++C.toList.drop (off+k+vs.length))).toArray
 |[],k,C,_=>by simp
 |v::vs,k,C,h=>by
  simp only[zay]at h;have hl:off+k<C.toList.length:=by simp;omega
  rw[List.zipIdx_cons,zdh,acH off vs (k+1) _ (by simp;omega)];have kJ:(C.setIfInBounds (off+k) v).toList=C.toList.set (off+k) v:=by simp
  rw[kJ];have t1:(C.toList.set (off+k) v).take (off+(k+1))=C.toList.take (off+k)++[v]:=by
   rw[show off+(k+1)=(off+k)+1 by omega,zaP (by simpa using hl),zaV (cf _)];simp
  have t2:(C.toList.set (off+k) v).drop (off+(k+1)+vs.length)=C.toList.drop (off+k+(v::vs).length):=by
   rw[zcK (by omega)];congr 1;simp only[zay];omega
  rw[t1,t2];simp
def bP.auB{cs' vs gB:ac bi}(h:bP ι cs cs')(aE:bP ι vs gB)(n:Nat):
 bP ι (cs.take n++(vs++cs.drop (n+vs.length))) (cs'.take n++(gB++cs'.drop (n+gB.length))):=by
 rw[aE.1];exact(h.take n).append (aE.append (h.drop _))
section
variable{ι:bu}{fr aF:aO}{a:Act}{aI:Nat}{st st':ar}{w:d7}{o:Oper}{v:bi}{call:bF}
variable{t:ci}{x:bv}{d:TypeDesc}{i:f7}
theorem Hz(place:Nat->am (Nat×Nat))(af:cE ι fr a aI)(hw:bx X ι st w){c:ac bi->a1}{r:a1}(aD:a1.no≠r):
 ∀(parts:ac (Nat×bv)) (ps:ac (Nat×Nat×bv)),ps=parts.map (fun p=>(((place p.1).getD (0,0)).1,((place p.1).getD (0,0)).2,p.2))->(∀p∈parts,(place p.1).isSome∧cN X.aH p.2=true)->
 ∀(cs:ac bi) (cs':be bi),bP ι cs cs'.toList->pe fr ps cs c=r->
  ∃out oW,Instr.fill place cs' (parts.map fun p=>(p.1,a.eval p.2))=some oW∧bP ι out oW.toList∧c out=r
 |[],_,rfl,_,cs,cs',dJ,h=>⟨cs,cs',rfl,dJ,h⟩
 |(i,x)::parts,_,rfl,bR,cs,cs',dJ,h=>by
  obtain⟨aoc,aa⟩:=bR (i,x) (by simp);obtain⟨⟨off,a4⟩,iX⟩:=zbH.1 aoc;simp only[zaQ,iX,zdK]at h;obtain⟨n8,h⟩:=BU h aD;obtain⟨e0,h⟩:=lv h aD;obtain⟨hle,h⟩:=kb h aD;simp only[fe]at e0 hle;have awW:off+a4<=cs.length:=hle;have hne:fr.ak x≠js:=by intro e;rw[e]at n8;simp[u6,js]at n8
  have Xo:=bP.cells (af.ak hw aa) hne;have dP:(ih (fr.ak x)).length=a4:=e0;have hlen:(a.eval x).cells.size=a4:=by have:=Xo.1;simp at this;rw[<-this];simpa[ih]using dP
  have pk:cs'.size=cs.length:=by have:=dJ.1;simp at this;omega
  have U:pe fr (parts.map (fun p=>(((place p.1).getD (0,0)).1,((place p.1).getD (0,0)).2,p.2))) (cs.take off++(ih (fr.ak x)++cs.drop (off+(ih (fr.ak x)).length))) c=r:=by
   rcases Pu h aD with⟨_,h⟩|⟨he,h⟩
   ·exact h
   ·rw[he];simp;exact h
  obtain⟨out,oW,ag,au,a0⟩:=Hz place af hw aD parts _ rfl (fun p hp=>bR p (by simp[hp])) _ ((a.eval x).cells.zipIdx.foldl (fun cs (p:bi×Nat)=>cs.setIfInBounds (off+p.2) p.1) cs') (by
   rw[<-Array.foldl_toList,Array.toList_zipIdx,acH off _ 0 cs' (by simp;omega)];have:=dJ.auB Xo off;simpa[ih]using this) U
  refine⟨out,oW,?_,au,a0⟩;simp only[zaQ,Instr.fill,iX];rw[zaa (by simp;omega)];exact ag
def atX{f:Nat}{fields:be Field}{fd:Field}(aa:cN X.aH x=true)(al:o.op= .field t x f)(hu:X.P.underlying t=some (.struct fields))(uK:fields[f]? =some fd)
 (ay:X.P.underlying fd.type=some d) (ae:X.P.info? fd.type=some i) (af:cE ι fr a aI) (hw:bx X ι st w) (h:Z0 fd.offset i.size (rL d) x call fr st= .ok v aF st'):
 aF=fr∧cy X ι w v st st' (execOp a.eval o):=by
 obtain⟨cs,hp,h⟩:=zY h (by simp);obtain⟨v1,oa,h⟩:=gA h (by simp);cases h;have b4:=af.ak hw aa;rw[hp]at b4;generalize cI:a.eval x=fB at b4;cases b4 with
 |agg _ aw I U=>
  obtain⟨v',aD,aE⟩:=aaw ay ae (bP.xn I U) oa w;refine⟨rfl,cy.same (v':=v') hw ?_ aE⟩;unfold execOp;rw[al];simp[cI,Instr.field,run_underlying hu,uK,asAgg,aD,Result.andThen]
def at2{i:bv}{n:Nat}{cw:f7}(aa:cN X.aH x=true)(dE:cN X.aH i=true)(al:o.op= .index t x i)(hu:X.P.underlying t=some (.array n e))
 (ay:X.P.underlying e=some d) (ae:X.P.info? e=some cw) (af:cE ι fr a aI) (hw:bx X ι st w) (h:Z2 n cw.size (rL d) x i call fr st= .ok v aF st'):
 aF=fr∧cy X ι w v st st' (execOp a.eval o):=by
 obtain⟨cs,hp,h⟩:=zY h (by simp);obtain⟨k,m,hm,h⟩:=ke h (by simp);obtain⟨j,rfl,h⟩:=nx h (by simp);obtain⟨hj,h⟩:=kb h (by simp);obtain⟨v1,oa,h⟩:=gA h (by simp);cases h;have b4:=af.ak hw aa;rw[hp]at b4;generalize cI:a.eval x=fB at b4;have k8:=af.ak hw dE;rw[hm]at k8;generalize yP:a.eval i=mZ at k8;cases k8;cases b4 with
 |agg _ aw I U=>
  obtain⟨v',aD,aE⟩:=aaw ay ae (bP.xn I U) oa w;refine⟨rfl,cy.same (v':=v') hw ?_ aE⟩;unfold execOp;rw[al];have mO:j<n:=by omega
  have mU:(part e aw (j*cw.size)).run X.P w= .ok v' w:=aD;simp[cI,yP,Instr.index,asIntOf,run_underlying hu,kv ae,mU,mO,Result.andThen]
def at3{i:bv}(aa:cN X.aH x=true)(dE:cN X.aH i=true)(al:o.op= .index t x i)(hu:X.P.underlying t=some .string)
 (af:cE ι fr a aI) (hw:bx X ι st w) (h:Z3 x i call fr st= .ok v aF st'):
 aF=fr∧cy X ι w v st st' (execOp a.eval o):=by
 obtain⟨s,hp,h⟩:=qu h (by simp);obtain⟨k,m,hm,h⟩:=ke h (by simp);obtain⟨j,rfl,h⟩:=nx h (by simp);obtain⟨hn,h⟩:=wu h (by simp);obtain⟨b,hb,h⟩:=B5 h (by simp);cases h;have b4:=af.ak hw aa;rw[hp]at b4;generalize cI:a.eval x=fB at b4;have k8:=af.ak hw dE;rw[hm]at k8;generalize yP:a.eval i=mZ at k8;cases k8;cases b4;have aT:j<s.data.size:=by rw[zaz,zbr]at hn;omega
 have cP:s[j]? =some b:=by
  have:=congrArg (fun l=>l[0]?) hb;simp only[zaK,zaw,zck,zba]at this;rw[zab (by omega)]at this;have I:s.data[j]? =some b:=by simpa using this
  rw[zbQ aT]at I;have uR:j<s.size:=aT;rw[getElem?_pos s j uR];exact I
 refine⟨rfl,cy.same (v':=.int .u8 b.toNat) hw ?_ (.int _ _)⟩;unfold execOp;rw[al];simp[cI,yP,Instr.index,asIntOf,run_underlying hu,cP,Result.andThen]
def aur{lH:ci}{z:bi}{ok:Bool}(aa:cN X.aH x=true)(al:o.op= .typeAssert x lH t ok)(ay:X.P.underlying t=some d)(h5:∀ms,d≠.interface ms)
 (ae:X.P.info? t=some i) (ax:i.zero=some z) (hp:kV z=true) (af:cE ι fr a aI) (hw:bx X ι st w) (h:Pa t z ok x call fr st= .ok v aF st'):
 aF=fr∧cy X ι w v st st' (execOp a.eval o):=by
 have b4:=af.ak hw aa;generalize cI:a.eval x=fB at b4;unfold Pa at h;generalize aE:fr.ak x=fv at h b4;have Iz:bw ι (.tuple #[z,.bool false]) (.tuple #[z,.bool false]):=bw.pB (bP.cons (bw.pure ι z hp) (bP.cons (.bool _) (bP.nil ι)));cases fv with
 |iface u y=>
  have jl:dQ u t (a1.ok (cond ok (.tuple #[y,.bool true]) y) fr st) (cond ok (a1.ok (.tuple #[z,.bool false]) fr st) a1.no)=a1.ok v aF st':=h;cases b4 with
  |iface _ _ m8 aJ=>
   rw[pZ]at jl;clear h;split at jl
   ·rename_i e;subst e;cases jl;refine⟨rfl,cy.same (v':=if ok then .tuple #[m8,.bool true]else m8) hw ?_ ?_⟩
    ·unfold execOp;rw[al];simp only[cI,Instr.typeAssert,Sem.run_bind,run_underlying ay,Result.andThen];cases d<;>first|(exact absurd rfl (h5 _))|(simp)
    ·cases ok
     ·exact aJ
     ·exact bw.pB (bP.cons aJ (bP.cons (.bool _) (bP.nil ι)))
   ·rename_i e;obtain⟨bR,jl⟩:=jj jl (by simp);cases jl;refine⟨rfl,cy.same (v':=.tuple #[z,.bool false]) hw ?_ Iz⟩;unfold execOp;rw[al];simp only[cI,Instr.typeAssert,Sem.run_bind,run_underlying ay,Result.andThen];cases d<;>first|(exact absurd rfl (h5 _))|(simp[e,bR,vM ae ax,Result.andThen])
 |nilIface=>
  have h:cond ok (a1.ok (.tuple #[z,.bool false]) fr st) a1.no=a1.ok v aF st':=h;obtain⟨bR,h⟩:=jj h (by simp);cases h;cases b4;refine⟨rfl,cy.same (v':=.tuple #[z,.bool false]) hw ?_ Iz⟩;unfold execOp;rw[al];simp only[cI,Instr.typeAssert,Sem.run_bind,run_underlying ay,Result.andThen];cases d<;>first|(exact absurd rfl (h5 _))|(simp[bR,vM ae ax,Result.andThen])
 |_=>exact absurd h (by simp[xV])
end
theorem Y6{α β:Type}(P:f5)(w:d7)(f:α->Sem β)(g:α->β):∀(l:ac α),(∀x∈l,(f x).run P w= .ok (g x) w)->(l.mapM f).run P w= .ok (l.map g) w
 |[],_=>by simp
 |x::xs,h=>by
  rw[zdi];simp[h x (by simp),Y6 P w f g xs (fun y aJ=>h y (by simp[aJ])),Result.andThen]
section
variable{ι:bu}{fr aF:aO}{a:Act}{aI:Nat}{st st':ar}{w:d7}{o:Oper}{v:bi}{call:bF}
variable{t:ci}{z:bi}{parts:be (Nat×bv)}{ps:ac (Nat×Nat×bv)}{cw i:f7}
def atG{fields:be Field}(al:o.op= .build t parts)(hu:X.P.underlying t=some (.struct fields))
 (ae:X.P.info? t=some i) (ax:i.zero=some z) (hp:nP z.cells.toList=true) (Nc:∀f∈fields.toList,(X.P.info? f.type).isSome)
 (km:ps=parts.toList.map (fun p=>((((fields.map fun f=>(f.offset,X.P.cellsOf f.type))[p.1]?).getD (0,0)).1,(((fields.map fun f=>(f.offset,X.P.cellsOf f.type))[p.1]?).getD (0,0)).2,p.2)))
 (bR:∀p∈parts.toList,((fields.map fun f=>(f.offset,X.P.cellsOf f.type))[p.1]?).isSome∧cN X.aH p.2=true) (af:cE ι fr a aI) (hw:bx X ι st w)
 (h:O6 z.cells.toList ps call fr st= .ok v aF st'):aF=fr∧cy X ι w v st st' (execOp a.eval o):=by
 obtain⟨out,oW,I,U,ag⟩:=Hz (fun j=>(fields.map fun f=>(f.offset,X.P.cellsOf f.type))[j]?) af hw (by simp) parts.toList ps km bR z.cells.toList z.cells (bP.zC ι _ hp) h;cases ag;refine⟨rfl,cy.same (v':=.agg oW) hw ?_ (bw.B4 U)⟩;unfold execOp;rw[al];have hm:(fields.mapM fun f=>do pure (f.offset,<-sizeOf f.type):Sem (be (Nat×Nat))).run X.P w= .ok (fields.map fun f=>(f.offset,X.P.cellsOf f.type)) w:=by
  rw[zey];rw[Sem.run_map,Y6 X.P w _ (fun f:Field=>(f.offset,X.P.cellsOf f.type)) fields.toList (fun f am6=>by
   obtain⟨awy,Xs⟩:=zbH.1 (Nc f am6);simp[kv Xs,Result.andThen,Program.cellsOf,Xs])]
  simp only[Result.andThen];congr 1;apply Array.ext';simp
 simp only[Instr.build,Sem.run_bind,vM ae ax,Result.andThen,run_underlying hu,hm];have lO:Instr.fill (fun x=>(Array.map (fun f:Field=>(f.offset,X.P.cellsOf f.type)) fields)[x]?) z.cells (parts.map fun x=>(x.1,a.eval x.2)).toList=some oW:=by
  rw[<-I];simp
 rw[lO];rfl
def atF{n:Nat}(al:o.op= .build t parts)(hu:X.P.underlying t=some (.array n e))
 (ae:X.P.info? t=some i) (ax:i.zero=some z) (hp:nP z.cells.toList=true) (fN:X.P.info? e=some cw)
 (km:ps=parts.toList.map (fun p=>(p.1*cw.size,cw.size,p.2))) (bR:∀p∈parts.toList,cN X.aH p.2=true) (af:cE ι fr a aI) (hw:bx X ι st w)
 (h:O6 z.cells.toList ps call fr st= .ok v aF st'):aF=fr∧cy X ι w v st st' (execOp a.eval o):=by
 obtain⟨out,oW,I,U,ag⟩:=Hz (fun j=>some (j*cw.size,cw.size)) af hw (by simp) parts.toList ps (by rw[km];simp) (fun p hp=>⟨by simp,bR p hp⟩) z.cells.toList z.cells (bP.zC ι _ hp) h;cases ag;refine⟨rfl,cy.same (v':=.agg oW) hw ?_ (bw.B4 U)⟩;unfold execOp;rw[al];simp only[Instr.build,Sem.run_bind,vM ae ax,Result.andThen,run_underlying hu,kv fN];have lO:Instr.fill (fun i=>some (i*cw.size,cw.size)) z.cells (parts.map fun x=>(x.1,a.eval x.2)).toList=some oW:=by
  rw[<-I];simp
 rw[lO];rfl
def atE{len:Nat}{jx:ac bi}(al:o.op= .buildSlice t len parts)(hu:X.P.underlying t=some (.slice e))
 (fN:X.P.info? e=some cw) (ax:cw.zero=some z) (XH:len*cw.size<=2^24) (r8:jx=(List.range (len*cw.size)).map (fun j=>(if len*cw.size=0 then(#[]:be bi)else z.cells)[j%(if len*cw.size=0 then(#[]:be bi)else z.cells).size]!))
 (hp:nP jx=true) (km:ps=parts.toList.map (fun p=>(p.1*cw.size,cw.size,p.2))) (bR:∀p∈parts.toList,cN X.aH p.2=true) (af:cE ι fr a aI) (hw:bx X ι st w)
 (h:B7 e len jx ps call fr st= .ok v aF st'):aF=fr∧ue X ι w v st st' (execOp a.eval o):=by
 obtain⟨out,oW,I,U,ag⟩:=Hz (fun j=>some (j*cw.size,cw.size)) af hw (by simp) parts.toList ps (by rw[km];simp) (fun p hp=>⟨by simp,bR p hp⟩) jx jx.toArray (by simpa using bP.zC ι _ hp) h;rw[gR]at ag;cases ag;obtain⟨aU,bl,bK,ee,mX⟩:=hw.Jb e U {w with heap:=w.heap.push (.cells oW e)} (by simp);rw[mX]at bl bK ee;refine⟨rfl,_,_,_,.slice (some ⟨w.heap.size,0,none⟩) len len,_,rfl,by simp,?_,rfl,?_,bl,bK⟩
 ·unfold execOp;rw[al];simp only[Instr.buildSlice,Sem.run_bind,Result.andThen,run_underlying hu,kv fN];rw[zaa (by omega)];have lO:Instr.fill (fun i=>some (i*cw.size,cw.size)) ((Array.range (len*cw.size)).map ((if len*cw.size=0 then(#[]:be bi)else z.cells)[· %(if len*cw.size=0 then(#[]:be bi)else z.cells).size]!)) (parts.map fun x=>(x.1,a.eval x.2)).toList=some oW:=by
   rw[<-I];congr 1
   ·rw[r8];apply Array.ext';simp
   ·simp
  by_cases h0:len*cw.size=0
  ·simp only[h0,if_true]at lO⊢;simp only[Sem.run_pure,Result.andThen,Sem.run_bind,lO,newRow,run_newObj]
  ·simp only[h0,if_false]at lO⊢;simp only[Sem.run_pure,Sem.run_bind,vM fN ax,Result.andThen,lO,newRow,run_newObj]
 ·have:=bw.gV (ι:=iD ι st.ai ⟨w.heap.size,0,0,id⟩) ⟨st.ai,0,none⟩ ⟨w.heap.size,0,0,id⟩ 0 len len ee rfl (.inl rfl);simpa using this
theorem SS(z:ac bi):∀(n:Nat),z≠[]->oA z n=(List.range (n*z.length)).map (fun j=>z.toArray[j%z.toArray.size]!)
 |0,_=>by simp only[zar,List.range_zero,zbX];rfl
 |n+1,ax=>by
  show fk z (oA z n)=_;rw[qB,SS z n ax];have td:0<z.length:=zbi.2 ax;rw[zcL,zbY,List.range_add,List.map_append,zcl];congr 1
  ·apply zbA;intro j;by_cases hj:j<z.length
   ·simp[hj,hy hj]
   ·simp[hj]
  ·apply List.map_congr_left;intro j _;simp
def aud{l c:bv}(hl:cN X.aH l=true)(hc:cN X.aH c=true)(al:o.op= .makeSlice t l c)(hu:X.P.underlying t=some (.slice e))(fN:X.P.info? e=some cw)
 (ax:cw.zero=some z) (e0:z.cells.toList.length=cw.size) (hne:cw.size≠0) (hp:nP z.cells.toList=true) (af:cE ι fr a aI) (hw:bx X ι st w)
 (h:xt e cw.bytes z.cells.toList l c call fr st= .ok v aF st'):aF=fr∧ue X ι w v st st' (execOp a.eval o):=by
 obtain⟨k,axn,Bl,g1⟩:=ke h (by simp);obtain⟨k',awt,M6,aP⟩:=ke g1 (by simp);obtain⟨cr,az,bd⟩:=nx aP (by simp);obtain⟨h1,e2,cu⟩:=nx bd (by simp);clear h g1 aP bd;subst az e2;obtain⟨hle,dh⟩:=kb cu (by simp);obtain⟨hb,ey⟩:=kb dh (by simp);rw[gR]at ey;cases ey;have cC:=af.ak hw hl;rw[Bl]at cC;generalize anq:a.eval l=Ox at cC;have n4:=af.ak hw hc;rw[M6]at n4;generalize amP:a.eval c=Hd at n4;cases cC;cases n4;have aoB:z.cells.toList≠[]:=by intro e;rw[e]at e0;simp at e0;omega
 have gE:=SS z.cells.toList h1 aoB;have anR:bP ι (oA z.cells.toList h1) (oA z.cells.toList h1):=by
  have:∀n,bP ι (oA z.cells.toList n) (oA z.cells.toList n):=by
   intro n
   induction n with
   |zero=>exact bP.nil ι
   |succ n ba=>show bP ι (fk _ _) (fk _ _);rw[qB];exact(bP.zC ι _ hp).append ba
  exact this h1
 obtain⟨aU,bl,bK,ee,mX⟩:=hw.Jb e anR {w with heap:=w.heap.push (.cells (oA z.cells.toList h1).toArray e)} (by simp);rw[mX]at bl bK ee;refine⟨rfl,_,_,_,.slice (some ⟨w.heap.size,0,none⟩) cr h1,_,rfl,by simp,?_,rfl,?_,bl,bK⟩
 ·have cP:h1*(cw.bytes+1)<=1099511627776:=hb;have Be:h1<=1099511627776:=zag (zdL h1 (by omega)) cP;have Xl:cw.bytes*h1<=1099511627776:=by
   have:cw.bytes*h1<=h1*(cw.bytes+1):=by rw[zam];exact nQ _ (by omega)
   omega
  have wl:IntKind.i64.wrap (cr:Int)=cr:=by rw[<-l3];simp only[o9];rw[z4 _ _ _ (by decide)];rw[zaa]<;>omega
  have QW:IntKind.i64.wrap (h1:Int)=h1:=by rw[<-l3];simp only[o9];rw[z4 _ _ _ (by decide)];rw[zaa]<;>omega
  unfold execOp;rw[al];have awL:¬((cw.bytes:Int)*(h1:Int)>2^48):=by
   have:((cw.bytes*h1:Nat):Int)<=1099511627776:=by omega
   rw[zaY]at this;omega
  have aM:(decide ((h1:Int)<0)||decide ((cw.bytes:Int)*(h1:Int)>2^48)||decide ((cr:Int)<0)||decide ((cr:Int)>(h1:Int)))=false:=by
   simp only[Bool.or_eq_false_iff,decide_eq_false_iff_not];omega
  have ly:(Array.range (h1*cw.size)).map (z.cells[· %z.cells.size]!)=(oA z.cells.toList h1).toArray:=by
   rw[gE];apply Array.ext';simp[e0]
  have q5:¬(h1*cw.size=0)∨h1*cw.size=0:=by omega
  simp only[Instr.makeSlice,Sem.run_bind,Result.andThen,run_underlying hu,anq,amP,asInt,asIntOf,Sem.run_pure,typeInfo,run_program,fN,wl,QW,aM,zaW,if_false,run_askRoom,kv fN,zbb];by_cases h0:h1*cw.size=0
  ·have j4:h1=0:=by rcases Nat.mul_eq_zero.1 h0 with h|h;exact h;exact absurd h hne
   subst j4;have a6:oA z.cells.toList 0=[]:=rfl;simp[Result.andThen,newRow,a6];congr 2;apply Array.ext';simp
  ·rw[zaa h0];simp only[Sem.run_bind,vM fN ax,Result.andThen,Sem.run_pure,ly,newRow,run_newObj]
 ·have:=bw.gV (ι:=iD ι st.ai ⟨w.heap.size,0,0,id⟩) ⟨st.ai,0,none⟩ ⟨w.heap.size,0,0,id⟩ 0 cr h1 ee rfl (.inl rfl);simpa using this
end
section
variable{ι:bu}{fr aF:aO}{a:Act}{aI:Nat}{st st':ar}{w:d7}{o:Oper}{v:bi}{call:bF}
variable{x:bv}{xs:ac bv}
def aus{op:UnOp}{t:ci}(aa:cN X.aH x=true)(al:o.op= .unOp op t x)(af:cE ι fr a aI)(hw:bx X ι st w)(h:Pb op x call fr st= .ok v aF st'):
 aF=fr∧cy X ι w v st st' (execOp a.eval o):=by
 have b4:=af.ak hw aa;generalize cI:a.eval x=fB at b4;unfold Pb at h;cases op with
 |neg=>
  obtain⟨k,n,hp,g⟩:=ke h (by simp);rw[iZ,l3,OJ]at g;rw[hp]at b4;cases b4;cases g;refine⟨rfl,cy.same (v':=.int k (k.wrap (-n))) hw ?_ (.int _ _)⟩;unfold execOp;rw[al];simp[cI,Op.unary,Op.intArith]
 |xor=>
  obtain⟨k,n,hp,g⟩:=ke h (by simp);rw[iZ]at g;rw[hp]at b4;cases b4;cases g;refine⟨rfl,cy.same (v':=.int k _) hw ?_ (.int _ _)⟩;unfold execOp;rw[al];simp[cI,Op.unary,Op.intBits]
 |not=>
  obtain⟨b,hp,g⟩:=QQ h (by simp);rw[hp]at b4;cases b4;cases g;refine⟨rfl,cy.same (v':=.bool (!b)) hw ?_ (.bool _)⟩;unfold execOp;rw[al];simp[cI,Op.unary]
 |_=>cases h
def auj(aa:cN X.aH x=true)(al:o.op= .nilCheck x)(af:cE ι fr a aI)(hw:bx X ι st w)(h:O9 x call fr st= .ok v aF st'):
 aF=fr∧cy X ι w v st st' (execOp a.eval o):=by
 have b4:=af.ak hw aa;generalize cI:a.eval x=fB at b4;unfold O9 at h;generalize Bg:fr.ak x=fv at h b4;cases fv with
 |pointer p=>
  cases p with
  |none=>cases h
  |some ad=>
   have h:a1.ok (.pointer (some ad)) fr st= .ok v aF st':=h;cases h;cases b4 with
   |ptr _ l hl ah=>
    refine⟨rfl,cy.same (v':=.pointer (some ⟨l.cK,l.cW+ad.off,none⟩)) hw ?_ (.ptr _ _ hl ah)⟩;unfold execOp;rw[al];simp[cI]
 |func f ez CR=>
  cases f with
  |func g=>
   have h:a1.ok (.func (.func g) ez CR) fr st= .ok v aF st':=h;cases h;cases b4 with
   |func _ gD _ aw _ vs gw I U ag au=>
    rcases gw with⟨rfl,_⟩|⟨l,b,e,_⟩
    ·refine⟨rfl,cy.same (v':=.func (.func g) aw vs) hw ?_ (.func _ _ _ _ _ _ (.inl ⟨rfl,by simp⟩) I U ag au)⟩;unfold execOp;rw[al];simp[cI]
    ·cases e
  |_=>cases h
 |_=>cases h
theorem Y9(k:d8)(af:cE ι fr a aI)(hw:bx X ι st w):∀(xs:ac bv) (m r:Int),(∀x∈xs,cN X.aH x=true)->E5 k fr xs m=some r->
 ((xs.map a.eval).foldlM Builtin.max2 (.int k m)).run X.P w= .ok (.int k r) w
 |[],m,r,_,h=>by cases h;simp
 |x::xs,m,r,bR,h=>by
  obtain⟨k',y,aJ,I⟩:=ke h (by simp);obtain⟨ab,U⟩:=jj I (by simp);have fF:=vb ab;have b4:=af.ak hw (bR x (by simp));rw[aJ]at b4;generalize cI:a.eval x=fB at b4;cases b4;have ba:=Y9 k af hw xs _ r (fun z ax=>bR z (by simp[ax])) U;simp only[zaQ,List.foldlM_cons,Sem.run_bind,cI,Builtin.max2,Sem.run_pure,Result.andThen];have e:(if y>m then y else m)=cond (nv y m) m y:=by
   rw[tr];by_cases c:y<=m
   ·rw[zaa (by omega)];simp[c]
   ·rw[zab (by omega)];simp[c]
  rw[e];exact ba
theorem Zb(k:d8)(af:cE ι fr a aI)(hw:bx X ι st w):∀(xs:ac bv) (m r:Int),(∀x∈xs,cN X.aH x=true)->E6 k fr xs m=some r->
 ((xs.map a.eval).foldlM Builtin.min2 (.int k m)).run X.P w= .ok (.int k r) w
 |[],m,r,_,h=>by cases h;simp
 |x::xs,m,r,bR,h=>by
  obtain⟨k',y,aJ,I⟩:=ke h (by simp);obtain⟨ab,U⟩:=jj I (by simp);have fF:=vb ab;have b4:=af.ak hw (bR x (by simp));rw[aJ]at b4;generalize cI:a.eval x=fB at b4;cases b4;have ba:=Zb k af hw xs _ r (fun z ax=>bR z (by simp[ax])) U;simp only[zaQ,List.foldlM_cons,Sem.run_bind,cI,Builtin.min2,Sem.run_pure,Result.andThen];have e:(if y<m then y else m)=cond (nv m y) m y:=by
   rw[tr];by_cases c:m<=y
   ·rw[zaa (by omega)];simp[c]
   ·rw[zab (by omega)];simp[c]
  rw[e];exact ba
def auh{ts:be ci}(bR:∀y∈x::xs,cN X.aH y=true)(al:o.op= .call {callee:=.builtin .max,args:=(x::xs).toArray,argTypes:=ts})(af:cE ι fr a aI)(hw:bx X ι st w)
 (h:aaa x xs call fr st= .ok v aF st'):aF=fr∧cy X ι w v st st' (execOp a.eval o):=by
 obtain⟨k,n,hp,I⟩:=ke h (by simp);obtain⟨m,hm,U⟩:=gA I (by simp);rw[iZ]at U;have b4:=af.ak hw (bR x (by simp));rw[hp]at b4;generalize cI:a.eval x=fB at b4;cases b4;cases U;have aD:=Y9 k af hw xs n m (fun y aJ=>bR y (by simp[aJ])) hm;refine⟨rfl,cy.same (v':=.int k m) hw ?_ (.int _ _)⟩;unfold execOp;rw[al];simp[cI,resolve,invoke,builtin,Builtin.max_,aD,Result.andThen]
def auf{ts:be ci}(bR:∀y∈x::xs,cN X.aH y=true)(al:o.op= .call {callee:=.builtin .min,args:=(x::xs).toArray,argTypes:=ts})(af:cE ι fr a aI)(hw:bx X ι st w)
 (h:Z8 x xs call fr st= .ok v aF st'):aF=fr∧cy X ι w v st st' (execOp a.eval o):=by
 obtain⟨k,n,hp,I⟩:=ke h (by simp);obtain⟨m,hm,U⟩:=gA I (by simp);rw[iZ]at U;have b4:=af.ak hw (bR x (by simp));rw[hp]at b4;generalize cI:a.eval x=fB at b4;cases b4;cases U;have aD:=Zb k af hw xs n m (fun y aJ=>bR y (by simp[aJ])) hm;refine⟨rfl,cy.same (v':=.int k m) hw ?_ (.int _ _)⟩;unfold execOp;rw[al];simp[cI,resolve,invoke,builtin,Builtin.min_,aD,Result.andThen]
def pN(af:cE ι fr a aI)(hw:bx X ι st w){x:am bv}(aa:∀y,x=some y->cN X.aH y=true){d y:Nat}{k:Nat->a1}{r:a1}(h:fl fr x d y k=r)(aD:a1.no≠r):
 ∃n,k n=r∧((x=none∧n=d)∨(∃z cn,x=some z∧a.eval z= .int cn (n:Int)∧n<=y)):=by
 cases x with
 |none=>exact⟨d,h,.inl ⟨rfl,rfl⟩⟩
 |some z=>
  obtain⟨cn,m,hp,I⟩:=ke (h:g6 (fr.ak z) _ _=r) aD;obtain⟨n,e,U⟩:=nx I aD;obtain⟨hle,ag⟩:=kb U aD;have ax:=af.ak hw (aa z rfl);rw[hp]at ax;generalize r9:a.eval z=tX at ax;cases ax;exact⟨n,ag,.inr ⟨z,cn,rfl,by rw[r9,e],hle⟩⟩
end
def acA(P:f5)(w:d7)(cn:d8)(n y:Nat)(c:BoundsCode)(h:n<=y):(Instr.sliceBound (.int cn (n:Int)) y c).run P w= .ok n w:=by
 have:(n:Int)<=(y:Int):=by omega
 simp[Instr.sliceBound,asIntOf,h]
def Gr(v:am bi)(d y n:Nat):Prop:=(v=none∧n=d)∨∃cn,v=some (.int cn (n:Int))∧n<=y
def F4(P:f5)(w:d7)(is:Bool)(len cap l h m:Nat)(aK ae e8:am bi)(hm:Gr e8 cap cap m)(hh:Gr ae len m h)(hl:Gr aK 0 h l)(aa:e8≠none->ae≠none):
 (Instr.sliceBounds is len cap aK ae e8).run P w= .ok (l,h,m) w:=by
 unfold Instr.sliceBounds;rcases hm with⟨rfl,rfl⟩|⟨axj,rfl,hm⟩
 ·clear aa;rcases hh with⟨rfl,rfl⟩|⟨aph,rfl,hh⟩<;>rcases hl with⟨rfl,rfl⟩|⟨apl,rfl,hl⟩<;>simp[acA,Result.andThen, *]
 ·rcases hh with⟨rfl,rfl⟩|⟨aph,rfl,hh⟩
  ·exact absurd rfl (aa (by simp))
  ·clear aa;rcases hl with⟨rfl,rfl⟩|⟨apl,rfl,hl⟩<;>simp[acA,Result.andThen, *]
section
variable{ι:bu}{fr aF:aO}{a:Act}{aI:Nat}{st st':ar}{w:d7}{o:Oper}{v:bi}{call:bF}
variable{n:Nat}{t:ci}{x:bv}{aK ae:am bv}{d y:Nat}{e8:am bv}{cw:f7}
def pM{x:am bv}(h:(x=none∧n=d)∨(∃z cn,x=some z∧a.eval z= .int cn (n:Int)∧n<=y)):Gr (x.map a.eval) d y n:=by
 rcases h with⟨rfl,rfl⟩|⟨z,cn,rfl,I,U⟩
 ·exact .inl ⟨rfl,rfl⟩
 ·exact .inr ⟨cn,by simp[I],U⟩
def aiv(s:f6)(l h:Nat)(_hl:l<=h)(_hh:h<=s.data.toList.length):(⟨⟨(s.data.toList.drop l).take (h-l)⟩⟩:f6)=s.extract l h:=by
 apply ByteArray.ext;rw[ByteArray.data_extract];apply Array.ext';rw[zdf,zdg]
def At{x:am bv}(h:(x=none∧n=d)∨(∃z cn,x=some z∧a.eval z= .int cn (n:Int)∧n<=y))(ay:d<=y):n<=y:=by
 rcases h with⟨_,rfl⟩|⟨_,_,_,_,h⟩<;>omega
def aup(aa:cN X.aH x=true)(I:∀y,aK=some y->cN X.aH y=true)(U:∀y,ae=some y->cN X.aH y=true)(al:o.op= .slice t x aK ae none)
 (hu:X.P.underlying t=some .string) (af:cE ι fr a aI) (hw:bx X ι st w) (h:aag x aK ae call fr st= .ok v aF st'):aF=fr∧cy X ι w v st st' (execOp a.eval o):=by
 obtain⟨s,hp,g1⟩:=qu h (by simp);obtain⟨hn,aP,c1⟩:=pN af hw U g1 (by simp);obtain⟨cr,bd,dx⟩:=pN af hw I aP (by simp);obtain⟨hc,cu⟩:=wu bd (by simp);cases cu;rw[fe]at c1;have Xx:hn<=s.data.toList.length:=At c1 (cf _);have q3:cr<=hn:=At dx (zaf _);have b4:=af.ak hw aa;rw[hp]at b4;generalize cI:a.eval x=fB at b4;cases b4;refine⟨rfl,cy.same (v':=.string (s.extract cr hn)) hw ?_ ?_⟩
 ·unfold execOp;rw[al];have e0:s.data.toList.length=s.size:=by rw[zbr];rfl
  rw[e0]at c1;have hb:=F4 X.P w false s.size s.size cr hn s.size (aK.map a.eval) (ae.map a.eval) none (.inl ⟨rfl,rfl⟩) (pM c1) (pM dx) (by simp);simp[cI,Instr.sliceAt,Instr.slice,run_underlying hu,Result.andThen,hb]
 ·have e:=aiv s cr hn q3 Xx;have:(Nat.sub hn cr)=hn-cr:=rfl;rw[this,e];exact .string _
def aun(aa:cN X.aH x=true)(I:∀y,aK=some y->cN X.aH y=true)(U:∀y,ae=some y->cN X.aH y=true)(ag:∀y,e8=some y->cN X.aH y=true)
 (Ev:e8≠none->ae≠none) (al:o.op= .slice t x aK ae e8) (hu:X.P.underlying t=some (.array n e)) (fN:X.P.info? e=some cw) (af:cE ι fr a aI) (hw:bx X ι st w)
 (h:B9 n cw.size x aK ae e8 call fr st= .ok v aF st'):aF=fr∧cy X ι w v st st' (execOp a.eval o):=by
 obtain⟨p,hp,g1⟩:=qs h (by simp);obtain⟨ad,az,aP⟩:=gA g1 (by simp);subst az;obtain⟨ah,cs,elem,bk,bc,aM,bd⟩:=wk aP (by simp);obtain⟨iG,cu⟩:=BU bd (by simp);obtain⟨m,dh,lq⟩:=pN af hw ag cu (by simp);obtain⟨hn,ey,c1⟩:=pN af hw U dh (by simp);obtain⟨cr,gp,dx⟩:=pN af hw I ey (by simp);cases gp;subst iG;obtain⟨l,hl,C,eA,hc⟩:=hw.eC _ _ aM (by simp);have b4:=af.ak hw aa;rw[hp]at b4;generalize cI:a.eval x=fB at b4;cases b4 with
 |ptr _ l' cC dP=>
  rw[hl]at cC;cases cC;have iX:=hc.plain rfl;refine⟨rfl,cy.same (v':=.slice (some (if m=cr then⟨l.cK,l.cW+ad.off,none⟩else Addr.add ⟨l.cK,l.cW+ad.off,none⟩ (cr*cw.size))) (hn-cr) (m-cr)) hw ?_ ?_⟩
  ·unfold execOp;rw[al];have hb:=F4 X.P w false n n cr hn m (aK.map a.eval) (ae.map a.eval) (e8.map a.eval) (pM lq) (pM c1) (pM dx) (by simpa using Ev);simp[cI,Instr.sliceAt,Instr.sureAddr,run_underlying hu,Result.andThen,hb,kv fN]
  ·rw[pZ];by_cases c:m=cr
   ·rw[zab c,zab c];have:=bw.gV (ι:=ι) ad l (l.cW+ad.off) (Nat.sub hn cr) (Nat.sub m cr) hl ah (.inl rfl);rw[iX.1]at this;exact this
   ·rw[zaa c,zaa c,add_eq];have:=bw.gV (ι:=ι) (ad.add (Nat.mul cr cw.size)) l (l.cW+(ad.add (Nat.mul cr cw.size)).off) (Nat.sub hn cr) (Nat.sub m cr) (by rw[Da];exact hl) (Db _ _ ah) (.inl rfl);rw[iX.1,GH,<-zbI]at this;exact this
def auo(aa:cN X.aH x=true)(I:∀y,aK=some y->cN X.aH y=true)(U:∀y,ae=some y->cN X.aH y=true)(ag:∀y,e8=some y->cN X.aH y=true)
 (Ev:e8≠none->ae≠none) (al:o.op= .slice t x aK ae e8) (hu:X.P.underlying t=some (.slice e)) (fN:X.P.info? e=some cw) (af:cE ι fr a aI) (hw:bx X ι st w)
 (h:aaf cw.size x aK ae e8 call fr st= .ok v aF st'):aF=fr∧cy X ι w v st st' (execOp a.eval o):=by
 obtain⟨b,len,cap,hp,g1⟩:=xW h (by simp);have b4:=af.ak hw aa;rw[hp]at b4;generalize cI:a.eval x=fB at b4;cases b with
 |none=>
  have g1:fl fr e8 cap cap (fun m=>fl fr ae len m fun h=>fl fr aK 0 h fun l=>.ok (.slice none (Nat.sub h l) (Nat.sub m l)) fr st)=a1.ok v aF st':=g1;obtain⟨m,dh,lq⟩:=pN af hw ag g1 (by simp);obtain⟨hn,ey,c1⟩:=pN af hw U dh (by simp);obtain⟨cr,gp,dx⟩:=pN af hw I ey (by simp);cases gp;cases b4;refine⟨rfl,cy.same (v':=.slice none (hn-cr) (m-cr)) hw ?_ (.nJ _ _)⟩;unfold execOp;rw[al];have hb:=F4 X.P w true len cap cr hn m (aK.map a.eval) (ae.map a.eval) (e8.map a.eval) (pM lq) (pM c1) (pM dx) (by simpa using Ev);simp[cI,Instr.sliceAt,Instr.slice,run_underlying hu,Result.andThen,hb,kv fN]
 |some ad=>
  obtain⟨ah,cs,elem,bk,bc,aM,bd⟩:=wk (g1:ar.gN st ad _ _=_) (by simp);obtain⟨l,hl,C,eA,hc⟩:=hw.eC _ _ aM (by simp);cases b4 with
  |gV _ l' off _ _ cC dP iW=>
   rw[hl]at cC;cases cC;cases bc with
   |false=>
    have iX:=hc.plain rfl;obtain⟨m,dh,lq⟩:=pN af hw ag (bd:fl fr e8 cap cap _=_) (by simp);obtain⟨hn,ey,c1⟩:=pN af hw U dh (by simp);obtain⟨cr,gp,dx⟩:=pN af hw I ey (by simp);cases gp;have aw0:m<=cap:=At lq (cf _);refine⟨rfl,cy.same (v':=.slice (some (if m=cr then⟨l.cK,off,none⟩else Addr.add ⟨l.cK,off,none⟩ (cr*cw.size))) (hn-cr) (m-cr)) hw ?_ ?_⟩
    ·unfold execOp;rw[al];have hb:=F4 X.P w true len cap cr hn m (aK.map a.eval) (ae.map a.eval) (e8.map a.eval) (pM lq) (pM c1) (pM dx) (by simpa using Ev);have hex:cap+l.ex=cap:=by rw[iX.1];rfl
     rw[hex]at cI;simp only[cI,Instr.sliceAt,Instr.slice,Sem.run_bind,run_underlying hu,Result.andThen,hb,kv fN,Sem.run_pure];by_cases c:m=cr<;>simp[c]
    ·rw[pZ];by_cases c:m=cr
     ·rw[zab c,zab c];have:=bw.gV (ι:=ι) ad l off (Nat.sub hn cr) (Nat.sub m cr) hl ah (by
       rcases iW with h|⟨I,U,ag⟩
       ·exact .inl h
       ·right;subst I U;have az:Nat.sub m cr=m-cr:=rfl;have e2:Nat.sub hn cr=hn-cr:=rfl;have hh:hn<=m:=by
         rcases c1 with⟨_,e⟩|⟨_,_,_,_,e⟩<;>omega
        refine⟨by omega,by omega,ag⟩)
      rw[iX.1]at this;exact this
     ·rw[zaa c,zaa c,add_eq];have uS:off=l.cW+ad.off:=by
       rcases iW with h|⟨I,U,ag⟩
       ·exact h
       ·exfalso;subst I U;have hh:hn<=m:=by
         rcases c1 with⟨_,e⟩|⟨_,_,_,_,e⟩<;>omega
        have q3:cr<=hn:=At dx (zaf _);omega
      subst uS;have:=bw.gV (ι:=ι) (ad.add (Nat.mul cr cw.size)) l (l.cW+(ad.add (Nat.mul cr cw.size)).off) (Nat.sub hn cr) (Nat.sub m cr) (by rw[Da];exact hl) (Db _ _ ah) (.inl rfl);rw[iX.1,GH,<-zbI]at this;exact this
   |true=>
    obtain⟨anA,cu⟩:=BY (bd:bp e8 (fun _=>a1.no) _=a1.ok v aF st') (fun _=>by simp);obtain⟨pk,dh⟩:=kb cu (by simp);obtain⟨hn,ey,c1⟩:=pN af hw U dh (by simp);obtain⟨cr,gp,dx⟩:=pN af hw I ey (by simp);cases gp;subst anA;have Xx:hn<=len:=At c1 (cf _);have q3:cr<=hn:=At dx (zaf _);have aeX:(ae=none∧hn=len)∨(∃z cn,ae=some z∧a.eval z= .int cn (hn:Int)∧hn<=cap+l.ex):=by
     rcases c1 with h|⟨z,cn,I,U,ag⟩
     ·exact .inl h
     ·exact .inr ⟨z,cn,I,U,by omega⟩
    refine⟨rfl,cy.same (v':=.slice (some (if cap+l.ex=cr then⟨l.cK,off,none⟩else Addr.add ⟨l.cK,off,none⟩ (cr*cw.size))) (hn-cr) (cap+l.ex-cr)) hw ?_ ?_⟩
    ·unfold execOp;rw[al];have hb:=F4 X.P w true len (cap+l.ex) cr hn (cap+l.ex) (aK.map a.eval) (ae.map a.eval) none (.inl ⟨rfl,rfl⟩) (pM aeX) (pM dx) (by simp);simp only[cI,Instr.sliceAt,Instr.slice,Sem.run_bind,run_underlying hu,Result.andThen,Option.map_none,hb,kv fN,Sem.run_pure];by_cases c:cap+l.ex=cr<;>simp[c]
    ·have az:Nat.sub cap cr=cap-cr:=rfl;have e2:cap+l.ex-cr=(cap-cr)+l.ex:=by omega
     rw[e2];by_cases c:cap+l.ex=cr
     ·rw[zab c];exact bw.gV (ι:=ι) (ad.add (Nat.mul cr cw.size)) l off (Nat.sub hn cr) (Nat.sub cap cr) (by rw[Da];exact hl) (Db _ _ ah) (.inr ⟨by show hn-cr=0;omega,by show cap-cr=0;omega,by omega⟩)
     ·rw[zaa c,add_eq];refine bw.gV (ι:=ι) (ad.add (Nat.mul cr cw.size)) l (off+cr*cw.size) (Nat.sub hn cr) (Nat.sub cap cr) (by rw[Da];exact hl) (Db _ _ ah) ?_;rcases iW with h|⟨I,U,ag⟩
      ·left;rw[GH,h,zbI];rfl
      ·exfalso;omega
end
variable{nA:bB}
def bx.kill(h:bx X ι st w){id:Nat}(h₀:st.h.get id=some nA):bx X ι ⟨st.h.set id .dead,st.ai⟩ w:=by
 have pj:id<st.ai:=by
  rcases zaj id st.ai with c|c
  ·exact c
  ·rw[(h.fresh id c).2]at h₀;cases h₀
 refine⟨fun j p hp ay=> ?_,fun i j p q l m ae h5 hj iF=> ?_,fun j hj=> ?_,h.gY,h.mG,h.p6,fun j l p hl ah hp ay=> ?_⟩
 ·rw[aq.eI]at hp;split at hp
  ·cases hp;exact absurd rfl ay
  ·exact h.eC j p hp ay
 ·rw[aq.eI]at ae hj;split at ae
  ·cases ae;exact absurd rfl h5
  ·split at hj
   ·cases hj;exact absurd rfl iF
   ·exact h.inj i j p q l m ae h5 hj iF
 ·have mO:st.ai<=j:=hj;refine⟨(h.fresh j mO).1,?_⟩;rw[aq.eI,zaa (by omega)];exact(h.fresh j mO).2
 ·rw[aq.eI]at hp;split at hp
  ·cases hp;exact absurd rfl ay
  ·exact h.mn j l p hl ah hp ay
def bx.asM(h:bx X ι st w){id:Nat}{l':Loc}(h₀:st.h.get id=some nA)(uI:nA≠.dead)(yV:¬nA.wJ)(dP:l'.bY≠h3)(hl:ι id=some l)(o:bB)(cP:l'.cK=l.cK)(O:Obj)
 (w':d7) (hw:w'.heap=w.heap.setIfInBounds l.cK O) (hm:∀aU:bu,ι.le aU->w'.heap[l'.cK]? =some O->kf X aU w' o l') (g4:rI w w':=by exact⟨rfl,rfl⟩):
 ∃aU,bx X aU ⟨(st.h.set id .dead).set st.ai o,st.ai+1⟩ w'∧e4 ι aU w w'∧aU st.ai=some l':=by
 have hb:=h.gY id l hl;have oP:l.bY≠h3:=fun e=>yV (h.mn id l nA hl e h₀ uI);have pj:id<st.ai:=by
  rcases zaj id st.ai with c|c
  ·exact c
  ·rw[(h.fresh id c).2]at h₀;cases h₀
 have hle:ι.le (fun i=>if i=st.ai then some l' else ι i):=by
  intro i m kG;show(if i=st.ai then _ else ι i)=_;rw[zaa];exact kG;intro e;subst e;rw[(h.fresh _ (cf _)).1]at kG;cases kG
 refine⟨fun i=>if i=st.ai then some l' else ι i,⟨fun j p hp ay=> ?_,fun i j p q kn mh ae h5 hj iF iV hS aM e=> ?_,fun j hj=> ?_,fun j kn mR=> ?_,fun g aM=>hle _ _ (h.mG g aM),zbe h.p6,fun j kn p mR ah hp ay=> ?_⟩,⟨hle,by rw[hw];simp,fun b _ ae=> ?_,fun j kn mR=> ?_,g4⟩,zab rfl⟩
 ·rw[aq.eI]at hp;by_cases e:j=st.ai
  ·rw[zab e]at hp;cases hp;exact⟨l',by simp[e],hm _ hle (by rw[hw,cP];simp[hb])⟩
  ·rw[zaa e,aq.eI]at hp;split at hp
   ·cases hp;exact absurd rfl ay
   ·rename_i ne;obtain⟨m,kG,al⟩:=h.eC j p hp ay;refine⟨m,hle _ _ kG,kf.mono X al hle ?_⟩;have hne:m.cK≠l.cK:=fun ki=>ne (h.inj j id p nA m l hp ay h₀ uI kG hl (.inr oP) ki);rw[hw,zby (Ne.symm hne)]
 ·have key:∀j p m,((st.h.set id .dead).set st.ai o).get j=some p->p≠.dead->(if j=st.ai then some l' else ι j)=some m->
   (j=st.ai∧m=l')∨(j≠st.ai∧j≠id∧st.h.get j=some p∧ι j=some m):=by
   intro j p m hj ay kG;rw[aq.eI]at hj;by_cases c:j=st.ai
   ·rw[zab c]at kG;cases kG;exact .inl ⟨c,rfl⟩
   ·rw[zaa c,aq.eI]at hj;rw[zaa c]at kG;split at hj
    ·cases hj;exact absurd rfl ay
    ·rename_i ne;exact .inr ⟨c,ne,hj,kG⟩
  rcases key i p kn ae h5 iV with⟨az,rfl⟩|⟨iK,gH,g1,aP⟩<;>rcases key j q mh hj iF hS with⟨e2,rfl⟩|⟨eK,fV,f1,f2⟩
  ·rw[az,e2]
  ·exact absurd (h.inj j id q nA mh l f1 iF h₀ uI f2 hl (.inr oP) (by omega)) fV
  ·exact absurd (h.inj i id p nA kn l g1 h5 h₀ uI aP hl (.inr oP) (by omega)) gH
  ·exact h.inj i j p q kn mh g1 h5 f1 iF aP f2 aM e
 ·have mO:st.ai+1<=j:=hj;have:=h.fresh j (by omega);refine⟨?_,?_⟩
  ·show(if j=st.ai then _ else ι j)=_;rw[zaa (by omega)];exact this.1
  ·rw[aq.eI,zaa (by omega),aq.eI,zaa (by omega)];exact this.2
 ·rw[hw];simp only[Array.size_setIfInBounds];by_cases e:j=st.ai
  ·simp only[zab e]at mR;cases mR;omega
  ·simp only[zaa e]at mR;exact h.gY j kn mR
 ·rw[aq.eI]at hp;by_cases e:j=st.ai
  ·simp only[zab e]at mR;cases mR;exact absurd ah dP
  ·rw[zaa e,aq.eI]at hp;simp only[zaa e]at mR;split at hp
   ·cases hp;exact absurd rfl ay
   ·exact h.mn j kn p mR ah hp ay
 ·rw[hw,zby (ae id l hl oP)]
 ·by_cases e:j=st.ai
  ·simp only[zab e]at mR;cases mR;exact .inr (.inr ⟨id,l,hl,oP,cP.symm⟩)
  ·simp only[zaa e]at mR;exact .inl mR
theorem WW(n B:Nat)(a3:n+(n+768)/4<=B):∀r c,c<=B->Builtin.growBy n r c<=B
 |0,c,h=>h
 |r+1,c,h=>by
  unfold Builtin.growBy;split
  ·exact h
  ·rename_i hc;exact WW n B a3 r _ (by omega)
def aqn(n c:Nat)(h:c<n):Builtin.nextslicecap n c<=n+n/4+448:=by
 unfold Builtin.nextslicecap;split
 ·omega
 ·split
  ·omega
  ·exact WW n _ (by omega) 4 c (by omega)
def QY(z:be bi)(n:Nat):(Builtin.zeroCells z n).size=n*z.size:=by simp[Builtin.zeroCells]
def bx.Jc{cs':ac bi}(hw:bx X ι st w)(elem:ci)(aE:bP ι cs cs')(rest:ac bi)(ex:Nat)(aD:ex*X.P.cellsOf elem<=rest.length)(bk:Nat×Nat)
 (oK:∀i,i<cs.length+rest.length->¬(bk.1<=i∧i<bk.2)) (w':d7) (hh:w'.heap=w.heap.push (.cells (cs'++rest).toArray elem bk)) (g4:rI w w':=by exact⟨rfl,rfl⟩):
 ∃aU,bx X aU ⟨st.h.set st.ai (.cells cs elem (0,0) true),st.ai+1⟩ w'∧e4 ι aU w w'∧aU st.ai=some ⟨w.heap.size,0,ex,id⟩∧aU=iD ι st.ai ⟨w.heap.size,0,ex,id⟩:=by
 refine bx.alloc X hw _ _ ex (fun aU ky hle _ aV=> ?_) w' hh g4;refine⟨(cs'++rest).toArray,bk,⟨aV,by simp[aE.1];omega,fun i ae=> ?_,fun _ j _ hj=> ?_,fun h=>by cases h⟩⟩
 ·have dE:i<cs'.length:=by rw[<-aE.1];exact ae
  refine⟨cs'[i],?_,(aE.2 i ae dE).mono hle⟩;simp[zaD dE,dE]
 ·refine oK j ?_;have:0+cs.length+ex*X.P.cellsOf elem<=cs.length+rest.length:=by omega
  exact fx hj this
structure Src(P:f5)(w:d7)(x:bi)(n size:Nat)(new:ac bi):Prop where
 len:(Builtin.lenOf x).run P w= .ok n w
 cells:∀tape drawn,(Builtin.firstCells size n x).run P {w with tape:=tape,drawn:=drawn}= .ok new.toArray {w with tape:=tape,drawn:=drawn}
section
variable{P:f5}{w:d7}{mr lH elem:ci}{d:TypeDesc}{i:f7}{x:bi}{n len cap:Nat}{new:ac bi}
def Ki{base:am Addr}(hu:P.underlying mr=some (.slice elem))(aa:P.underlying lH=some d)(ay:∀k,d≠.int k)(ae:P.info? elem=some i)(ah:Src P w x n i.size new)(hn:len+n<=cap)(ty:ci)(w':d7)
 (eJ:∀a,base=some a->(storeCells (a.add (len*i.size)) new).run P w= .ok () w') (gG:base=none->w'=w):
 (Builtin.append_ #[mr,lH] ty #[.slice base len cap,x]).run P w= .ok (.slice base (len+n) cap) w':=by
 have By:(d matches .int _)=false:=by cases d<;>first|rfl|(exact absurd rfl (ay _))
 have hc:=ah.cells w.tape w.drawn;simp only[Builtin.append_,zcj,zck,zdM,Sem.run_bind,run_underlying hu,Result.andThen,kv ae,run_underlying aa,Sem.run_pure,zaW,if_false,ah.len,hn,if_true,zdN];rw[hc];cases base with
 |none=>simp only[Sem.run_pure];rw[gG rfl]
 |some a=>
  simp only[Result.andThen,Sem.run_bind,Sem.run_pure];rw[eJ a rfl]
def Qi{base:am Addr}{z:bi}{old:ac bi}(hu:P.underlying mr=some (.slice elem))(aa:P.underlying lH=some d)(ay:∀k,d≠.int k)(ae:P.info? elem=some i)(ax:i.zero=some z)(ah:Src P w x n i.size new)
 (hn:cap<len+n) (hb:(5*(len+n)+1792)*(i.bytes+1)<=1125899906842624) (ty:ci)
 (hold:∀tape drawn,(Builtin.firstCells i.size len (.slice base len cap)).run P {w with tape:=tape,drawn:=drawn}= .ok old.toArray {w with tape:=tape,drawn:=drawn}):
 ∃dR w',len+n<=dR∧(Builtin.append_ #[mr,lH] ty #[.slice base len cap,x]).run P w= .ok (.slice (some ⟨w.heap.size,0,none⟩) (len+n) dR) w'∧
  w'.heap=w.heap.push (.cells (old++new++(Builtin.zeroCells z.cells (dR-(len+n))).toList).toArray elem)∧rI w w':=by
 have By:(d matches .int _)=false:=by cases d<;>first|rfl|(exact absurd rfl (ay _))
 have M4:=aqn (len+n) cap hn;have hmul:Builtin.nextslicecap (len+n) cap*i.bytes<=281474976710656:=by
  have I:4*Builtin.nextslicecap (len+n) cap*i.bytes<=(5*(len+n)+1792)*i.bytes:=ix _ (by omega);have U:(5*(len+n)+1792)*i.bytes<=(5*(len+n)+1792)*(i.bytes+1):=nQ _ (by omega);rw[zaA]at I;omega
 have aw2:len+n<=1125899906842624:=by
  have:5*(len+n)+1792<=(5*(len+n)+1792)*(i.bytes+1):=zdL _ (by omega);omega
 have anv:¬(((len+n:Nat):Int)>IntKind.i64.max∧((false=true)∨i.bytes=0)):=by
  have:IntKind.i64.max=9223372036854775807:=by decide
  rw[this];omega
 have amK:¬(Builtin.nextslicecap (len+n) cap*i.bytes>2^48):=by omega
 let q:Question:=.appendCap (len+n) cap elem
 refine⟨q.cut (w.tape w.drawn q),{w with drawn:=w.drawn+1,heap:=w.heap.push (.cells (old++new++(Builtin.zeroCells z.cells (q.cut (w.tape w.drawn q)-(len+n))).toList).toArray elem)},?_,?_,rfl,⟨rfl,rfl⟩⟩
 ·show len+n<=(len+n)+_;omega
 ·have hc:=ah.cells w.tape (w.drawn+1);have al:=hold w.tape (w.drawn+1);have IA:=vM (P:=P) ae ax {w with drawn:=w.drawn+1};simp only[Builtin.append_,zcj,zck,zdM,Sem.run_bind,run_underlying hu,Result.andThen,kv ae,run_underlying aa,Sem.run_pure,zaW,if_false,ah.len,typeInfo,zdN];rw[zaa (by omega)];simp only[Sem.run_bind,Sem.run_pure,run_program,Result.andThen,ae];rw[zaa (by simpa using anv)];simp only[Sem.run_bind,Sem.run_pure,run_program,Result.andThen,ae];rw[zaa amK];simp only[Sem.run_bind,Sem.run_pure,run_program,Result.andThen,ae,run_choose,Question.forced,zaW,if_false,run_askRoom,if_true];rw[al];simp only[];rw[hc];simp only[Result.andThen,Sem.run_bind,IA,Sem.run_pure,newRow,run_newObj];simp[q];congr 2;apply Array.ext';simp
end
section
variable{ι:bu}{fr aF:aO}{a:Act}{aI:Nat}{st st':ar}{w:d7}{o:Oper}{v:bi}{call:bF}
def ais{mr lH:ci}{s x:bv}{v':bi}{w':d7}(al:o.op= .call {callee:=.builtin .append,args:= #[s,x],argTypes:= #[mr,lH]})
 (aD:(Builtin.append_ #[mr,lH] o.type #[a.eval s,a.eval x]).run X.P w= .ok v' w'):(execOp a.eval o).run X.P w= .ok (.value v') w':=by
 unfold execOp;rw[al];simp only[resolve,zcm,zaQ,zbX,Sem.run_bind,Sem.run_pure,Result.andThen,invoke,builtin,aD]
def Kq{mr lH:ci}{d:TypeDesc}{i:f7}{z:bi}{s x:bv}{base:am Addr}{len cap n:Nat}{new new':ac bi}
 (al:o.op= .call {callee:=.builtin .append,args:= #[s,x],argTypes:= #[mr,lH]}) (hu:X.P.underlying mr=some (.slice elem)) (aa:X.P.underlying lH=some d) (ay:∀k,d≠.int k) (ae:X.P.info? elem=some i) (ax:i.zero=some z)
 (r8:z.cells.size=i.size) (hw:bx X ι st w) (uY:bw ι (.slice base len cap) (a.eval s)) (y3:Src X.P w (a.eval x) n i.size new') (mS:bP ι new new') (n7:new.length=n*i.size) (bR:hD new=true)
 (h:k5 fr st elem i.size i.bytes base len cap n new= .ok v aF st'):aF=fr∧lI X ι w v st' (execOp a.eval o):=by
 obtain⟨hb,g⟩:=kb h (by simp);have cP:(5*(len+n)+1792)*(i.bytes+1)<=1125899906842624:=hb;have ly:X.P.cellsOf elem=i.size:=by simp[Program.cellsOf,ae]
 have Eo:new'.length=n*i.size:=by rw[<-mS.1];exact n7
 generalize aoe:a.eval s=au9 at uY;have q7:= @ais X a w o mr lH s x;rw[aoe]at q7;cases base with
 |none=>
  obtain⟨Ic,g1⟩:=lv (g:dQ len 0 _ _=_) (by simp);obtain⟨j4,aP⟩:=lv g1 (by simp);subst Ic j4;cases uY;rw[pZ]at aP;split at aP
  ·rename_i q5;subst q5;cases aP;refine⟨rfl,lI.same (v':=.slice none 0 0) hw ?_ (.nJ _ _)⟩;exact q7 al (Ki hu aa ay ae y3 (by omega) o.type w (fun a h=>by cases h) (fun _=>rfl))
  ·rename_i q5;rw[gR]at aP;cases aP;obtain⟨dR,w',j7,aD,hh,g4⟩:=Qi (base:=none) (len:=0) (cap:=0) (old:=[]) hu aa ay ae ax y3 (by omega) cP o.type (fun _ _=>rfl);obtain⟨aU,bl,bK,ee,_⟩:=hw.Jc elem mS (Builtin.zeroCells z.cells (dR-(0+n))).toList (dR-(0+n)) (by
    rw[zbr,QY,r8,ly];exact cf _) (0,0) (fun i _=>by simp) w' (by rw[hh];simp) g4
   refine⟨rfl,aU,.value _,w',q7 al aD,.inl ⟨_,rfl,?_⟩,bl,bK⟩;have:=bw.gV (ι:=aU) ⟨st.ai,0,none⟩ ⟨w.heap.size,0,dR-(0+n),id⟩ 0 (0+n) (0+n) ee rfl (.inl rfl);rw[show 0+n+(dR-(0+n))=dR by omega]at this;exact this
 |some ad=>
  obtain⟨ah,cs,el,bk,bc,aM,g1⟩:=wk (g:ar.gN st ad _ _=_) (by simp);obtain⟨oK,aP⟩:=kb g1 (by simp);obtain⟨pk,bd⟩:=kb aP (by simp);obtain⟨EC,cu⟩:=kb bd (by simp);obtain⟨rZ,dh⟩:=lv cu (by simp);rw[fe]at EC;have aw8:ad.off+cap*i.size<=cs.length:=EC;subst rZ;obtain⟨l,hl,C,eA,hc⟩:=hw.eC _ _ aM (by simp);have q8:=hc.room;rw[ly]at q8;cases uY with
  |gV _ l' off _ _ cC dP iW=>
   rw[hl]at cC;cases cC;have hmul:len*i.size<=cap*i.size:=ix _ pk;rw[pZ]at dh;split at dh
   ·rename_i q5;subst q5;cases dh;have Ex:new'=[]:=by
     have:new'.length=0:=by rw[Eo];simp
     exact zaX this
    refine⟨rfl,lI.same (v':=.slice (some ⟨l.cK,off,none⟩) (len+0) (cap+l.ex)) hw ?_ (.gV _ _ _ _ _ hl ah iW)⟩;refine q7 al (Ki hu aa ay ae y3 (by omega) o.type w (fun a h=> ?_) (fun h=>by cases h));rw[Ex];rfl
   ·rename_i q5;have hold:∀tape drawn,(Builtin.firstCells i.size len (.slice (some ⟨l.cK,off,none⟩) len (cap+l.ex))).run X.P {w with tape:=tape,drawn:=drawn}= .ok ((C.toList.drop off).take (len*i.size)).toArray {w with tape:=tape,drawn:=drawn}:=by
     intro tape drawn;simp only[Builtin.firstCells];rcases iW with h|⟨I,_,_⟩
     ·exact FV (by exact hc.there) (by rw[h];omega)
     ·subst I;simp[loadCells,loadCellsFrom]
    have oM:∀(bl:len+n<=cap+l.ex),off=l.cW+ad.off:=by
     intro bl;rcases iW with h|⟨I,U,ag⟩
     ·exact h
     ·omega
    have kI:bP ι ((cs.drop ad.off).take (len*i.size)) ((C.toList.drop off).take (len*i.size)):=by
     rcases iW with h|⟨I,_,_⟩
     ·rw[h];exact hc.row ad.off (len*i.size) (by simp;omega)
     ·subst I;simpa using bP.nil ι
    cases bc with
    |true=>
     obtain⟨iE,ey⟩:=wu (dh:iB cs ad.off _ _ _=_) (by simp);rw[kR,gR,qB]at ey;cases ey;by_cases hH:len+n<=cap+l.ex
     ·have uS:=oM hH;subst uS;have Il:n*i.size+len*i.size<=(cap+l.ex)*i.size:=by rw[<-zak];exact ix _ (by omega)
      rw[zak]at Il;obtain⟨w',aD,hh,g4⟩:=Qk (P:=X.P) (o:=l.cW+ad.off+len*i.size) new' 0 C w hc.there (by omega) (O0 mS bR) (fun j I U=>hc.xY oK j (by omega) (by rw[ly];omega));simp only[zba]at hh;have NO:=q7 al (Ki (base:=some ⟨l.cK,l.cW+ad.off,none⟩) hu aa ay ae y3 hH o.type w' (fun a h=>by cases h;rw[add_eq];exact aD) (fun h=>by cases h));obtain⟨aU,bl,bK,ee⟩:=bx.asM (X:=X) hw aM (by simp) (fun af=>by cases af.1) N1 hl (.cells ((cs.drop ad.off).take (len*i.size)++new) el (0,0) true) (l':=⟨l.cK,l.cW+ad.off,cap+l.ex-(len+n),id⟩) rfl _ w' hh (fun aU hle aV=>by
       have W2:(C.toList.take (l.cW+ad.off+len*i.size)++(new'++C.toList.drop (l.cW+ad.off+len*i.size+new'.length))).length=C.size:=by simp;omega
       have ho:((cs.drop ad.off).take (len*i.size)).length=len*i.size:=by simp;omega
       have Xq:(cap+l.ex-(len+n))*i.size=(cap*i.size+l.ex*i.size)-(len*i.size+n*i.size):=by rw[Nat.sub_mul,zak,zak]
       refine⟨_,eA,⟨aV,?_,fun j hj=> ?_,fun _ j I U=> ?_,fun h=>by cases h⟩⟩
       ·rw[List.size_toArray,W2,ly,zap,ho,n7];simp only;rw[Xq];omega
       ·simp only[zcj];rw[zap,ho,n7]at hj;rw[Qu C.toList new' (l.cW+ad.off+len*i.size) (l.cW+ad.off+j) (by simp;omega)];by_cases c:j<len*i.size
        ·rw[zab (by omega)];obtain⟨Hd,az,e2⟩:=hc.cell (ad.off+j) (by omega);refine⟨Hd,by rw[<-az];simp[zbI],?_⟩;rw[zdO (by omega)];simp only[zdG,zdH];exact e2.mono hle
        ·rw[zaa (by omega),zab (by omega)];rw[show l.cW+ad.off+j-(l.cW+ad.off+len*i.size)=j-len*i.size by omega];rw[bg (by omega)];refine⟨_,rfl,?_⟩;rw[zdP (by omega)];simp only[ho];exact(mS.2 _ (by omega) (by omega)).mono hle
       ·refine hc.xY oK j ?_ ?_
        ·simp only at I;omega
        ·rw[ly]at U⊢;rw[zap,ho,n7]at U;simp only at U;rw[Xq]at U;omega) g4
      refine⟨rfl,aU,.value _,w',NO,.inl ⟨_,rfl,?_⟩,bl,bK⟩;have:=bw.gV (ι:=aU) ⟨st.ai,0,none⟩ ⟨l.cK,l.cW+ad.off,cap+l.ex-(len+n),id⟩ (l.cW+ad.off) (len+n) (len+n) ee rfl (.inl rfl);rw[show len+n+(cap+l.ex-(len+n))=cap+l.ex by omega]at this;exact this
     ·obtain⟨dR,w',j7,aD,hh,g4⟩:=Qi (base:=some ⟨l.cK,off,none⟩) (len:=len) (cap:=cap+l.ex) hu aa ay ae ax y3 (by omega) cP o.type hold;have ab:=hw.kill aM;obtain⟨aU,bl,bK,ee,_⟩:=ab.Jc el (kI.append mS) (Builtin.zeroCells z.cells (dR-(len+n))).toList (dR-(len+n)) (by
       rw[zbr,QY,r8,ly];exact cf _) (0,0) (fun i _=>by simp) w' (by rw[hh]) g4
      refine⟨rfl,aU,.value _,w',q7 al aD,.inl ⟨_,rfl,?_⟩,bl,bK⟩;have:=bw.gV (ι:=aU) ⟨st.ai,0,none⟩ ⟨w.heap.size,0,dR-(len+n),id⟩ 0 (len+n) (len+n) ee rfl (.inl rfl);rw[show len+n+(dR-(len+n))=dR by omega]at this;exact this
    |false=>
     have iX:=hc.plain rfl;have Xr:cap+l.ex=cap:=by rw[iX.1];rfl
     rw[Xr]at q7 hold oM;have dh:eh (len+n) cap (rm cs (Nat.add ad.off (Nat.mul len i.size)) new (fun cs'=>st.hU ad.block (.cells cs' el bk false) fun st=>a1.ok (.slice (some ad) (len+n) cap) fr st) .no)
      (iB cs ad.off (Nat.mul len i.size) (fun old=>st.jU (.cells (fk old new) el (0,0) true) fun id st=>.ok (.slice (some ⟨id,0,none⟩) (len+n) (len+n)) fr st) .no)=a1.ok v aF st':=dh
     rw[od]at dh;split at dh
     ·rename_i hH;have uS:=oM hH;subst uS;have Il:n*i.size+len*i.size<=cap*i.size:=by rw[<-zak];exact ix _ (by omega)
      have Nn:ad.off+len*i.size+new.length<=cs.length:=by rw[n7];omega
      have ey:st.hU ad.block (.cells (cs.take (ad.off+len*i.size)++(new++cs.drop (ad.off+len*i.size+new.length))) el bk false) (fun st=>a1.ok (.slice (some ad) (len+n) cap) fr st)=a1.ok v aF st':=by
       rcases Pu dh (by simp)with⟨_,ey⟩|⟨he,ey⟩
       ·exact ey
       ·rw[he];simp;exact ey
      rw[kR]at ey;cases ey;obtain⟨w',aD,bl,bK⟩:=hw.store aM hl oK Nn mS bR;have NO:=q7 al (Ki (base:=some ⟨l.cK,l.cW+ad.off,none⟩) hu aa ay ae y3 hH o.type w' (fun a h=>by cases h;rw[add_eq,zbI];exact aD) (fun h=>by cases h));refine⟨rfl,ι,.value _,w',NO,.inl ⟨_,rfl,?_⟩,bl,bK⟩;have:=bw.gV (ι:=ι) ad l (l.cW+ad.off) (len+n) cap hl ah (.inl rfl);rw[Xr]at this;exact this
     ·rename_i hH;obtain⟨iE,ey⟩:=wu dh (by simp);rw[gR,qB]at ey;cases ey;obtain⟨dR,w',j7,aD,hh,g4⟩:=Qi (base:=some ⟨l.cK,off,none⟩) (len:=len) (cap:=cap) hu aa ay ae ax y3 (by omega) cP o.type hold;obtain⟨aU,bl,bK,ee,_⟩:=hw.Jc el (kI.append mS) (Builtin.zeroCells z.cells (dR-(len+n))).toList (dR-(len+n)) (by
       rw[zbr,QY,r8,ly];exact cf _) (0,0) (fun i _=>by simp) w' (by rw[hh]) g4
      refine⟨rfl,aU,.value _,w',q7 al aD,.inl ⟨_,rfl,?_⟩,bl,bK⟩;have:=bw.gV (ι:=aU) ⟨st.ai,0,none⟩ ⟨w.heap.size,0,dR-(len+n),id⟩ 0 (len+n) (len+n) ee rfl (.inl rfl);rw[show len+n+(dR-(len+n))=dR by omega]at this;exact this
end
theorem Gf:∀bh:ac ce,o8 bh=bh.map fun b=>Value.int .u8 (b.toNat:Int)
 |[]=>rfl
 |b::bh=>by show _::o8 bh=_;rw[Gf bh];rfl
theorem adH:∀bh:ac ce,hD (o8 bh)=true
 |[]=>rfl
 |_::bh=>adH bh
theorem QH(ι:bu):∀bh:ac ce,bP ι (o8 bh) (o8 bh)
 |[]=>bP.nil ι
 |_::bh=>bP.cons (.int _ _) (QH ι bh)
theorem LL:∀{vs:ac bi} {bh:ac ce},bytesOf vs=some bh->∃bs:ac Int,vs=bs.map (Value.int .u8)∧bh=bs.map (fun n=>UInt8.ofNat n.toNat)
 |[],bh,h=>by cases h;exact⟨[],rfl,rfl⟩
 |v::vs,bh,h=>by
  obtain⟨k,n,e,g1⟩:=ke (h:g6 v _ _=_) (by simp);obtain⟨ab,aP⟩:=jj g1 (by simp);obtain⟨r,aD,bd⟩:=gA aP (by simp);cases bd;obtain⟨bs,az,e2⟩:=LL (vs:=vs) aD;have:=vb ab;subst this;exact⟨n::bs,by simp[e,az],by simp[e2]⟩
section
variable{ι:bu}{fr aF:aO}{a:Act}{aI:Nat}{st st':ar}{w:d7}{o:Oper}{v:bi}{call:bF}
def auD(P:f5)(w:d7)(s:f6)(size:Nat):Src P w (.string s) s.data.toList.length size (o8 s.data.toList):=by
 have e0:s.size=s.data.toList.length:=(zbr (xs:=s.data)).symm;refine⟨by rw[<-e0];rfl,fun tape drawn=> ?_⟩;simp only[Builtin.firstCells,Sem.run_pure];congr 1;apply Array.ext';have:(s.extract 0 s.data.toList.length).data=s.data:=by
  rw[ByteArray.data_extract];apply Array.ext';rw[zdf,zdg,zaq,Nat.sub_zero,zbR]
 rw[this,Gf];simp
def atB{mr lH:ci}{d:TypeDesc}{i:f7}{z:bi}{s x:bv}(ah:cN X.aH s=true)(b4:cN X.aH x=true)(al:o.op= .call {callee:=.builtin .append,args:= #[s,x],argTypes:= #[mr,lH]})
 (hu:X.P.underlying mr=some (.slice elem)) (aa:X.P.underlying lH=some d) (ay:∀k,d≠.int k) (ae:X.P.info? elem=some i) (ax:i.zero=some z) (r8:z.cells.size=i.size)
 (af:cE ι fr a aI) (hw:bx X ι st w) (h:ZR elem i.size i.bytes s x call fr st= .ok v aF st'):aF=fr∧lI X ι w v st' (execOp a.eval o):=by
 obtain⟨base,len,cap,uY,g⟩:=xW h (by simp);have r5:=af.ak hw ah;rw[uY]at r5;have di:=af.ak hw b4;generalize cI:fr.ak x=fB at g di;cases fB with
 |slice b n c=>
  cases b with
  |none=>
   obtain⟨q5,aP⟩:=lv (g:dQ n 0 (k5 fr st elem i.size i.bytes base len cap 0 []) _=a1.ok v aF st') (by simp);subst q5;generalize lR:a.eval x=v9 at di;cases di;refine Kq (n:=0) (new:=[]) (new':=[]) al hu aa ay ae ax r8 hw r5 ?_ (bP.nil ι) (by simp) rfl aP;rw[lR];exact⟨rfl,fun _ _=>rfl⟩
  |some b=>
   obtain⟨Xk,cs,el,bk,bc,aM,hn,aP⟩:=BJ (g:ar.load st b _ _ _=_) (by simp);obtain⟨bR,bd⟩:=jj aP (by simp);obtain⟨l,hl,C,eA,hc⟩:=hw.eC _ _ aM (by simp);generalize lR:a.eval x=v9 at di;cases di with
   |gV _ l' off _ _ cC dP iW=>
    rw[hl]at cC;cases cC;have lB:n*i.size<=(cs.drop b.off).length:=hn;have q8:=hc.room;rw[zaz]at lB;refine Kq (n:=n) (new:=(cs.drop b.off).take (n*i.size)) (new':=(C.toList.drop off).take (n*i.size)) al hu aa ay ae ax r8 hw r5 ?_ ?_ ?_ bR bd
    ·rw[lR];refine⟨rfl,fun tape drawn=> ?_⟩;simp only[Builtin.firstCells];rcases iW with h|⟨I,_,_⟩
     ·by_cases h0:n*i.size=0
      ·rw[h0];simp[loadCells,loadCellsFrom]
      ·exact FV (by exact hc.there) (by rw[h];omega)
     ·subst I;simp[loadCells,loadCellsFrom]
    ·rcases iW with h|⟨I,_,_⟩
     ·rw[h];exact hc.row b.off (n*i.size) hn
     ·subst I;simpa using bP.nil ι
    ·simp;omega
 |string hV=>
  obtain⟨kJ,aP⟩:=lv (g:dQ i.size 1 (k5 fr st elem i.size i.bytes base len cap (dd hV.data.toList) (o8 hV.data.toList)) _=a1.ok v aF st') (by simp);rw[fe]at aP;generalize lR:a.eval x=v9 at di;cases di;refine Kq (n:=hV.data.toList.length) (new:=o8 hV.data.toList) (new':=o8 hV.data.toList) al hu aa ay ae ax r8 hw r5 ?_ (QH ι _) ?_ (adH _) aP
  ·rw[lR];exact auD X.P w hV i.size
  ·rw[Gf,zbB,kJ,zbj]
 |chan p=>
  cases p with
  |none=>
   have az:∀(k:am Addr->Nat->Nat->a1) (z:a1),ju (.chan none) k z=z:=fun _ _=>rfl;have e2:∀a z:a1,vI (.chan none) a z=a:=fun _ _=>rfl;simp only[az,e2]at g;have aP:=g;generalize lR:a.eval x=v9 at di;cases di;refine Kq (n:=0) (new:=[]) (new':=[]) al hu aa ay ae ax r8 hw r5 ?_ (bP.nil ι) (by simp) rfl aP;rw[lR];refine⟨rfl,fun tape drawn=> ?_⟩;simp only[Builtin.firstCells];rw[show 0*i.size=0 from zar _];simp[loadCells,loadCellsFrom]
  |some _=>exact absurd g (by simp[ju,jv,vI])
 |_=>exact absurd g (by simp[ju,jv,vI])
end
section
variable{ι:bu}{fr aF:aO}{a:Act}{aI:Nat}{st st':ar}{w:d7}{o:Oper}{v:bi}{call:bF}
def atN{mr lH:ci}{i:f7}{d s:bv}(ay:cN X.aH d=true)(ah:cN X.aH s=true)(al:o.op= .call {callee:=.builtin .copy,args:= #[d,s],argTypes:= #[mr,lH]})
 (hu:X.P.underlying mr=some (.slice elem)) (ae:X.P.info? elem=some i) (af:cE ι fr a aI) (hw:bx X ι st w) (h:ZV i.size d s call fr st= .ok v aF st'):
 aF=fr∧lI X ι w v st' (execOp a.eval o):=by
 obtain⟨qN,dl,ahg,amX,g1⟩:=xW h (by simp);obtain⟨atb,a5,h9,uY,aP⟩:=xW g1 (by simp);have D9:=af.ak hw ay;rw[amX]at D9;have r5:=af.ak hw ah;rw[uY]at r5;have aa:∀{v':bi} {w':d7},(Builtin.copy_ #[mr,lH] o.type #[a.eval d,a.eval s]).run X.P w= .ok v' w'->(execOp a.eval o).run X.P w= .ok (.value v') w':=by
  intro v' w' aD;unfold execOp;rw[al];simp only[resolve,zcm,zaQ,zbX,Sem.run_bind,Sem.run_pure,Result.andThen,invoke,builtin,aD]
 generalize p8:a.eval d=aww at D9 aa;generalize tg:a.eval s=au9 at r5 aa;cases qN with
 |none=>
  obtain⟨h0,bd⟩:=lv (aP:dQ dl 0 _ _=_) (by simp);subst h0;cases bd;cases D9;refine⟨rfl,lI.same (v':=.int .i64 0) hw (aa ?_) (.int _ _)⟩;cases r5<;>simp[Builtin.copy_,run_underlying hu,Result.andThen,Builtin.lenOf,kv ae,Builtin.firstCells,loadCells,loadCellsFrom,goInt]
 |some ad=>
  cases atb with
  |none=>
   obtain⟨h0,bd⟩:=lv (aP:dQ a5 0 _ _=_) (by simp);subst h0;cases bd;cases r5;refine⟨rfl,lI.same (v':=.int .i64 0) hw (aa ?_) (.int _ _)⟩;cases D9;simp[Builtin.copy_,run_underlying hu,Result.andThen,Builtin.lenOf,kv ae,Builtin.firstCells,goInt,Nat.min_def,storeCells]
  |some FX=>
   have bd:st.load FX (Nat.mul (eh a5 dl a5 dl) i.size) (fun vs=>cond (hD vs) (st.store ad vs (fun st=>a1.ok (.int .i64 (.ofNat (eh a5 dl a5 dl))) fr st) .no) .no) .no=a1.ok v aF st':=aP;rw[show eh a5 dl a5 dl=Nat.min a5 dl by rw[od];show _=min a5 dl;rw[Nat.min_def]]at bd;rw[show Nat.mul (Nat.min a5 dl) i.size=Nat.min a5 dl*i.size from rfl]at bd;obtain⟨axc,cs,el,bk,bc,aM,hn,cu⟩:=BJ bd (by simp);obtain⟨bR,dh⟩:=jj cu (by simp);obtain⟨iT,awu,awx,HH,awA,mK,anb,ey⟩:=acZ dh (by simp);obtain⟨l,hl,C,eA,hc⟩:=hw.eC _ _ aM (by simp);obtain⟨ja,mQ,XK⟩:=hw.eC _ _ mK (by simp);have lB:Nat.min a5 dl*i.size<=(cs.drop FX.off).length:=hn;have q8:=hc.room;rw[zaz]at lB;cases r5 with
   |gV _ l' off _ _ cC dP iW=>
    rw[hl]at cC;cases cC;cases D9 with
    |gV _ axl OZ _ _ q2 axa anI=>
     rw[mQ]at q2;cases q2;have Nr:a5=0∨dl=0->Nat.min a5 dl=0:=by
      intro hh;show min a5 dl=0;omega
     have kI:bP ι ((cs.drop FX.off).take (Nat.min a5 dl*i.size)) ((C.toList.drop off).take (Nat.min a5 dl*i.size)):=by
      rcases iW with h|⟨I,_,_⟩
      ·rw[h];exact hc.row FX.off _ hn
      ·rw[Nr (.inl I)];simpa using bP.nil ι
     have am4:(Builtin.firstCells i.size (Nat.min a5 dl) (.slice (some ⟨l.cK,off,none⟩) a5 (h9+l.ex))).run X.P w= .ok ((C.toList.drop off).take (Nat.min a5 dl*i.size)).toArray w:=by
      simp only[Builtin.firstCells];rcases iW with h|⟨I,_,_⟩
      ·by_cases h0:Nat.min a5 dl*i.size=0
       ·rw[h0];simp[loadCells,loadCellsFrom]
       ·exact FV hc.there (by rw[h];omega)
      ·rw[Nr (.inl I)];simp[loadCells,loadCellsFrom]
     have fU:∀w',(storeCells ⟨ja.cK,OZ,none⟩ ((C.toList.drop off).take (Nat.min a5 dl*i.size))).run X.P w= .ok () w'->
      (Builtin.copy_ #[mr,lH] o.type #[.slice (some ⟨ja.cK,OZ,none⟩) dl (ahg+ja.ex),.slice (some ⟨l.cK,off,none⟩) a5 (h9+l.ex)]).run X.P w= .ok (.int .i64 (Nat.min a5 dl:Nat)) w':=by
      intro w' aD;simp only[Builtin.copy_,zcj,zck,zdM,Sem.run_bind,run_underlying hu,Result.andThen,kv ae,Builtin.lenOf,Sem.run_pure];rw[am4];simp only[];simp only[aD,goInt]
     rcases ey with⟨hle,gp⟩|⟨he,gp⟩
     ·cases gp;by_cases ax:(cs.drop FX.off).take (Nat.min a5 dl*i.size)=[]
      ·have qe:(C.toList.drop off).take (Nat.min a5 dl*i.size)=[]:=by
        have:=kI.1;rw[ax]at this;exact zaX this.symm
       refine⟨rfl,ι,.value _,w,aa (fU w (by rw[qe];rfl)),.inl ⟨_,rfl,.int _ _⟩,?_,.refl ι w⟩;have:=hw.Qp mK;rw[ax];simpa using this
      ·have anJ:OZ=ja.cW+ad.off:=by
        rcases anI with h|⟨I,_,_⟩
        ·exact h
        ·exfalso;apply ax;rw[Nr (.inr I)];simp
       subst anJ;obtain⟨w',aD,bl,bK⟩:=hw.store mK mQ anb hle kI bR;exact⟨rfl,ι,.value _,w',aa (fU w' aD),.inl ⟨_,rfl,.int _ _⟩,bl,bK⟩
     ·cases gp;have qe:(C.toList.drop off).take (Nat.min a5 dl*i.size)=[]:=by
       have:=kI.1;rw[he]at this;exact zaX this.symm
      exact⟨rfl,ι,.value _,w,aa (fU w (by rw[qe];rfl)),.inl ⟨_,rfl,.int _ _⟩,hw.Qp mK,.refl ι w⟩
theorem aaH(P:f5)(w:d7)(f:bi->f6->Sem (ForInStep f6))(af:∀n s,f (.int .u8 n) s=pure (.yield (s.push (UInt8.ofNat n.toNat)))):∀(bs:ac Int) (s:f6),
 (forIn (bs.map (Value.int .u8)).toArray s f:Sem f6).run P w= .ok ⟨⟨s.data.toList++bs.map (fun n=>UInt8.ofNat n.toNat)⟩⟩ w
 |[],s=>by simp
 |n::bs,s=>by
  simp only[zaQ,List.forIn_toArray,List.forIn_cons,Sem.run_bind,af,Sem.run_pure,Result.andThen];have:=aaH P w f af bs (s.push (UInt8.ofNat n.toNat));simp only[List.forIn_toArray]at this;rw[this];congr 1;simp[ByteArray.data_push]
def atH{sA sF:ci}{x:bv}(aa:cN X.aH x=true)(al:o.op= .convert sA sF x)(ah:X.P.underlying sA=some (.slice e))(aV:X.P.underlying sF=some .string)(he:X.P.underlying e=some (.int .u8))
 (af:cE ι fr a aI) (hw:bx X ι st w) (h:Jj x call fr st= .ok v aF st'):aF=fr∧cy X ι w v st st' (execOp a.eval o):=by
 obtain⟨b,n,c,hp,g1⟩:=xW h (by simp);have di:=af.ak hw aa;rw[hp]at di;generalize cI:a.eval x=fB at di;cases b with
 |none=>
  cases g1;cases di;refine⟨rfl,cy.same (v':=.string .empty) hw ?_ (.string _)⟩;unfold execOp;rw[al];simp[cI,convert,run_underlying ah,run_underlying aV,run_underlying he,Result.andThen,Conv.bytesToString]
 |some b=>
  obtain⟨Xk,cs,el,bk,bc,aM,hn,aP⟩:=BJ (g1:ar.load st b _ _ _=_) (by simp);obtain⟨bh,hb,bd⟩:=gA aP (by simp);cases bd;obtain⟨l,hl,C,eA,hc⟩:=hw.eC _ _ aM (by simp);have q8:=hc.room;obtain⟨bs,az,e2⟩:=LL hb;cases di with
  |gV _ l' off _ _ cC dP iW=>
   rw[hl]at cC;cases cC;have kI:bP ι ((cs.drop b.off).take n) ((C.toList.drop off).take n):=by
    rcases iW with h|⟨I,_,_⟩
    ·rw[h];exact hc.row b.off _ hn
    ·subst I;simpa using bP.nil ι
   have dJ:(C.toList.drop off).take n=bs.map (Value.int .u8):=by
    rw[az]at kI;have key:∀(bs:ac Int) (aw:ac bi),bP ι (bs.map (Value.int .u8)) aw->aw=bs.map (Value.int .u8):=by
     intro bs
     induction bs with
     |nil=>intro aw aJ;rw[aJ.xj];rfl
     |cons m ms ba=>
      intro aw aJ;obtain⟨y,jY,rfl,I,U⟩:=aJ.cons_inv;cases I;rw[ba jY U];rfl
    exact key bs _ kI
   have uQ:(loadCells ⟨l.cK,off,none⟩ n).run X.P w= .ok (bs.map (Value.int .u8)).toArray w:=by
    rw[<-dJ];rcases iW with h|⟨I,_,_⟩
    ·by_cases h0:n=0
     ·subst h0;simp[loadCells,loadCellsFrom]
     ·rw[zaz]at hn;exact FV hc.there (by rw[h];omega)
    ·subst I;simp[loadCells,loadCellsFrom]
   refine⟨rfl,cy.same (v':=.string ⟨⟨bh⟩⟩) hw ?_ (.string _)⟩;unfold execOp;rw[al];simp only[cI,convert,Sem.run_bind,run_underlying ah,run_underlying aV,run_underlying he,Result.andThen,Conv.bytesToString,uQ];rw[aaH X.P w _ (fun _ _=>rfl) bs ByteArray.empty];simp[e2]
end
def YQ(P:f5)(e:ci)(count off n:Nat)(ah:P.cellsOf e≠0)(h0:off%P.cellsOf e=0)(hn:off/P.cellsOf e+n<=count):liesAt P P.depth e count off e n=true:=by
 have ay:P.depth=(2*(P.types.size+Made.depth)+1)+1:=rfl;rw[ay];have Iq:sameLayout P (2*(P.types.size+Made.depth)+1+1) e e=true:=by simp[sameLayout]
 have aD:rowAt P (sameLayout P P.depth · e) P.depth e count off n=true:=by
  rw[ay];simp only[rowAt];rw[zaa ah];simp[h0,hn,Iq]
 simp only[liesAt];rw[aD];rfl
theorem Yi(c:ce):∀(l:ac ce),ra c l=(List.range l.length).find? (fun i=>l[i]! ==c)
 |[]=>rfl
 |b::bh=>by
  show cond (Nat.beq b.toNat c.toNat) (some 0) (bp (ra c bh) (fun i=>some (Nat.succ i)) none)=_;rw[zay,zdj,zdQ];by_cases hb:b=c
  ·subst hb;simp
  ·have I:Nat.beq b.toNat c.toNat=false:=by
    rw[zbG];intro hh;exact hb (zcn.1 (dI hh))
   have U:((b::bh)[0]! ==c)=false:=by simpa using hb
   rw[I,U,List.find?_map,Yi c bh];show bp _ _ _=_;have:((fun i=>(b::bh)[i]! ==c)∘Nat.succ)=(fun i=>bh[i]! ==c):=by
    funext i;simp
   rw[this];cases(List.range bh.length).find? (fun i=>bh[i]! ==c)<;>rfl
section
variable{ι:bu}{fr aF:aO}{a:Act}{aI:Nat}{st st':ar}{w:d7}{o:Oper}{v:bi}{call:bF}
variable{x:bv}{f:co}{t sA sF:ci}{i:f7}
def Hu{args:be bv}{ts:be ci}(al:o.op= .call {callee:=.value (.func f),args:=args,argTypes:=ts}):
 (execOp a.eval o).run X.P w=(callFunc f (args.map a.eval)).run X.P w:=by
 unfold execOp;rw[al];simp[resolve,Act.eval,Deferred.ofValue,invoke]
def auk{ts:be ci}(aa:cN X.aH x=true)(dN:X.kM f=true)(al:o.op= .call {callee:=.value (.func f),args:= #[x],argTypes:=ts})(af:cE ι fr a aI)(hw:bx X ι st w)
 (h:aab x call fr st= .ok v aF st'):aF=fr∧cy X ι w v st st' (execOp a.eval o):=by
 cases h;refine⟨rfl,cy.same (v':=a.eval x) hw ?_ (af.ak hw aa)⟩;rw[Hu al];simpa using X.Fe f dN (a.eval x) w
def at0{y:bv}{ts:be ci}(aa:cN X.aH x=true)(aJ:cN X.aH y=true)(dN:X.la f=true)(al:o.op= .call {callee:=.value (.func f),args:= #[x,y],argTypes:=ts})(af:cE ι fr a aI)(hw:bx X ι st w)
 (h:Jk x y call fr st= .ok v aF st'):aF=fr∧cy X ι w v st st' (execOp a.eval o):=by
 obtain⟨s,ah,g1⟩:=qu h (by simp);obtain⟨k,wh,hc,aP⟩:=ke g1 (by simp);obtain⟨ab,bd⟩:=jj aP (by simp);obtain⟨c,az,cu⟩:=nx bd (by simp);have fF:=vb ab;clear h g1 aP bd;subst az fF;have di:=af.ak hw aa;rw[ah]at di;generalize cI:a.eval x=fB at di;have fH:=af.ak hw aJ;rw[hc]at fH;generalize gy:a.eval y=rF at fH;cases di;cases fH;obtain⟨e2,b8,fa⟩:=xq cu;subst e2 b8 fa;refine⟨rfl,cy.same (v':=.int .i64 (bp (ra (UInt8.ofNat c) s.data.toList) (fun i=>.ofNat i) (.negSucc 0))) hw ?_ (.int _ _)⟩;rw[Hu al];have:=X.EP f dN s (c:Int) w;simp only[zcm,zaQ,zbX,cI,gy];rw[this];congr 2;have e0:s.size=s.data.toList.length:=(zbr (xs:=s.data)).symm;rw[Yi,e0];have ana:(fun i:Nat=>s[i]! ==(c:Int).toNat.toUInt8)=(fun i:Nat=>s.data.toList[i]! ==UInt8.ofNat c):=by
  funext i;have:s[i]! =s.data.toList[i]! :=by
   have az:s[i]! =s.data[i]! :=by
    by_cases ae:i<s.size
    ·rw[getElem!_pos s i ae,getElem!_pos s.data i ae];rfl
    ·rw[getElem!_neg s i ae,getElem!_neg s.data i ae]
   rw[az];simp[Array.getElem!_eq_getD]
  rw[this];rfl
 rw[ana];cases(List.range s.data.toList.length).find? (fun i=>s.data.toList[i]! ==UInt8.ofNat c)<;>rfl
def ate(ts:be ci)(t:ci)(n c:Nat):Builtin.unsafeSliceData_ ts t #[.slice none n c]=pure (.pointer none):=rfl
def atf(ts:be ci)(t:ci)(b:Addr)(n c:Nat)(hc:c≠0):Builtin.unsafeSliceData_ ts t #[.slice (some b) n c]=pure (.pointer (some b)):=by
 have:Builtin.unsafeSliceData_ ts t #[.slice (some b) n c]=(if c≠0 then pure (.pointer (some b))else do
  if(<-viewAt b.block).isSome then pure (.pointer (some b))
  else pure (.pointer (some ⟨<-newObj (.view b (<-elemOf t)),0,none⟩))):=rfl
 rw[this,zab hc]
def aum(aa:cN X.aH x=true)(al:o.op= .call {callee:=.builtin .unsafeSliceData,args:= #[x],argTypes:= #[t]})(af:cE ι fr a aI)(hw:bx X ι st w)
 (h:aae x call fr st= .ok v aF st'):aF=fr∧cy X ι w v st st' (execOp a.eval o):=by
 obtain⟨b,n,c,hp,g1⟩:=xW h (by simp);have di:=af.ak hw aa;rw[hp]at di;generalize cI:a.eval x=fB at di;cases b with
 |none=>
  cases g1;cases di;refine⟨rfl,cy.same (v':=.pointer none) hw ?_ .nF⟩;unfold execOp;rw[al];simp[resolve,invoke,builtin,ate,cI]
 |some b=>
  have aP:dQ c 0 a1.no (a1.ok (.pointer (some b)) fr st)=a1.ok v aF st':=g1;rw[pZ]at aP;split at aP
  ·cases aP
  ·rename_i j4;cases aP;cases di with
   |gV _ l off _ _ hl ah iW=>
    have uS:off=l.cW+b.off:=by rcases iW with h|⟨_,h,_⟩;exact h;exact absurd h j4
    subst uS;refine⟨rfl,cy.same (v':=.pointer (some ⟨l.cK,l.cW+b.off,none⟩)) hw ?_ (.ptr _ _ hl ah)⟩;unfold execOp;rw[al];simp[resolve,invoke,builtin,atf _ _ _ _ (c+l.ex) (by omega),cI]
def Kn{C:be bi}(h:w.heap[b]? =some (.cells C e bk)):w.shape? b=some (e,C.size):=by simp[World.shape?,h]
def aca(P:f5){ad:Addr}{C:be bi}(h:w.heap[ad.block]? =some (.cells C e bk)):(Conv.seenAt ad).run P w= .ok ad w:=by
 simp[Conv.seenAt,viewAt,Kn h,Result.andThen]
def atM(aa:cN X.aH x=true)(al:o.op= .convert sA sF x)(ah:X.P.underlying sA=some (.pointer t))(aV:X.P.underlying sF=some .unsafePointer)(ae:X.P.info? t=some i)(ax:i.size≠0)
 (af:cE ι fr a aI) (hw:bx X ι st w) (h:ZU x call fr st= .ok v aF st'):aF=fr∧cy X ι w v st st' (execOp a.eval o):=by
 obtain⟨p,hp,g1⟩:=qs h (by simp);obtain⟨ad,az,aP⟩:=gA g1 (by simp);subst az;obtain⟨th,cs,elem,bk,bc,aM,bd⟩:=wk aP (by simp);obtain⟨aT,cu⟩:=kb bd (by simp);rw[fe]at aT;cases cu;obtain⟨l,hl,C,eA,hc⟩:=hw.eC _ _ aM (by simp);have q8:=hc.room;have di:=af.ak hw aa;rw[hp]at di;generalize cI:a.eval x=fB at di;cases di with
 |ptr _ l' cC dP=>
  rw[hl]at cC;cases cC;refine⟨rfl,cy.same (v':=.pointer (some ⟨l.cK,l.cW+ad.off,none⟩)) hw ?_ (.ptr _ _ hl th)⟩;unfold execOp;rw[al];have Ey:¬(C.size<=l.cW+ad.off):=by omega
  simp[cI,convert,run_underlying ah,run_underlying aV,Result.andThen,Conv.unsafePointer,aca X.P (ad:=⟨l.cK,l.cW+ad.off,none⟩) hc.there,cellsIn,Kn hc.there,kv ae,ax,Ey]
def atP(aa:cN X.aH x=true)(al:o.op= .convert sA sF x)(ah:X.P.underlying sA=some .unsafePointer)(aV:X.P.underlying sF=some (.pointer t))(ae:X.P.info? t=some i)(ax:i.size≠0)
 (af:cE ι fr a aI) (hw:bx X ι st w) (h:ZW t i.size x call fr st= .ok v aF st'):aF=fr∧cy X ι w v st st' (execOp a.eval o):=by
 obtain⟨p,hp,g1⟩:=qs h (by simp);obtain⟨ad,az,aP⟩:=gA g1 (by simp);subst az;obtain⟨th,cs,elem,bk,bc,aM,bd⟩:=wk aP (by simp);obtain⟨iG,cu⟩:=BU bd (by simp);obtain⟨h0,dh⟩:=lv cu (by simp);obtain⟨rZ,ey⟩:=lv dh (by simp);obtain⟨q4,gp⟩:=lv ey (by simp);rw[fe]at q4;cases gp;subst iG rZ;obtain⟨l,hl,C,eA,hc⟩:=hw.eC _ _ aM (by simp);have iX:=hc.plain rfl;have di:=af.ak hw aa;rw[hp]at di;generalize cI:a.eval x=fB at di;cases di with
 |ptr _ l' cC dP=>
  rw[hl]at cC;cases cC;have ly:X.P.cellsOf elem=i.size:=by simp[Program.cellsOf,ae]
  have iW:l.cW+ad.off=0:=by omega
  have NU:(variablesAt ⟨l.cK,l.cW+ad.off,none⟩ elem 1).run X.P w= .ok true w:=by
   simp only[variablesAt,Sem.run_bind,run_program,Result.andThen,run_shape,Kn hc.there,Sem.run_pure];rw[YQ X.P elem _ _ 1 (by rw[ly];exact ax) (by rw[iW];simp) (by
    rw[iW,ly,iX.2.2,q4];simp[Nat.div_self (zbs ax)])]
  refine⟨rfl,cy.same (v':=.pointer (some ⟨l.cK,l.cW+ad.off,none⟩)) hw ?_ (.ptr _ _ hl th)⟩;unfold execOp;rw[al];simp[cI,convert,run_underlying ah,run_underlying aV,Result.andThen,Conv.unsafePointer,aca X.P (ad:=⟨l.cK,l.cW+ad.off,none⟩) hc.there,kv ae,ax,NU]
end
section
variable{ι:bu}{fr aF:aO}{a:Act}{aI:Nat}{st st':ar}{w:d7}{o:Oper}{v:bi}{call:bF}
variable{x:bv}{i:f7}
def atO{sA sF:ci}(aa:cN X.aH x=true)(al:o.op= .convert sA sF x)(ah:X.P.underlying sA=some .string)(aV:X.P.underlying sF=some (.slice e))(he:X.P.underlying e=some (.int .u8))
 (ae:X.P.info? e=some i) (ax:i.size=1) (af:cE ι fr a aI) (hw:bx X ι st w) (h:B8 e x call fr st= .ok v aF st'):aF=fr∧ue X ι w v st st' (execOp a.eval o):=by
 obtain⟨s,hp,g1⟩:=qu h (by simp);obtain⟨hle,aP⟩:=kb g1 (by simp);rw[gR]at aP;simp only[fe]at hle aP;cases aP;have di:=af.ak hw aa;rw[hp]at di;generalize cI:a.eval x=fB at di;cases di;have e0:s.size=s.data.toList.length:=(zbr (xs:=s.data)).symm
 let q:Question:=.appendCap s.size 0 e
 have M4:s.size<=q.cut (w.tape w.drawn q):=by show s.size<=s.size+_;omega
 let C:be bi:=(s.data.map fun b=>Value.int .u8 b.toNat)++Array.replicate (q.cut (w.tape w.drawn q)-s.size) (.int .u8 0)
 have W2:C.size=q.cut (w.tape w.drawn q):=by
  simp only[C,Array.size_append,Array.size_map,Array.size_replicate];have:s.data.size=s.size:=rfl;omega
 have ly:X.P.cellsOf e=1:=by simp[Program.cellsOf,ae,ax]
 let w':d7:={w with drawn:=w.drawn+1,heap:=w.heap.push (.cells C e (C.size,C.size+1))}
 have fU:(execOp a.eval o).run X.P w= .ok (.value (.slice (some ⟨w.heap.size,0,none⟩) s.size (q.cut (w.tape w.drawn q)))) w':=by
  unfold execOp;rw[al];have anz:(markStringish ⟨w.heap.size,0,none⟩).run X.P {w with drawn:=w.drawn+1,heap:=w.heap.push (.cells C e)}= .ok () w':=by
   simp[markStringish,World.shape?,World.freeze,Result.andThen,w'];apply zde;intro j;rw[zdJ];by_cases hj:w.heap.size=j
   ·subst hj;simp
   ·rw[zaa hj,zcJ,zcJ,zaa (Ne.symm hj),zaa (Ne.symm hj)]
  simp only[cI,convert,Sem.run_bind,run_underlying ah,run_underlying aV,Result.andThen,run_underlying he,Conv.stringToBytes,run_choose,Question.forced,zaW,if_false,newRow,run_newObj,Sem.run_pure];rw[anz]
 obtain⟨aU,bl,bK,ee,mX⟩:=hw.Jc e (cs:=o8 s.data.toList) (cs':=o8 s.data.toList) (QH ι _) (List.replicate (q.cut (w.tape w.drawn q)-s.size) (.int .u8 0)) (q.cut (w.tape w.drawn q)-s.size) (by
  rw[ly];simp) (C.size,C.size+1) (fun j hj=>by
   rw[Gf]at hj;simp only[zbB,List.length_replicate]at hj;simp only;omega) w' (by
   show w.heap.push (.cells C e (C.size,C.size+1))=_;congr 2;apply Array.ext';rw[Gf];simp[C])
 rw[mX]at bl bK ee;refine⟨rfl,_,_,_,_,w',rfl,by simp,fU,rfl,?_,bl,bK⟩;have:=bw.gV (ι:=iD ι st.ai ⟨w.heap.size,0,q.cut (w.tape w.drawn q)-s.size,id⟩) ⟨st.ai,0,none⟩ ⟨w.heap.size,0,q.cut (w.tape w.drawn q)-s.size,id⟩ 0 s.data.toList.length s.data.toList.length ee rfl (.inl rfl);rw[<-e0]at this⊢;rw[show s.size+(q.cut (w.tape w.drawn q)-s.size)=q.cut (w.tape w.drawn q) by omega]at this;exact this
theorem YR(P:f5)(w:d7)(b:Nat)(C:be bi)(e:ci)(bk:Nat×Nat)(h:w.heap[b]? =some (.cells C e bk)):∀(bs:ac Int) (o:Nat) (acc:f6),(C.toList.drop o).take bs.length=bs.map (Value.int .u8)->
 (loadBytes ⟨b,o,none⟩ acc bs.length).run P w= .ok ⟨⟨acc.data.toList++bs.map (fun n=>UInt8.ofNat n.toNat)⟩⟩ w
 |[],o,acc,_=>by simp[loadBytes]
 |n::bs,o,acc,hc=>by
  have me:C[o]? =some (.int .u8 n):=by
   have:=congrArg (fun l=>l[0]?) hc;simpa using this
  have aT:o<C.toList.length:=by
   have:=(zbh.1 me).1;simpa using this
  have y5:(C.toList.drop (o+1)).take bs.length=bs.map (Value.int .u8):=by
   rw[hx aT]at hc;simp only[zay,List.take_succ_cons,zaQ]at hc;exact(List.cons.inj hc).2
  simp only[zay,loadBytes,Sem.run_bind,run_load,cell_of h,me,Result.andThen,add_eq];rw[YR P w b C e bk h bs (o+1) _ y5];congr 1;simp[ByteArray.data_push,Nat.toUInt8]
def aut{y:bv}{Fw t2:ci}(aa:cN X.aH x=true)(aJ:cN X.aH y=true)(al:o.op= .call {callee:=.builtin .unsafeString,args:= #[x,y],argTypes:= #[Fw,t2]})(fG:X.P.underlying Fw=some (.pointer e))
 (ae:X.P.info? e=some i) (ax:i.size=1) (af:cE ι fr a aI) (hw:bx X ι st w) (h:aai e x y call fr st= .ok v aF st'):aF=fr∧lI X ι w v st' (execOp a.eval o):=by
 obtain⟨p,hp,g1⟩:=qs h (by simp);obtain⟨k,tu,hn,aP⟩:=ke g1 (by simp);obtain⟨n,az,bd⟩:=nx aP (by simp);clear h g1 aP;subst az;have di:=af.ak hw aa;rw[hp]at di;generalize cI:a.eval x=fB at di;have fH:=af.ak hw aJ;rw[hn]at fH;generalize gy:a.eval y=rF at fH;cases fH;have ly:X.P.cellsOf e=1:=by simp[Program.cellsOf,ae,ax]
 have uZ:∀{v':bi} {w':d7},(Builtin.unsafeString_ #[Fw,t2] o.type #[a.eval x,a.eval y]).run X.P w= .ok v' w'->(execOp a.eval o).run X.P w= .ok (.value v') w':=by
  intro v' w' aD;unfold execOp;rw[al];simp only[resolve,zcm,zaQ,zbX,Sem.run_bind,Sem.run_pure,Result.andThen,invoke,builtin,aD]
 rw[cI,gy]at uZ;have Ik:¬((n:Int)<0):=by omega
 have NT:∀p:am Addr,∃(eK:String) (fV:RuntimeError) (m0:Unsupported) (oe:RuntimeError) (tt:Unsupported),Builtin.unsafeString_ #[Fw,t2] o.type #[.pointer p,.int k (n:Int)]=(do
  let r<-asInt (.int k (n:Int))
  let some e:=(#[Fw,t2]:be ci)[0]? |stuck eK
  if r<0 then runtimePanic fV
  if r>IntKind.i64.max then unsupported m0
  match p with
  |none=>if r=0 then pure (.string .empty)else runtimePanic oe
  |some q=>if r=0 then pure (.string .empty)else if<-variablesAt q (<-elemOf e) r.toNat then do let s<-loadBytes q .empty r.toNat;freeze q r.toNat;pure (.string s)else unsupported tt):=fun p=>⟨default,_,_,_,_,rfl⟩
 rw[pZ]at bd;split at bd
 ·rename_i h0;subst h0;cases bd;have Ev:¬(((0:Nat):Int)>IntKind.i64.max):=by decide
  cases di with
  |nF=>
   refine⟨rfl,lI.same (v':=.string .empty) hw (uZ ?_) (.string _)⟩;obtain⟨eK,fV,m0,oe,tt,hu⟩:=NT _;rw[hu];simp[asInt,asIntOf]
  |ptr ad l hl ah=>
   refine⟨rfl,lI.same (v':=.string .empty) hw (uZ ?_) (.string _)⟩;obtain⟨eK,fV,m0,oe,tt,hu⟩:=NT _;rw[hu];simp[asInt,asIntOf]
 ·rename_i h0;obtain⟨ad,az,cu⟩:=gA bd (by simp);subst az;obtain⟨XH,dh⟩:=kb cu (by simp);obtain⟨th,cs,el,bk,bc,aM,ey⟩:=wk dh (by simp);obtain⟨oK,gp⟩:=kb ey (by simp);obtain⟨rZ,n1⟩:=lv gp (by simp);obtain⟨hlen,qV⟩:=wu n1 (by simp);obtain⟨bh,hb,qU⟩:=gA qV (by simp);rw[kR]at qU;cases qU;clear bd cu dh ey gp n1 qV;subst rZ;obtain⟨l,hl,C,eA,hc⟩:=hw.eC _ _ aM (by simp);have q8:=hc.room;obtain⟨bs,az,e2⟩:=LL hb;have awX:n<=1099511627776:=XH;rw[zaz]at hlen;cases di with
  |ptr _ l' cC dP=>
   rw[hl]at cC;cases cC;have kI:=hc.row ad.off n (by rw[zaz];exact hlen);have dJ:(C.toList.drop (l.cW+ad.off)).take n=bs.map (Value.int .u8):=by
    rw[az]at kI;have key:∀(bs:ac Int) (aw:ac bi),bP ι (bs.map (Value.int .u8)) aw->aw=bs.map (Value.int .u8):=by
     intro bs
     induction bs with
     |nil=>intro aw aJ;rw[aJ.xj];rfl
     |cons m ms ba=>
      intro aw aJ;obtain⟨y,jY,rfl,I,U⟩:=aJ.cons_inv;cases I;rw[ba jY U];rfl
    exact key bs _ kI
   have n7:bs.length=n:=by
    have:=congrArg List.length az;simp at this;omega
   have uQ:=YR X.P w l.cK C el eA hc.there bs (l.cW+ad.off) .empty (by rw[n7];exact dJ);rw[n7]at uQ;have NU:(variablesAt ⟨l.cK,l.cW+ad.off,none⟩ el n).run X.P w= .ok true w:=by
    simp only[variablesAt,Sem.run_bind,run_program,Result.andThen,run_shape,Kn hc.there,Sem.run_pure];rw[YQ X.P el _ _ n (by rw[ly];omega) (by rw[ly];omega) (by rw[ly];simp;omega)]
   have cP:=(zbh.1 hc.there).1
   let HH:Nat×Nat:=if eA.1==eA.2 then(l.cW+ad.off,l.cW+ad.off+n)else(min eA.1 (l.cW+ad.off),max eA.2 (l.cW+ad.off+n))
   have uL:(w.freeze ⟨l.cK,l.cW+ad.off,none⟩ n).heap=w.heap.setIfInBounds l.cK (.cells C el HH):=by
    simp only[World.freeze,zaa h0];apply zde;intro j;rw[zdJ];by_cases kj:l.cK=j
    ·subst kj;rw[zab rfl,hc.there,zdI];simp[cP,HH]
    ·rw[zaa kj,zby kj]
   obtain⟨t1,t2⟩:=bx.vF X hw aM (by simp) (fun af=>by have:=af.2;omega) hl (.cells cs el (ad.off,Nat.add ad.off n) bc) _ (w.freeze ⟨l.cK,l.cW+ad.off,none⟩ n) uL (fun _ aV=>⟨C,HH,⟨aV,hc.room,hc.cell,fun en=>by
    exfalso;have:ad.off+n<=ad.off:=en;omega,hc.plain⟩⟩) (by constructor<;>simp only[World.freeze,zaa h0])
   refine⟨rfl,ι,.value (.string ⟨⟨bh⟩⟩),_,uZ ?_,.inl ⟨_,rfl,.string _⟩,t1,t2⟩;obtain⟨eK,fV,m0,oe,tt,hu⟩:=NT _;rw[hu];have ag:¬((n:Int)>IntKind.i64.max):=by
    have:IntKind.i64.max=9223372036854775807:=by decide
    rw[this];omega
   have au:¬((n:Int)=0):=by omega
   simp only[asInt,asIntOf,Sem.run_bind,Sem.run_pure,Result.andThen,zcj,zck,zaa Ik,zaa ag,zaa au,elemOf,run_underlying fG,NU,zbb,if_true,uQ,run_freeze];rw[e2];simp
end
section
variable{ι:bu}{fr aF:aO}{a:Act}{aI:Nat}{st st':ar}{w:d7}{o:Oper}{v:bi}{call:bF}
variable{t:ci}{x y eT m8:bi}
def w8:bv->Bool
 |.const _=>true
 |_=>false
def ait{neg:Bool}{z8:ci}{x y:bv}{b:Bool}(al:o.op= .binOp (if neg then .neq else .eql) t x y z8)
 (aM:(eqGuard (if neg then .neq else .eql) t x y (a.eval x) (a.eval y)).run X.P w= .ok () w)
 (hb:∀op:BinOp,op= .eql∨op= .neq->binOp op t (a.eval x) (a.eval y)=(if op= .eql then do pure (.bool (<-Op.equal t (a.eval x) (a.eval y)))else do pure (.bool (!(<-Op.equal t (a.eval x) (a.eval y))))))
 (he:(Op.equal t (a.eval x) (a.eval y)).run X.P w= .ok b w):(execOp a.eval o).run X.P w= .ok (.value (.bool (cond neg (!b) b))) w:=by
 unfold execOp;rw[al];simp only[Sem.run_bind,aM,Result.andThen];cases neg
 ·simp only[zaW,if_false];rw[hb .eql (.inl rfl),zab rfl];simp[he,Result.andThen]
 ·simp only[if_true];rw[hb .neq (.inr rfl),zaa (by simp)];simp[he,Result.andThen]
def ah6(hu:P.underlying t=some .bool)(d:Nat)(x y:Bool):(Op.equalIn (d+1) t (.bool x) (.bool y)).run P w= .ok (x==y) w:=by
 simp[Op.equalIn,run_underlying hu,Result.andThen]
def aib{b:Bool}(n:Nat)(aa:bw ι x eT)(aJ:bw ι y m8)(h:p0 x y=some b)(hu:X.P.underlying t=some (.slice e)):
 (Op.equalIn (n+1) t eT m8).run X.P w= .ok b w:=by
 unfold p0 at h;split at h
 ·cases h;cases aa;cases aJ<;>simp[Op.equalIn,run_underlying hu,Result.andThen]
 ·cases h;cases aa;cases aJ;simp[Op.equalIn,run_underlying hu,Result.andThen]
 ·cases h;cases aa;cases aJ;simp[Op.equalIn,run_underlying hu,Result.andThen]
 ·cases h
def aia{b:Bool}{k:ci}(n:Nat)(aa:bw ι x eT)(aJ:bw ι y m8)(h:DM x y=some b)(hu:X.P.underlying t=some (.map k e)):
 (Op.equalIn (n+1) t eT m8).run X.P w= .ok b w:=by
 unfold DM at h;split at h
 ·cases h;cases aa;cases aJ<;>simp[Op.equalIn,run_underlying hu,Result.andThen]
 ·cases h;cases aa;cases aJ;simp[Op.equalIn,run_underlying hu,Result.andThen]
 ·cases h
def ah8{b:Bool}{p q:be ci}{r:Bool}(n:Nat)(aa:bw ι x eT)(aJ:bw ι y m8)(h:AS x y=some b)(hu:X.P.underlying t=some (.func p q r)):
 (Op.equalIn (n+1) t eT m8).run X.P w= .ok b w:=by
 unfold AS at h;split at h
 ·cases h;cases aa;cases aJ;simp[Op.equalIn,run_underlying hu,Result.andThen]
 ·cases h;cases aa;cases aJ;simp[Op.equalIn,run_underlying hu,Result.andThen]
 ·cases h;cases aa;cases aJ;simp[Op.equalIn,run_underlying hu,Result.andThen]
 ·cases h
def ah9{b:Bool}{ms:be (String×ci)}(n:Nat)(aa:bw ι x eT)(aJ:bw ι y m8)(h:DL x y=some b)(hu:X.P.underlying t=some (.interface ms)):
 (Op.equalIn (n+1) t eT m8).run X.P w= .ok b w:=by
 unfold DL at h;split at h
 ·cases h;cases aa;cases aJ;simp[Op.equalIn,run_underlying hu,Result.andThen]
 ·cases h;cases aa;cases aJ;simp[Op.equalIn,run_underlying hu,Result.andThen]
 ·cases h;cases aa;cases aJ;simp[Op.equalIn,run_underlying hu,Result.andThen]
 ·cases h
def aic{b:Bool}{i:f7}(n:Nat)(aa:bw ι x eT)(aJ:bw ι y m8)(h:wF x y=some b)(hu:X.P.underlying t=some (.pointer e))(ae:X.P.info? e=some i)(ax:i.size≠0):
 (Op.equalIn (n+1) t eT m8).run X.P w= .ok b w:=by
 unfold wF at h;split at h
 ·cases h;cases aa;cases aJ<;>simp[Op.equalIn,run_underlying hu,Result.andThen]
 ·cases h;cases aa;cases aJ;simp[Op.equalIn,run_underlying hu,Result.andThen]
 ·split at h
  ·rename_i p q hc;cases h;cases aa with
   |ptr _ l hl ah=>
    cases aJ with
    |ptr _ ja mQ j8=>
     rw[hc.1,mQ]at hl;cases hl;simp[Op.equalIn,run_underlying hu,kv ae,ax,sameAddr,Result.andThen];rw[zaU];simp
  ·cases h
 ·cases h
inductive vP(P:Program)(t:TypeId)(x y:Operand):qw->Prop
 |tG (h:P.underlying t=some .bool):vP P t x y .tG
 |lD (e:TypeId) (h:P.underlying t=some (.slice e)):vP P t x y .lD
 |zu (k e:TypeId) (h:P.underlying t=some (.map k e)):vP P t x y .zu
 |xh (p q:Array TypeId) (r:Bool) (h:P.underlying t=some (.func p q r)):vP P t x y .xh
 |xi (ms:Array (String×TypeId)) (h:P.underlying t=some (.interface ms)) (hc:w8 x=true∨w8 y=true):vP P t x y .xi
 |ptr (e:TypeId) (i:TypeInfo) (h:P.underlying t=some (.pointer e)) (ae:P.info? e=some i) (ax:i.size≠0):vP P t x y .ptr
def ah5(P:f5)(op:BinOp)(t:ci)(x y:bv)(hc:w8 x=true∨w8 y=true):(eqGuard op t x y .nilIface .nilIface).run P w= .ok () w:=by
 rcases hc with hc|hc
 ·cases x<;>simp[w8]at hc;cases op<;>simp[eqGuard]
 ·cases y<;>simp[w8]at hc;cases op<;>cases x<;>simp[eqGuard]
def atT{neg:Bool}{e:qw}{z8:ci}{x y:bv}(aa:cN X.aH x=true)(aJ:cN X.aH y=true)(al:o.op= .binOp (if neg then .neq else .eql) t x y z8)(bR:vP X.P t x y e)
 (af:cE ι fr a aI) (hw:bx X ι st w) (h:ZX neg e x y call fr st= .ok v aF st'):aF=fr∧cy X ι w v st st' (execOp a.eval o):=by
 obtain⟨b,hb,g⟩:=gA h (by simp);have di:=af.ak hw aa;have fH:=af.ak hw aJ;obtain⟨az,e2,b8⟩:=xq g;subst az e2 b8;clear g h;generalize cI:a.eval x=fB at di;generalize gy:a.eval y=rF at fH;have key:∀(_:(Op.equal t fB rF).run X.P w= .ok b w) (_:(eqGuard (if neg then .neq else .eql) t x y fB rF).run X.P w= .ok () w)
  (_:∀op:BinOp,op= .eql∨op= .neq->binOp op t fB rF=(if op= .eql then do pure (.bool (<-Op.equal t fB rF))else do pure (.bool (!(<-Op.equal t fB rF))))),
  fr=fr∧cy X ι w (.bool (cond neg (!b) b)) st st (execOp a.eval o):=by
  intro I U ag;exact⟨rfl,cy.same (v':=.bool (cond neg (!b) b)) hw (ait al (by rw[cI,gy];exact U) (by rw[cI,gy];exact ag) (by rw[cI,gy];exact I)) (.bool _)⟩
 cases bR with
 |tG hu=>
  have cP:AU (fr.ak x) (fr.ak y)=some b:=hb;generalize fr.ak x=DZ at cP di;generalize fr.ak y=D0 at cP fH;unfold AU at cP;split at cP
  ·cases cP;cases di;cases fH;exact key (ah6 hu 9999 _ _) (by cases neg<;>simp[eqGuard]) (by intro op dD;rcases dD with rfl|rfl<;>rfl)
  ·split at cP
   ·cases cP;cases di;cases fH;rename_i bl iK bK gH ab;subst ab;refine⟨rfl,cy.same (v':=.bool (cond neg (!(iK==gH)) (iK==gH))) hw ?_ (.bool _)⟩;unfold execOp;rw[al];cases neg<;>simp[cI,gy,eqGuard,binOp,Op.intCmp]<;>rfl
   ·cases cP
  ·cases cP;cases di;cases fH;rename_i s1 s2;refine⟨rfl,cy.same (v':=.bool (cond neg (!(s1.data.toList==s2.data.toList)) (s1.data.toList==s2.data.toList))) hw ?_ (.bool _)⟩;unfold execOp;rw[al];cases neg<;>simp only[cI,gy,Sem.run_bind,zaW,if_false,if_true,Hq,Result.andThen,binOp,Op.stringOp,toList_eq]<;>rfl
  ·cases cP
 |lD e hu=>
  have cP:p0 (fr.ak x) (fr.ak y)=some b:=hb;have I:=aib (w:=w) 9999 di fH cP hu;generalize fr.ak x=DZ at cP di;generalize fr.ak y=D0 at cP fH;unfold p0 at cP;split at cP<;>first|(cases cP;done)|(cases cP;cases di;cases fH<;>exact key I (by cases neg<;>simp[eqGuard]) (by intro op dD;rcases dD with rfl|rfl<;>rfl))
 |zu k e hu=>
  have cP:DM (fr.ak x) (fr.ak y)=some b:=hb;have I:=aia (w:=w) 9999 di fH cP hu;generalize fr.ak x=DZ at cP di;generalize fr.ak y=D0 at cP fH;unfold DM at cP;split at cP<;>first|(cases cP;done)|(cases cP;cases di;cases fH<;>exact key I (by cases neg<;>simp[eqGuard]) (by intro op dD;rcases dD with rfl|rfl<;>rfl))
 |xh p q r hu=>
  have cP:AS (fr.ak x) (fr.ak y)=some b:=hb;have I:=ah8 (w:=w) 9999 di fH cP hu;generalize fr.ak x=DZ at cP di;generalize fr.ak y=D0 at cP fH;unfold AS at cP;split at cP<;>first|(cases cP;done)|(cases cP;cases di;cases fH;exact key I (by cases neg<;>simp[eqGuard]) (by intro op dD;rcases dD with rfl|rfl<;>rfl))
 |xi ms hu hc=>
  have cP:DL (fr.ak x) (fr.ak y)=some b:=hb;have I:=ah9 (w:=w) 9999 di fH cP hu;generalize fr.ak x=DZ at cP di;generalize fr.ak y=D0 at cP fH;unfold DL at cP;split at cP
  ·cases cP;cases di;cases fH;exact key I (ah5 X.P _ t x y hc) (by intro op dD;rcases dD with rfl|rfl<;>rfl)
  ·cases cP;cases di;cases fH;exact key I (by cases neg<;>simp[eqGuard]) (by intro op dD;rcases dD with rfl|rfl<;>rfl)
  ·cases cP;cases di;cases fH;exact key I (by cases neg<;>simp[eqGuard]) (by intro op dD;rcases dD with rfl|rfl<;>rfl)
  ·cases cP
 |ptr e i hu ae ax=>
  have cP:wF (fr.ak x) (fr.ak y)=some b:=hb;have I:=aic (w:=w) 9999 di fH cP hu ae ax;generalize fr.ak x=DZ at cP di;generalize fr.ak y=D0 at cP fH;unfold wF at cP;split at cP
  ·cases cP;cases di;cases fH<;>exact key I (by cases neg<;>simp[eqGuard]) (by intro op dD;rcases dD with rfl|rfl<;>rfl)
  ·cases cP;cases di;cases fH;exact key I (by cases neg<;>simp[eqGuard]) (by intro op dD;rcases dD with rfl|rfl<;>rfl)
  ·cases di;cases fH;exact key I (by cases neg<;>simp[eqGuard]) (by intro op dD;rcases dD with rfl|rfl<;>rfl)
  ·cases cP
end
end Go.an
namespace Go.an
variable{a b:bv}{aH:Nat}
def Pc:bv->bv->Bool
 |.tmp a,.tmp b=>Nat.beq a b
 |.const v,.const w=>dM v w
 |.global a,.global b=>Nat.beq a b
 |.func a,.func b=>Nat.beq a b
 |_,_=>false
def aq6(h:Pc a b=true):a=b:=by
 cases a<;>cases b<;>simp only[Pc]at h<;>first|(cases h;done)|(rw[dI h])|(rw[nO _ _ h])
def ca(aH:Nat)(a b:bv):Bool:=Pc a b&&cN aH b
def dc(h:ca aH a b=true):a=b∧cN aH b=true:=by
 unfold ca at h;rw[b1]at h;exact⟨aq6 h.1,h.2⟩
def lF(aH:Nat):ac bv->ac bv->Bool
 |[],[]=>true
 |a::as,b::bh=>ca aH a b&&lF aH as bh
 |_,_=>false
theorem tC{aH:Nat}:∀{as bh:ac bv},lF aH as bh=true->as=bh∧∀x∈bh,cN aH x=true
 |[],[],_=>⟨rfl,by simp⟩
 |a::as,b::bh,h=>by
  simp only[lF,b1]at h;obtain⟨I,U⟩:=dc h.1;obtain⟨ag,au⟩:=tC h.2;exact⟨by rw[I,ag],fun x aa=>by rcases zah.1 aa with rfl|aa;exact U;exact au x aa⟩
 |[],_::_,h=>by simp[lF]at h
 |_::_,[],h=>by simp[lF]at h
def m3(aH:Nat):am bv->am bv->Bool
 |none,none=>true
 |some a,some b=>ca aH a b
 |_,_=>false
def xu{a b:am bv}(h:m3 aH a b=true):a=b∧∀y,b=some y->cN aH y=true:=by
 cases a<;>cases b<;>simp only[m3]at h<;>first|(cases h;done)|skip
 ·exact⟨rfl,by simp⟩
 ·obtain⟨I,U⟩:=dc h;exact⟨by rw[I],fun y aJ=>by cases aJ;exact U⟩
def sn(aH:Nat)(place:Nat->am (Nat×Nat)):ac (Nat×Nat×bv)->ac (Nat×bv)->Bool
 |[],[]=>true
 |(off,a4,x)::ps,(i,y)::dA=>
  (match place i with
   |some (o,s)=>Nat.beq off o&&Nat.beq a4 s
   |none=>false)&&ca aH x y&&sn aH place ps dA
 |_,_=>false
theorem Ju{aH:Nat}{place:Nat->am (Nat×Nat)}:∀{ps:ac (Nat×Nat×bv)} {dA:ac (Nat×bv)},sn aH place ps dA=true->
 ps=dA.map (fun p=>(((place p.1).getD (0,0)).1,((place p.1).getD (0,0)).2,p.2))∧∀p∈dA,(place p.1).isSome∧cN aH p.2=true
 |[],[],_=>⟨rfl,by simp⟩
 |(off,a4,x)::ps,(i,y)::dA,h=>by
  simp only[sn,b1]at h;obtain⟨⟨I,U⟩,ag⟩:=h;obtain⟨az,e2⟩:=dc U;obtain⟨f1,f2⟩:=Ju ag;cases hp:place i with
  |none=>rw[hp]at I;cases I
  |some q=>
   obtain⟨o,s⟩:=q;rw[hp]at I;simp only[b1]at I;have eW:=dI I.1;have eQ:=dI I.2;refine⟨by rw[f1,az,eW,eQ];simp[hp],fun p fG=> ?_⟩;rcases zah.1 fG with rfl|fG
   ·exact⟨by simp[hp],e2⟩
   ·exact f2 p fG
 |[],_::_,h=>by simp[sn]at h
 |_::_,[],h=>by simp[sn]at h
section
variable(P:f5)(aH:Nat)(kM la:co->Bool)(keys:ci->am fQ)(pU:co->Bool)(eqs:ci->am Nat)(qf:co->Bool)(mj:Nat)
def qA(t:ci):am Bool:=(P.underlying t).map rL
def gW(t:ci):am Nat:=(P.info? t).map (·.size)
def sJ(t:ci):am bi:=(P.info? t).bind (·.zero)
def Ht(t:ci)(e:qw)(x y:bv):Bool:=
 match e,P.underlying t with
 |.tG,some .bool=>true
 |.lD,some (.slice _)=>true
 |.zu,some (.map _ _)=>true
 |.xh,some (.func _ _ _)=>true
 |.xi,some (.interface _)=>w8 x||w8 y
 |.ptr,some (.pointer el)=>match gW P el with
  |some n=> !Nat.beq n 0
  |none=>false
 |_,_=>false
def aif{t:ci}{e:qw}{x y:bv}(h:Ht P t e x y=true):vP P t x y e:=by
 unfold Ht at h;split at h
 ·rename_i hu;exact .tG hu
 ·rename_i hu;exact .lD _ hu
 ·rename_i hu;exact .zu _ _ hu
 ·rename_i hu;exact .xh _ _ _ hu
 ·rename_i hu;exact .xi _ hu (by simpa using h)
 ·rename_i hu;split at h
  ·rename_i n hn;unfold gW at hn;obtain⟨i,ae,e⟩:=zaR.1 hn;refine .ptr _ i hu ae ?_;intro ax;rw[<-e,ax]at h;simp at h
  ·cases h
 ·cases h
def Oh:fQ->fQ->Bool
 |.int k,.int k'=>decide (k=k')
 |.str,.str=>true
 |.arr k n,.arr k' ch=>decide (k=k')&&Nat.beq n ch
 |_,_=>false
def EX(t:ci)(c2:fQ):Bool:=
 match P.underlying t with
 |some (.map fu _)=>(match keys fu with|some YF=>Oh c2 YF|none=>false)
 |_=>false
def Gl(op:Op)(y:v5):Bool:=
 match y,op with
 |.look c2 z ok m k,.lookup t eG k' xo=>ca aH m eG&&ca aH k k'&&(ok==xo)&&EX P keys t c2&&
  (match P.underlying t with|some (.map _ e)=>(match sJ P e with|some v=>dM z v&&kV z|none=>false)|_=>false)
 |.hv c2 m k v,.mapUpdate t eG k' v'|.hv c2 m k v,.insert t eG k' v'=>ca aH m eG&&ca aH k k'&&ca aH v v'&&EX P keys t c2
 |.del c2 m k,.call {callee:=.builtin .delete,args:=⟨[eG,k']⟩,argTypes:=⟨[t,_]⟩}=>ca aH m eG&&ca aH k k'&&EX P keys t c2
 |.BO m,.call {callee:=.builtin .len,args:=⟨[eG]⟩,argTypes:=⟨[t]⟩}=>ca aH m eG&&(match P.underlying t with|some (.map _ _)=>true|_=>false)
 |.BP m,.range t eG=>ca aH m eG&&(match P.underlying t with|some (.map _ _)=>true|_=>false)
 |.BN i,.entry hJ=>ca aH i hJ
 |.ri i,.next hJ false=>ca aH i hJ
 |.yl gt a b,.binOp a8 t a' eR _=>decide (a8=(if gt then .gtr else .leq))&&ca aH a a'&&ca aH b eR&&(match P.underlying t with|some (.int .i64)=>true|_=>false)
 |.idxs g a c,.call {callee:=.value (.func f),args:=⟨[b,d]⟩,.. }=>ca aH a b&&ca aH c d&&qf f&&Nat.beq g mj
 |.bj a c,.call {callee:=.value (.func f),args:=⟨[b,d]⟩,.. }=>ca aH a b&&ca aH c d&&pU f
 |.rR neg n a b,.binOp a8 t a' eR _=>decide (a8=(if neg then .neq else .eql))&&ca aH a a'&&ca aH b eR&&(match eqs t with|some ch=>Nat.beq n ch|none=>false)
 |_,_=>false
def awj(op:Op)(x:da):Bool:=
 match x,op with
 |.iu a,.move b|.iu a,.assign b=>ca aH a b
 |.pick c a b,.pick bL a' eR=>ca aH c bL&&ca aH a a'&&ca aH b eR
 |.alloc z e,.alloc t=>Nat.beq e t&&(match sJ P t with|some v=>mv z v.cells.toList&&nP z|none=>false)
 |.box e a,.box t b=>Nat.beq e t&&ca aH a b
 |.build z ps,.build t parts=>
  (match sJ P t with|some v=>mv z v.cells.toList&&nP z|none=>false)&&
  (match P.underlying t with
   |some (.struct fields)=>fields.toList.all (fun f=>(P.info? f.type).isSome)&&sn aH (fun j=>(fields.map fun f=>(f.offset,P.cellsOf f.type))[j]?) ps parts.toList
   |some (.array _ e)=>(match gW P e with|some s=>sn aH (fun j=>some (j*s,s)) ps parts.toList|none=>false)
   |_=>false)
 |.pO e n z ps,.buildSlice t m parts=>
  Nat.beq n m&&(match P.underlying t with
   |some (.slice el)=>Nat.beq e el&&(match gW P el,sJ P el with
    |some s,some v=>Nat.ble (m*s) (2^24)&&mv z ((List.range (m*s)).map (fun j=>(if m*s=0 then(#[]:be bi)else v.cells)[j%(if m*s=0 then(#[]:be bi)else v.cells).size]!))&&nP z&&
     sn aH (fun j=>some (j*s,s)) ps parts.toList
    |_,_=>false)
   |_=>false)
 |.jr a,.load t b=>ca aH a b&&(match qA P t with|some g=> !g|none=>false)
 |.rf n a,.load t b=>ca aH a b&&(match qA P t,gW P t with|some g,some s=>g&&Nat.beq n s|_,_=>false)
 |.store n a x,.store t b y=>ca aH a b&&ca aH x y&&(match gW P t with|some s=>Nat.beq n s|none=>false)
 |.tw a,.nilCheck b=>ca aH a b
 |.bin o a b,.binOp a8 _ a' eR _=>decide (o=a8)&&ca aH a a'&&ca aH b eR
 |.eqv neg e a b,.binOp a8 t a' eR _=>decide (a8=(if neg then .neq else .eql))&&ca aH a a'&&ca aH b eR&&Ht P t e a' eR
 |.un o a,.unOp a8 _ b=>decide (o=a8)&&ca aH a b
 |.uk k a,.convert s t b=>ca aH a b&&(match P.underlying s,P.underlying t with|some _,some (.int k')=>decide (k=k')|_,_=>false)
 |.yj a,.convert s t b=>ca aH a b&&(match P.underlying s,P.underlying t with|some _,some .string=>true|_,_=>false)
 |.Aw a,.convert s t b=>ca aH a b&&(match P.underlying s,P.underlying t with|some (.slice e),some .string=>(match P.underlying e with|some (.int .u8)=>true|_=>false)|_,_=>false)
 |.wq e a,.convert s t b=>ca aH a b&&(match P.underlying s,P.underlying t with|some .string,some (.slice bS)=>Nat.beq e bS&&(match P.underlying bS,gW P bS with|some (.int .u8),some 1=>true|_,_=>false)|_,_=>false)
 |.E7 t a,.makeInterface hM b=>Nat.beq t hM&&ca aH a b&&(match P.underlying hM with|some (.interface _)=>false|some _=>true|none=>false)
 |.sh (.func f) a c,.makeFunc (.func g) b d=>Nat.beq f g&&lF aH a b.toList&&lF aH c d.toList
 |.sh (.method f) a c,.makeFunc (.method g) b d=>f==g&&lF aH a b.toList&&lF aH c d.toList
 |.si e bh z l c,.makeSlice t l' bL=>ca aH l l'&&ca aH c bL&&(match P.underlying t with
  |some (.slice el)=>Nat.beq e el&&(match P.info? el with
   |some i=>Nat.beq bh i.bytes&& !Nat.beq i.size 0&&(match i.zero with|some v=>mv z v.cells.toList&&nP z&&Nat.beq v.cells.toList.length i.size|none=>false)
   |none=>false)
  |_=>false)
 |.tR a aK ae,.slice t b sg dE none=>ca aH a b&&m3 aH aK sg&&m3 aH ae dE&&(match P.underlying t with|some .string=>true|_=>false)
 |.CD n s a aK ae e8,.slice t b sg dE qi=>ca aH a b&&m3 aH aK sg&&m3 aH ae dE&&m3 aH e8 qi&&(qi.isNone||dE.isSome)&&
  (match P.underlying t with|some (.array ch e)=>Nat.beq n ch&&(match gW P e with|some bo=>Nat.beq s bo|none=>false)|_=>false)
 |.oj s a aK ae e8,.slice t b sg dE qi=>ca aH a b&&m3 aH aK sg&&m3 aH ae dE&&m3 aH e8 qi&&(qi.isNone||dE.isSome)&&
  (match P.underlying t with|some (.slice e)=>(match gW P e with|some bo=>Nat.beq s bo|none=>false)|_=>false)
 |.qS off a,.fieldAddr t b f=>ca aH a b&&(match P.underlying t with
  |some (.struct fields)=>(match fields[f]? with|some fd=>Nat.beq off fd.offset&&(match gW P fd.type with|some s=> !Nat.beq s 0|none=>false)|none=>false)
  |_=>false)
 |.p3 off a4 ig a,.field t b f=>ca aH a b&&(match P.underlying t with
  |some (.struct fields)=>(match fields[f]? with|some fd=>Nat.beq off fd.offset&&(match gW P fd.type,qA P fd.type with|some s,some g=>Nat.beq a4 s&&(ig==g)|_,_=>false)|none=>false)
  |_=>false)
 |.u0 n a4 a i,.indexAddr t b j=>ca aH a b&&ca aH i j&&(match P.underlying t with|some (.array ch e)=>Nat.beq n ch&&(match gW P e with|some s=>Nat.beq a4 s|none=>false)|_=>false)
 |.mY a4 a i,.indexAddr t b j=>ca aH a b&&ca aH i j&&(match P.underlying t with|some (.slice e)=>(match gW P e with|some s=>Nat.beq a4 s|none=>false)|_=>false)
 |.xa a i,.index t b j=>ca aH a b&&ca aH i j&&(match P.underlying t with|some .string=>true|_=>false)
 |.IJ n a4 ig a i,.index t b j=>ca aH a b&&ca aH i j&&(match P.underlying t with|some (.array ch e)=>Nat.beq n ch&&(match gW P e,qA P e with|some s,some g=>Nat.beq a4 s&&(ig==g)|_,_=>false)|_=>false)
 |.Gb t z ok a,.typeAssert b _ hM xo=>ca aH a b&&Nat.beq t hM&&(ok==xo)&&(match P.underlying hM with|some (.interface _)=>false|some _=>true|none=>false)&&(match sJ P hM with|some v=>dM z v&&kV z|none=>false)
 |.rT a i,.extract b j=>ca aH a b&&Nat.beq i j
 |.call f as,.call {callee:=.value g,args,.. }=>ca aH f g&&lF aH as args.toList&&(match g with|.func k=>((P.funcs[k]?).map (fun fn=>fn.body.isSome&& !(fn.name== "runtime.NumGoroutine"))).getD false|_=>true)
 |.pw a,.call {callee:=.builtin .len,args:=⟨[b]⟩,argTypes:=⟨[t]⟩}=>ca aH a b&&(match P.underlying t with|some (.slice _)=>true|_=>false)
 |.vd a,.call {callee:=.builtin .len,args:=⟨[b]⟩,argTypes:=⟨[t]⟩}=>ca aH a b&&(match P.underlying t with|some .string=>true|_=>false)
 |.zh n,.call {callee:=.builtin .len,args:=⟨[_]⟩,argTypes:=⟨[t]⟩}=>(match P.underlying t with|some (.array m _)=>Nat.beq n m|some (.pointer u)=>(match P.underlying u with|some (.array m _)=>Nat.beq n m|_=>false)|_=>false)
 |.app e a4 bh s a,.call {callee:=.builtin .append,args:=⟨[bo,b]⟩,argTypes:=⟨[t,u]⟩}=>ca aH s bo&&ca aH a b&&(match P.underlying t,P.underlying u with
  |some (.slice el),some d=>Nat.beq e el&&(match d with|.int _=>false|_=>true)&&(match P.info? el with
   |some i=>Nat.beq a4 i.size&&Nat.beq bh i.bytes&&(match i.zero with|some v=>Nat.beq v.cells.size i.size|none=>false)
   |none=>false)
  |_,_=>false)
 |.e8 a as,.call {callee:=.builtin .max,args:=⟨b::bh⟩,.. }=>ca aH a b&&lF aH as bh
 |.zs a as,.call {callee:=.builtin .min,args:=⟨b::bh⟩,.. }=>ca aH a b&&lF aH as bh
 |.rN a4 d s,.call {callee:=.builtin .copy,args:=⟨[hO,bo]⟩,argTypes:=⟨[t,_]⟩}=>ca aH d hO&&ca aH s bo&&(match P.underlying t with|some (.slice e)=>(match gW P e with|some n=>Nat.beq a4 n|none=>false)|_=>false)
 |.vy,.call {callee:=.builtin .recover,args:=⟨[]⟩,.. }=>true
 |.pX f as,.defer {callee:=.value g,args,.. }=>ca aH f g&&lF aH as args.toList
 |.oX a,.panic b=>ca aH a b
 |.G9 a,.convert s t b=>ca aH a b&&(match P.underlying s,P.underlying t with|some (.pointer e),some .unsafePointer=>(match gW P e with|some n=> !Nat.beq n 0|none=>false)|_,_=>false)
 |.Hb e n a,.convert s t b=>ca aH a b&&(match P.underlying s,P.underlying t with|some .unsafePointer,some (.pointer bS)=>Nat.beq e bS&&(match gW P bS with|some m=>Nat.beq n m&& !Nat.beq m 0|none=>false)|_,_=>false)
 |.FZ a,.call {callee:=.builtin .unsafeSliceData,args:=⟨[b]⟩,argTypes:=⟨[_]⟩}=>ca aH a b
 |.xU e a n,.call {callee:=.builtin .unsafeString,args:=⟨[b,m]⟩,argTypes:=⟨[t,_]⟩}=>ca aH a b&&ca aH n m&&(match P.underlying t with|some (.pointer bS)=>Nat.beq e bS&&(match gW P bS with|some 1=>true|_=>false)|_=>false)
 |.la a c,.call {callee:=.value (.func f),args:=⟨[b,d]⟩,.. }=>ca aH a b&&ca aH c d&&la f
 |.kM a,.call {callee:=.value (.func f),args:=⟨[b]⟩,.. }=>ca aH a b&&kM f
 |.vg,.makeMap _ none=>true
 |.xe _,_=>true
 |.ext y,op=>Gl P aH keys pU eqs qf mj op y
 |.refuse,_=>true
 |_,_=>false
end
end Go.an
namespace Go.an
variable{X:Ctx}
section
variable{α β:Type}{r z:β}
variable{o:am bB}
def Gg{v:bi}{k:am Nat->β}(h:zZ v k z=r)(ax:z≠r):∃p,v= .map p∧k p=r:=by
 cases v<;>first|exact absurd h ax|exact⟨_,rfl,h⟩
def zo{k:ac d9->Nat->β}(h:qg o k z=r)(ax:z≠r):∃es c,o=some (.map es c)∧k es c=r:=by
 unfold qg at h;obtain⟨o,rfl,h⟩:=gA h ax;cases o<;>first|exact absurd h ax|exact⟨_,_,rfl,h⟩
def Yx{k:am Nat->Nat->ac Nat->Nat->β}(h:II o k z=r)(ax:z≠r):∃a b c d,o=some (.rh a b c d)∧k a b c d=r:=by
 unfold II at h;obtain⟨o,rfl,h⟩:=gA h ax;cases o<;>first|exact absurd h ax|exact⟨_,_,_,_,rfl,h⟩
end
variable{es:ac d9}{k:bi}{ι:bu}{c2:fQ}{clock lu:Nat}{v v':bi}{e:d9}{j:Nat}{c:d9}
def fQ.same(h:c2.ok v=true)(aD:bw ι v v'):v'=v:=by
 cases c2 with
 |int k=>
  obtain⟨k',n,rfl,_⟩:=ke (v:=v) (z:=false) (r:=true) h (by decide);cases aD;rfl
 |str=>
  obtain⟨s,rfl,_⟩:=qu (v:=v) (z:=false) (r:=true) h (by decide);cases aD;rfl
 |arr k n=>
  obtain⟨xs,rfl,U⟩:=zY (v:=v) (z:=false) (r:=true) h (by decide);rw[b1,zaN]at U;cases aD with
  |agg _ aw I hh=>
   congr 1;apply Array.ext
   ·exact I.symm
   ·intro i a b;have aa:=U.2 xs[i] (by simp);obtain⟨k',m,he,_⟩:=ke (v:=xs[i]) (z:=false) (r:=true) aa (by decide);have:=hh i b a;rw[he]at this⊢;generalize aw[i]=y at this⊢;cases this;rfl
def uniq(h:es.Pairwise (fun a b=>a.key≠b.key)){a b:d9}(ha:a∈es)(hb:b∈es)(e:a.key=b.key):a=b:=by
 induction es with
 |nil=>cases ha
 |cons x xs ba=>
  rw[zdk]at h;rcases zah.1 ha with rfl|qY<;>rcases zah.1 hb with rfl|cP
  ·rfl
  ·exact absurd e (h.1 b cP)
  ·exact absurd e.symm (h.1 a qY)
  ·exact ba h.2 qY cP
def E4(h:ko k es=some e):e∈es∧e.key=k:=by
 unfold ko at h;refine⟨zco h,?_⟩;have:=zcM h;exact(nO _ _ this).symm
def I3(h:ko k es=none):∀e∈es,e.key≠k:=by
 intro e he Md;unfold ko at h;have:=List.find?_eq_none.1 h e he;rw[Md,z1]at this;exact this rfl
def IL(h:xc c2 es=true)(he:e∈es):c2.ok e.key=true:=
 zaN.1 h e he
def jM.find{bY:Nat->Nat}{C:ac d9}(h:jM ι bY es clock C lu){fu:ci}(c6:X.keys fu=some c2)(ab:c2.ok k=true)(he:xc c2 es=true)(w:d7):
 ((Instr.findKey fu k C).run X.P w= .ok none w∧ko k es=none∧∀c∈C,c.key≠k)∨
 ∃e j c,(Instr.findKey fu k C).run X.P w= .ok (some (j,c.val)) w∧C[j]? =some c∧c.key=k∧ko k es=some e∧e∈es∧e.key=k∧bw ι e.val c.val∧c.born=bY e.born:=by
 obtain⟨K,bR⟩:=X.tp fu c2 c6;obtain⟨l,hp,hlen,hl⟩:=h.same;have wX:∀(i:Nat) (a:i<l.length) (b:i<C.length),C[i].key=l[i].key:=by
  intro i a b;exact fQ.same (IL he (hp.mem_iff.1 (dp a))) (hl i a b).1
 have dZ:∀c∈C,∃l,keyOf X.P fu c.key=some l:=by
  intro c hc;obtain⟨i,ae,rfl⟩:=zbt hc;have dE:i<l.length:=by omega
  rw[wX i dE ae];exact bR _ (IL he (hp.mem_iff.1 (dp dE)))
 obtain⟨zk,nr⟩:=bR k ab;rcases K.find w nr C dZ with⟨I,U⟩|⟨j,c,I,U,ag⟩
 ·left;refine⟨I,?_,U⟩;cases af:ko k es with
  |none=>rfl
  |some e=>
   exfalso;obtain⟨eK,fV⟩:=E4 af;obtain⟨i,ae,fN⟩:=zbt (hp.mem_iff.2 eK);have dE:i<C.length:=by omega
   exact U C[i] (dp dE) (by rw[wX i ae dE,fN,fV])
 ·right;obtain⟨hj,wV⟩:=zac.1 U;have mO:j<l.length:=by omega
  have Ep:l[j].key=k:=by rw[<-wX j mO hj,wV,ag]
  have w0:l[j]∈es:=hp.mem_iff.1 (dp mO);cases af:ko k es with
  |none=>exact absurd Ep (I3 af _ w0)
  |some e=>
   obtain⟨eK,fV⟩:=E4 af;have:e=l[j]:=uniq h.keys eK w0 (by rw[fV,Ep]);subst this;have:=hl j mO hj;rw[wV]at this;exact⟨_,j,c,I,U,ag,rfl,w0,Ep,this.2.1,this.2.2⟩
def jM.put{bY:Nat->Nat}{C:ac d9}(h:jM ι bY es clock C lu)(he:xc c2 es=true)(hj:C[j]? =some c)(hc:c.key=k)(aE:bw ι v v'):
 jM ι bY (BM k v es) clock (C.set j {c with key:=k,val:=v'}) lu:=by
 obtain⟨l,hp,hlen,hl⟩:=h.same;have ao:∀e:d9,(cond (dM k e.key) (⟨e.key,v,e.born⟩:d9) e).key=e.key:=by
  intro e;cases dM k e.key<;>rfl
 have a3:∀e:d9,(cond (dM k e.key) (⟨e.key,v,e.born⟩:d9) e).born=e.born:=by
  intro e;cases dM k e.key<;>rfl
 have wX:∀(i:Nat) (a:i<l.length) (b:i<C.length),C[i].key=l[i].key:=by
  intro i a b;exact fQ.same (IL he (hp.mem_iff.1 (dp a))) (hl i a b).1
 obtain⟨hR,wV⟩:=zac.1 hj;refine⟨h.kh,h.qo,?_,?_,?_,l.map (fun e=>cond (dM k e.key) ⟨e.key,v,e.born⟩ e),hp.map _,by simp[hlen],?_⟩
 ·intro e hm;obtain⟨bS,j6,rfl⟩:=zbc.1 hm;rw[a3];exact h.born bS j6
 ·unfold BM;rw[zdR];exact h.keys.imp (fun{a b} fM=>by rw[ao,ao];exact fM)
 ·unfold BM;rw[zdR];exact h.wg.imp (fun{a b} fM=>by rw[a3,a3];exact fM)
 ·intro i a b;have a':i<l.length:=by simpa using a
  have eR:i<C.length:=by simpa using b
  rw[zcp,List.getElem_set];by_cases e:j=i
  ·subst e;rw[zab rfl];have ab:l[j].key=k:=by rw[<-wX j a' eR,wV,hc]
   have:dM k l[j].key=true:=by rw[ab];exact z1 k
   rw[this];have hh:=hl j a' eR;rw[wV]at hh;refine⟨?_,aE,hh.2.2⟩;have:=hh.1;rw[hc]at this;exact this
  ·rw[zaa e];have hne:dM k l[i].key=false:=by
    rw[zbG];intro hq;have ab:=nO _ _ hq;have yQ:j<l.length:=by omega
    have I:l[i].key=l[j].key:=by rw[<-ab,<-wX j yQ hR,wV,hc]
    have q6:=(hp.symm.pairwise_iff (R:=fun a b:d9=>a.key≠b.key) (fun{a b} h=>h.symm)).1 h.keys;have U:i=j:=by
     rcases zcq i j with h|h|h
     ·exact absurd I (zbk.1 q6 i j a' yQ h)
     ·exact h
     ·exact absurd I.symm (zbk.1 q6 j i yQ a' h)
    exact e U.symm
   rw[hne];exact hl i a' eR
def jM.push{bY:Nat->Nat}{C:ac d9}(h:jM ι bY es clock C lu)(ab:bw ι k k)(hn:ko k es=none)(aE:bw ι v v'):
 jM ι bY (es++[⟨k,v,clock⟩]) (clock+1) (C++[⟨k,v',lu⟩]) (lu+1):=by
 obtain⟨l,hp,hlen,hl⟩:=h.same;have ah:=h.qo;refine⟨?_,⟨fun s t dP aV e=> ?_,fun s dP=> ?_,fun j=> ?_⟩,?_,?_,?_,l++[⟨k,v,clock⟩],hp.append_right _,by simp[hlen],?_⟩
 ·rw[h.kh,ah.up 1]
 ·rcases zaj s clock with a|a<;>rcases zaj t clock with b|b
  ·exact ah.inj s t a b e
  ·have:t=clock:=by omega
   subst this;have:=ah.lt s a;omega
  ·have:s=clock:=by omega
   subst this;have:=ah.lt t b;omega
  ·omega
 ·rw[ah.up 1];rcases zaj s clock with a|a
  ·have:=ah.lt s a;omega
  ·have:s=clock:=by omega
   subst this;omega
 ·rw[show clock+1+j=clock+(1+j) by omega,ah.up,ah.up 1];omega
 ·intro e he;rcases zbl.1 he with he|he
  ·have:=h.born e he;omega
  ·have:e=⟨k,v,clock⟩:=by simpa using he
   subst this;exact zbJ _
 ·rw[List.pairwise_append];refine⟨h.keys,by simp,fun a ha b hb=> ?_⟩;have:b=⟨k,v,clock⟩:=by simpa using hb
  subst this;exact I3 hn a ha
 ·rw[List.pairwise_append];refine⟨h.wg,by simp,fun a ha b hb=> ?_⟩;have:b=⟨k,v,clock⟩:=by simpa using hb
  subst this;have:=h.born a ha;exact Nat.ne_of_lt this
 ·intro i a b;by_cases e:i<l.length
  ·rw[zdO e,zdO (by omega)];exact hl i e (by omega)
  ·have ae:i=l.length:=by simp at a;omega
   subst ae;rw[zdP (by omega),zdP (by omega)];simp only[hlen,zbZ,List.getElem_cons_zero];exact⟨ab,aE,h.kh⟩
def jM.del{bY:Nat->Nat}{C:ac d9}(h:jM ι bY es clock C lu)(he:xc c2 es=true)(hj:C[j]? =some c)(hc:c.key=k):
 jM ι bY (BL k es) clock (C.eraseIdx j) lu:=by
 obtain⟨l,hp,hlen,hl⟩:=h.same;have wX:∀(i:Nat) (a:i<l.length) (b:i<C.length),C[i].key=l[i].key:=by
  intro i a b;exact fQ.same (IL he (hp.mem_iff.1 (dp a))) (hl i a b).1
 obtain⟨hR,wV⟩:=zac.1 hj;have yQ:j<l.length:=by omega
 have Ep:l[j].key=k:=by rw[<-wX j yQ hR,wV,hc]
 have q6:l.Pairwise (fun a b=>a.key≠b.key):=(hp.symm.pairwise_iff (R:=fun a b:d9=>a.key≠b.key) (fun{a b} h=>h.symm)).1 h.keys;have Nb:∀(l:ac d9) (j:Nat) (hj:j<l.length),l.Pairwise (fun a b=>a.key≠b.key)->l[j].key=k->l.filter (fun e=> !dM k e.key)=l.eraseIdx j:=by
  intro l
  induction l with
  |nil=>intro j hj;simp at hj
  |cons x xs ba=>
   intro j hj q6 ab;rw[zdk]at q6;cases j with
   |zero=>
    have aa:dM k x.key=true:=by rw[show x.key=k from ab];exact z1 k
    rw[List.filter_cons];simp only[aa,Bool.not_true,zaW,if_false,List.eraseIdx_cons_zero];rw[List.filter_eq_self];intro a ha;have:=q6.1 a ha;rw[show x.key=k from ab]at this;cases aE:dM k a.key
    ·rfl
    ·exact absurd (nO _ _ aE) this
   |succ j=>
    have mO:j<xs.length:=by simpa using hj
    have fF:xs[j].key=k:=by simpa using ab
    have aa:dM k x.key=false:=by
     rw[zbG];intro hq;exact q6.1 xs[j] (dp mO) (by rw[fF,nO _ _ hq])
    rw[List.filter_cons];simp only[aa,zdN,if_true,List.eraseIdx_cons_succ];rw[ba j mO q6.2 fF]
 refine⟨h.kh,h.qo,fun e hm=>h.born e (List.mem_filter.1 hm).1,h.keys.filter _,h.wg.filter _,l.eraseIdx j,?_,?_,?_⟩
 ·rw[<-Nb l j yQ q6 Ep];exact hp.filter _
 ·rw[zez yQ,zez hR,hlen]
 ·intro i a b;rw[List.getElem_eraseIdx,List.getElem_eraseIdx];split
  ·exact hl i _ _
  ·exact hl (i+1) _ _
section
variable{ι:bu}{fr aF:aO}{a:Act}{aI:Nat}{st st':ar}{w:d7}{o:Oper}{v:bi}{call:bF}
open Go.MapKept
variable{fu:ci}{m:bv}{t kk:ci}
def aiM(c6:X.keys fu=some c2)(ab:c2.ok k=true)(w:d7):(Instr.findKey fu k []).run X.P w= .ok none w:=by
 obtain⟨K,bR⟩:=X.tp fu c2 c6;obtain⟨zk,nr⟩:=bR k ab;rcases K.find w nr [] (by simp)with⟨I,_⟩|⟨j,c,_,U,_⟩
 ·exact I
 ·simp at U
def yi(c6:X.keys fu=some c2)(ab:c2.ok k=true)(em:Bool)(w:d7):(Instr.checkKey em 10000 fu k).run X.P w= .ok () w:=by
 obtain⟨K,bR⟩:=X.tp fu c2 c6;obtain⟨zk,nr⟩:=bR k ab;exact K.check w em nr
def aua{z:bi}{ok:Bool}{k:bv}{i:f7}(hm:cN X.aH m=true)(ab:cN X.aH k=true)(al:o.op= .lookup t m k ok)(hu:X.P.underlying t=some (.map fu kk))
 (c6:X.keys fu=some c2) (ae:X.P.info? kk=some i) (ax:i.zero=some z) (Bx:kV z=true) (af:cE ι fr a aI) (hw:bx X ι st w)
 (h:qR fr st (.look c2 z ok m k)= .ok v aF st'):aF=fr∧cy X ι w v st st' (execOp a.eval o):=by
 obtain⟨iU,h⟩:=jj h (by simp);obtain⟨r,aD,h⟩:=Gg h (by simp);have wY:a.eval k=fr.ak k:=fQ.same iU (af.ak hw ab);have k9:=af.ak hw hm;rw[aD]at k9;generalize pn:a.eval m=iu at k9;have IA:=vM (P:=X.P) ae ax w;have By:bw ι z z:=bw.pure ι z Bx;cases r with
 |none=>
  cases k9;have h:a1.ok (cond ok (.tuple #[z,.bool false]) z) fr st= .ok v aF st':=h;cases h;refine⟨rfl,cy.same (v':=cond ok (.tuple #[z,.bool false]) z) hw ?_ ?_⟩
  ·unfold execOp;rw[al];simp only[pn,wY,Instr.lookup,Sem.run_bind,run_underlying hu,Result.andThen,Sem.run_pure,yi c6 iU,aiM c6 iU,IA];cases ok<;>rfl
  ·cases ok
   ·exact By
   ·exact bw.pB (bP.cons By (bP.cons (.bool _) (bP.nil ι)))
 |some id=>
  have h:qg (st.h.get id) (fun es _=>cond (xc c2 es) (bp (ko (fr.ak k) es) (fun e=>.ok (cond ok (.tuple #[e.val,.bool true]) e.val) fr st) (.ok (cond ok (.tuple #[z,.bool false]) z) fr st)) .no) .no=a1.ok v aF st':=h;obtain⟨es,c,aM,h⟩:=zo h (by simp);obtain⟨p9,h⟩:=jj h (by simp);obtain⟨l,hl,h0,k6,C,bL,hC,cZ⟩:=hw.eC _ _ aM (by simp);cases k9 with
  |map _ b bY hb=>
   rw[hl]at hb;cases hb;have hC:w.heap[b]? =some (.map C bL):=hC;rcases cZ.find (X:=X) c6 iU p9 w with⟨I,U,_⟩|⟨e,j,wh,I,U,ag,au,a0,b5,cY,h4⟩
   ·rw[U]at h;cases h;refine⟨rfl,cy.same (v':=cond ok (.tuple #[z,.bool false]) z) hw ?_ ?_⟩
    ·unfold execOp;rw[al];simp only[pn,wY,Instr.lookup,Sem.run_bind,run_underlying hu,Result.andThen,Sem.run_pure,MapKept.run_getObj_map hC,yi c6 iU,I,IA];cases ok<;>rfl
    ·cases ok
     ·exact By
     ·exact bw.pB (bP.cons By (bP.cons (.bool _) (bP.nil ι)))
   ·rw[au]at h;cases h;refine⟨rfl,cy.same (v':=cond ok (.tuple #[wh.val,.bool true]) wh.val) hw ?_ ?_⟩
    ·unfold execOp;rw[al];simp only[pn,wY,Instr.lookup,Sem.run_bind,run_underlying hu,Result.andThen,Sem.run_pure,MapKept.run_getObj_map hC,yi c6 iU,I];cases ok<;>rfl
    ·cases ok
     ·exact cY
     ·exact bw.pB (bP.cons cY (bP.cons (.bool _) (bP.nil ι)))
def aue(hm:cN X.aH m=true)(al:o.op= .call {callee:=.builtin .len,args:= #[m],argTypes:= #[t]})(hu:X.P.underlying t=some (.map fu kk))(af:cE ι fr a aI)(hw:bx X ι st w)
 (h:qR fr st (.BO m)= .ok v aF st'):aF=fr∧cy X ι w v st st' (execOp a.eval o):=by
 obtain⟨r,aD,h⟩:=Gg h (by simp);have k9:=af.ak hw hm;rw[aD]at k9;generalize pn:a.eval m=iu at k9;cases r with
 |none=>
  cases k9;have h:a1.ok (.int .i64 0) fr st= .ok v aF st':=h;cases h;refine⟨rfl,cy.same (v':=.int .i64 0) hw ?_ (.int _ _)⟩;unfold execOp;rw[al];simp[resolve,invoke,builtin,pn,Builtin.len_,run_underlying hu,Result.andThen,goInt]
 |some id=>
  have h:qg (st.h.get id) (fun es _=>gb (dd es) fun n=>a1.ok (.int .i64 (.ofNat n)) fr st) .no= .ok v aF st':=h;obtain⟨es,c,aM,h⟩:=zo h (by simp);rw[A2,fe]at h;cases h;obtain⟨l,hl,h0,k6,C,bL,hC,cZ⟩:=hw.eC _ _ aM (by simp);cases k9 with
  |map _ b bY hb=>
   rw[hl]at hb;cases hb;have hC:w.heap[b]? =some (.map C bL):=hC;obtain⟨l,hp,hlen,_⟩:=cZ.same;have e:es.length=C.size:=by rw[<-hp.length_eq,hlen];simp
   refine⟨rfl,cy.same (v':=.int .i64 es.length) hw ?_ (.int _ _)⟩;unfold execOp;rw[al];simp[resolve,invoke,builtin,pn,Builtin.len_,run_underlying hu,Result.andThen,goInt,MapKept.run_getObj_map hC,e]
end
