/- An abstract machine, and that its evaluations stand for runs of the model (part 1); no condition. -/
import Derived.Calls
import Derived.Laws.Cells
import Derived.Maps.Keyed
import Derived.Lib.Strings
import Derived.KernelRfl
noncomputable section
set_option linter.all false
namespace Go.ah
universe u
def zaa:=@if_neg
def zab:=@if_pos
def zac:=@Nat.zero_le
def zad:=@decide_eq_true
def zae:=@Nat.le_refl
def zaf:=@List.getElem?_eq_some_iff
def zag:=@Nat.le_trans
def zah:=@Nat.add_mul
def zai:=@decide_eq_false
def zaj:=@Nat.mod_lt
def zak:=@Nat.pow_succ
def zal:=@Nat.pow_add
def zam:=@Nat.mul_comm
def zan:=@Nat.mul_assoc
def zao:=@Nat.lt_or_ge
def zap:=@List.mem_cons
def zaq:=@Nat.mul_add
def zar:=@List.drop_zero
def zas:=@List.getElem_mem
def zat:=@Nat.pow_pos
def zau:=@List.mem_of_getElem?
def zav:=@List.length_replicate
def zaw:=@Nat.one_mul
def zax:=@List.length_cons
def zay:=@List.length_take
def zaz:=@Nat.lt_of_le_of_lt
def zaA:=@Nat.zero_mul
def zaB:=@List.mem_cons_of_mem
def zaC:=@Nat.min_eq_left
def zaD:=@Nat.mul_le_mul_right
def zaE:=@List.length_append
def zaF:=@List.length_drop
def zaG:=@Nat.pos_of_ne_zero
def zaH:=@Nat.div_le_self
def zaI:=@Nat.pow_le_pow_right
def zaJ:=@beq_eq_false_iff_ne
def zaK:=@Int.natCast_mul
def zaL:=@Nat.le_of_lt
def zaM:=@Nat.mul_pos
def zaN:=@Nat.beq_refl
def zaO:=@Array.getElem_toList
def zaP:=@Nat.zero_add
def zaQ:=@Nat.mul_le_mul_left
def zaR:=@List.getElem?_drop
def zaS:=@Nat.mul_le_mul
def zaT:=@List.getElem?_take
def zaU:=@Nat.lt_irrefl
def zaV:=@List.take_of_length_le
def zaW:=@List.getElem?_append_right
def zaX:=@List.take_length
def zaY:=@List.drop_eq_nil_of_le
def zaZ:=@List.map_cons
def zba:=@Nat.le_succ
def zbb:=@List.getElem?_set
def zbc:=@Nat.mul_one
def zbd:=@Nat.not_lt_zero
def zbe:=@List.getElem_set_self
def zbf:=@Nat.div_div_eq_div_mul
def zbg:=@List.take_set_of_le
def zbh:=@Nat.add_zero
def zbi:=@List.getElem?_eq_none
def zbj:=@List.length_set
def zbk:=@Nat.pow_mul
def zbl:=@Bool.eq_iff_iff
def zbm:=@List.getElem?_append_left
def zbn:=@List.length_pos_iff
def zbo:=@Nat.lt_trichotomy
def zbp:=@Nat.lt_succ_self
def zbq:=@List.getElem?_set_ne
def zbr:=@Nat.div_add_mod
def zbs:=@Array.getElem?_eq_some_iff
def zbt:=@Bool.false_eq_true
def zbu:=@List.length_map
def zbv:=@Option.map_eq_some_iff
def zbw:=@List.mem_append
def zbx:=@Bool.true_and
def zby:=@List.length_reverse
def zbz:=@List.eq_nil_of_length_eq_zero
def zbA:=@List.ext_getElem?
def zbB:=@of_decide_eq_true
def zbC:=@List.drop_drop
def zbD:=@List.take_append_drop
def zbE:=@Array.length_toList
def zbF:=@List.mem_cons_self
def zbG:=@List.eq_nil_or_concat
def zbH:=@List.concat_eq_append
def zbI:=@Nat.div_eq_of_lt
def zbJ:=@Nat.div_one
def zbK:=@Bool.and_assoc
def zbL:=@Nat.lt_of_lt_of_le
def zbM:=@Array.getElem?_setIfInBounds_ne
def zbN:=@BitVec.ofInt_natCast
def zbO:=@Nat.two_pow_pos
def zbP:=@List.mem_iff_getElem?
def zbQ:=@Nat.le_div_iff_mul_le
def zbR:=@Int.mul_assoc
def zbS:=@Int.sign_eq_zero_iff_zero
def zbT:=@beq_self_eq_true
def zbU:=@Nat.mod_eq_of_lt
def zbV:=@Bool.eq_false_iff
def zbW:=@Nat.add_assoc
def zbX:=@List.mem_map
def zbY:=@List.mem_of_mem_take
def zbZ:=@Nat.mul_ne_zero
def zca:=@Nat.sub_le
def zcb:=@List.append_assoc
def zcc:=@List.reverse_append
def zcd:=@List.getElem?_eq_getElem
def zce:=@List.take_succ_eq_append_getElem
def zcf:=@Nat.add_comm
def zcg:=@List.map_append
def zch:=@List.map_map
def zci:=@Nat.le_mul_of_pos_right
def zcj:=@Int.toNat_natCast
def zck:=@List.all_eq_true
def zcl:=@List.drop_of_length_le
def zcm:=@Nat.mul_zero
def zcn:=@List.drop_length
def zco:=@Nat.pow_le_pow_left
def zcp:=@Bool.false_and
def zcq:=@Rat.pow_succ
def zcr:=@Bool.and_eq_true
def zcs:=@List.map_nil
def zct:=@UInt8.toNat_inj
def zcu:=@Option.bind_eq_some_iff
def zcv:=@List.mem_range
def zcw:=@List.getElem_inj
def zcx:=@Nat.eq_zero_or_pos
def zcy:=@Nat.gcd_comm
def zcz:=@Int.sign_eq_one_of_pos
def zcA:=@Int.natAbs_mul
def zcB:=@Rat.not_lt
def zcC:=@Nat.div_lt_of_lt_mul
def zcD:=@List.mem_singleton
def zcE:=@Nat.eq_of_beq_eq_true
def zcF:=@Int.neg_mul
def zcG:=@Nat.le_add_right
def zcH:=@List.getElem?_toArray
def zcI:=@List.getElem?_cons_zero
def zcJ:=@Nat.succ_mul
def zcK:=@List.map_toArray
def zcL:=@Nat.sub_self
def zcM:=@eq_of_beq
def zcN:=@List.getElem?_set_self
def zcO:=@Nat.succ_pos
def zcP:=@Nat.mod_add_div
def zcQ:=@Nat.add_mul_div_left
def zcR:=@Nat.div_lt_iff_lt_mul
def zcS:=@List.mem_of_mem_drop
def zcT:=@Nat.mod_one
def zcU:=@Nat.pow_zero
def zcV:=@Nat.div_pos
def zcW:=@Int.sign_eq_neg_one_of_neg
def zcX:=@List.append_nil
def zcY:=@Rat.mkRat_eq_div
def zcZ:=@Nat.dvd_mul_right
def zda:=@Array.getElem?_push
def zdb:=@List.drop_set_of_lt
def zdc:=@List.pairwise_iff_getElem
def zdd:=@List.filter_cons
def zde:=@Nat.le_of_eq
def zdf:=@List.getElem?_map
def zdg:=@Int.natCast_add
def zdh:=@Nat.min_eq_right
def zdi:=@List.take_take
def zdj:=@List.take_append_of_le_length
def zdk:=@List.flatMap_cons
def zdl:=@Nat.add_eq
def zdm:=@Nat.mul_eq
def zdn:=@List.length_range
def zdo:=@Nat.div_lt_self
def zdp:=@Nat.pow_lt_pow_iff_right
def zdq:=@Nat.lt_of_mul_lt_mul_right
def zdr:=@Nat.gcd_dvd_left
def zds:=@Rat.neg_num
def zdt:=@Int.natAbs_neg
def zdu:=@Int.sign_mul_natAbs
def zdv:=@Nat.le_of_not_lt
def zdw:=@Nat.dvd_trans
def zdx:=@List.mem_reverse
def zdy:=@List.take_append_getElem
def zdz:=@Rat.mul_one
def zdA:=@Nat.ble_eq_true_of_le
def zdB:=@Nat.mod_two_eq_zero_or_one
def zdC:=@Nat.le_succ_of_le
def zdD:=@Array.getElem?_eq_getElem
def zdE:=@List.getElem_drop
def zdF:=@Array.ext_getElem?
def zdG:=@Array.toList_extract
def zdH:=@List.extract_eq_take_drop
def zdI:=@List.mapM_cons
def zdJ:=@List.map_congr_left
def zdK:=@List.getElem?_cons_succ
def zdL:=@List.mem_of_find?_eq_some
def zdM:=@List.find?_some
def zdN:=@List.getElem_of_mem
def zdO:=@Bool.or_eq_true
def zdP:=@Nat.le_mul_of_pos_left
def zdQ:=@BitVec.toNat_ofNat
def zdR:=@List.drop_take
def zdS:=@List.nodup_nil
def zdT:=@List.replicate_succ
def zdU:=@List.drop_left'
def zdV:=@Nat.add_mul_mod_self_left
def zdW:=@List.drop_set
def zdX:=@Nat.div_mul_le_self
def zdY:=@Nat.mul_div_cancel_left
def zdZ:=@Nat.gcd_one_right
def zea:=@Rat.neg_den
def zeb:=@Rat.add_def'
def zec:=@Rat.sub_eq_add_neg
def zed:=@Rat.le_refl
def zee:=@Nat.add_mod
def zef:=@List.dropWhile_cons
def zeg:=@Nat.dvd_mul_left
def zeh:=@Nat.pow_dvd_pow
def zei:=@Nat.one_le_two_pow
def zej:=@Nat.ne_of_gt
def zek:=@Rat.zero_mul
def zel:=@List.drop_eq_getElem_cons
def zem:=@Array.getElem?_setIfInBounds
def zen:=@Array.getElem?_modify
def zeo:=@Option.isSome_iff_exists
def zep:=@Option.getD_some
def zeq:=@Bool.not_false
def zer:=@List.getElem_append_left
def zes:=@List.getElem_append_right
def zet:=@List.range_succ_eq_map
def zeu:=@List.find?_cons
def zev:=@List.pairwise_cons
def zew:=@List.range_succ
def zex:=@Nat.le_max_left
def zey:=@Nat.le_of_lt_succ
def zez:=@List.any_eq_true
def zeA:=@List.flatten_cons
def zeB:=@List.all_cons
def zeC:=@List.isEmpty_eq_false_iff
def zeD:=@List.drop_append_of_le_length
def zeE:=@List.take_left'
def zeF:=@UInt8.ofNat_toNat
def zeG:=@List.map_drop
def zeH:=@List.getElem?_replicate
def zeI:=@List.length_eq_one_iff
def zeJ:=@Nat.mul_lt_mul_of_pos_right
def zeK:=@Nat.mul_lt_mul''
def zeL:=@Nat.gcd_pos_of_pos_left
def zeM:=@List.length_eq_zero_iff
def zeN:=@Nat.gcd_le_right
def zeO:=@Rat.mkRat_self
def zeP:=@Nat.dvd_of_mod_eq_zero
def zeQ:=@List.reverse_eq_nil_iff
def zeR:=@List.reverse_reverse
def zeS:=@UInt8.toNat_ofNat'
def zeT:=@Nat.gcd_zero_left
def zeU:=@Nat.pow_lt_pow_right
def zeV:=@Rat.lt_irrefl
def zeW:=@List.foldl_append
def zeX:=@Nat.add_sub_cancel
def zeY:=@Bool.and_true
def zeZ:=@Array.mapM_eq_mapM_toList
def zfa:=@List.length_eraseIdx_of_lt
def zfb:=@Nat.add_sub_cancel_left
def zfc:=@List.isPrefixOf_iff_prefix
def zfd:=@Nat.two_pow_add_eq_or_of_lt
def zfe:=@Nat.gcd_pos_of_pos_right
abbrev ac(α:Type u):=List α
abbrev am(α:Type u):=Option α
abbrev ap(α:Type u):=Array α
abbrev be:=Value
abbrev bi:=Operand
abbrev bv:=UInt8
abbrev ce:=TypeId
abbrev ci:=FuncId
abbrev d7:=World
abbrev d8:=IntKind
abbrev d9:=MapEntry
abbrev f5:=Program
abbrev f6:=ByteArray
abbrev f7:=TypeInfo
variable{n m:Nat}{α:Type u}{i:Nat}{l:ac α}
def bE(h:i<l.length):l[i]? =some l[i]:=zcd h
def b4(a b:Bool):((a&&b)=true)=(a=true∧b=true):=zcr a b
def eo(h:Nat.beq n m=true):n=m:=zcE h
def gH{k:Nat}(h:n<m)(g:m<=k):n<k:=zbL h g
def jo(k:Nat)(h:m<=n):m*k<=n*k:=zaD k h
def pA(k:Nat)(h:m<=n):k*m<=k*n:=zaQ k h
def gR{a b:Nat}(h:a<b):a%b=a:=zbU h
def b6(n:Nat):n<=n:=zae n
def fP(h:i<l.length):l.drop i=l[i]::l.drop (i+1):=zel h
def fy(h:n<l.length):l[n]∈l:=zas h
def kv(h:Nat.ble n m=true):n<=m:=Nat.le_of_ble_eq_true h
inductive an(α:Type)where
 |nil:an α
 |node (l:an α) (v:Option α) (r:an α):an α
namespace an
variable{α β:Type}
def get(t:an α):Nat->am α:=
 an.rec (motive:=fun _=>Nat->am α) (fun _=>none)
  (fun _ v _ cR a3 n=>Nat.rec (motive:=fun _=>am α) v (fun m _=>Nat.rec (motive:=fun _=>am α) (cR (Nat.div m 2)) (fun _ _=>a3 (Nat.div m 2)) (Nat.mod m 2)) n) t
def jl(f:Nat):an α->Nat->α->(an α->β)->β:=
 Nat.rec (motive:=fun _=>an α->Nat->α->(an α->β)->β) (fun t _ _ k=>k t)
  (fun _ a1 t n x k=>
   an.rec (motive:=fun _=>β)
    (Nat.rec (motive:=fun _=>β) (k (.node .nil (some x) .nil))
     (fun m _=>Nat.rec (motive:=fun _=>β) (a1 .nil (Nat.div m 2) x fun l'=>k (.node l' none .nil)) (fun _ _=>a1 .nil (Nat.div m 2) x fun ee=>k (.node .nil none ee)) (Nat.mod m 2)) n)
    (fun l v r _ _=>
     Nat.rec (motive:=fun _=>β) (k (.node l (some x) r))
      (fun m _=>Nat.rec (motive:=fun _=>β) (a1 l (Nat.div m 2) x fun l'=>k (.node l' v r)) (fun _ _=>a1 r (Nat.div m 2) x fun ee=>k (.node l v ee)) (Nat.mod m 2)) n) t) f
def set(t:an α)(n:Nat)(x:α):an α:=jl (Nat.succ n) t n x id
def Zp(v:am α)(r:an α)(l:an α):an α:=
 an.rec (motive:=fun _=>an α) (.node .nil v r) (fun a b c _ _=>.node (.node a b c) v r) l
def Zq(l:an α)(v:am α)(r:an α):an α:=
 an.rec (motive:=fun _=>an α) (.node l v .nil) (fun a b c _ _=>.node l v (.node a b c)) r
def JC(a1:an α->Nat->α->an α)(l:an α)(v:am α)(r:an α)(m:Nat)(x:α):an α:=
 Nat.rec (motive:=fun _=>an α) (Zp v r (a1 l (Nat.div m 2) x)) (fun _ _=>Zq l v (a1 r (Nat.div m 2) x)) (Nat.mod m 2)
def JB(a1:an α->Nat->α->an α)(l:an α)(v:am α)(r:an α)(n:Nat)(x:α):an α:=
 Nat.rec (motive:=fun _=>an α) (.node l (some x) r) (fun m _=>JC a1 l v r m x) n
def aqb(a1:an α->Nat->α->an α)(t:an α)(n:Nat)(x:α):an α:=
 an.rec (motive:=fun _=>an α) (JB a1 .nil none .nil n x) (fun l v r _ _=>JB a1 l v r n x) t
def ld(f:Nat):an α->Nat->α->an α:=
 Nat.rec (motive:=fun _=>an α->Nat->α->an α) (fun t _ _=>t) (fun _ a1=>aqb a1) f
def fin(t:an α)(k:an α->β):β:=
 an.rec (motive:=fun _=>β) (k .nil) (fun a b c _ _=>k (.node a b c)) t
end an
inductive pC where
 |tu
 |sd
 |zm
 |wQ
 |zl
 |ptr
 |agg (ps:List (Nat×Nat×Bool×pC))
inductive fW where
 |int (k:IntKind)
 |str
 |arr (k:IntKind) (n:Nat)
inductive vQ where
 |look (cX:fW) (zero:Value) (ok:Bool) (m k:Operand)
 |hI (cX:fW) (m k v:Operand)
 |del (cX:fW) (m k:Operand)
 |BA (m:Operand)
 |BB (m:Operand)
 |Bz (it:Operand)
 |a6 (s c:Operand)
 |uu (neg:Bool) (n:Nat) (x y:Operand)
 |EP (it:Operand)
 |xW (gt:Bool) (x y:Operand)
 |idxs (g:Nat) (s b:Operand)
 |Kr (x:Operand)
 |Kq (it:Operand)
 |IQ (e:TypeId) (n:Operand)
 |LP (x:Operand)
inductive de where
 |m3 (x:Operand)
 |pick (c a b:Operand)
 |alloc (z:List Value) (elem:TypeId)
 |box (elem:TypeId) (x:Operand)
 |build (z:List Value) (ps:List (Nat×Nat×Operand))
 |pJ (elem:TypeId) (len:Nat) (z:List Value) (ps:List (Nat×Nat×Operand))
 |lE (a:Operand)
 |p9 (n:Nat) (a:Operand)
 |store (n:Nat) (a x:Operand)
 |tj (x:Operand)
 |OS (name:String) (aY:List (Nat×FuncId)) (x:Operand)
 |bin (op:BinOp) (x y:Operand)
 |eqv (neg:Bool) (e:pC) (x y:Operand)
 |un (op:UnOp) (x:Operand)
 |tZ (k:IntKind) (x:Operand)
 |xV (x:Operand)
 |Av (x:Operand)
 |vX (elem:TypeId) (x:Operand)
 |IP (t:TypeId) (x:Operand)
 |vb (fn:Fn) (first fK:List Operand)
 |vc
 |qc (elem:TypeId) (bytes:Nat) (z:List Value) (len cap:Operand)
 |tA (x:Operand) (lo aa:Option Operand)
 |FC (n a2:Nat) (x:Operand) (lo aa fb:Option Operand)
 |n9 (a2:Nat) (x:Operand) (lo aa fb:Option Operand)
 |yd (off:Nat) (x:Operand)
 |pO (off a2:Nat) (agg:Bool) (x:Operand)
 |uT (n a2:Nat) (x i:Operand)
 |mZ (a2:Nat) (x i:Operand)
 |uY (x i:Operand)
 |Im (n a2:Nat) (agg:Bool) (x i:Operand)
 |Ky (t:TypeId) (zero:Value) (ok:Bool) (x:Operand)
 |yc (x:Operand) (i:Nat)
 |call (f:Operand) (args:List Operand)
 |inv (aY:List (Nat×FuncId)) (x:Operand) (args:List Operand)
 |p8 (x:Operand)
 |u7 (x:Operand)
 |y7 (n:Nat)
 |wM (x:Operand)
 |app (elem:TypeId) (a2 bytes:Nat) (s x:Operand)
 |fb (x:Operand) (xs:List Operand)
 |zf (x:Operand) (xs:List Operand)
 |rI (a2:Nat) (d s:Operand)
 |xl
 |rK (f:Operand) (args:List Operand)
 |sk (x:Operand)
 |C6 (x:Operand)
 |C7 (elem n:Nat) (x:Operand)
 |Ce (x:Operand)
 |tE (elem:TypeId) (x n:Operand)
 |k4 (s c:Operand)
 |kI (x:Operand)
 |ext (y:vQ)
 |refuse
structure bA where
 d:am Tmp
 o:de
 g:am (Tmp×Bool)
inductive cx where
 |ep
 |im (ts:List Tmp)
 |read (back:Nat) (ts:List Tmp)
inductive dw where
 |skip
 |vz (ops:List bA)
 |uo (ops:List (bA×cx)) (cd:List Nat) (ek:List Tmp) (ms:List Nat)
 |seq (a b:dw)
 |cond (c:Operand) (a b:dw)
 |block (id:Nat) (b:dw)
 |loop (b:dw)
 |Ca (f:Operand) (params:List Tmp) (assign body:dw)
 |exit (id:Nat)
 |scope (b:dw)
 |ret
 |refuse
inductive dM where
 |norm
 |exit (id:Nat)
 |ret
 |a9 (v:Value)
inductive jq where
 |tmp (t:Tmp)
 |cell (a:Tmp) (agg:Bool) (n:Nat)
structure dy where
 aP:Nat
 res:ac jq
 body:dw
inductive bt where
 |cells (cs:List Value) (elem:TypeId) (bk:Nat×Nat) (a3:Bool)
 |map (es:List MapEntry) (clock:Nat)
 |acn (s:ByteArray) (pos:Nat)
 |va (m:Option Nat) (since:Nat) (seen:List Nat) (Cj:Nat)
 |loop (st:LoopState) (pending:Option dM) (fn:FuncId) (tmps:an Value) (params:List Tmp) (assign body:dw) (defers:Nat)
 |jJ (calls:Option (List Deferred))
 |dead
structure au where
 h:an bt
 aj:Nat
structure aJ where
 t:an be
 cW:ac Deferred
 a9:am be
 cD:Bool
 bR:am Nat
def aJ.tmp(fr:aJ)(n:Nat):be:=
 Option.rec (motive:=fun _=>be) (.chan (some 0)) (fun v=>v) (fr.t.get n)
def aJ.ai(fr:aJ)(x:bi):be:=
 Operand.rec (motive:=fun _=>be) (fun t=>fr.tmp t) (fun v=>v) (fun g=>.pointer (some ⟨g,0,none⟩)) (fun f=>.func (.func f) #[] #[]) x
def aJ.Y4(t:an be)(cW:ac Deferred)(a9:am be)(cD:Bool)(bR:am Nat):aJ:=
 an.rec (motive:=fun _=>aJ) ⟨.nil,cW,a9,cD,bR⟩ (fun a b c _ _=>⟨.node a b c,cW,a9,cD,bR⟩) t
def aJ.JB(d:Nat)(v:be)(fr:aJ):aJ:=
 aJ.rec (motive:=fun _=>aJ) (fun t cW a9 cD bR=>aJ.Y4 (an.ld (Nat.succ d) t d v) cW a9 cD bR) fr
def aJ.put(fr:aJ)(d:am Tmp)(v:be):aJ:=
 Option.rec (motive:=fun _=>aJ) fr (fun d=>aJ.JB d v fr) d
inductive aV where
 |ok (v:Value) (fr:aJ) (st:au)
 |a9 (v:Value) (st:au)
 |no
inductive eb where
 |ret (v:Value) (st:au) (e7:Bool)
 |a9 (v:Value) (st:au) (e7:Bool)
 |no
section lists
variable{α β:Type}
def Kx(n:Nat):ac α->am (ac α):=
 Nat.rec (motive:=fun _=>ac α->am (ac α)) (fun _=>some [])
  (fun _ a1 l=>List.rec (motive:=fun _=>am (ac α)) none
   (fun x xs _=>Option.rec (motive:=fun _=>am (ac α)) none (fun r=>some (x::r)) (a1 xs)) l) n
def GY(n:Nat):ac α->ac α:=
 Nat.rec (motive:=fun _=>ac α->ac α) (fun l=>l)
  (fun _ a1 l=>List.rec (motive:=fun _=>ac α) [] (fun _ xs _=>a1 xs) l) n
def ra(l:ac α):Nat->ac α->(ac α->β)->β->β:=
 List.rec (motive:=fun _=>Nat->ac α->(ac α->β)->β->β) (fun _ vs k z=>List.rec (motive:=fun _=>β) (k []) (fun _ _ _=>z) vs)
  (fun y al a1 n vs k z=>
   Nat.rec (motive:=fun _=>β)
    (List.rec (motive:=fun _=>β) (k (y::al)) (fun v vs _=>a1 0 vs (fun l'=>k (v::l')) z) vs)
    (fun m _=>a1 m vs (fun l'=>k (y::l')) z) n) l
end lists
variable{β:Type}
def g4(n:Nat)(k:Nat->β):β:=cond (Nat.beq n n) (k n) (k n)
def Uh(n:Int)(k:Int->β):β:=
 Int.rec (motive:=fun _=>β) (fun m=>g4 m fun m=>k (.ofNat m)) (fun m=>g4 m fun m=>k (.negSucc m)) n
def au.j1(st:au)(o:bt)(k:Nat->au->β):β:=
 g4 st.aj fun n=>an.fin (an.ld (Nat.succ n) st.h n o) fun h=>k n ⟨h,Nat.succ n⟩
def jr(v:be):ac be:=v.cells.toList
def uW:be->Bool
 |.chan (some _)=>true
 |_=>false
def nQ:be->Bool
 |.agg _|.tuple _|.chan (some _)=>false
 |_=>true
def h8(vs:ac be):Bool:=List.rec (motive:=fun _=>Bool) true (fun v _ r=>cond (nQ v) r false) vs
mutual
def dU:be->be->Bool
 |.bool a,.bool b=>a==b
 |.int k a,.int k' b=>decide (k=k')&&a==b
 |.float k a,.float k' b=>decide (k=k')&&a==b
 |.complex k a c,.complex k' b d=>decide (k=k')&&a==b&&c==d
 |.string a,.string b=>a.data.toList==b.data.toList
 |.pointer a,.pointer b=>a==b
 |.slice a l c,.slice b l' bW=>a==b&&l==l'&&c==bW
 |.map a,.map b=>a==b
 |.chan a,.chan b=>a==b
 |.func f x y,.func g u v=>decide (f=g)&&xz x u&&xz y v
 |.nilFunc,.nilFunc=>true
 |.iface t v,.iface u w=>t==u&&dU v w
 |.nilIface,.nilIface=>true
 |.agg a,.agg b=>xz a b
 |.tuple a,.tuple b=>xz a b
 |_,_=>false
def xz:ap be->ap be->Bool
 |⟨a⟩,⟨b⟩=>nb a b
def nb:ac be->ac be->Bool
 |[],[]=>true
 |a::as,b::bs=>dU a b&&nb as bs
 |_,_=>false
end
mutual
theorem Ct:∀v:be,dU v v=true
 |.bool a=>by simp[dU]
 |.int k a=>by simp[dU]
 |.float k a=>by simp[dU]
 |.complex k a c=>by simp[dU]
 |.string a=>by simp[dU]
 |.pointer a=>by simp[dU]
 |.slice a l c=>by simp[dU]
 |.map a=>by simp[dU]
 |.chan a=>by simp[dU]
 |.func f x y=>by simp[dU,KI x,KI y]
 |.nilFunc=>by simp[dU]
 |.iface t v=>by simp[dU,Ct v]
 |.nilIface=>by simp[dU]
 |.agg a=>by simp[dU,KI a]
 |.tuple a=>by simp[dU,KI a]
theorem KI:∀v:ap be,xz v v=true
 |⟨a⟩=>by simp[xz,adA a]
theorem adA:∀v:ac be,nb v v=true
 |[]=>by simp[nb]
 |a::as=>by simp[nb,Ct a,adA as]
end
mutual
theorem od:∀v w:be,dU v w=true->v=w
 |.bool a,w,h=>by cases w<;>simp_all [dU]
 |.int k a,w,h=>by cases w<;>simp_all [dU]
 |.float k a,w,h=>by cases w<;>simp_all [dU]
 |.complex k a c,w,h=>by cases w<;>simp_all [dU]
 |.string a,w,h=>by
  cases w<;>simp_all [dU];rename_i b;cases a;cases b;simp_all
 |.pointer a,w,h=>by cases w<;>simp_all [dU]
 |.slice a l c,w,h=>by cases w<;>simp_all [dU]
 |.map a,w,h=>by cases w<;>simp_all [dU]
 |.chan a,w,h=>by cases w<;>simp_all [dU]
 |.func f x y,w,h=>by
  cases w<;>simp[dU]at h;rename_i g u v;simp[h.1.1,KH x u h.1.2,KH y v h.2]
 |.nilFunc,w,h=>by cases w<;>simp_all [dU]
 |.iface t v,w,h=>by
  cases w<;>simp[dU]at h;rename_i u x;simp[h.1,od v x h.2]
 |.nilIface,w,h=>by cases w<;>simp_all [dU]
 |.agg a,w,h=>by
  cases w<;>simp[dU]at h;rename_i b;simp[KH a b h]
 |.tuple a,w,h=>by
  cases w<;>simp[dU]at h;rename_i b;simp[KH a b h]
theorem KH:∀v w:ap be,xz v w=true->v=w
 |⟨a⟩,⟨b⟩,h=>by simp[xz]at h;simp[zY a b h]
theorem zY:∀v w:ac be,nb v w=true->v=w
 |[],[],_=>rfl
 |a::as,b::bs,h=>by simp[nb]at h;simp[od a b h.1,zY as bs h.2]
 |[],_::_,h=>by simp[nb]at h
 |_::_,[],h=>by simp[nb]at h
end
end Go.ah
namespace Go.ah
def vd(n:Int)(M:Nat):Nat:=
 Int.rec (motive:=fun _=>Nat) (fun m=>Nat.mod m M) (fun m=>Nat.sub (Nat.sub M 1) (Nat.mod m M)) n
def Cv(M:Nat)(n:Int):Int:=.ofNat (vd n M)
def zZ(M H:Nat)(n:Int):Int:=
 g4 (vd n M) fun r=>cond (Nat.ble (Nat.succ r) H) (.ofNat r) (.negSucc (Nat.sub (Nat.sub M 1) r))
def oZ(k:d8)(n:Int):Int:=
 IntKind.rec (motive:=fun _=>Int->Int) (zZ 256 128) (zZ 65536 32768) (zZ 4294967296 2147483648) (zZ 18446744073709551616 9223372036854775808)
  (Cv 256) (Cv 65536) (Cv 4294967296) (Cv 18446744073709551616) k n
def Y8(n:Int)(M:Nat)(h:0<M):(vd n M:Int)=n%M:=by
 cases n with
 |ofNat m=>rfl
 |negSucc m=>
  show((M-1-m%M:Nat):Int)=_;rw[Int.negSucc_emod _ (by omega)];have:m%M<M:=zaj _ h;omega
def tG(M:Nat)(n:Int)(h:0<M):Cv M n=n%M:=Y8 n M h
def z0(M H:Nat)(n:Int)(h:0<M):zZ M H n=if n%M>=H then n%M-M else n%M:=by
 have e:=Y8 n M h;have aE:vd n M<M:=by have:=Int.emod_lt_of_pos n (show(0:Int)<M by omega);omega
 unfold zZ g4;rw[zaN];rw[<-e];simp only[cond];by_cases c:vd n M<H
 ·rw[zdA c];rw[zaa (by omega)];rfl
 ·have:Nat.ble (Nat.succ (vd n M)) H=false:=by
   rw[zbV];intro hh;exact c (kv hh)
  rw[this];rw[zab (by omega)];show Int.negSucc (M-1-vd n M)=_;omega
def ma(k:d8)(n:Int):oZ k n=k.wrap n:=by
 cases k
 all_goals simp only[oZ,IntKind.wrap,IntKind.bits,IntKind.signed]
 ·rw[z0 256 128 n (by decide)];simp
 ·rw[z0 65536 32768 n (by decide)];simp
 ·rw[z0 4294967296 2147483648 n (by decide)];simp
 ·rw[z0 18446744073709551616 9223372036854775808 n (by decide)];simp
 ·rw[tG 256 n (by decide)];rfl
 ·rw[tG 65536 n (by decide)];rfl
 ·rw[tG 4294967296 n (by decide)];rfl
 ·rw[tG 18446744073709551616 n (by decide)];rfl
def zQ(m n:Nat):Int:=cond (Nat.ble n m) (.ofNat (Nat.sub m n)) (.negSucc (Nat.sub (Nat.sub n m) 1))
def FF(m n:Nat):zQ m n=(m:Int)-n:=by
 unfold zQ;by_cases h:n<=m
 ·rw[zdA h];show((m-n:Nat):Int)=_;omega
 ·have:Nat.ble n m=false:=by rw[zbV];intro hh;exact h (kv hh)
  rw[this];show Int.negSucc (n-m-1)=_;omega
def CN(a b:Int):Int:=
 Int.rec (motive:=fun _=>Int)
  (fun m=>Int.rec (motive:=fun _=>Int) (fun n=>.ofNat (Nat.add m n)) (fun n=>zQ m (Nat.succ n)) b)
  (fun m=>Int.rec (motive:=fun _=>Int) (fun n=>zQ n (Nat.succ m)) (fun n=>.negSucc (Nat.succ (Nat.add m n))) b) a
def RD(a b:Int):CN a b=a+b:=by
 cases a with
 |ofNat m=>
  cases b with
  |ofNat n=>rfl
  |negSucc n=>simp only[CN,FF];show(m:Int)-((n+1:Nat):Int)=(m:Int)+Int.negSucc n;omega
 |negSucc m=>
  cases b with
  |ofNat n=>simp only[CN,FF];show(n:Int)-((m+1:Nat):Int)=Int.negSucc m+(n:Int);omega
  |negSucc n=>rfl
def I0(a:Int):Int:=
 Int.rec (motive:=fun _=>Int) (fun m=>zQ 0 m) (fun m=>.ofNat (Nat.succ m)) a
def ON(a:Int):I0 a= -a:=by
 cases a with
 |ofNat m=>simp only[I0,FF];show((0:Nat):Int)-(m:Int)= -(m:Int);omega
 |negSucc m=>rfl
def BC(a b:Int):Int:=
 Int.rec (motive:=fun _=>Int)
  (fun m=>Int.rec (motive:=fun _=>Int) (fun n=>.ofNat (Nat.mul m n)) (fun n=>zQ 0 (Nat.mul m (Nat.succ n))) b)
  (fun m=>Int.rec (motive:=fun _=>Int) (fun n=>zQ 0 (Nat.mul (Nat.succ m) n)) (fun n=>.ofNat (Nat.mul (Nat.succ m) (Nat.succ n))) b) a
def OF(a b:Int):BC a b=a*b:=by
 cases a with
 |ofNat m=>
  cases b with
  |ofNat n=>rfl
  |negSucc n=>
   simp only[BC,FF];show(0:Int)-((m*(n+1):Nat):Int)=(m:Int)* -((n:Int)+1);rw[Int.mul_neg];push_cast;omega
 |negSucc m=>
  cases b with
  |ofNat n=>
   simp only[BC,FF];show(0:Int)-(((m+1)*n:Nat):Int)= -((m:Int)+1)*n;rw[zcF];push_cast;omega
  |negSucc n=>
   simp only[BC];show(((m+1)*(n+1):Nat):Int)= -((m:Int)+1)* -((n:Int)+1);rw[Int.neg_mul_neg];push_cast;rfl
def nz(a b:Int):Bool:=
 Int.rec (motive:=fun _=>Bool)
  (fun m=>Int.rec (motive:=fun _=>Bool) (fun n=>Nat.ble m n) (fun _=>false) b)
  (fun m=>Int.rec (motive:=fun _=>Bool) (fun _=>true) (fun n=>Nat.ble n m) b) a
def tf(a b:Int):nz a b=decide (a<=b):=by
 cases a with
 |ofNat m=>
  cases b with
  |ofNat n=>simp only[nz];rw[zbl];simp
  |negSucc n=>simp only[nz];rw[zbl];simp;omega
 |negSucc m=>
  cases b with
  |ofNat n=>simp only[nz];rw[zbl];simp;omega
  |negSucc n=>simp only[nz];rw[zbl];simp;omega
def sT(a b:Int):Bool:=
 Int.rec (motive:=fun _=>Bool)
  (fun m=>Int.rec (motive:=fun _=>Bool) (fun n=>Nat.beq m n) (fun _=>false) b)
  (fun m=>Int.rec (motive:=fun _=>Bool) (fun _=>false) (fun n=>Nat.beq n m) b) a
def Dn(a b:Int):sT a b=(a==b):=by
 cases a with
 |ofNat m=>
  cases b with
  |ofNat n=>simp only[sT];rw[zbl];simp;omega
  |negSucc n=>simp only[sT];rw[zbl];simp
 |negSucc m=>
  cases b with
  |ofNat n=>simp only[sT];rw[zbl];simp
  |negSucc n=>simp only[sT];rw[zbl];simp;omega
section
variable{β:Type}
def oc(v:be)(k:Bool->β)(z:β):β:=
 @Value.rec (fun _=>β) (fun _=>Unit) (fun _=>Unit) (fun iP=>k iP) (fun _ _=>z) (fun _ _=>z) (fun _ _ _=>z) (fun _=>z) (fun _=>z) (fun _ _ _=>z) (fun _=>z) (fun _=>z) (fun _ _ _ _ _=>z) z (fun _ _ _=>z) z (fun _ _=>z) (fun _ _=>z) (fun _ _=>()) () (fun _ _ _ _=>()) v
def g2(v:be)(k:d8->Int->β)(z:β):β:=
 @Value.rec (fun _=>β) (fun _=>Unit) (fun _=>Unit) (fun _=>z) (fun iP eF=>k iP eF) (fun _ _=>z) (fun _ _ _=>z) (fun _=>z) (fun _=>z) (fun _ _ _=>z) (fun _=>z) (fun _=>z) (fun _ _ _ _ _=>z) z (fun _ _ _=>z) z (fun _ _=>z) (fun _ _=>z) (fun _ _=>()) () (fun _ _ _ _=>()) v
def jE(v:be)(k:f6->β)(z:β):β:=
 @Value.rec (fun _=>β) (fun _=>Unit) (fun _=>Unit) (fun _=>z) (fun _ _=>z) (fun _ _=>z) (fun _ _ _=>z) (fun iP=>k iP) (fun _=>z) (fun _ _ _=>z) (fun _=>z) (fun _=>z) (fun _ _ _ _ _=>z) z (fun _ _ _=>z) z (fun _ _=>z) (fun _ _=>z) (fun _ _=>()) () (fun _ _ _ _=>()) v
def jD(v:be)(k:am Addr->β)(z:β):β:=
 @Value.rec (fun _=>β) (fun _=>Unit) (fun _=>Unit) (fun _=>z) (fun _ _=>z) (fun _ _=>z) (fun _ _ _=>z) (fun _=>z) (fun iP=>k iP) (fun _ _ _=>z) (fun _=>z) (fun _=>z) (fun _ _ _ _ _=>z) z (fun _ _ _=>z) z (fun _ _=>z) (fun _ _=>z) (fun _ _=>()) () (fun _ _ _ _=>()) v
def j8(v:be)(k:am Addr->Nat->Nat->β)(z:β):β:=
 @Value.rec (fun _=>β) (fun _=>Unit) (fun _=>Unit) (fun _=>z) (fun _ _=>z) (fun _ _=>z) (fun _ _ _=>z) (fun _=>z) (fun _=>z) (fun iP eF z2=>k iP eF z2) (fun _=>z) (fun _=>z) (fun _ _ _ _ _=>z) z (fun _ _ _=>z) z (fun _ _=>z) (fun _ _=>z) (fun _ _=>()) () (fun _ _ _ _=>()) v
def Cr(v:be)(k:Fn->ap be->ap be->β)(z:β):β:=
 @Value.rec (fun _=>β) (fun _=>Unit) (fun _=>Unit) (fun _=>z) (fun _ _=>z) (fun _ _=>z) (fun _ _ _=>z) (fun _=>z) (fun _=>z) (fun _ _ _=>z) (fun _=>z) (fun _=>z) (fun iP eF z2 _ _=>k iP eF z2) z (fun _ _ _=>z) z (fun _ _=>z) (fun _ _=>z) (fun _ _=>()) () (fun _ _ _ _=>()) v
def zW(v:be)(k:ce->be->β)(z:β):β:=
 @Value.rec (fun _=>β) (fun _=>Unit) (fun _=>Unit) (fun _=>z) (fun _ _=>z) (fun _ _=>z) (fun _ _ _=>z) (fun _=>z) (fun _=>z) (fun _ _ _=>z) (fun _=>z) (fun _=>z) (fun _ _ _ _ _=>z) z (fun iP eF _=>k iP eF) z (fun _ _=>z) (fun _ _=>z) (fun _ _=>()) () (fun _ _ _ _=>()) v
def vE(v:be)(k:ap be->β)(z:β):β:=
 @Value.rec (fun _=>β) (fun _=>Unit) (fun _=>Unit) (fun _=>z) (fun _ _=>z) (fun _ _=>z) (fun _ _ _=>z) (fun _=>z) (fun _=>z) (fun _ _ _=>z) (fun _=>z) (fun _=>z) (fun _ _ _ _ _=>z) z (fun _ _ _=>z) z (fun iP _=>k iP) (fun _ _=>z) (fun _ _=>()) () (fun _ _ _ _=>()) v
def rr(v:be)(k:ap be->β)(z:β):β:=
 @Value.rec (fun _=>β) (fun _=>Unit) (fun _=>Unit) (fun _=>z) (fun _ _=>z) (fun _ _=>z) (fun _ _ _=>z) (fun _=>z) (fun _=>z) (fun _ _ _=>z) (fun _=>z) (fun _=>z) (fun _ _ _ _ _=>z) z (fun _ _ _=>z) z (fun _ _=>z) (fun iP _=>k iP) (fun _ _=>()) () (fun _ _ _ _=>()) v
def zX(v:be)(k:am Nat->β)(z:β):β:=
 @Value.rec (fun _=>β) (fun _=>Unit) (fun _=>Unit) (fun _=>z) (fun _ _=>z) (fun _ _=>z) (fun _ _ _=>z) (fun _=>z) (fun _=>z) (fun _ _ _=>z) (fun iP=>k iP) (fun _=>z) (fun _ _ _ _ _=>z) z (fun _ _ _=>z) z (fun _ _=>z) (fun _ _=>z) (fun _ _=>()) () (fun _ _ _ _=>()) v
end
def xx{β:Type}(v:be)(a z:β):β:=match v with|.chan none=>a|_=>z
def jB:be:=.chan (some 0)
abbrev bG:=be->ac be->am be->au->eb
section elim
variable{α β:Type}
def bm(o:am α)(k:α->β)(z:β):β:=Option.rec (motive:=fun _=>β) z k o
def ey(a b:Nat)(x y:β):β:=cond (Nat.ble a b) x y
def eQ(a b:Nat)(x y:β):β:=cond (Nat.beq a b) x y
def ie(n:Int)(k:Nat->β)(z:β):β:=Int.rec (motive:=fun _=>β) k (fun _=>z) n
def dL(l:ac α):Nat:=List.rec (motive:=fun _=>Nat) 0 (fun _ _ n=>Nat.succ n) l
def gJ(l m:ac α):ac α:=List.rec (motive:=fun _=>ac α) m (fun x _ r=>x::r) l
def iE(l:ac α)(off n:Nat)(k:ac α->β)(z:β):β:=bm (Kx n (GY off l)) k z
def one(l:ac α)(k:α->β)(z:β):β:=
 List.rec (motive:=fun _=>β) z (fun x xs _=>List.rec (motive:=fun _=>β) (k x) (fun _ _ _=>z) xs) l
end elim
variable{β:Type}
def iL(k:d8)(n:Int)(c:be->β):β:=Uh n fun m=>c (.int k m)
def kG(a b:d8):Bool:=Nat.beq a.ctorIdx b.ctorIdx
def CV(f:Nat->Nat->Nat)(g:Int)(k:d8)(a b:Int)(c:be->aV):aV:=
 ie a (fun m=>ie b (fun n=>iL k (oZ k (.ofNat (f (vd (.ofNat m) (2^k.bits)) (vd (.ofNat n) (2^k.bits))))) c) (iL k g c)) (iL k g c)
def Sj(k:d8)(a b:Int)(c:be->aV):aV:=iL k (oZ k (CN a b)) c
def Sw(k:d8)(a b:Int)(c:be->aV):aV:=iL k (oZ k (CN a (I0 b))) c
def Sr(k:d8)(a b:Int)(c:be->aV):aV:=iL k (oZ k (BC a b)) c
def Su(k:d8)(a b:Int)(c:be->aV):aV:=cond (sT b 0) .no (ie a (fun m=>ie b (fun n=>iL k (oZ k (.ofNat (Nat.div m n))) c) (iL k (k.wrap (a.tdiv b)) c)) (iL k (k.wrap (a.tdiv b)) c))
def Sv(k:d8)(a b:Int)(c:be->aV):aV:=cond (sT b 0) .no (ie a (fun m=>ie b (fun n=>iL k (.ofNat (Nat.mod m n)) c) (iL k (a.tmod b) c)) (iL k (a.tmod b) c))
def Sk(k:d8)(a b:Int)(c:be->aV):aV:=CV Nat.land (k.wrap (BitVec.ofInt k.bits a&&&BitVec.ofInt k.bits b).toNat) k a b c
def St(k:d8)(a b:Int)(c:be->aV):aV:=CV Nat.lor (k.wrap (BitVec.ofInt k.bits a|||BitVec.ofInt k.bits b).toNat) k a b c
def Sx(k:d8)(a b:Int)(c:be->aV):aV:=CV Nat.xor (k.wrap (BitVec.ofInt k.bits a^^^BitVec.ofInt k.bits b).toNat) k a b c
def Sl(k:d8)(a b:Int)(c:be->aV):aV:=iL k (k.wrap (BitVec.ofInt k.bits a&&& ~~~(BitVec.ofInt k.bits b)).toNat) c
def Sm(_k:d8)(a b:Int)(c:be->aV):aV:=c (.bool (sT a b))
def Ss(_k:d8)(a b:Int)(c:be->aV):aV:=c (.bool (!sT a b))
def Sq(_k:d8)(a b:Int)(c:be->aV):aV:=c (.bool (!nz b a))
def Sp(_k:d8)(a b:Int)(c:be->aV):aV:=c (.bool (nz a b))
def So(_k:d8)(a b:Int)(c:be->aV):aV:=c (.bool (!nz a b))
def Sn(_k:d8)(a b:Int)(c:be->aV):aV:=c (.bool (nz b a))
def Lu(_k:d8)(_a _b:Int)(_c:be->aV):aV:=.no
def Ao(op:BinOp)(k:d8)(a b:Int)(c:be->aV):aV:=
 BinOp.rec (motive:=fun _=>d8->Int->Int->(be->aV)->aV) Sj Sw Sr Su Sv Sk St Sx Lu Lu Sl Sm Ss Sq Sp So Sn op k a b c
def CU(op:BinOp)(x y:f6)(c:be->aV):aV:=
 match op with
 |.add=>ey (Nat.add (dL x.data.toList) (dL y.data.toList)) (2^40) (c (.string ⟨⟨gJ x.data.toList y.data.toList⟩⟩)) .no
 |.eql=>c (.bool (x.data.toList==y.data.toList))
 |.neq=>c (.bool (!(x.data.toList==y.data.toList)))
 |_=>.no
def zO(k:d8)(a:Int)(n:Nat):Int:=oZ k (BC a (.ofNat (Nat.pow 2 (min n k.bits))))
def vB(k:d8)(a:Int)(n:Nat):Int:=
 ie a (fun m=>.ofNat (Nat.div m (Nat.pow 2 (min n k.bits)))) (a.fdiv (2^(min n k.bits)))
def ag4(_op:BinOp)(k:d8)(a:Int)(_yk:d8)(b:Int)(c:be->aV):aV:=ie b (fun n=>iL k (zO k a n) c) .no
def ag5(_op:BinOp)(k:d8)(a:Int)(_yk:d8)(b:Int)(c:be->aV):aV:=ie b (fun n=>iL k (vB k a n) c) .no
def ou(op:BinOp)(k:d8)(a:Int)(xB:d8)(b:Int)(c:be->aV):aV:=cond (kG k xB) (Ao op k a b c) .no
def AQ(op:BinOp)(k:d8)(a:Int)(xB:d8)(b:Int)(c:be->aV):aV:=
 BinOp.rec (motive:=fun _=>BinOp->d8->Int->d8->Int->(be->aV)->aV) ou ou ou ou ou ou ou ou ag4 ag5 ou ou ou ou ou ou ou op op k a xB b c
def Dq(op:BinOp)(x y:be)(c:be->aV):aV:=
 g2 x (fun k a=>g2 y (fun xB b=>AQ op k a xB b c) .no)
 (jE x (fun a=>jE y (fun b=>CU op a b c) .no) .no)
def vo(off a2:Nat)(agg:Bool)(cs:ac be):am be:=
 iE cs off a2 (fun vs=>cond agg (some (.agg ⟨vs⟩)) (one vs (fun v=>some v) none)) none
def sR:be->be->am Bool
 |.slice none _ _,.slice b _ _=>some b.isNone
 |.slice (some _) _ _,.slice none _ _=>some false
 |.chan none,.slice none _ _=>some false
 |_,_=>none
def Dm:be->be->am Bool
 |.map none,.map b=>some b.isNone
 |.map (some _),.map none=>some false
 |_,_=>none
def AO:be->be->am Bool
 |.nilFunc,.nilFunc=>some true
 |.nilFunc,.func _ _ _=>some false
 |.func _ _ _,.nilFunc=>some false
 |_,_=>none
def Dl:be->be->am Bool
 |.nilIface,.nilIface=>some true
 |.nilIface,.iface _ _=>some false
 |.iface _ _,.nilIface=>some false
 |_,_=>none
def sS:be->be->am Bool
 |.pointer none,.pointer b=>some b.isNone
 |.pointer (some _),.pointer none=>some false
 |.pointer (some a),.pointer (some b)=>if a.block=b.block∧a.spot=none∧b.spot=none then some (a.off==b.off)else none
 |_,_=>none
def AP:be->be->am Bool
 |.bool a,.bool b=>some (a==b)
 |.int k a,.int k' b=>if k=k' then some (a==b)else none
 |.string a,.string b=>some (a.data.toList==b.data.toList)
 |_,_=>none
def lX:Nat->pC->be->be->am Bool
 |_,.tu,x,y=>AP x y
 |_,.sd,x,y=>sR x y
 |_,.zm,x,y=>Dm x y
 |_,.wQ,x,y=>AO x y
 |_,.zl,x,y=>Dl x y
 |_,.ptr,x,y=>sS x y
 |0,.agg _,_,_=>none
 |n+1,.agg ps,.agg xs,.agg al=>TY n xs.toList al.toList ps
 |_,.agg _,_,_=>none
 where
 TY (n:Nat) (xs al:ac be):ac (Nat×Nat×Bool×pC)->am Bool
  |[]=>some true
  |(off,a2,il,e)::rest=>
   match vo off a2 il xs,vo off a2 il al with
   |some x,some y=>
    match lX n e x y with
    |some true=>TY n xs al rest
    |r=>r
   |_,_=>none
def AR(op:UnOp)(x:be)(c:be->aV):aV:=
 match op with
 |.neg=>g2 x (fun k n=>iL k (oZ k (I0 n)) c) .no
 |.xor=>g2 x (fun k n=>iL k (k.wrap (BitVec.ofInt k.bits (if k.signed then -1 else k.max)^^^BitVec.ofInt k.bits n).toNat) c) .no
 |.not=>oc x (fun b=>c (.bool (!b))) .no
 |_=>.no
def o9(fr:aJ)(ps:ac (Nat×Nat×bi)):ac be->(ac be->aV)->aV:=
 List.rec (motive:=fun _=>ac be->(ac be->aV)->aV) (fun cs c=>c cs)
  (fun p _ a1 cs c=>
   (fun v=>cond (uW v) .no ((fun vs=>eQ (dL vs) p.2.1 (ey (Nat.add p.1 p.2.1) (dL cs) (ra cs p.1 vs (fun cs'=>a1 cs' c) .no) .no) .no) (jr v))) (fr.ai p.2.2)) ps
def bytesOf(vs:ac be):am (ac bv):=
 List.rec (motive:=fun _=>am (ac bv)) (some [])
  (fun v _ r=>g2 v (fun k n=>cond (kG k .u8) (bm r (fun bs=>some (UInt8.ofNat n.toNat::bs)) none) none) none) vs
def mD(bs:ac bv):ac be:=
 List.rec (motive:=fun _=>ac be) [] (fun b _ r=>Value.int .u8 (.ofNat b.toNat)::r) bs
def fp(fr:aJ)(x:am bi)(dflt y:Nat)(k:Nat->aV):aV:=
 bm x (fun x=>g2 (fr.ai x) (fun _ n=>ie n (fun n=>ey n y (k n) .no) .no) .no) (k dflt)
def xQ(o:am bt)(k:ac be->ce->Nat×Nat->Bool->β)(z:β):β:=
 bm o (fun o=>bt.rec (motive:=fun _=>β) k (fun _ _=>z) (fun _ _=>z) (fun _ _ _ _=>z) (fun _ _ _ _ _ _ _ _=>z) (fun _=>z) z o) z
def au.hz(st:au)(a:Addr)(k:ac be->ce->Nat×Nat->Bool->β)(z:β):β:=
 bm a.spot (fun _=>z) (xQ (st.h.get a.block) k z)
def au.load(st:au)(a:Addr)(n:Nat)(k:ac be->β)(z:β):β:=
 st.hz a (fun cs _ _ _=>iE cs a.off n k z) z
def au.h3(st:au)(id:Nat)(o:bt)(k:au->β):β:=
 an.fin (an.ld (Nat.succ id) st.h id o) fun h=>k ⟨h,st.aj⟩
def au.store(st:au)(a:Addr)(vs:ac be)(k:au->β)(z:β):β:=
 st.hz a (fun cs elem bk a3=>ey bk.2 bk.1 (ra cs a.off vs (fun cs'=>st.h3 a.block (.cells cs' elem bk a3) k) z) z) z
def kV(fr:aJ)(st:au)(elem:ce)(a2 bytes:Nat)(base:am Addr)(len cap:Nat)(n:Nat)(new:ac be):aV:=
 (fun vj=>
  ey (Nat.mul (Nat.add (Nat.mul 5 vj) 1792) (Nat.succ bytes)) (2^50)
   (bm base
    (fun a=>st.hz a (fun cs el bk a3=>
     ey bk.2 bk.1 (ey len cap (ey (Nat.add a.off (Nat.mul cap a2)) (dL cs) (eQ el elem
      (eQ n 0 (.ok (.slice (some a) len cap) fr st)
       (cond a3
        (iE cs a.off (Nat.mul len a2) (fun old=>st.h3 a.block .dead fun st=>st.j1 (.cells (gJ old new) elem (0,0) true) fun id st=>.ok (.slice (some ⟨id,0,none⟩) vj vj) fr st) .no)
        (ey vj cap
         (ra cs (Nat.add a.off (Nat.mul len a2)) new (fun cs'=>st.h3 a.block (.cells cs' el bk false) fun st=>.ok (.slice (some a) vj cap) fr st) .no)
         (iE cs a.off (Nat.mul len a2) (fun old=>st.j1 (.cells (gJ old new) elem (0,0) true) fun id st=>.ok (.slice (some ⟨id,0,none⟩) vj vj) fr st) .no))))
      .no) .no) .no) .no) .no)
    (eQ len 0 (eQ cap 0
     (eQ n 0 (.ok (.slice none 0 0) fr st)
      (st.j1 (.cells new elem (0,0) true) fun id st=>.ok (.slice (some ⟨id,0,none⟩) vj vj) fr st))
     .no) .no))
   .no) (Nat.add len n)
def EC(k:d8)(fr:aJ)(xs:ac bi):Int->am Int:=
 List.rec (motive:=fun _=>Int->am Int) (fun m=>some m)
  (fun x _ a1 m=>g2 (fr.ai x) (fun k' y=>cond (kG k k') (a1 (cond (nz y m) m y)) none) none) xs
def ED(k:d8)(fr:aJ)(xs:ac bi):Int->am Int:=
 List.rec (motive:=fun _=>Int->am Int) (fun m=>some m)
  (fun x _ a1 m=>g2 (fr.ai x) (fun k' y=>cond (kG k k') (a1 (cond (nz m y) m y)) none) none) xs
def er(fr:aJ)(xs:ac bi):ac be:=
 List.rec (motive:=fun _=>ac be) [] (fun x _ r=>fr.ai x::r) xs
def nR(z:ac be)(n:Nat):ac be:=
 Nat.rec (motive:=fun _=>ac be) [] (fun _ r=>gJ z r) n
def Ig(k:d8)(n:Int):Bool:=nz k.min n&&nz n k.max
def fW.ok(cX:fW)(v:be):Bool:=
 match cX with
 |.int k=>g2 v (fun k' n=>kG k k'&&Ig k n) false
 |.str=>jE v (fun s=>Nat.ble (dL s.data.toList) (2^40)) false
 |.arr k n=>vE v (fun xs=>Nat.beq (dL xs.toList) n&&xs.toList.all (fun x=>g2 x (fun k' m=>kG k k'&&Ig k m) false)) false
def sb(o:am bt)(k:ac d9->Nat->β)(z:β):β:=
 bm o (fun o=>bt.rec (motive:=fun _=>β) (fun _ _ _ _=>z) k (fun _ _=>z) (fun _ _ _ _=>z) (fun _ _ _ _ _ _ _ _=>z) (fun _=>z) z o) z
def N8(o:am bt)(k:am Nat->Nat->ac Nat->Nat->β)(z:β):β:=
 bm o (fun o=>bt.rec (motive:=fun _=>β) (fun _ _ _ _=>z) (fun _ _=>z) (fun _ _=>z) k (fun _ _ _ _ _ _ _ _=>z) (fun _=>z) z o) z
def wL(cX:fW)(es:ac d9):Bool:=es.all (fun e=>cX.ok e.key)
def qY(k:be)(es:ac d9):am d9:=es.find? (fun e=>dU k e.key)
def By(k v:be)(es:ac d9):ac d9:=es.map (fun e=>cond (dU k e.key) ⟨e.key,v,e.born⟩ e)
def Bw(k:be)(es:ac d9):ac d9:=es.filter (fun e=> !dU k e.key)
def Mq:be->be->am Bool
 |.int k a,.int k' b=>if k=k' then some (a==b)else none
 |_,_=>none
def G5:be->be->am Bool
 |.string a,.string b=>some (a.data.toList==b.data.toList)
 |_,_=>none
def TX(i:Nat)(x y:be):am Bool:=match i with
 |0=>G5 x y
 |_=>Mq x y
def o8:Nat->ac be->ac be->am Bool
 |_,[],[]=>some true
 |i,x::xs,y::al=>bm (TX i x y) (fun b=>cond b (o8 (i-1) xs al) (bm (o8 (i-1) xs al) (fun _=>some false) none)) none
 |_,_,_=>none
def C4(n:Nat):be->am Bool
 |.chan (some c)=>if c%2=0 then(if 2<=c∧n<=(c-2)/2 then some true else none)else(if 3<=c∧(c-3)/2<=n then some false else none)
 |_=>none
def N2(n:Nat)(c:be):Bool:=match C4 n c with|some true=>true|_=>false
def w6:ac bv->ac bv->Bool
 |[],_=>true
 |a::as,b::bs=>a==b&&w6 as bs
 |_::_,[]=>false
def px(b:ac bv):ac bv->am Nat
 |[]=>if b.isEmpty then some 0 else none
 |x::xs=>if w6 b (x::xs)then some 0 else(px b xs).map (· +1)
def an6(l:ac Nat):am Nat:=l.getLast?
def qF(fr:aJ)(st:au)(y:vQ):aV:=
 match y with
 |.look cX z ok m k=>(fun key=>cond (cX.ok key)
  (zX (fr.ai m) (fun r=>bm r (fun id=>sb (st.h.get id) (fun es _=>cond (wL cX es) (bm (qY key es) (fun e=>.ok (cond ok (.tuple #[e.val,.bool true]) e.val) fr st) (.ok (cond ok (.tuple #[z,.bool false]) z) fr st)) .no) .no)
   (.ok (cond ok (.tuple #[z,.bool false]) z) fr st)) .no) .no) (fr.ai k)
 |.hI cX m k v=>(fun key=>cond (cX.ok key)
  (zX (fr.ai m) (fun r=>bm r (fun id=>sb (st.h.get id) (fun es clock=>cond (wL cX es)
   (bm (qY key es) (fun _=>st.h3 id (.map (By key (fr.ai v) es) clock) fun st=>.ok undef fr st)
    (st.h3 id (.map (es++[⟨key,fr.ai v,clock⟩]) (Nat.succ clock)) fun st=>.ok undef fr st)) .no) .no) .no) .no) .no) (fr.ai k)
 |.del cX m k=>(fun key=>cond (cX.ok key)
  (zX (fr.ai m) (fun r=>bm r (fun id=>sb (st.h.get id) (fun es clock=>cond (wL cX es) (st.h3 id (.map (Bw key es) clock) fun st=>.ok undef fr st) .no) .no) .no) .no) .no) (fr.ai k)
 |.BA m=>zX (fr.ai m) (fun r=>bm r (fun id=>sb (st.h.get id) (fun es _=>g4 (dL es) fun n=>.ok (.int .i64 (.ofNat n)) fr st) .no) (.ok (.int .i64 0) fr st)) .no
 |.BB m=>zX (fr.ai m) (fun r=>bm r (fun id=>sb (st.h.get id) (fun _ clock=>st.j1 (.va (some id) clock [] clock) fun id st=>.ok (.pointer (some ⟨id,0,none⟩)) fr st) .no)
  (st.j1 (.va none 0 [] 0) fun id st=>.ok (.pointer (some ⟨id,0,none⟩)) fr st)) .no
 |.Bz it=>jD (fr.ai it) (fun p=>bm p (fun a=>bm a.spot (fun _=>.no) (eQ a.off 0 (N8 (st.h.get a.block) (fun m _ seen Cj=>
  bm m (fun id=>bm (an6 seen) (fun s=>sb (st.h.get id) (fun es clock=>eQ clock Cj (ey (Nat.succ s) clock (bm (es.find? (fun e=>Nat.beq e.born s)) (fun e=>.ok (.tuple #[e.key,e.val]) fr st) .no) .no) .no) .no) .no) .no) .no) .no)) .no) .no
 |.a6 s c=>jE (fr.ai s) (fun s=>g2 (fr.ai c) (fun k c=>cond (kG k .u8) (ie c (fun c=>.ok (.int .i64 (.ofNat (s.data.toList.countP (fun b=>b==UInt8.ofNat c)))) fr st) .no) .no) .no) .no
 |.uu neg n x y=>vE (fr.ai x) (fun xs=>vE (fr.ai y) (fun al=>eQ (dL xs.toList) (Nat.add (Nat.mod n 100) (Nat.div n 100)) (eQ (dL al.toList) (Nat.add (Nat.mod n 100) (Nat.div n 100)) (bm (o8 (Nat.mod n 100) xs.toList al.toList) (fun b=>.ok (.bool (cond neg (!b) b)) fr st) .no) .no) .no) .no) .no
 |.EP _=>.no
 |.xW gt x y=>g2 (fr.ai x) (fun k n=>cond (kG k .i64) (ie n (fun n=>bm (C4 n (fr.ai y)) (fun b=>.ok (.bool (cond gt (!b) b)) fr st) .no) .no) .no) .no
 |.idxs g s b=>jE (fr.ai s) (fun s=>jE (fr.ai b) (fun b=>xQ (st.h.get g) (fun cs _ _ a3=>cond a3 .no (one cs (fun c=>cond (N2 (dL b.data.toList) c) (ey 2 (dL b.data.toList) (ey (dL s.data.toList) 1000000
  (.ok (.int .i64 (bm (px b.data.toList s.data.toList) (fun i=>.ofNat i) (.negSucc 0))) fr st) .no) .no) .no) .no)) .no) .no) .no
 |.Kr _=>.no
 |.Kq _=>.no
 |.IQ _ _=>.no
 |.LP _=>.no
def qU(c:bv)(l:ac bv):am Nat:=
 List.rec (motive:=fun _=>am Nat) none (fun b _ r=>cond (Nat.beq b.toNat c.toNat) (some 0) (bm r (fun i=>some (Nat.succ i)) none)) l
def Z6(x:bi)(_call:bG)(fr:aJ)(st:au):aV:=
 .ok (fr.ai x) fr st
def Z9(c:bi)(a:bi)(b:bi)(_call:bG)(fr:aJ)(st:au):aV:=
 oc (fr.ai c) (fun t=>.ok (cond t (fr.ai a) (fr.ai b)) fr st) .no
def zs(z:ac be)(elem:ce)(_call:bG)(fr:aJ)(st:au):aV:=
 st.j1 (.cells z elem (0,0) false) fun id st=>.ok (.pointer (some ⟨id,0,none⟩)) fr st
def BQ(elem:ce)(x:bi)(_call:bG)(fr:aJ)(st:au):aV:=
 (fun v=>cond (uW v) .no (st.j1 (.cells (jr v) elem (0,0) false) fun id st=>.ok (.pointer (some ⟨id,0,none⟩)) fr st)) (fr.ai x)
def Pk(z:ac be)(ps:ac (Nat×Nat×bi))(_call:bG)(fr:aJ)(st:au):aV:=
 o9 fr ps z fun cs=>.ok (.agg ⟨cs⟩) fr st
def BR(elem:ce)(len:Nat)(z:ac be)(ps:ac (Nat×Nat×bi))(_call:bG)(fr:aJ)(st:au):aV:=
 o9 fr ps z fun cs=>st.j1 (.cells cs elem (0,0) false) fun id st=>.ok (.slice (some ⟨id,0,none⟩) len len) fr st
def Jk(a:bi)(_call:bG)(fr:aJ)(st:au):aV:=
 jD (fr.ai a) (fun p=>bm p (fun a=>st.load a 1 (fun vs=>one vs (fun v=>.ok v fr st) .no) .no) .no) .no
def Jl(n:Nat)(a:bi)(_call:bG)(fr:aJ)(st:au):aV:=
 jD (fr.ai a) (fun p=>bm p (fun a=>st.load a n (fun vs=>.ok (.agg ⟨vs⟩) fr st) .no) .no) .no
def aad(n:Nat)(a:bi)(x:bi)(_call:bG)(fr:aJ)(st:au):aV:=
 jD (fr.ai a) (fun p=>bm p (fun a=>(fun vs=>eQ (dL vs) n (cond (h8 vs) (st.store a vs (fun st=>.ok undef fr st) .no) .no) .no) (jr (fr.ai x))) .no) .no
def Pm(x:bi)(_call:bG)(fr:aJ)(st:au):aV:=
 jD (fr.ai x) (fun p=>bm p (fun a=>.ok (.pointer (some a)) fr st) .no) (Cr (fr.ai x) (fun f a b=>match f with|.func g=>.ok (.func (.func g) a b) fr st|_=>.no) .no)
def apP(_name:String)(_tab:ac (Nat×ci))(_x:bi)(_call:bG)(_fr:aJ)(_st:au):aV:=
 .no
def Pj(op:BinOp)(x:bi)(y:bi)(_call:bG)(fr:aJ)(st:au):aV:=
 Dq op (fr.ai x) (fr.ai y) fun v=>.ok v fr st
def ZT(neg:Bool)(e:pC)(x:bi)(y:bi)(_call:bG)(fr:aJ)(st:au):aV:=
 bm (lX 8 e (fr.ai x) (fr.ai y)) (fun b=>.ok (.bool (cond neg (!b) b)) fr st) .no
def Po(op:UnOp)(x:bi)(_call:bG)(fr:aJ)(st:au):aV:=
 AR op (fr.ai x) fun v=>.ok v fr st
def ZR(k:d8)(x:bi)(_call:bG)(fr:aJ)(st:au):aV:=
 g2 (fr.ai x) (fun _ n=>iL k (oZ k n) fun v=>.ok v fr st) .no
def ZQ(x:bi)(_call:bG)(fr:aJ)(st:au):aV:=
 jE (fr.ai x) (fun s=>.ok (.string s) fr st) .no
def Jf(x:bi)(_call:bG)(fr:aJ)(st:au):aV:=
 j8 (fr.ai x) (fun a n _=>bm a (fun a=>st.load a n (fun vs=>bm (bytesOf vs) (fun bs=>.ok (.string ⟨⟨bs⟩⟩) fr st) .no) .no) (.ok (.string ⟨⟨[]⟩⟩) fr st)) .no
def BS(elem:ce)(x:bi)(_call:bG)(fr:aJ)(st:au):aV:=
 jE (fr.ai x) (fun s=>(fun n=>ey n (2^40) (st.j1 (.cells (mD s.data.toList) elem (0,0) true) fun id st=>.ok (.slice (some ⟨id,0,none⟩) n n) fr st) .no) (dL s.data.toList)) .no
def Z4(t:ce)(x:bi)(_call:bG)(fr:aJ)(st:au):aV:=
 .ok (.iface t (fr.ai x)) fr st
def Z3(fn:Fn)(first:ac bi)(fK:ac bi)(_call:bG)(fr:aJ)(st:au):aV:=
 .ok (.func fn ⟨er fr first⟩ ⟨er fr fK⟩) fr st
def zt(_call:bG)(fr:aJ)(st:au):aV:=
 st.j1 (.map [] 0) fun id st=>.ok (.map (some id)) fr st
def tq(elem:ce)(bytes:Nat)(z:ac be)(len:bi)(cap:bi)(_call:bG)(fr:aJ)(st:au):aV:=
 g2 (fr.ai len) (fun _ l=>g2 (fr.ai cap) (fun _ c=>ie l (fun l=>ie c (fun c=>ey l c (ey (Nat.mul c (Nat.succ bytes)) (2^40) (st.j1 (.cells (nR z c) elem (0,0) false) fun id st=>.ok (.slice (some ⟨id,0,none⟩) l c) fr st) .no) .no) .no) .no) .no) .no
def aac(x:bi)(lo:am bi)(aa:am bi)(_call:bG)(fr:aJ)(st:au):aV:=
 jE (fr.ai x) (fun s=>(fun n=>fp fr aa n n fun h=>fp fr lo 0 h fun l=>iE s.data.toList l (Nat.sub h l) (fun bs=>.ok (.string ⟨⟨bs⟩⟩) fr st) .no) (dL s.data.toList)) .no
def Jn(n:Nat)(a2:Nat)(x:bi)(lo:am bi)(aa:am bi)(fb:am bi)(_call:bG)(fr:aJ)(st:au):aV:=
 jD (fr.ai x) (fun p=>bm p (fun a=>st.hz a (fun _ _ _ a3=>cond a3 .no (fp fr fb n n fun m=>fp fr aa n m fun h=>fp fr lo 0 h fun l=>.ok (.slice (some (eQ m l a (a.add (Nat.mul l a2)))) (Nat.sub h l) (Nat.sub m l)) fr st)) .no) .no) .no
def aab(a2:Nat)(x:bi)(lo:am bi)(aa:am bi)(fb:am bi)(_call:bG)(fr:aJ)(st:au):aV:=
 j8 (fr.ai x) (fun b len cap=>bm b (fun a=>st.hz a (fun _ _ _ a3=>cond a3 (bm fb (fun _=>.no) (ey len cap (fp fr aa len len fun h=>fp fr lo 0 h fun l=>.ok (.slice (some (a.add (Nat.mul l a2))) (Nat.sub h l) (Nat.sub cap l)) fr st) .no)) (fp fr fb cap cap fun m=>fp fr aa len m fun h=>fp fr lo 0 h fun l=>.ok (.slice (some (eQ m l a (a.add (Nat.mul l a2)))) (Nat.sub h l) (Nat.sub m l)) fr st)) .no) (fp fr fb cap cap fun m=>fp fr aa len m fun h=>fp fr lo 0 h fun l=>.ok (.slice none (Nat.sub h l) (Nat.sub m l)) fr st)) .no
def ZV(off:Nat)(x:bi)(_call:bG)(fr:aJ)(st:au):aV:=
 jD (fr.ai x) (fun p=>bm p (fun a=>.ok (.pointer (some (a.add off))) fr st) .no) .no
def ZW(off:Nat)(a2:Nat)(agg:Bool)(x:bi)(_call:bG)(fr:aJ)(st:au):aV:=
 vE (fr.ai x) (fun cs=>bm (vo off a2 agg cs.toList) (fun v=>.ok v fr st) .no) .no
def w0(n:Nat)(a2:Nat)(x:bi)(i:bi)(_call:bG)(fr:aJ)(st:au):aV:=
 jD (fr.ai x) (fun p=>bm p (fun a=>g2 (fr.ai i) (fun _ j=>ie j (fun j=>ey (Nat.succ j) n (.ok (.pointer (some (a.add (Nat.mul j a2)))) fr st) .no) .no) .no) .no) .no
def ZX(a2:Nat)(x:bi)(i:bi)(_call:bG)(fr:aJ)(st:au):aV:=
 j8 (fr.ai x) (fun b len _=>bm b (fun a=>g2 (fr.ai i) (fun _ j=>ie j (fun j=>ey (Nat.succ j) len (.ok (.pointer (some (a.add (Nat.mul j a2)))) fr st) .no) .no) .no) .no) .no
def ZZ(x:bi)(i:bi)(_call:bG)(fr:aJ)(st:au):aV:=
 jE (fr.ai x) (fun s=>g2 (fr.ai i) (fun _ j=>ie j (fun j=>iE s.data.toList j 1 (fun bs=>one bs (fun b=>.ok (.int .u8 (.ofNat b.toNat)) fr st) .no) .no) .no) .no) .no
def ZY(n:Nat)(a2:Nat)(agg:Bool)(x:bi)(i:bi)(_call:bG)(fr:aJ)(st:au):aV:=
 vE (fr.ai x) (fun cs=>g2 (fr.ai i) (fun _ j=>ie j (fun j=>ey (Nat.succ j) n (bm (vo (Nat.mul j a2) a2 agg cs.toList) (fun v=>.ok v fr st) .no) .no) .no) .no) .no
def Pn(t:ce)(zero:be)(ok:Bool)(x:bi)(_call:bG)(fr:aJ)(st:au):aV:=
 zW (fr.ai x) (fun u v=>eQ u t (.ok (cond ok (.tuple #[v,.bool true]) v) fr st) (cond ok (.ok (.tuple #[zero,.bool false]) fr st) .no)) (match fr.ai x with|.nilIface=>cond ok (.ok (.tuple #[zero,.bool false]) fr st) .no|_=>.no)
def ZU(x:bi)(i:Nat)(_call:bG)(fr:aJ)(st:au):aV:=
 rr (fr.ai x) (fun vs=>iE vs.toList i 1 (fun l=>one l (fun v=>.ok v fr st) .no) .no) .no
def apE(f:bi)(args:ac bi)(call:bG)(fr:aJ)(st:au):aV:=
 eb.rec (motive:=fun _=>aV) (fun v st _=>.ok v fr st) (fun v st _=>.a9 v st) .no (call (fr.ai f) (er fr args) none st)
def apL(_tab:ac (Nat×ci))(_x:bi)(_args:ac bi)(_call:bG)(_fr:aJ)(_st:au):aV:=
 .no
def Jj(x:bi)(_call:bG)(fr:aJ)(st:au):aV:=
 j8 (fr.ai x) (fun _ n _=>.ok (.int .i64 (.ofNat n)) fr st) (xx (fr.ai x) (.ok (.int .i64 (.ofNat 0)) fr st) .no)
def Z1(x:bi)(_call:bG)(fr:aJ)(st:au):aV:=
 jE (fr.ai x) (fun s=>g4 (dL s.data.toList) fun n=>.ok (.int .i64 (.ofNat n)) fr st) .no
def Pl(n:Nat)(_call:bG)(fr:aJ)(st:au):aV:=
 .ok (.int .i64 (.ofNat n)) fr st
def apM(_x:bi)(_call:bG)(_fr:aJ)(_st:au):aV:=
 .no
def ZP(elem:ce)(a2:Nat)(bytes:Nat)(s:bi)(x:bi)(_call:bG)(fr:aJ)(st:au):aV:=
 j8 (fr.ai s) (fun base len cap=>j8 (fr.ai x) (fun b n _=>bm b (fun b=>st.load b (Nat.mul n a2) (fun new=>cond (h8 new) (kV fr st elem a2 bytes base len cap n new) .no) .no) (eQ n 0 (kV fr st elem a2 bytes base len cap 0 []) .no)) (xx (fr.ai x) (kV fr st elem a2 bytes base len cap 0 []) (jE (fr.ai x) (fun s=>eQ a2 1 (kV fr st elem a2 bytes base len cap (dL s.data.toList) (mD s.data.toList)) .no) .no))) .no
def Z7(x:bi)(xs:ac bi)(_call:bG)(fr:aJ)(st:au):aV:=
 g2 (fr.ai x) (fun k n=>bm (EC k fr xs n) (fun m=>iL k m fun v=>.ok v fr st) .no) .no
def Z5(x:bi)(xs:ac bi)(_call:bG)(fr:aJ)(st:au):aV:=
 g2 (fr.ai x) (fun k n=>bm (ED k fr xs n) (fun m=>iL k m fun v=>.ok v fr st) .no) .no
def ZS(a2:Nat)(d:bi)(s:bi)(_call:bG)(fr:aJ)(st:au):aV:=
 j8 (fr.ai d) (fun a dl _=>j8 (fr.ai s) (fun b aN _=>bm a (fun a=>bm b (fun b=>(fun n=>st.load b (Nat.mul n a2) (fun vs=>cond (h8 vs) (st.store a vs (fun st=>.ok (.int .i64 (.ofNat n)) fr st) .no) .no) .no) (ey aN dl aN dl)) (eQ aN 0 (.ok (.int .i64 0) fr st) .no)) (eQ dl 0 (.ok (.int .i64 0) fr st) .no)) .no) .no
def apR(_call:bG)(fr:aJ)(st:au):aV:=
 bm fr.bR (fun _=>.no) (bm fr.a9 (fun v=>cond fr.cD (.ok .nilIface fr st) (.ok v ⟨fr.t,fr.cW,fr.a9,true,fr.bR⟩ st)) (.ok .nilIface fr st))
def apG(f:bi)(args:ac bi)(_call:bG)(fr:aJ)(st:au):aV:=
 bm fr.bR (fun _=>.no) (Cr (fr.ai f) (fun fn first fK=>match fn with|.func g=>.ok undef ⟨fr.t,{target:=.fn (.func g) fK,args:=⟨gJ first.toList (er fr args)⟩}::fr.cW,fr.a9,fr.cD,fr.bR⟩ st|_=>.no) .no)
def apQ(x:bi)(_call:bG)(fr:aJ)(st:au):aV:=
 zW (fr.ai x) (fun t v=>.a9 (.iface t v) st) .no
def Jg(x:bi)(_call:bG)(fr:aJ)(st:au):aV:=
 jD (fr.ai x) (fun p=>bm p (fun a=>st.hz a (fun cs _ _ _=>ey (Nat.succ a.off) (dL cs) (.ok (.pointer (some a)) fr st) .no) .no) .no) .no
def Jh(elem:Nat)(n:Nat)(x:bi)(_call:bG)(fr:aJ)(st:au):aV:=
 jD (fr.ai x) (fun p=>bm p (fun a=>st.hz a (fun cs el _ a3=>cond a3 .no (eQ a.off 0 (eQ el elem (eQ (dL cs) n (.ok (.pointer (some a)) fr st) .no) .no) .no)) .no) .no) .no
def Jm(x:bi)(_call:bG)(fr:aJ)(st:au):aV:=
 j8 (fr.ai x) (fun b _ c=>bm b (fun a=>eQ c 0 .no (.ok (.pointer (some a)) fr st)) (.ok (.pointer none) fr st)) .no
def Jo(elem:ce)(x:bi)(n:bi)(_call:bG)(fr:aJ)(st:au):aV:=
 jD (fr.ai x) (fun p=>g2 (fr.ai n) (fun _ n=>ie n (fun n=>eQ n 0 (.ok (.string ⟨⟨[]⟩⟩) fr st) (bm p (fun a=>ey n (2^40) (st.hz a (fun cs el bk a3=>ey bk.2 bk.1 (eQ el elem (iE cs a.off n (fun vs=>bm (bytesOf vs) (fun bs=>st.h3 a.block (.cells cs el (a.off,Nat.add a.off n) a3) fun st=>.ok (.string ⟨⟨bs⟩⟩) fr st) .no) .no) .no) .no) .no) .no) .no)) .no) .no) .no
def Ji(s:bi)(c:bi)(_call:bG)(fr:aJ)(st:au):aV:=
 jE (fr.ai s) (fun s=>g2 (fr.ai c) (fun k c=>cond (kG k .u8) (ie c (fun c=>.ok (.int .i64 (bm (qU (UInt8.ofNat c) s.data.toList) (fun i=>.ofNat i) (.negSucc 0))) fr st) .no) .no) .no) .no
def Z8(x:bi)(_call:bG)(fr:aJ)(st:au):aV:=
 .ok (fr.ai x) fr st
def apH(y:vQ)(_call:bG)(fr:aJ)(st:au):aV:=
 qF fr st y
def apS(_call:bG)(_fr:aJ)(_st:au):aV:=
 .no
def bK(call:bG)(o:de)(fr:aJ)(st:au):aV:=
 de.rec (motive:=fun _=>bG->aJ->au->aV) Z6 Z9 zs BQ Pk BR Jk Jl aad Pm apP Pj ZT Po ZR ZQ Jf BS Z4 Z3 zt tq aac Jn aab ZV ZW w0 ZX ZZ ZY Pn ZU apE apL Jj Z1 Pl apM ZP Z7 Z5 ZS apR apG apQ Jg Jh Jm Jo Ji Z8 apH apS o call fr st
inductive cU where
 |out (e:dM) (fr:aJ) (st:au)
 |no
def h7(fr:aJ)(g:am (Tmp×Bool))(yes ig z:β):β:=
 bm g (fun p=>oc (fr.tmp p.1) (fun b=>cond b (cond p.2 yes ig) (cond p.2 ig yes)) (rr (fr.tmp p.1) (fun _=>ig) z)) yes
def de.mh:de->Bool
 |.call _ _|.inv _ _ _|.sk _=>true
 |_=>false
def jh(call:bG)(ops:ac bA):aJ->au->cU:=
 List.rec (motive:=fun _=>aJ->au->cU) (fun fr st=>.out .norm fr st)
  (fun x _ a1 fr st=>
   h7 fr x.g
    (aV.rec (motive:=fun _=>cU) (fun v fr st=>a1 (fr.put x.d v) st) (fun v st=>cond x.o.mh (.out (.a9 v) fr st) .no) .no (bK call x.o fr st))
    (a1 (fr.put x.d undef) st) .no) ops
def sameAt(call:bG)(o:de)(fr:aJ)(v:be)(aj:Nat)(n:Nat):ac (an bt)->Bool:=
 Nat.rec (motive:=fun _=>ac (an bt)->Bool) (fun _=>true)
  (fun _ a1 af=>List.rec (motive:=fun _=>Bool) false
   (fun h af _=>aV.rec (motive:=fun _=>Bool) (fun v' _ _=>cond (dU v v') (a1 af) false) (fun _ _=>false) false (bK call o fr ⟨h,aj⟩)) af) n
def m5(t:an be)(ts:ac Tmp)(k:an be->β):β:=
 List.rec (motive:=fun _=>an be->β) (fun m=>k m) (fun x _ a1 m=>bm (t.get x) (fun v=>an.jl (Nat.succ x) m x v a1) (a1 m)) ts .nil
def qh(fr:aJ)(ts:ac Tmp):aJ:=
 List.rec (motive:=fun _=>aJ->aJ) (fun fr=>fr) (fun t _ a1 fr=>a1 (fr.put (some t) jB)) ts fr
def qx(call:bG)(ms:ac Nat)(n:Nat)(ops:ac (bA×cx)):Nat->ac (an bt)->aJ->au->Bool:=
 List.rec (motive:=fun _=>Nat->ac (an bt)->aJ->au->Bool) (fun _ _ _ _=>true)
  (fun x _ a1 p nK fr st=>
   cond (Nat.testBit (ms.getD p 0) n)
    (cx.rec (motive:=fun _=>Bool) (a1 (Nat.succ p) (st.h::nK) (fr.put x.1.d undef) st) (fun _=>a1 (Nat.succ p) nK (fr.put x.1.d undef) st) (fun _ _=>a1 (Nat.succ p) nK (fr.put x.1.d undef) st) x.2)
    (cx.rec (motive:=fun _=>Bool) false
     (fun ts=>m5 fr.t ts fun t=>h7 ⟨t,[],none,false,none⟩ x.1.g
      (aV.rec (motive:=fun _=>Bool) (fun v _ st'=>a1 (Nat.succ p) nK (fr.put x.1.d v) st') (fun _ _=>false) false (bK call x.1.o ⟨t,[],none,false,none⟩ st))
      (a1 (Nat.succ p) nK (fr.put x.1.d undef) st) false)
     (fun back ts=>m5 fr.t ts fun t=>h7 ⟨t,[],none,false,none⟩ x.1.g
      (aV.rec (motive:=fun _=>Bool) (fun v _ _=>cond (sameAt call x.1.o ⟨t,[],none,false,none⟩ v st.aj (Nat.succ back) nK) (a1 (Nat.succ p) nK (fr.put x.1.d v) st) false) (fun _ _=>false) false (bK call x.1.o ⟨t,[],none,false,none⟩ st))
      (a1 (Nat.succ p) nK (fr.put x.1.d undef) st) false)
     x.2)) ops
abbrev tL:=ac (bA×cx)->ac (an bt)->aJ->au->Bool
def iv(call:bG)(dh:tL)(ops:ac (bA×cx)):ac (an bt)->aJ->au->cU:=
 List.rec (motive:=fun _=>ac (an bt)->aJ->au->cU) (fun _ fr st=>.out .norm fr st)
  (fun x xs a1 nK fr st=>
   cx.rec (motive:=fun _=>cU)
    (h7 fr x.1.g
     (aV.rec (motive:=fun _=>cU) (fun v aA st'=>ey st.aj st'.aj (a1 (st'.h::nK) (aJ.put ⟨fr.t,aA.cW,aA.a9,aA.cD,aA.bR⟩ x.1.d v) st') .no) (fun v st'=>cond x.1.o.mh (cond (dh xs (st.h::nK) (fr.put x.1.d undef) st) (.out (.a9 v) fr st') .no) .no) .no (bK call x.1.o fr st))
     (a1 (st.h::nK) (fr.put x.1.d undef) st) .no)
    (fun ts=>m5 fr.t ts fun t=>h7 ⟨t,[],none,false,none⟩ x.1.g
     (aV.rec (motive:=fun _=>cU) (fun v _ st'=>a1 nK (fr.put x.1.d v) st') (fun _ _=>.no) .no (bK call x.1.o ⟨t,[],none,false,none⟩ st))
     (a1 nK (fr.put x.1.d undef) st) .no)
    (fun back ts=>m5 fr.t ts fun t=>h7 ⟨t,[],none,false,none⟩ x.1.g
     (aV.rec (motive:=fun _=>cU) (fun v _ _=>cond (sameAt call x.1.o ⟨t,[],none,false,none⟩ v st.aj (Nat.succ back) nK) (a1 nK (fr.put x.1.d v) st) .no) (fun _ _=>.no) .no (bK call x.1.o ⟨t,[],none,false,none⟩ st))
     (a1 nK (fr.put x.1.d undef) st) .no)
    x.2) ops
def ua(call:bG)(ms:ac Nat)(len:Nat):tL:=fun xs=>qx call ms (Nat.sub len (Nat.succ (dL xs))) xs (Nat.sub len (dL xs))
def nA(o:am bt)(k:LoopState->am dM->ci->an be->ac Tmp->dw->dw->Nat->β)(z:β):β:=
 bm o (fun o=>bt.rec (motive:=fun _=>β) (fun _ _ _ _=>z) (fun _ _=>z) (fun _ _=>z) (fun _ _ _ _=>z) k (fun _=>z) z o) z
def qi(r:cU)(k:aJ->au->cU):cU:=
 cU.rec (motive:=fun _=>cU) (fun e fr st=>dM.rec (motive:=fun _=>cU) (k fr st) (fun i=>.out (.exit i) fr st) (.out .ret fr st) (fun v=>.out (.a9 v) fr st) e) .no r
def Gk(id:Nat)(r:cU):cU:=
 cU.rec (motive:=fun _=>cU) (fun e fr st=>dM.rec (motive:=fun _=>cU) (.out .norm fr st) (fun i=>eQ i id (.out .norm fr st) (.out (.exit i) fr st)) (.out .ret fr st) (fun v=>.out (.a9 v) fr st) e) .no r
def S7(v:be)(a b:cU):cU:=oc v (fun t=>cond t a b) .no
def Cb(l:Nat)(aA:aJ)(r:eb):cU:=
 eb.rec (motive:=fun _=>cU)
  (fun _ st _=>nA (st.h.get l) (fun s gP ux t ps a b d=>
   LoopState.rec (motive:=fun _=>cU)
    (st.h3 l (.loop .exhausted gP ux t ps a b d) fun st=>bm gP (fun e=>.out e aA st) (.out .norm aA st))
    .no
    (st.h3 l (.loop .exhausted gP ux t ps a b d) fun st=>bm gP (fun e=>.out e aA st) (.out .norm aA st))
    .no s) .no)
  (fun v st _=>.out (.a9 v) aA st) .no r
def Dr(call:bG)(fn:ci)(f:bi)(params:ac Tmp)(assign body:dw)(fr:aJ)(st:au):cU:=
 bm fr.bR (fun _=>.no)
  (st.j1 (.jJ (some [])) fun r st=>
   st.j1 (.loop .ready none fn fr.t params assign body r) fun l st=>
   Cb l ⟨fr.t,{target:=.collected r,args:= #[]}::fr.cW,fr.a9,fr.cD,fr.bR⟩ (call (fr.ai f) [.func (.yield l) #[] #[]] none st))
def dA(call:bG)(cc:Nat)(fn:ci)(c:dw):aJ->au->cU:=
 dw.rec (motive:=fun _=>aJ->au->cU)
  (fun fr st=>.out .norm fr st)
  (fun ops=>jh call ops)
  (fun ops _ ek ms fr st=>iv call (ua call ms (dL ops)) ops [st.h] (qh fr ek) st)
  (fun _ _ x8 kC fr st=>qi (x8 fr st) kC)
  (fun c _ _ x8 kC fr st=>S7 (fr.ai c) (x8 fr st) (kC fr st))
  (fun id _ e fr st=>Gk id (e fr st))
  (fun _ e fr st=>
   Nat.rec (motive:=fun _=>aJ->au->cU) (fun _ _=>.no)
    (fun _ a1 fr st=>qi (e fr st) a1) cc fr st)
  (fun f params assign body _ _=>Dr call fn f params assign body)
  (fun id fr st=>.out (.exit id) fr st)
  (fun _ e=>e)
  (fun fr st=>.out .ret fr st)
  (fun _ _=>.no) c
def oi(vs:ac be):Nat->an be->an be:=
 List.rec (motive:=fun _=>Nat->an be->an be) (fun _ t=>t) (fun v _ a1 i t=>an.jl (Nat.succ i) t i v fun t=>a1 (Nat.succ i) t) vs
def oR(ts:ac Tmp):ac be->an be->an be:=
 List.rec (motive:=fun _=>ac be->an be->an be) (fun _ m=>m)
  (fun t _ a1 vs m=>List.rec (motive:=fun _=>an be) m (fun v vs _=>an.jl (Nat.succ t) m t v fun m=>a1 vs m) vs) ts
def rN(fr:aJ)(st:au)(rs:ac jq):am (ac be):=
 List.rec (motive:=fun _=>am (ac be)) (some [])
  (fun r _ a1=>bm a1 (fun vs=>
   jq.rec (motive:=fun _=>am (ac be)) (fun t=>some (fr.tmp t::vs))
    (fun a agg n=>jD (fr.tmp a) (fun p=>bm p (fun ad=>st.load ad n (fun cs=>cond agg (some (.agg ⟨cs⟩::vs)) (one cs (fun v=>some (v::vs)) none)) none) none) none) r) none) rs
def kt(call:bG):ac Deferred->am be->au->am (am be×au)
 |[],m,st=>some (m,st)
 |{target:=.collected r,.. }::ds,m,st=>
  match st.h.get r with
  |some (.jJ (some []))=>st.h3 r (.jJ none) fun st=>kt call ds m st
  |_=>none
 |{target:=.fn (.func g) fK,args}::ds,m,st=>
  match call (.func (.func g) #[] fK) args.toList m st with
  |.ret _ st e7=>
   match m,e7 with
   |some _,true=>kt call ds none st
   |_,_=>kt call ds m st
  |.a9 v st _=>
   match m with
   |none=>kt call ds (some v) st
   |some _=>none
  |.no=>none
 |_::_,_,_=>none
abbrev qn:=ci->ac be->au->am eb
def lx(call:bG)(res:ac jq)(m:am be)(fr:aJ)(st:au):eb:=
 bm (kt call fr.cW m st)
  (fun p=>bm p.1 (fun v=>.a9 v p.2 fr.cD)
   (bm (rN fr p.2 res) (fun vs=>one vs (fun v=>.ret v p.2 fr.cD) (.ret (.tuple ⟨vs⟩) p.2 fr.cD)) .no)) .no
def mJ(call:bG)(n:Nat)(f:ci)(xf:dy)(as:ac be)(a9:am be)(st:au):eb:=
 ey (dL as) xf.aP
  (cU.rec (motive:=fun _=>eb)
   (fun e fr st=>dM.rec (motive:=fun _=>eb) (lx call xf.res none fr st) (fun _=>.no) (lx call xf.res none fr st) (fun v=>lx call xf.res (some v) fr st) e)
   .no (dA call n f xf.body ⟨oi as 0 .nil,[],a9,false,none⟩ st)) .no
def rj(l:Nat)(r:cU):eb:=
 cU.rec (motive:=fun _=>eb)
  (fun e fr st=>
   List.rec (motive:=fun _=>eb)
    (dM.rec (motive:=fun _=>eb)
     (nA (st.h.get l) (fun _ _ fn t ps a b d=>st.h3 l (.loop .ready none fn t ps a b d) fun st=>.ret (.bool true) st false) .no)
     (fun i=>nA (st.h.get l) (fun _ _ fn t ps a b d=>st.h3 l (.loop .done (some (.exit i)) fn t ps a b d) fun st=>.ret (.bool false) st false) .no)
     (nA (st.h.get l) (fun _ _ fn t ps a b d=>st.h3 l (.loop .done (some .ret) fn t ps a b d) fun st=>.ret (.bool false) st false) .no)
     (fun v=>.a9 v st false) e)
    (fun _ _ _=>.no) fr.cW)
  .no r
def Cc(call:bG)(n:Nat)(l:Nat)(f:ci)(body:dw)(fr:aJ)(st:au):eb:=
 nA (st.h.get l) (fun s gP fn t ps a b d=>
  LoopState.rec (motive:=fun _=>eb)
   (st.h3 l (.loop .busy gP fn t ps a b d) fun st=>rj l (dA call n f body fr st))
   .no .no .no s) .no
def z3(call:bG)(n:Nat)(l:Nat)(args:ac be)(st:au):eb:=
 nA (st.h.get l) (fun _ _ fn t ps dr body _=>
  eQ (dL args) (dL ps)
   (cU.rec (motive:=fun _=>eb)
    (fun e fr st=>dM.rec (motive:=fun _=>eb) (Cc call n l fn body fr st) (fun _=>.no) .no (fun _=>.no) e) .no
    (dA call n fn dr ⟨oR ps args t,[],none,false,some l⟩ st)) .no) .no
def cG(bn:an dy)(hT:qn)(fuel:Nat):bG:=
 Nat.rec (motive:=fun _=>bG) (fun _ _ _ _=>.no)
  (fun n a1 lY args a9 st=>
   Cr lY (fun fn first fK=>
    Fn.rec (motive:=fun _=>eb)
     (fun f=>(fun as=>bm a9 (fun _=>bm (bn.get f) (fun xf=>mJ a1 n f xf as a9 st) .no) (bm (hT f as st) (fun r=>r) (bm (bn.get f) (fun xf=>mJ a1 n f xf as a9 st) .no))) (gJ first.toList (gJ args fK.toList)))
     (fun _=>.no) (fun _ _=>.no) (fun _ _ _ _=>.no)
     (fun l=>List.rec (motive:=fun _=>eb) (List.rec (motive:=fun _=>eb) (bm a9 (fun _=>.no) (z3 a1 n l args st)) (fun _ _ _=>.no) fK.toList) (fun _ _ _=>.no) first.toList)
     fn) .no) fuel
end Go.ah
namespace Go.ah
namespace an
variable{α β:Type}
@[simp] theorem get_nil (n:Nat):(an.nil:an α).get n=none:=rfl
def yj(l r:an α)(v:am α):(an.node l v r).get 0=v:=rfl
def IS{β:Sort _}(m:Nat)(a b:β):Nat.rec (motive:=fun _=>β) a (fun _ _=>b) (Nat.mod m 2)=if m%2=0 then a else b:=by
 show Nat.rec (motive:=fun _=>β) a (fun _ _=>b) (m%2)=_;rcases zdB m with h|h
 ·rw[h];rfl
 ·rw[h];rfl
def qH(l r:an α)(v:am α)(m:Nat):(an.node l v r).get (m+1)=if m%2=0 then l.get (m/2)else r.get (m/2):=
 IS m (l.get (m/2)) (r.get (m/2))
def arW(f:Nat)(x:α)(k:an α->β):jl (f+1) .nil 0 x k=k (.node .nil (some x) .nil):=rfl
def Kl(f m:Nat)(x:α)(k:an α->β):jl (f+1) .nil (m+1) x k=if m%2=0 then jl f .nil (m/2) x (fun l'=>k (.node l' none .nil))else jl f .nil (m/2) x (fun ee=>k (.node .nil none ee)):=IS m _ _
def arX(f:Nat)(l r:an α)(v:am α)(x:α)(k:an α->β):jl (f+1) (.node l v r) 0 x k=k (.node l (some x) r):=rfl
def Km(f m:Nat)(l r:an α)(v:am α)(x:α)(k:an α->β):jl (f+1) (.node l v r) (m+1) x k=if m%2=0 then jl f l (m/2) x (fun l'=>k (.node l' v r))else jl f r (m/2) x (fun ee=>k (.node l v ee)):=IS m _ _
theorem nI{α:Type}:∀(f:Nat) (β:Type) (t:an α) (n:Nat) (x:α) (k:an α->β),jl f t n x k=k (jl f t n x id)
 |0,_,_,_,_,_=>rfl
 |f+1,β,t,n,x,k=>by
  cases t with
  |nil=>
   cases n with
   |zero=>rfl
   |succ m=>
    rw[Kl,Kl];split
    ·rw[nI f _ .nil (m/2) x (fun l'=>k (an.node l' none an.nil)),nI f _ .nil (m/2) x (fun l'=>id (an.node l' none an.nil))];rfl
    ·rw[nI f _ .nil (m/2) x (fun ee=>k (an.node an.nil none ee)),nI f _ .nil (m/2) x (fun ee=>id (an.node an.nil none ee))];rfl
  |node l v r=>
   cases n with
   |zero=>rfl
   |succ m=>
    rw[Km,Km];split
    ·rw[nI f _ l (m/2) x (fun l'=>k (an.node l' v r)),nI f _ l (m/2) x (fun l'=>id (an.node l' v r))];rfl
    ·rw[nI f _ r (m/2) x (fun ee=>k (an.node l v ee)),nI f _ r (m/2) x (fun ee=>id (an.node l v ee))];rfl
def zM(t:an α)(n:Nat)(x:α)(k:an α->β):jl (Nat.succ n) t n x k=k (t.set n x):=nI _ _ t n x k
def ao7(v:am α)(r l:an α):Zp v r l= .node l v r:=by cases l<;>rfl
def ao8(v:am α)(l r:an α):Zq l v r= .node l v r:=by cases r<;>rfl
def uw(t:an α)(k:an α->β):fin t k=k t:=by cases t<;>rfl
def aaE(a1:an α->Nat->α->an α)(l r:an α)(v:am α)(m:Nat)(x:α):
 JC a1 l v r m x=if m%2=0 then .node (a1 l (m/2) x) v r else .node l v (a1 r (m/2) x):=by
 rw[<-ao7,<-ao8];exact IS m _ _
theorem JD:∀(f:Nat) (t:an α) (n:Nat) (x:α),ld f t n x=jl f t n x id
 |0,_,_,_=>rfl
 |f+1,t,n,x=>by
  cases t with
  |nil=>
   cases n with
   |zero=>rfl
   |succ m=>
    rw[Kl];show JC (ld f) .nil none .nil m x=_;rw[aaE,JD f];split
    ·rw[nI f _ .nil (m/2) x (fun l'=>id (an.node l' none an.nil))];rfl
    ·rw[nI f _ .nil (m/2) x (fun ee=>id (an.node an.nil none ee))];rfl
  |node l v r=>
   cases n with
   |zero=>rfl
   |succ m=>
    rw[Km];show JC (ld f) l v r m x=_;rw[aaE,JD f,JD f];split
    ·rw[nI f _ l (m/2) x (fun l'=>id (an.node l' v r))];rfl
    ·rw[nI f _ r (m/2) x (fun ee=>id (an.node l v ee))];rfl
def w7(t:an α)(n:Nat)(x:α):ld (Nat.succ n) t n x=t.set n x:=JD _ t n x
theorem Ho:∀(f:Nat) (t:an α) (n:Nat) (x:α) (j:Nat),n<f->(jl f t n x id).get j=if j=n then some x else t.get j
 |0,_,_,_,_,h=>by omega
 |f+1,t,n,x,j,h=>by
  cases t with
  |nil=>
   cases n with
   |zero=>
    cases j with
    |zero=>rfl
    |succ j=>rw[arW];show(an.node .nil (some x) .nil:an α).get (j+1)=_;rw[qH];simp
   |succ m=>
    have a1:=fun i=>Ho f (.nil:an α) (m/2) x i (by omega);rw[Kl];split
    ·rename_i hm;rw[nI f _ .nil (m/2) x (fun l'=>id (an.node l' none an.nil))];show(an.node _ none .nil:an α).get j=_;cases j with
     |zero=>rw[yj];simp
     |succ j=>
      rw[qH];by_cases hj:j%2=0
      ·rw[zab hj,a1];by_cases e:j=m
       ·subst e;simp
       ·rw[zaa (by omega),zaa (by omega)];simp
      ·rw[zaa hj,zaa (by omega)];simp
    ·rename_i hm;rw[nI f _ .nil (m/2) x (fun ee=>id (an.node an.nil none ee))];show(an.node .nil none _:an α).get j=_;cases j with
     |zero=>rw[yj];simp
     |succ j=>
      rw[qH];by_cases hj:j%2=0
      ·rw[zab hj,zaa (by omega)];simp
      ·rw[zaa hj,a1];by_cases e:j=m
       ·subst e;simp
       ·rw[zaa (by omega),zaa (by omega)];simp
  |node l v r=>
   cases n with
   |zero=>
    cases j with
    |zero=>rfl
    |succ j=>rw[arX];show(an.node l (some x) r:an α).get (j+1)=_;rw[qH,qH,zaa (by omega:¬(j+1=0))]
   |succ m=>
    rw[Km];split
    ·rename_i hm;have a1:=fun i=>Ho f l (m/2) x i (by omega);rw[nI f _ l (m/2) x (fun l'=>id (an.node l' v r))];show(an.node _ v r:an α).get j=_;cases j with
     |zero=>rw[yj,zaa (by omega)];rfl
     |succ j=>
      rw[qH,qH];by_cases hj:j%2=0
      ·rw[zab hj,zab hj,a1];by_cases e:j=m
       ·subst e;simp
       ·rw[zaa (by omega),zaa (by omega)]
      ·rw[zaa hj,zaa hj,zaa (by omega)]
    ·rename_i hm;have a1:=fun i=>Ho f r (m/2) x i (by omega);rw[nI f _ r (m/2) x (fun ee=>id (an.node l v ee))];show(an.node l v _:an α).get j=_;cases j with
     |zero=>rw[yj,zaa (by omega)];rfl
     |succ j=>
      rw[qH,qH];by_cases hj:j%2=0
      ·rw[zab hj,zab hj,zaa (by omega)]
      ·rw[zaa hj,zaa hj,a1];by_cases e:j=m
       ·subst e;simp
       ·rw[zaa (by omega),zaa (by omega)]
def e8(t:an α)(n:Nat)(x:α)(j:Nat):(t.set n x).get j=if j=n then some x else t.get j:=
 Ho (n+1) t n x j (by omega)
@[simp] theorem uz (t:an α) (n:Nat) (x:α):(t.set n x).get n=some x:=by rw[e8,zab rfl]
def ji(t:an α){n j:Nat}(x:α)(h:j≠n):(t.set n x).get j=t.get j:=by rw[e8,zaa h]
end an
def PJ(fr:aJ)(d:Tmp)(v:be):fr.put (some d) v=⟨fr.t.set d v,fr.cW,fr.a9,fr.cD,fr.bR⟩:=by
 show aJ.Y4 (an.ld (Nat.succ d) fr.t d v) fr.cW fr.a9 fr.cD fr.bR=_;rw[an.w7];cases fr.t.set d v<;>rfl
def sy(fr:aJ)(d:am Tmp)(v:be)(j:Nat):(fr.put d v).tmp j=if d=some j then v else fr.tmp j:=by
 cases d with
 |none=>simp[aJ.put]
 |some d=>
  rw[PJ];simp only[aJ.tmp,an.e8,Option.some.injEq];by_cases h:j=d
  ·subst h;simp
  ·rw[zaa h,zaa (fun e=>h e.symm)]
def vt(fr:aJ)(d:am Tmp)(v:be):(fr.put d v).cW=fr.cW∧(fr.put d v).a9=fr.a9∧(fr.put d v).cD=fr.cD∧(fr.put d v).bR=fr.bR:=by
 cases d with
 |none=>simp[aJ.put]
 |some d=>rw[PJ];exact⟨rfl,rfl,rfl,rfl⟩
structure Loc where
 cJ:Nat
 cQ:Nat
 ex:Nat
 ch:Nat->Nat
def js:Nat->Nat:=fun _=>0
def N1:(id:Nat->Nat)≠js:=fun h=>by have:=congrFun h 1;simp[js]at this
abbrev bx:=Nat->am Loc
def bx.le(ι aR:bx):Prop:=∀i l,ι i=some l->aR i=some l
def bx.le.refl(ι:bx):ι.le ι:=fun _ _ h=>h
def bx.le.trans{ι aR fF:bx}(h:ι.le aR)(aC:aR.le fF):ι.le fF:=fun i l aa=>aC i l (h i l aa)
def z9(ι:bx)(f g:Fn):Prop:=(f=g∧∀l,f≠.yield l)∨∃l b,f= .yield l∧g= .yield b∧ι l=some ⟨b,0,0,id⟩
def adv(c:Nat)(m:Int):Prop:=c=1∨(∃k:Nat,c=2*k+2∧(k:Int)<=m)∨∃k:Nat,c=2*k+3∧m<k
inductive bq(ι:bx):Value->Value->Prop
 |bool (b:Bool):bq ι (.bool b) (.bool b)
 |int (k:IntKind) (n:Int):bq ι (.int k n) (.int k n)
 |float (k:FloatKind) (b:Nat):bq ι (.float k b) (.float k b)
 |string (s:ByteArray):bq ι (.string s) (.string s)
 |oQ:bq ι (.pointer none) (.pointer none)
 |ptr (a:Addr) (l:Loc) (h:ι a.block=some l) (af:a.spot=none):bq ι (.pointer (some a)) (.pointer (some ⟨l.cJ,l.cQ+a.off,none⟩))
 |oW (n c:Nat):bq ι (.slice none n c) (.slice none n c)
 |hv (a:Addr) (l:Loc) (o n c:Nat) (h:ι a.block=some l) (af:a.spot=none) (ak:o=l.cQ+a.off∨(n=0∧c=0∧l.ex=0)):
  bq ι (.slice (some a) n c) (.slice (some ⟨l.cJ,o,none⟩) n (c+l.ex))
 |qZ:bq ι (.map none) (.map none)
 |map (r b:Nat) (ch:Nat->Nat) (h:ι r=some ⟨b,0,0,ch⟩):bq ι (.map (some r)) (.map (some b))
 |func (f g:Fn) (xs al us vs:Array Value) (U:z9 ι f g) (h1:xs.size=al.size) (h2:∀i (h:i<xs.size) (aC:i<al.size),bq ι xs[i] al[i])
  (ab:us.size=vs.size) (aD:∀i (h:i<us.size) (aC:i<vs.size),bq ι us[i] vs[i]):bq ι (.func f xs us) (.func g al vs)
 |nilFunc:bq ι .nilFunc .nilFunc
 |iface (t:TypeId) (v w:Value) (h:bq ι v w):bq ι (.iface t v) (.iface t w)
 |nilIface:bq ι .nilIface .nilIface
 |agg (xs al:Array Value) (h1:xs.size=al.size) (h2:∀i (h:i<xs.size) (aC:i<al.size),bq ι xs[i] al[i]):bq ι (.agg xs) (.agg al)
 |tuple (xs al:Array Value) (h1:xs.size=al.size) (h2:∀i (h:i<xs.size) (aC:i<al.size),bq ι xs[i] al[i]):bq ι (.tuple xs) (.tuple al)
 |ks (c:Nat) (m:Int) (h:adv c m):bq ι (.chan (some c)) (.int .i64 m)
 |emp (p:Addr) (c:Nat):bq ι (.chan none) (.slice (some p) 0 c)
 |top (c:Value):bq ι jB c
variable{ι aR:bx}
def z9.mono(hle:ι.le aR){f g:Fn}(h:z9 ι f g):z9 aR f g:=by
 rcases h with h|⟨l,b,h1,h2,ab⟩
 ·exact .inl h
 ·exact .inr ⟨l,b,h1,h2,hle _ _ ab⟩
def bq.mono(hle:ι.le aR){v w:be}(h:bq ι v w):bq aR v w:=by
 induction h with
 |bool b=>exact .bool b
 |int k n=>exact .int k n
 |float k n=>exact .float k n
 |string s=>exact .string s
 |oQ=>exact .oQ
 |ptr a l h af=>exact .ptr a l (hle _ _ h) af
 |oW n c=>exact .oW n c
 |hv a l o n c h af ak=>exact .hv a l o n c (hle _ _ h) af ak
 |qZ=>exact .qZ
 |map r b ch h=>exact .map r b ch (hle _ _ h)
 |func f g xs al us vs U h1 _ ab _ oH y1=>exact .func f g xs al us vs (U.mono hle) h1 oH ab y1
 |nilFunc=>exact .nilFunc
 |iface t v w _ a1=>exact .iface t v w a1
 |nilIface=>exact .nilIface
 |agg xs al h1 _ a1=>exact .agg xs al h1 a1
 |tuple xs al h1 _ a1=>exact .tuple xs al h1 a1
 |ks c m h=>exact .ks c m h
 |emp p c=>exact .emp p c
 |top c=>exact .top c
def bI(ι:bx)(xs al:ac be):Prop:=xs.length=al.length∧∀(i:Nat) (h:i<xs.length) (aC:i<al.length),bq ι xs[i] al[i]
variable{xs al:ap be}
def bI.mono(hle:ι.le aR){xs al:ac be}(h:bI ι xs al):bI aR xs al:=⟨h.1,fun i a b=>(h.2 i a b).mono hle⟩
def bI.nil(ι:bx):bI ι [] []:=⟨rfl,fun i h=>by simp at h⟩
def bI.cons{ι:bx}{x y:be}{xs al:ac be}(h:bq ι x y)(af:bI ι xs al):bI ι (x::xs) (y::al):=by
 refine⟨by simp[af.1],fun i a b=> ?_⟩;cases i with
 |zero=>exact h
 |succ i=>exact af.2 i (by simpa using a) (by simpa using b)
def bI.cons_inv{x:be}{xs al:ac be}(h:bI ι (x::xs) al):∃y jR,al=y::jR∧bq ι x y∧bI ι xs jR:=by
 cases al with
 |nil=>have:=h.1;simp at this
 |cons y jR=>
  refine⟨y,jR,rfl,h.2 0 (by simp) (by simp),by simpa using h.1,fun i a b=> ?_⟩;exact h.2 (i+1) (by simpa using a) (by simpa using b)
def bI.wR{al:ac be}(h:bI ι [] al):al=[]:=by
 cases al with
 |nil=>rfl
 |cons y al=>have:=h.1;simp at this
def bI.append:∀{xs al us vs:ac be},bI ι xs al->bI ι us vs->bI ι (xs++us) (al++vs)
 |[],al,us,vs,h,aC=>by rw[h.wR];simpa using aC
 |x::xs,al,us,vs,h,aC=>by
  obtain⟨y,jR,rfl,h1,h2⟩:=h.cons_inv;simpa using bI.cons h1 (h2.append aC)
def bI.drop:∀(n:Nat) {xs al:ac be},bI ι xs al->bI ι (xs.drop n) (al.drop n)
 |0,_,_,h=>by simpa using h
 |n+1,[],al,h=>by rw[h.wR];simpa using bI.nil ι
 |n+1,x::xs,al,h=>by
  obtain⟨y,jR,rfl,_,h2⟩:=h.cons_inv;simpa using h2.drop n
def bI.take:∀(n:Nat) {xs al:ac be},bI ι xs al->bI ι (xs.take n) (al.take n)
 |0,_,_,_=>by simpa using bI.nil ι
 |n+1,[],al,h=>by rw[h.wR];simpa using bI.nil ι
 |n+1,x::xs,al,h=>by
  obtain⟨y,jR,rfl,h1,h2⟩:=h.cons_inv;simpa using bI.cons h1 (h2.take n)
def bq.BO(h:bI ι xs.toList al.toList):bq ι (.agg xs) (.agg al):=
 .agg xs al (by simpa using h.1) fun i a b=>by have:=h.2 i (by simpa using a) (by simpa using b);rwa [zaO,zaO]at this
def bq.sh(h:bI ι xs.toList al.toList):bq ι (.tuple xs) (.tuple al):=
 .tuple xs al (by simpa using h.1) fun i a b=>by have:=h.2 i (by simpa using a) (by simpa using b);rwa [zaO,zaO]at this
def bI.wW(h1:xs.size=al.size)(h2:∀i (h:i<xs.size) (aC:i<al.size),bq ι xs[i] al[i]):bI ι xs.toList al.toList:=
 ⟨by simpa using h1,fun i a b=>by have:=h2 i (by simpa using a) (by simpa using b);rwa [<-zaO,<-zaO]at this⟩
def bq.Jb{f g:Fn}{us vs:ap be}(U:z9 ι f g)(h:bI ι xs.toList al.toList)(aC:bI ι us.toList vs.toList):bq ι (.func f xs us) (.func g al vs):=
 .func f g xs al us vs U (by simpa using h.1) (fun i a b=>by have:=h.2 i (by simpa using a) (by simpa using b);rwa [zaO,zaO]at this) (by simpa using aC.1) (fun i a b=>by have:=aC.2 i (by simpa using a) (by simpa using b);rwa [zaO,zaO]at this)
def bI.cells{v w:be}(h:bq ι v w)(hp:v≠jB):bI ι v.cells.toList w.cells.toList:=by
 cases h<;>first
  |exact absurd rfl hp
  |(rename_i xs al h1 h2;exact bI.wW h1 h2)
  |(simp only[Value.cells];refine bI.cons ?_ (bI.nil ι);constructor<;>assumption)
end Go.ah
namespace Go.ah
section
variable{α β:Type}{r z:β}
variable{v:be}{x:β}{k:α->β}{a b:Nat}{l:ac α}{n:Nat}{st:au}{o:am α}
def rp{k:am Addr->β}(h:jD v k z=r)(av:z≠r):∃p,v= .pointer p∧k p=r:=by
 cases v<;>first|exact absurd h av|exact⟨_,rfl,h⟩
def j7{k:d8->Int->β}(h:g2 v k z=r)(av:z≠r):∃a n,v= .int a n∧k a n=r:=by
 cases v<;>first|exact absurd h av|exact⟨_,_,rfl,h⟩
def Rd{k:Bool->β}(h:oc v k z=r)(av:z≠r):∃b,v= .bool b∧k b=r:=by
 cases v<;>first|exact absurd h av|exact⟨_,rfl,h⟩
def ql{k:f6->β}(h:jE v k z=r)(av:z≠r):∃s,v= .string s∧k s=r:=by
 cases v<;>first|exact absurd h av|exact⟨_,rfl,h⟩
def xy{k:am Addr->Nat->Nat->β}(h:j8 v k z=r)(av:z≠r):∃a n c,v= .slice a n c∧k a n c=r:=by
 cases v<;>first|exact absurd h av|exact⟨_,_,_,rfl,h⟩
def zV{k:ap be->β}(h:vE v k z=r)(av:z≠r):∃a,v= .agg a∧k a=r:=by
 cases v<;>first|exact absurd h av|exact⟨_,rfl,h⟩
def adx{k:ap be->β}(h:rr v k z=r)(av:z≠r):∃a,v= .tuple a∧k a=r:=by
 cases v<;>first|exact absurd h av|exact⟨_,rfl,h⟩
def Re{k:Fn->ap be->ap be->β}(h:Cr v k z=r)(av:z≠r):∃f a b,v= .func f a b∧k f a b=r:=by
 cases v<;>first|exact absurd h av|exact⟨_,_,_,rfl,h⟩
def Rf{k:ce->be->β}(h:zW v k z=r)(av:z≠r):∃t x,v= .iface t x∧k t x=r:=by
 cases v<;>first|exact absurd h av|exact⟨_,_,rfl,h⟩
def gO(h:bm o k z=r)(av:z≠r):∃a,o=some a∧k a=r:=by
 cases o<;>first|exact absurd h av|exact⟨_,rfl,h⟩
def ES(h:bm o k z=r)(hk:∀a,k a≠r):o=none∧z=r:=by
 cases o<;>first|exact⟨rfl,h⟩|exact absurd h (hk _)
def nB{n:Int}{k:Nat->β}(h:ie n k z=r)(av:z≠r):∃m:Nat,n=(m:Int)∧k m=r:=by
 cases n with
 |ofNat m=>exact⟨m,rfl,h⟩
 |negSucc m=>exact absurd h av
def qt:Nat.ble a b=true↔a<=b:=by simp
def p7(a b:Nat)(x y:β):ey a b x y=if a<=b then x else y:=by
 unfold ey;by_cases h:a<=b
 ·rw[zab h,qt.2 h];rfl
 ·rw[zaa h];have:Nat.ble a b=false:=by rw[zbV];intro hh;exact h (qt.1 hh)
  rw[this];rfl
def pN(a b:Nat)(x y:β):eQ a b x y=if a=b then x else y:=by
 unfold eQ;by_cases h:a=b
 ·rw[zab h,h,zaN];rfl
 ·rw[zaa h];have:Nat.beq a b=false:=by rw[zbV];intro hh;exact h (eo hh)
  rw[this];rfl
def jZ(h:ey a b x z=r)(av:z≠r):a<=b∧x=r:=by
 rw[p7]at h;split at h
 ·exact⟨by assumption,h⟩
 ·exact absurd h av
def mN(h:eQ a b x z=r)(av:z≠r):a=b∧x=r:=by
 rw[pN]at h;split at h
 ·exact⟨by assumption,h⟩
 ·exact absurd h av
def jI{b:Bool}(h:cond b x z=r)(av:z≠r):b=true∧x=r:=by
 cases b
 ·exact absurd h av
 ·exact⟨rfl,h⟩
def BF{b:Bool}(h:cond b z x=r)(av:z≠r):b=false∧x=r:=by
 cases b
 ·exact⟨rfl,h⟩
 ·exact absurd h av
@[simp] theorem fC:∀l:ac α,dL l=l.length
 |[]=>rfl
 |x::xs=>by show Nat.succ (dL xs)=_;rw[fC xs];rfl
@[simp] theorem rF (m:ac α):∀l:ac α,gJ l m=l++m
 |[]=>rfl
 |x::xs=>by show x::gJ xs m=_;rw[rF m xs];rfl
@[simp] theorem Dg:∀(n:Nat) (l:ac α),GY n l=l.drop n
 |0,l=>rfl
 |n+1,[]=>rfl
 |n+1,x::xs=>by show GY n xs=_;rw[Dg n xs];rfl
theorem FJ:∀(n:Nat) (l:ac α),Kx n l=if n<=l.length then some (l.take n)else none
 |0,l=>by rw[zab (zac _)];rfl
 |n+1,[]=>rfl
 |n+1,x::xs=>by
  show Option.rec (motive:=fun _=>am (ac α)) none (fun r=>some (x::r)) (Kx n xs)=_;rw[FJ n xs];by_cases h:n<=xs.length
  ·rw[zab h,zab (by simpa using h)];rfl
  ·rw[zaa h,zaa (by simpa using h)]
def BP(h:one l k z=r)(av:z≠r):∃x,l=[x]∧k x=r:=by
 cases l with
 |nil=>exact absurd h av
 |cons x xs=>
  cases xs with
  |nil=>exact⟨x,rfl,h⟩
  |cons y al=>exact absurd h av
def vZ{off:Nat}{k:ac α->β}(h:iE l off n k z=r)(av:z≠r):n<=(l.drop off).length∧k ((l.drop off).take n)=r:=by
 unfold iE at h;rw[Dg,FJ]at h;split at h
 ·exact⟨by assumption,h⟩
 ·exact absurd h av
theorem sl:∀(l:ac α) (n:Nat) (vs:ac α) (k:ac α->β) (z:β),
 ra l n vs k z=if n+vs.length<=l.length then k (l.take n++(vs++l.drop (n+vs.length)))else if vs=[]then k l else z
 |[],n,[],k,z=>by
  by_cases h:n=0
  ·subst h;rfl
  ·rw[zaa (by simpa using h),zab rfl];rfl
 |[],n,v::vs,k,z=>by rw[zaa (by simp),zaa (by simp)];rfl
 |y::al,0,[],k,z=>by rw[zab (by simp)];rfl
 |y::al,0,v::vs,k,z=>by
  show ra al 0 vs (fun l'=>k (v::l')) z=_;rw[sl al 0 vs];by_cases h:vs.length<=al.length
  ·have h1:0+vs.length<=al.length:=by omega
   have h2:0+(v::vs).length<=(y::al).length:=by simp only[zax];omega
   rw[zab h1,zab h2];simp
  ·have h1:¬0+vs.length<=al.length:=by omega
   have h2:¬0+(v::vs).length<=(y::al).length:=by simp only[zax];omega
   have ab:vs≠[]:=by intro e;subst e;simp at h
   rw[zaa h1,zaa h2,zaa ab,zaa (by simp)]
 |y::al,n+1,vs,k,z=>by
  show ra al n vs (fun l'=>k (y::l')) z=_;rw[sl al n vs];by_cases h:n+vs.length<=al.length
  ·have h2:n+1+vs.length<=(y::al).length:=by simp only[zax];omega
   rw[zab h,zab h2];rw[show n+1+vs.length=(n+vs.length)+1 by omega];simp
  ·have h2:¬n+1+vs.length<=(y::al).length:=by simp only[zax];omega
   rw[zaa h,zaa h2]
def PK{vs:ac α}{k:ac α->β}(h:ra l n vs k z=r)(av:z≠r):
 (n+vs.length<=l.length∧k (l.take n++(vs++l.drop (n+vs.length)))=r)∨(vs=[]∧k l=r):=by
 rw[sl]at h;split at h
 ·exact .inl ⟨by assumption,h⟩
 ·split at h
  ·exact .inr ⟨by assumption,h⟩
  ·exact absurd h av
def vV{a:Addr}{k:ac be->ce->Nat×Nat->Bool->β}(h:st.hz a k z=r)(av:z≠r):
 a.spot=none∧∃cs elem bk a3,st.h.get a.block=some (.cells cs elem bk a3)∧k cs elem bk a3=r:=by
 unfold au.hz at h;obtain⟨h1,h2⟩:=ES h (fun _=>av);refine⟨h1,?_⟩;unfold xQ at h2;obtain⟨o,ak,ab⟩:=gO h2 av;cases o<;>first|exact absurd ab av|exact⟨_,_,_,_,ak,ab⟩
def Bu{a:Addr}{k:ac be->β}(h:st.load a n k z=r)(av:z≠r):
 a.spot=none∧∃cs elem bk a3,st.h.get a.block=some (.cells cs elem bk a3)∧n<=(cs.drop a.off).length∧k ((cs.drop a.off).take n)=r:=by
 obtain⟨h1,cs,e,bk,a3,h2,ab⟩:=vV h av;obtain⟨aD,bg⟩:=vZ ab av;exact⟨h1,cs,e,bk,a3,h2,aD,bg⟩
def lk(st:au)(id:Nat)(o:bt)(k:au->β):st.h3 id o k=k ⟨st.h.set id o,st.aj⟩:=by
 unfold au.h3;rw[an.w7,an.uw]
def AV(n:Nat)(k:Nat->β):g4 n k=k n:=by unfold g4;rw[zaN];rfl
def g8(st:au)(o:bt)(k:Nat->au->β):st.j1 o k=k st.aj ⟨st.h.set st.aj o,st.aj+1⟩:=by
 unfold au.j1;rw[AV,an.w7,an.uw]
def ah2(n:Int)(k:Int->β):Uh n k=k n:=by
 cases n with
 |ofNat m=>exact AV m (fun m=>k (.ofNat m))
 |negSucc m=>exact AV m (fun m=>k (.negSucc m))
def iZ(a:d8)(n:Int)(c:be->β):iL a n c=c (.int a n):=ah2 _ _
def acJ{a:Addr}{vs:ac be}{k:au->β}(h:st.store a vs k z=r)(av:z≠r):
 a.spot=none∧∃cs elem bk a3,st.h.get a.block=some (.cells cs elem bk a3)∧bk.2<=bk.1∧
  ((a.off+vs.length<=cs.length∧k ⟨st.h.set a.block (.cells (cs.take a.off++(vs++cs.drop (a.off+vs.length))) elem bk a3),st.aj⟩=r)∨
   (vs=[]∧k ⟨st.h.set a.block (.cells cs elem bk a3),st.aj⟩=r)):=by
 obtain⟨h1,cs,e,bk,a3,h2,ab⟩:=vV h av;obtain⟨aD,bg⟩:=jZ ab av;refine⟨h1,cs,e,bk,a3,h2,aD,?_⟩;rcases PK bg av with⟨ha,hb⟩|⟨ha,hb⟩
 ·left;refine⟨ha,?_⟩;rw[lk]at hb;exact hb
 ·right;refine⟨ha,?_⟩;rw[lk]at hb;exact hb
end
structure tK(P:f5)(ι:bx)(w:d7)(cs:ac be)(elem:ce)(bk:Nat×Nat)(a3:Bool)(l:Loc)(C:ap be)(fk:Nat×Nat):Prop where
 there:w.heap[l.cJ]? =some (.cells C elem fk)
 room:l.cQ+cs.length+l.ex*P.cellsOf elem<=C.size
 cell:∀(i:Nat) (h:i<cs.length),∃c,C[l.cQ+i]? =some c∧bq ι cs[i] c
 Cx:bk.2<=bk.1->∀i,l.cQ<=i->i<l.cQ+cs.length+l.ex*P.cellsOf elem->¬(fk.1<=i∧i<fk.2)
 plain:a3=false->l.ex=0∧l.cQ=0∧C.size=cs.length
def Cn(t:an be)(n:Nat):be:=Option.rec (motive:=fun _=>be) (.chan (some 0)) (fun v=>v) (t.get n)
def F5:am dM->am Code->Prop
 |none,none=>True
 |some (.exit i),some (.exit j)=>i=j
 |some .ret,some .ret=>True
 |_,_=>False
structure ad6(ch:Nat->Nat)(clock:Nat):Prop where
 inj:∀s t,s<clock->t<clock->ch s=ch t->s=t
 lt:∀s,s<clock->ch s<ch clock
 up:∀j,ch (clock+j)=ch clock+j
structure ln(ι:bx)(ch:Nat->Nat)(es:ac d9)(clock:Nat)(C:ac d9)(lr:Nat):Prop where
 ub:lr=ch clock
 Ci:ad6 ch clock
 born:∀e∈es,e.born<clock
 keys:es.Pairwise (fun a b=>a.key≠b.key)
 Aq:es.Pairwise (fun a b=>a.born≠b.born)
 same:∃l:ac d9,l.Perm es∧l.length=C.length∧∀(i:Nat) (h:i<l.length) (aC:i<C.length),bq ι l[i].key C[i].key∧bq ι l[i].val C[i].val∧C[i].born=ch l[i].born
def ln.mono{ι aR:bx}{ch:Nat->Nat}{es:ac d9}{clock:Nat}{C:ac d9}{lr:Nat}(hle:ι.le aR)(h:ln ι ch es clock C lr):ln aR ch es clock C lr:=
 ⟨h.ub,h.Ci,h.born,h.keys,h.Aq,let⟨l,h1,h2,ab⟩:=h.same;⟨l,h1,h2,fun i a b=>⟨(ab i a b).1.mono hle,(ab i a b).2.1.mono hle,(ab i a b).2.2⟩⟩⟩
structure Ctx where
 P:f5
 ok:ci->Code->dw->Prop
 az:Nat
 kI:ci->Bool
 k4:ci->Bool
 EN:∀f,kI f=true->∀x w,(callFunc f #[x]).run P w= .ok (.value x) w
 Ep:∀f,k4 f=true->∀s c w,(callFunc f #[.string s,.int .u8 c]).run P w= .ok (.value (goInt (match(List.range s.size).find? (fun i=>s[i]! ==c.toNat.toUInt8)with|some i=>(i:Int)|none=> -1))) w
 keys:ce->am fW
 td:∀k cX,keys k=some cX->Maps.Keyed P k∧∀v,cX.ok v=true->∃l,keyOf P k v=some l
 qy:ci->Bool
 C5:∀f,qy f=true->∀s c w,(callFunc f #[.string s,.int .u8 c]).run P w= .ok (.value (goInt (s.data.toList.countP (fun b=>b==c.toNat.toUInt8):Nat))) w
 qV:ci->Bool
 m1:Nat
 EE:m1<az
 Es:∀f,qV f=true->∀(s b:f6) (m:Int) w,(load ⟨m1,0,none⟩).run P w= .ok (.int .i64 m) w->2<=b.size->(b.size:Int)<=m->s.size<=1000000->
  (callFunc f #[.string s,.string b]).run P w= .ok (.value (goInt (match px b.data.toList s.data.toList with|some i=>(i:Int)|none=> -1))) w
 eqs:ce->am Nat
 ya:∀t n,eqs t=some n->P.eqGuardType P.depth t=false∧∀xs al b w,xs.size=n%100+n/100->al.size=n%100+n/100->o8 (n%100) xs.toList al.toList=some b->(Op.equalIn 10000 t (.agg xs) (.agg al)).run P w= .ok b w
variable(X:Ctx)
def kb(ι:bx)(w:d7)(o:bt)(l:Loc):Prop:=
 match o with
 |.cells cs elem bk a3=>∃C fk,tK X.P ι w cs elem bk a3 l C fk
 |.map es clock=>l.cQ=0∧l.ex=0∧∃C lr,w.heap[l.cJ]? =some (.map C lr)∧ln ι l.ch es clock C.toList lr
 |.acn s pos=>l.cQ=0∧l.ex=0∧w.heap[l.cJ]? =some (.stringIter s pos)
 |.va m since seen Cj=>l.cQ=0∧l.ex=0∧∃gF QJ Cf Is,w.heap[l.cJ]? =some (.mapIter gF QJ Cf Is)∧
  (m=none∧gF=none∨∃r b ch,m=some r∧gF=some b∧ι r=some ⟨b,0,0,ch⟩∧QJ=ch since∧Cf.toList=seen.map ch∧Is=ch Cj)
 |.loop s gP fn t ps dr body d=>l.cQ=0∧l.ex=0∧∃L:Loop,w.heap[l.cJ]? =some (.loop L)∧L.state=s∧F5 gP L.pending∧L.fn=fn∧
  (∀n,bq ι (Cn t n) (L.tmps.getD n undef))∧L.params.toList=ps∧X.ok fn L.assign dr∧X.ok fn L.body body∧ι d=some ⟨L.defers,0,0,id⟩∧
  (∃F,X.P.funcs[fn]? =some F∧L.tmps.size=F.ntmps)∧∀t∈ps,t<L.tmps.size
 |.jJ calls=>l.cQ=0∧l.ex=0∧((calls=some []∧w.heap[l.cJ]? =some (.deferred (some [])))∨(calls=none∧w.heap[l.cJ]? =some (.deferred none)))
 |.dead=>True
def bt.wj:bt->Prop
 |.cells _ _ bk a3=>a3=false∧bk.1<bk.2
 |_=>False
structure bz(ι:bx)(st:au)(w:d7):Prop where
 fe:∀id o,st.h.get id=some o->o≠.dead->∃l,ι id=some l∧kb X ι w o l
 inj:∀i j o p l m,st.h.get i=some o->o≠.dead->st.h.get j=some p->p≠.dead->ι i=some l->ι j=some m->(l.ch≠js∨m.ch≠js)->l.cJ=m.cJ->i=j
 fresh:∀id,st.aj<=id->ι id=none∧st.h.get id=none
 hN:∀id l,ι id=some l->l.cJ<w.heap.size
 nW:∀g,g<X.az->ι g=some ⟨g,0,0,js⟩
 rR:X.az<=st.aj
 oO:∀i l o,ι i=some l->l.ch=js->st.h.get i=some o->o≠.dead->o.wj
def sH(w w':d7):Prop:=w'.os=w.os∧w'.output=w.output
structure fY(ι aR:bx)(w w':d7):Prop where
 le:ι.le aR
 size:w.heap.size<=w'.heap.size
 kept:∀b,b<w.heap.size->(∀id l,ι id=some l->l.ch≠js->l.cJ≠b)->w'.heap[b]? =w.heap[b]?
 new:∀id l,aR id=some l->ι id=some l∨w.heap.size<=l.cJ∨∃j m,ι j=some m∧m.ch≠js∧m.cJ=l.cJ
 hx:sH w w'
variable{w:d7}{ι:bx}{w':d7}{aR:bx}{l:Loc}{st:au}
def fY.refl(ι:bx)(w:d7):fY ι ι w w:=⟨.refl ι,b6 _,fun _ _ _=>rfl,fun _ _ h=>.inl h,⟨rfl,rfl⟩⟩
def fY.trans{fF:bx}{ku:d7}(h:fY ι aR w w')(aC:fY aR fF w' ku):fY ι fF w ku:=by
 refine⟨h.le.trans aC.le,zag h.size aC.size,fun b hb aa=> ?_,fun id l hl=> ?_,⟨aC.hx.1.trans h.hx.1,aC.hx.2.trans h.hx.2⟩⟩
 ·rw[aC.kept b (gH hb h.size) ?_,h.kept b hb aa];intro id l hl af e;rcases h.new id l hl with hn|hn|⟨j,m,hj,ft,hm⟩
  ·exact aa id l hn af e
  ·omega
  ·exact aa j m hj ft (by omega)
 ·rcases aC.new id l hl with hn|hn|⟨j,m,hj,af,hm⟩
  ·exact h.new id l hn
  ·exact .inr (.inl (zag h.size hn))
  ·rcases h.new j m hj with h1|h1|⟨Og,gF,h1,h2,ab⟩
   ·exact .inr (.inr ⟨j,m,h1,af,hm⟩)
   ·exact .inr (.inl (by omega))
   ·exact .inr (.inr ⟨Og,gF,h1,h2,by omega⟩)
def tK.mono{P:f5}{cs:ac be}{elem:ce}{bk:Nat×Nat}{a3:Bool}{C:ap be}{fk:Nat×Nat}
 (h:tK P ι w cs elem bk a3 l C fk) (hle:ι.le aR) (e:w'.heap[l.cJ]? =w.heap[l.cJ]?):tK P aR w' cs elem bk a3 l C fk:=
 ⟨by rw[e];exact h.there,h.room,fun i aa=>let⟨c,h1,h2⟩:=h.cell i aa;⟨c,h1,h2.mono hle⟩,h.Cx,h.plain⟩
def kb.mono{o:bt}(h:kb X ι w o l)(hle:ι.le aR)(e:w'.heap[l.cJ]? =w.heap[l.cJ]?):kb X aR w' o l:=by
 cases o with
 |cells cs elem bk a3=>obtain⟨C,fk,hc⟩:=h;exact⟨C,fk,hc.mono hle e⟩
 |map es clock=>
  obtain⟨h0,kh,C,bW,h1,h2⟩:=h;exact⟨h0,kh,C,bW,by rw[e];exact h1,h2.mono hle⟩
 |acn s pos=>obtain⟨h0,kh,h1⟩:=h;exact⟨h0,kh,by rw[e];exact h1⟩
 |va m since seen Cj=>
  obtain⟨h0,kh,gF,bh,b1,cL,h1,h2⟩:=h;refine⟨h0,kh,gF,bh,b1,cL,by rw[e];exact h1,?_⟩;rcases h2 with h2|⟨r,b,ch,ab,aD,bg,cv⟩
  ·exact .inl h2
  ·exact .inr ⟨r,b,ch,ab,aD,hle _ _ bg,cv⟩
 |loop s gP fn t ps dr body d=>
  obtain⟨h0,kh,L,h1,h2,ab,aD,bg,cv,dq,hB,jj,pa⟩:=h;exact⟨h0,kh,L,by rw[e];exact h1,h2,ab,aD,fun n=>(bg n).mono hle,cv,dq,hB,hle _ _ jj,pa⟩
 |jJ calls=>
  obtain⟨h0,kh,h1⟩:=h;refine⟨h0,kh,?_⟩;rw[e];exact h1
 |dead=>trivial
def bz.Kj(h:bz X ι st w)(e:w'.heap=w.heap):bz X ι st w':=by
 refine⟨fun id o ak ao=> ?_,h.inj,h.fresh,fun id l hl=>by rw[e];exact h.hN id l hl,h.nW,h.rR,h.oO⟩;obtain⟨l,hl,hm⟩:=h.fe id o ak ao;exact⟨l,hl,kb.mono X hm (.refl ι) (by rw[e])⟩
def fY.Kj(ι:bx)(e:w'.heap=w.heap)(hx:sH w w':=by exact⟨rfl,rfl⟩):fY ι ι w w':=
 ⟨.refl ι,by rw[e];exact b6 _,fun _ _ _=>by rw[e],fun _ _ h=>.inl h,hx⟩
def iG(ι:bx)(id:Nat)(l:Loc):bx:=fun i=>if i=id then some l else ι i
def bz.alloc(h:bz X ι st w)(o:bt)(O:Obj)(ex:Nat)
 (hm:∀aR w',ι.le aR->aR st.aj=some ⟨w.heap.size,0,ex,id⟩->w'.heap[w.heap.size]? =some O->kb X aR w' o ⟨w.heap.size,0,ex,id⟩) (w':d7) (hw:w'.heap=w.heap.push O) (hx:sH w w':=by exact⟨rfl,rfl⟩):
 ∃aR,bz X aR ⟨st.h.set st.aj o,st.aj+1⟩ w'∧fY ι aR w w'∧aR st.aj=some ⟨w.heap.size,0,ex,id⟩∧aR=iG ι st.aj ⟨w.heap.size,0,ex,id⟩:=by
 refine⟨fun i=>if i=st.aj then some ⟨w.heap.size,0,ex,id⟩else ι i,?_,?_,zab rfl,rfl⟩
 ·have hle:ι.le (fun i=>if i=st.aj then some ⟨w.heap.size,0,ex,id⟩else ι i):=by
   intro i l hl;show(if i=st.aj then _ else ι i)=_;rw[zaa];exact hl;intro e;subst e;rw[(h.fresh _ (b6 _)).1]at hl;cases hl
  refine⟨fun id p hp ao=> ?_,fun i j p q l m aa iV hj ia iX iY aO e=> ?_,fun id pe=> ?_,fun id l hl=> ?_,fun g aO=> ?_,zdC h.rR,fun i l p hl af hp ao=> ?_⟩
  ·rw[an.e8]at hp;by_cases e:id=st.aj
   ·rw[zab e]at hp;cases hp;subst e;exact⟨_,zab rfl,hm _ _ hle (zab rfl) (by rw[hw];simp)⟩
   ·rw[zaa e]at hp;obtain⟨l,hl,ak⟩:=h.fe id p hp ao;refine⟨l,hle _ _ hl,kb.mono X ak hle ?_⟩;have:=h.hN id l hl;rw[hw,zda,zaa (by omega)]
  ·rw[an.e8]at aa hj;by_cases ga:i=st.aj<;>by_cases kf:j=st.aj
   ·rw[ga,kf]
   ·exfalso;simp only[zaa kf]at iY;simp only[zab ga]at iX;have:=h.hN j m iY;cases iX;simp only at e;omega
   ·exfalso;simp only[zaa ga]at iX;simp only[zab kf]at iY;have:=h.hN i l iX;cases iY;simp only at e;omega
   ·simp only[zaa ga]at iX aa;simp only[zaa kf]at iY hj;exact h.inj i j p q l m aa iV hj ia iX iY aO e
  ·have alZ:st.aj+1<=id:=pe;have:=h.fresh id (by omega);refine⟨?_,?_⟩
   ·show(if id=st.aj then _ else ι id)=_;rw[zaa (by omega)];exact this.1
   ·rw[an.e8,zaa (by omega)];exact this.2
  ·rw[hw,Array.size_push];by_cases e:id=st.aj
   ·simp only[zab e]at hl;cases hl;simp
   ·simp only[zaa e]at hl;have:=h.hN id l hl;omega
  ·exact hle _ _ (h.nW g aO)
  ·rw[an.e8]at hp;by_cases e:i=st.aj
   ·simp only[zab e]at hl;cases hl;exact absurd af N1
   ·simp only[zaa e]at hl hp;exact h.oO i l p hl af hp ao
 ·refine⟨?_,by rw[hw];simp,fun b hb _=>by rw[hw,zda,zaa (by omega)],fun id l hl=> ?_,hx⟩
  ·intro i l hl;show(if i=st.aj then _ else ι i)=_;rw[zaa];exact hl;intro e;subst e;rw[(h.fresh _ (b6 _)).1]at hl;cases hl
  ·by_cases e:id=st.aj
   ·simp only[zab e]at hl;cases hl;exact .inr (.inl (b6 _))
   ·simp only[zaa e]at hl;exact .inl hl
def bz.xt(h:bz X ι st w){id:Nat}{nE:bt}(h₀:st.h.get id=some nE)(uF:nE≠.dead)(Nw:¬nE.wj)(hl:ι id=some l)(o:bt)(O:Obj)
 (w':d7) (hw:w'.heap=w.heap.setIfInBounds l.cJ O) (hm:o≠.dead->w'.heap[l.cJ]? =some O->kb X ι w' o l) (hx:sH w w':=by exact⟨rfl,rfl⟩):
 bz X ι ⟨st.h.set id o,st.aj⟩ w'∧fY ι ι w w':=by
 have hb:=h.hN id l hl;have oE:l.ch≠js:=fun e=>Nw (h.oO id l nE hl e h₀ uF);refine⟨⟨fun j p hp ao=> ?_,fun i j p q a b aa iV hj ia iX iY aO e=> ?_,fun j hj=> ?_,fun j a ha=> ?_,h.nW,h.rR,fun j a p ha af hp ao=> ?_⟩,?_⟩
 ·rw[an.e8]at hp;by_cases e:j=id
  ·rw[zab e]at hp;cases hp;subst e;exact⟨l,hl,hm ao (by rw[hw];simp[hb])⟩
  ·rw[zaa e]at hp;obtain⟨m,k1,ak⟩:=h.fe j p hp ao;refine⟨m,k1,kb.mono X ak (.refl ι) ?_⟩;have cb:m.cJ≠l.cJ:=fun kC=>e (h.inj j id p nE m l hp ao h₀ uF k1 hl (.inr oE) kC);rw[hw,zbM (Ne.symm cb)]
 ·rw[an.e8]at aa hj;have akw:∃dZ,st.h.get i=some dZ∧dZ≠.dead:=by
   by_cases e:i=id
   ·subst e;exact⟨nE,h₀,uF⟩
   ·rw[zaa e]at aa;exact⟨p,aa,iV⟩
  have aky:∃dZ,st.h.get j=some dZ∧dZ≠.dead:=by
   by_cases e:j=id
   ·subst e;exact⟨nE,h₀,uF⟩
   ·rw[zaa e]at hj;exact⟨q,hj,ia⟩
  obtain⟨dZ,mV,pk⟩:=akw;obtain⟨gZ,yO,HZ⟩:=aky;exact h.inj i j dZ gZ a b mV pk yO HZ iX iY aO e
 ·have:=h.fresh j hj;refine⟨this.1,?_⟩;rw[an.e8,zaa];exact this.2;intro e;subst e;rw[this.2]at h₀;cases h₀
 ·rw[hw];simpa using h.hN j a ha
 ·rw[an.e8]at hp;by_cases e:j=id
  ·subst e;rw[hl]at ha;cases ha;exact absurd af oE
  ·rw[zaa e]at hp;exact h.oO j a p ha af hp ao
 ·refine⟨.refl ι,by rw[hw];simp,fun b _ aa=> ?_,fun _ _ hh=>.inl hh,hx⟩;rw[hw,zbM (aa id l hl oE)]
end Go.ah
namespace Go.ah
mutual
def kN:be->Bool
 |.bool _|.int _ _|.float _ _|.string _|.pointer none|.slice none _ _|.map none|.nilFunc|.nilIface=>true
 |.func (.func _) x y=>FR x&&FR y
 |.iface _ v=>kN v
 |.agg a|.tuple a=>FR a
 |_=>false
def FR:ap be->Bool
 |⟨a⟩=>nO a
def nO:ac be->Bool
 |[]=>true
 |a::as=>kN a&&nO as
end
mutual
theorem bq.pure(ι:bx):∀v:be,kN v=true->bq ι v v
 |.bool b,_=>.bool b
 |.int k n,_=>.int k n
 |.float k n,_=>.float k n
 |.complex _ _ _,h=>by simp[kN]at h
 |.string s,_=>.string s
 |.pointer none,_=>.oQ
 |.pointer (some _),h=>by simp[kN]at h
 |.slice none n c,_=>.oW n c
 |.slice (some _) _ _,h=>by simp[kN]at h
 |.map none,_=>.qZ
 |.map (some _),h=>by simp[kN]at h
 |.chan _,h=>by simp[kN]at h
 |.func (.func f) x y,h=>by
  simp only[kN,b4]at h;exact bq.Jb (.inl ⟨rfl,by simp⟩) (bI.q9 ι x h.1) (bI.q9 ι y h.2)
 |.func (.method _) _ _,h=>by simp[kN]at h
 |.func (.methodOf _ _) _ _,h=>by simp[kN]at h
 |.func (.via _ _ _ _) _ _,h=>by simp[kN]at h
 |.func (.yield _) _ _,h=>by simp[kN]at h
 |.nilFunc,_=>.nilFunc
 |.iface t v,h=>.iface t v v (bq.pure ι v (by simpa[kN]using h))
 |.nilIface,_=>.nilIface
 |.agg a,h=>bq.BO (bI.q9 ι a (by simpa[kN]using h))
 |.tuple a,h=>bq.sh (bI.q9 ι a (by simpa[kN]using h))
theorem bI.q9(ι:bx):∀v:ap be,FR v=true->bI ι v.toList v.toList
 |⟨a⟩,h=>bI.zy ι a (by simpa[FR]using h)
theorem bI.zy(ι:bx):∀v:ac be,nO v=true->bI ι v v
 |[],_=>bI.nil ι
 |a::as,h=>by
  simp only[nO,b4]at h;exact bI.cons (bq.pure ι a h.1) (bI.zy ι as h.2)
end
theorem bq.undef(ι:bx):bq ι undef undef:=bq.pure ι _ rfl
def cH(az:Nat):bi->Bool
 |.tmp _=>true
 |.const v=>kN v
 |.global g=>Nat.ble (Nat.succ g) az
 |.func _=>true
def F1(ι:bx)(d e:Deferred):Prop:=
 bI ι d.args.toList e.args.toList∧
 match d.target,e.target with
 |.fn f c,.fn g bW=>z9 ι f g∧bI ι c.toList bW.toList
 |.collected r,.collected b=>ι r=some ⟨b,0,0,id⟩
 |_,_=>False
variable{ι aR:bx}
def tM(ι:bx):ac Deferred->ac Deferred->Prop
 |[],[]=>True
 |d::ds,e::es=>F1 ι d e∧tM ι ds es
 |_,_=>False
def F1.mono(hle:ι.le aR){d e:Deferred}(h:F1 ι d e):F1 aR d e:=by
 obtain⟨h1,h2⟩:=h;refine⟨h1.mono hle,?_⟩;cases ao:d.target<;>cases he:e.target<;>simp only[ao,he]at h2⊢
 ·exact⟨h2.1.mono hle,h2.2.mono hle⟩
 ·exact hle _ _ h2
def tM.mono(hle:ι.le aR):∀{ds es:ac Deferred},tM ι ds es->tM aR ds es
 |[],[],_=>trivial
 |_::_,_::_,h=>⟨h.1.mono hle,tM.mono hle h.2⟩
 |[],_::_,h=>h.elim
 |_::_,[],h=>h.elim
structure cF(ι:bx)(fr:aJ)(a:Act)(aP:Nat):Prop where
 tmp:∀t,bq ι (fr.tmp t) (a.tmps.getD t undef)
 size:a.tmps.size=aP
 cW:tM ι fr.cW a.defers
def cF.mono(hle:ι.le aR){fr:aJ}{a:Act}{aP:Nat}(h:cF ι fr a aP):cF aR fr a aP:=
 ⟨fun t=>(h.tmp t).mono hle,h.size,h.cW.mono hle⟩
variable{X:Ctx}
variable{fr:aJ}{a:Act}{aP:Nat}
def cF.ai{st:au}{w:d7}(h:cF ι fr a aP)(hw:bz X ι st w){x:bi}(J:cH X.az x=true):bq ι (fr.ai x) (a.eval x):=by
 cases x with
 |tmp t=>exact h.tmp t
 |const v=>exact bq.pure ι v J
 |global g=>
  have aO:g<X.az:=qt.1 J;have:=bq.ptr (ι:=ι) ⟨g,0,none⟩ ⟨g,0,0,js⟩ (hw.nW g aO) rfl;show bq ι (.pointer (some ⟨g,0,none⟩)) (.pointer (some ⟨g,0,none⟩));simpa using this
 |func f=>exact bq.Jb (.inl ⟨rfl,by simp⟩) (bI.nil ι) (bI.nil ι)
def cF.put(h:cF ι fr a aP){d:am Tmp}(ao:∀t,d=some t->t<aP){v v':be}(aB:bq ι v v'):cF ι (fr.put d v) (a.put d v') aP:=by
 cases d with
 |none=>exact h
 |some d=>
  refine⟨fun t=> ?_,by simp[Act.put,h.size],by rw[(vt fr (some d) v).1];exact h.cW⟩;rw[sy];have aE:d<a.tmps.size:=by rw[h.size];exact ao d rfl
  simp only[Act.put,Option.some.injEq];by_cases e:d=t
  ·subst e;rw[zab rfl];simp[Array.getD,aE];exact aB
  ·rw[zaa e];have:=h.tmp t;simp only[Array.getD_eq_getD_getElem?]at this⊢;rw[zbM e];exact this
def adY(aR:bx)(v:be)(n:Next):Prop:=(∃v',n= .value v'∧bq aR v v')∨(n= .skip∧v=undef)
def lQ(X:Ctx)(ι:bx)(w:d7)(v:be)(st':au)(s:Sem Next):Prop:=
 ∃aR n w',s.run X.P w= .ok n w'∧adY aR v n∧bz X aR st' w'∧fY ι aR w w'
def cl(X:Ctx)(ι:bx)(w:d7)(v:be)(st st':au)(s:Sem Next):Prop:=
 st'=st∧bz X ι st w∧∃v',s.run X.P w= .ok (.value v') w∧bq ι v v'
variable{w:d7}{v:be}{st:au}{s:Sem Next}
def cl.same{v':be}(hw:bz X ι st w)(aL:s.run X.P w= .ok (.value v') w)(aB:bq ι v v'):cl X ι w v st st s:=
 ⟨rfl,hw,v',aL,aB⟩
def cl.QI{st':au}(h:cl X ι w v st st' s):lQ X ι w v st' s:=by
 obtain⟨rfl,hw,v',aL,aB⟩:=h;exact⟨ι,_,w,aL,.inl ⟨v',rfl,aB⟩,hw,.refl ι w⟩
def tP(X:Ctx)(ι:bx)(w:d7)(v:be)(st st':au)(s:Sem Next):Prop:=
 ∃o O ex v' w',st'=⟨st.h.set st.aj o,st.aj+1⟩∧o≠.dead∧s.run X.P w= .ok (.value v') w'∧w'.heap=w.heap.push O∧
  bq (iG ι st.aj ⟨w.heap.size,0,ex,id⟩) v v'∧bz X (iG ι st.aj ⟨w.heap.size,0,ex,id⟩) st' w'∧fY ι (iG ι st.aj ⟨w.heap.size,0,ex,id⟩) w w'
def tP.QI{st':au}(h:tP X ι w v st st' s):lQ X ι w v st' s:=by
 obtain⟨o,O,ex,v',w',_,_,aL,_,aB,hw,hk⟩:=h;exact⟨_,_,w',aL,.inl ⟨v',rfl,aB⟩,hw,hk⟩
def lQ.same{v':be}(hw:bz X ι st w)(aL:s.run X.P w= .ok (.value v') w)(aB:bq ι v v'):lQ X ι w v st s:=
 ⟨ι,_,w,aL,.inl ⟨v',rfl,aB⟩,hw,.refl ι w⟩
section
variable{ι:bx}{fr aA:aJ}{a:Act}{aP:Nat}{st st':au}{w:d7}{o:Oper}{v:be}{call:bG}
variable{x:bi}
def ack(J:cH X.az x=true)(ak:o.op= .move x∨o.op= .assign x)(U:cF ι fr a aP)(hw:bz X ι st w)(h:Z6 x call fr st= .ok v aA st'):
 aA=fr∧cl X ι w v st st' (execOp a.eval o):=by
 cases h;refine⟨rfl,cl.same (v':=a.eval x) hw ?_ (U.ai hw J)⟩;unfold execOp;rcases ak with ak|ak<;>rw[ak]<;>rfl
def asS{c y:bi}(hc:cH X.az c=true)(J:cH X.az x=true)(ay:cH X.az y=true)(ak:o.op= .pick c x y)(U:cF ι fr a aP)(hw:bz X ι st w)(h:Z9 c x y call fr st= .ok v aA st'):
 aA=fr∧cl X ι w v st st' (execOp a.eval o):=by
 obtain⟨t,aF,h⟩:=Rd h (by simp);cases h;have nX:=U.ai hw hc;rw[aF]at nX;generalize M9:a.eval c=AH at nX;cases nX;refine⟨rfl,cl.same (v':=if t then a.eval x else a.eval y) hw ?_ ?_⟩
 ·unfold execOp;rw[ak];simp[M9,asBool]
 ·cases t
  ·exact U.ai hw ay
  ·exact U.ai hw J
end
end Go.ah
namespace Go.ah
variable{X:Ctx}
variable{w:d7}{bk:Nat×Nat}{b o:Nat}{e:ce}{P:f5}
def cell_of{C:ap be}(h:w.heap[b]? =some (.cells C e bk)):w.cell? ⟨b,o,none⟩=C[o]? :=by
 simp[World.cell?,h]
def aia{C:ap be}(h:w.heap[b]? =some (.cells C e bk)):w.frozen? ⟨b,o,none⟩=(decide (bk.1<=o)&&decide (o<bk.2)):=by
 obtain⟨lo,aa⟩:=bk;simp[World.frozen?,h]
def tK.row{ι:bx}{cs:ac be}{elem:ce}{a3:Bool}{l:Loc}{C:ap be}{fk:Nat×Nat}
 (h:tK P ι w cs elem bk a3 l C fk) (off n:Nat) (hn:n<=(cs.drop off).length):bI ι ((cs.drop off).take n) ((C.toList.drop (l.cQ+off)).take n):=by
 have hlen:(cs.drop off).length=cs.length-off:=by simp
 have mX:=h.room;refine⟨by simp;omega,fun i a b=> ?_⟩;simp only[zay,zaF]at a b;obtain⟨c,h1,h2⟩:=h.cell (off+i) (by omega);have aa:l.cQ+(off+i)<C.size:=(zbs.1 h1).1;rw[zdD aa]at h1;cases h1;simp only[List.getElem_take,zdE,zaO];have e:l.cQ+off+i=l.cQ+(off+i):=by omega
 simp only[e];exact h2
def Fx{n:Nat}{C:ap be}(h:w.heap[b]? =some (.cells C e bk))(hn:o+n<=C.size):
 (loadCells ⟨b,o,none⟩ n).run P w= .ok ((C.toList.drop o).take n).toArray w:=by
 have hl:((C.toList.drop o).take n).length=n:=by simp;omega
 have:=run_loadCells_list (P:=P) w ⟨b,o,none⟩ ((C.toList.drop o).take n) (fun j v hj=>by
  have kk:j<n:=by
   have:=(zaf.1 hj).1;omega
  have aq:(Addr.add ⟨b,o,none⟩ j)=⟨b,o+j,none⟩:=by unfold Addr.add;split<;>simp_all
  rw[aq,cell_of h];rw[zaT,zab kk,zaR]at hj;simpa using hj)
 rwa [hl]at this
theorem QA{P:f5}{b o:Nat}{e:ce}{bk:Nat×Nat}:∀(vs:ac be) (i:Nat) (C:ap be) (w:d7),w.heap[b]? =some (.cells C e bk)->o+i+vs.length<=C.size->
 (∀v∈vs,v.oneCell'=true)->(∀j,o+i<=j->j<o+i+vs.length->¬(bk.1<=j∧j<bk.2))->
 ∃w',(storeCells ⟨b,o,none⟩ vs i).run P w= .ok () w'∧
  w'.heap=w.heap.setIfInBounds b (.cells (C.toList.take (o+i)++(vs++C.toList.drop (o+i+vs.length))).toArray e bk)∧sH w w'
 |[],i,C,w,h,hn,_,_=>by
  refine⟨w,rfl,?_,⟨rfl,rfl⟩⟩;have:(C.toList.take (o+i)++([]++C.toList.drop (o+i+([]:ac be).length))).toArray=C:=by simp
  rw[this];apply zdF;intro j;by_cases kf:b=j
  ·subst kf;have:=(zbs.1 h).1;rw[zem];simp[this];exact(zbs.1 h).2
  ·rw[zbM kf]
 |v::vs,i,C,w,h,hn,h1,U=>by
  simp only[zax]at hn U;have aq:(Addr.add ⟨b,o,none⟩ i)=⟨b,o+i,none⟩:=by unfold Addr.add;split<;>simp_all
  have aE:o+i<C.size:=by omega
  have hc:w.cell? ⟨b,o+i,none⟩=some C[o+i]:=by rw[cell_of h,zdD aE]
  have qL:w.frozen? ⟨b,o+i,none⟩=false:=by
   rw[aia h];have:=U (o+i) (by omega) (by omega);simp only[Bool.and_eq_false_iff,decide_eq_false_iff_not];omega
  have af:(store ⟨b,o+i,none⟩ v).run P w= .ok () (w.setCell ⟨b,o+i,none⟩ v):=by
   rw[run_store P w _ v _ (h1 v (by simp)),hc];simp[qL]
  have hb:=(zbs.1 h).1;have hh:(w.setCell ⟨b,o+i,none⟩ v).heap=w.heap.setIfInBounds b (.cells (C.setIfInBounds (o+i) v) e bk):=by
   simp only[World.setCell];apply zdF;intro j;rw[zen];by_cases kf:b=j
   ·subst kf;rw[zab rfl,h,zem];simp[hb]
   ·rw[zaa kf,zbM kf]
  have aC:(w.setCell ⟨b,o+i,none⟩ v).heap[b]? =some (.cells (C.setIfInBounds (o+i) v) e bk):=by rw[hh];simp[hb]
  obtain⟨w',aL,eL,hx⟩:=QA (P:=P) (o:=o) vs (i+1) (C.setIfInBounds (o+i) v) (w.setCell ⟨b,o+i,none⟩ v) aC (by simp;omega) (fun x J=>h1 x (by simp[J])) (fun j a c=>U j (by omega) (by omega));refine⟨w',?_,?_,hx⟩
  ·unfold storeCells;rw[aq,Sem.run_bind,af];exact aL
  ·rw[eL,hh];rw[Array.setIfInBounds_setIfInBounds];congr 3;have mr:(C.setIfInBounds (o+i) v).toList=C.toList.set (o+i) v:=by simp
   rw[mr];have hl:o+i<C.toList.length:=by simpa using aE
   have t1:(C.toList.set (o+i) v).take (o+(i+1))=C.toList.take (o+i)++[v]:=by
    rw[show o+(i+1)=(o+i)+1 by omega,zce (by simpa using aE),zbg (b6 _)];simp
   have t2:(C.toList.set (o+i) v).drop (o+(i+1)+vs.length)=C.toList.drop (o+i+(v::vs).length):=by
    rw[zdb (by omega)];congr 1;simp only[zax];omega
   rw[t1,t2];simp
section
variable{ι:bx}{fr aA:aJ}{a:Act}{aP:Nat}{st st':au}{w:d7}{o:Oper}{v:be}{call:bG}
variable{t:ce}{d:TypeDesc}{i:f7}{x:bi}
def rE:TypeDesc->Bool
 |.struct _|.array _ _=>true
 |_=>false
def Eu(h:P.underlying t=some d)(w:d7):(isAgg t).run P w= .ok (rE d) w:=by
 unfold isAgg;rw[Sem.run_bind,run_underlying h];cases d<;>rfl
def kq(h:P.info? t=some i)(w:d7):(sizeOf t).run P w= .ok i.size w:=by
 simp[sizeOf,typeInfo,h]
def ach(J:cH X.az x=true)(ak:o.op= .load t x)(ao:X.P.underlying t=some d)(pU:rE d=false)
 (U:cF ι fr a aP) (hw:bz X ι st w) (h:Jk x call fr st= .ok v aA st'):
 aA=fr∧cl X ι w v st st' (execOp a.eval o):=by
 obtain⟨p,hp,h⟩:=rp h (by simp);obtain⟨ad,rfl,h⟩:=gO h (by simp);obtain⟨af,cs,elem,bk,a3,aO,hn,h⟩:=Bu h (by simp);obtain⟨v1,oG,h⟩:=BP h (by simp);cases h;obtain⟨l,hl,C,fk,hc⟩:=hw.fe _ _ aO (by simp);have bP:=U.ai hw J;rw[hp]at bP;generalize cB:a.eval x=fH at bP;cases bP with
 |ptr _ l' cy ft=>
  rw[hl]at cy;cases cy;have hlen:ad.off<cs.length:=by simp at hn;omega
  have lD:=hc.row ad.off 1 hn;rw[oG]at lD;obtain⟨y,al,ay,am2,_⟩:=lD.cons_inv;have mX:=hc.room;have wJ:C[l.cQ+ad.off]? =some y:=by
   have:=congrArg (fun z=>z[0]?) ay;simpa using this
  refine⟨rfl,cl.same (v':=y) hw ?_ am2⟩;unfold execOp;rw[ak];simp only[cB,Instr.loadAt,Instr.sureAddr,loadVar,Sem.run_bind,Sem.run_pure,Result.andThen,Eu ao,pU,zbt,if_false,run_load];rw[cell_of hc.there,wJ]
def aci(J:cH X.az x=true)(ak:o.op= .load t x)(ao:X.P.underlying t=some d)(pU:rE d=true)
 (aa:X.P.info? t=some i) (U:cF ι fr a aP) (hw:bz X ι st w) (h:Jl i.size x call fr st= .ok v aA st'):
 aA=fr∧cl X ι w v st st' (execOp a.eval o):=by
 obtain⟨p,hp,h⟩:=rp h (by simp);obtain⟨ad,rfl,h⟩:=gO h (by simp);obtain⟨af,cs,elem,bk,a3,aO,hn,h⟩:=Bu h (by simp);cases h;obtain⟨l,hl,C,fk,hc⟩:=hw.fe _ _ aO (by simp);have bP:=U.ai hw J;rw[hp]at bP;generalize cB:a.eval x=fH at bP;cases bP with
 |ptr _ l' cy ft=>
  rw[hl]at cy;cases cy;have lD:=hc.row ad.off i.size hn;have mX:=hc.room;simp only[zaF]at hn;by_cases av:i.size=0
  ·refine⟨rfl,cl.same (v':=.agg #[]) hw ?_ ?_⟩
   ·unfold execOp;rw[ak];simp only[cB,Instr.loadAt,Instr.sureAddr,loadVar,Sem.run_bind,Sem.run_pure,Result.andThen,Eu ao,pU,if_true,kq aa,av];rfl
   ·rw[av];exact bq.BO (by simpa using bI.nil ι)
  refine⟨rfl,cl.same (v':=.agg ((C.toList.drop (l.cQ+ad.off)).take i.size).toArray) hw ?_ (bq.BO (by simpa using lD))⟩;unfold execOp;rw[ak];simp only[cB,Instr.loadAt,Instr.sureAddr,loadVar,Sem.run_bind,Sem.run_pure,Result.andThen,Eu ao,pU,if_true,kq aa];rw[Fx hc.there (by omega)]
end
variable{ι:bx}{cs:ac be}{elem:ce}{a3:Bool}{l:Loc}{v:be}{st:au}
def QP{α:Type}(l vs:ac α)(n i:Nat)(h:n+vs.length<=l.length):
 (l.take n++(vs++l.drop (n+vs.length)))[i]? =if i<n then l[i]? else if i<n+vs.length then vs[i-n]? else l[i]? :=by
 by_cases h1:i<n
 ·rw[zab h1,zbm (by simp;omega),zaT,zab h1]
 ·rw[zaa h1,zaW (by simp;omega)];have e:i-(l.take n).length=i-n:=by simp;omega
  rw[e];by_cases h2:i<n+vs.length
  ·rw[zab h2,zbm (by omega)]
  ·rw[zaa h2,zaW (by omega),zaR];congr 1;omega
def tK.store{w':d7}{C:ap be}{fk:Nat×Nat}
 (h:tK P ι w cs elem bk a3 l C fk) {off:Nat} {vs gG:ac be} (hle:off+vs.length<=cs.length) (aB:bI ι vs gG)
 (hw:w'.heap[l.cJ]? =some (.cells (C.toList.take (l.cQ+off)++(gG++C.toList.drop (l.cQ+off+gG.length))).toArray elem fk)):
 tK P ι w' (cs.take off++(vs++cs.drop (off+vs.length))) elem bk a3 l (C.toList.take (l.cQ+off)++(gG++C.toList.drop (l.cQ+off+gG.length))).toArray fk:=by
 have hlen:=aB.1;have mX:=h.room;have Ec:l.cQ+cs.length<=C.size:=by
  have:=zcG (l.cQ+cs.length) (l.ex*P.cellsOf elem);omega
 have DW:(cs.take off++(vs++cs.drop (off+vs.length))).length=cs.length:=by simp;omega
 have et:((C.toList.take (l.cQ+off)++(gG++C.toList.drop (l.cQ+off+gG.length))).toArray).size=C.size:=by simp;omega
 refine⟨hw,by rw[DW,et];exact mX,fun i aa=> ?_,fun U j=>by rw[DW];exact h.Cx U j,fun aO=>by rw[DW,et];exact h.plain aO⟩;have eC:i<cs.length:=by omega
 have aq:=QP cs vs off i hle;have e2:=QP C.toList gG (l.cQ+off) (l.cQ+i) (by simp;omega);rw[bE aa]at aq;simp only[zcH];rw[e2];obtain⟨c,h1,h2⟩:=h.cell i eC;by_cases fg:i<off
 ·rw[zab fg,bE eC]at aq;rw[zab (by omega)];refine⟨c,by simpa using h1,?_⟩;rw[Option.some.inj aq];exact h2
 ·by_cases e1:i<off+vs.length
  ·rw[zaa fg,zab e1,bE (by omega)]at aq;rw[zaa (by omega),zab (by omega)];have bS:l.cQ+i-(l.cQ+off)=i-off:=by omega
   rw[bS,bE (by omega)];refine⟨_,rfl,?_⟩;rw[Option.some.inj aq];exact aB.2 (i-off) (by omega) (by omega)
  ·rw[zaa fg,zaa e1,bE eC]at aq;rw[zaa (by omega),zaa (by omega)];refine⟨c,by simpa using h1,?_⟩;rw[Option.some.inj aq];exact h2
def apB{c:be}(h:bq ι v c)(aB:nQ v=true):c.oneCell'=true:=by
 cases h<;>first|rfl|(simp[nQ,jB]at aB)
theorem Pd{ι:bx}:∀{vs cs:ac be},bI ι vs cs->h8 vs=true->∀c∈cs,c.oneCell'=true
 |[],cs,h,_,c,hc=>by rw[h.wR]at hc;simp at hc
 |v::vs,cs,h,ha,c,hc=>by
  obtain⟨y,al,rfl,h1,h2⟩:=h.cons_inv;have uC:cond (nQ v) (h8 vs) false=true:=ha;obtain⟨gU,hM⟩:=jI uC (by simp);rcases zap.1 hc with rfl|hc
  ·exact apB h1 gU
  ·exact Pd h2 hM c hc
def bz.store(hw:bz X ι st w){id off:Nat}
 (aO:st.h.get id=some (.cells cs elem bk a3)) (hl:ι id=some l) (qL:bk.2<=bk.1) {vs gG:ac be} (hle:off+vs.length<=cs.length) (aB:bI ι vs gG) (bH:h8 vs=true):
 ∃w',(storeCells ⟨l.cJ,l.cQ+off,none⟩ gG).run X.P w= .ok () w'∧bz X ι ⟨st.h.set id (.cells (cs.take off++(vs++cs.drop (off+vs.length))) elem bk a3),st.aj⟩ w'∧fY ι ι w w':=by
 obtain⟨l',cy,C,fk,hc⟩:=hw.fe _ _ aO (by simp);rw[hl]at cy;cases cy;have mX:=hc.room;have hlen:=aB.1;have Ec:l.cQ+cs.length<=C.size:=by
  have:=zcG (l.cQ+cs.length) (l.ex*X.P.cellsOf elem);omega
 obtain⟨w',aL,hh,hx⟩:=QA (P:=X.P) (o:=l.cQ+off) gG 0 C w hc.there (by omega) (Pd aB bH) (fun j h1 h2=>hc.Cx qL j (by omega) (by
  have:=zcG (l.cQ+cs.length) (l.ex*X.P.cellsOf elem);omega))
 simp only[zbh]at hh;obtain⟨t1,t2⟩:=bz.xt X hw aO (by simp) (fun U=>by have:=U.2;omega) hl (.cells (cs.take off++(vs++cs.drop (off+vs.length))) elem bk a3) _ w' hh (fun _ aF=>⟨_,fk,hc.store hle aB aF⟩) hx;exact⟨w',aL,t1,t2⟩
def bz.QD(hw:bz X ι st w){id:Nat}{o:bt}(aO:st.h.get id=some o):bz X ι ⟨st.h.set id o,st.aj⟩ w:=by
 have e:∀j,(st.h.set id o).get j=st.h.get j:=by
  intro j;rw[an.e8];split
  ·subst_vars;exact aO.symm
  ·rfl
 exact⟨fun j p hp ao=>hw.fe j p (by rw[<-e];exact hp) ao,fun i j p q l m aa h1 hj h2=>hw.inj i j p q l m (by rw[<-e];exact aa) h1 (by rw[<-e];exact hj) h2,
  fun j hj=>⟨(hw.fresh j hj).1,by rw[e];exact(hw.fresh j hj).2⟩,hw.hN,hw.nW,hw.rR,fun j l p hl af hp ao=>hw.oO j l p hl af (by rw[<-e];exact hp) ao⟩
def ae9(h:h8 v.cells.toList=true):v≠jB:=by
 intro e;subst e;simp[jB,Value.cells]at h;have aC:cond (nQ (.chan (some 0))) true false=true:=h;simp[nQ]at aC
section
variable{ι:bx}{fr aA:aJ}{a:Act}{aP:Nat}{st st':au}{w:d7}{o:Oper}{v:be}{call:bG}
variable{t:ce}{i:f7}{x:bi}{z:be}
def asX{y:bi}(J:cH X.az x=true)(ay:cH X.az y=true)(ak:o.op= .store t x y)(aa:X.P.info? t=some i)
 (U:cF ι fr a aP) (hw:bz X ι st w) (h:aad i.size x y call fr st= .ok v aA st'):
 aA=fr∧lQ X ι w v st' (execOp a.eval o):=by
 obtain⟨p,hp,h⟩:=rp h (by simp);obtain⟨ad,rfl,h⟩:=gO h (by simp);obtain⟨hn,h⟩:=mN h (by simp);obtain⟨bH,h⟩:=jI h (by simp);obtain⟨af,cs,elem,bk,a3,aO,qL,h⟩:=acJ h (by simp);rw[fC]at hn;obtain⟨l,hl,hm⟩:=hw.fe _ _ aO (by simp);have bP:=U.ai hw J;rw[hp]at bP;generalize cB:a.eval x=fH at bP;cases bP with
 |ptr _ l' cy ft=>
  rw[hl]at cy;cases cy;have gC:=U.ai hw ay;have NX:=bI.cells gC (ae9 bH);have et:(a.eval y).cells.size=i.size:=by have:=NX.1;simp[jr]at this hn;omega
  have gB:∀w',(storeCells ⟨l.cJ,l.cQ+ad.off,none⟩ (a.eval y).cells.toList).run X.P w= .ok () w'->(execOp a.eval o).run X.P w= .ok .skip w':=by
   intro w' aL;unfold execOp;rw[ak];simp only[cB,Instr.storeAt,Instr.sureAddr,storeVar,Sem.run_bind,Sem.run_pure,Result.andThen,kq aa];rw[zaa (by simp[et])];simp[aL]
  rcases h with⟨hle,h⟩|⟨he,h⟩
  ·cases h;obtain⟨w',aL,h1,h2⟩:=hw.store aO hl qL hle NX bH;exact⟨rfl,ι,.skip,w',gB w' aL,.inr ⟨rfl,rfl⟩,h1,h2⟩
  ·cases h;have:(a.eval y).cells.toList=[]:=by
    have:=NX.1;rw[show(fr.ai y).cells.toList=[]from he]at this;exact zbz this.symm
   refine⟨rfl,ι,.skip,w,gB w ?_,.inr ⟨rfl,rfl⟩,hw.QD aO,.refl ι w⟩;rw[this];rfl
def bz.I1{cs':ac be}(hw:bz X ι st w)(elem:ce)(aB:bI ι cs cs')(w':d7)(hh:w'.heap=w.heap.push (.cells cs'.toArray elem))(hx:sH w w':=by exact⟨rfl,rfl⟩):
 ∃aR,bz X aR ⟨st.h.set st.aj (.cells cs elem (0,0) false),st.aj+1⟩ w'∧fY ι aR w w'∧aR st.aj=some ⟨w.heap.size,0,0,id⟩∧aR=iG ι st.aj ⟨w.heap.size,0,0,id⟩:=by
 refine bz.alloc X hw _ _ 0 (fun aR ku hle _ aF=> ?_) w' hh hx;refine⟨cs'.toArray,(0,0),⟨aF,by simp[aB.1],fun i aa=> ?_,fun _ j _ _=>by simp,fun _=>⟨rfl,rfl,by simp[aB.1]⟩⟩⟩;have eC:i<cs'.length:=by rw[<-aB.1];exact aa
 exact⟨cs'[i],by simp[eC],(aB.2 i aa eC).mono hle⟩
def vH(h:P.info? t=some i)(av:i.zero=some z)(w:d7):(zeroValue t).run P w= .ok z w:=by
 simp[zeroValue,typeInfo,h,av]
def asa(ak:o.op= .alloc t)(aa:X.P.info? t=some i)(av:i.zero=some z)(hp:nO z.cells.toList=true)
 (hw:bz X ι st w) (h:zs z.cells.toList t call fr st= .ok v aA st'):
 aA=fr∧tP X ι w v st st' (execOp a.eval o):=by
 unfold zs at h;rw[g8]at h;cases h;obtain⟨aR,h1,h2,ab,p6⟩:=hw.I1 t (bI.zy ι _ hp) {w with heap:=w.heap.push (.cells z.cells t)} (by simp);rw[p6]at h1 h2 ab;refine⟨rfl,_,_,_,.pointer (some ⟨w.heap.size,0,none⟩),_,rfl,by simp,?_,rfl,?_,h1,h2⟩
 ·unfold execOp;rw[ak];simp[Instr.alloc,vH aa av,newVar,newRow,Result.andThen]
 ·have:=bq.ptr (ι:=iG ι st.aj ⟨w.heap.size,0,0,id⟩) ⟨st.aj,0,none⟩ ⟨w.heap.size,0,0,id⟩ ab rfl;simpa using this
def asd(J:cH X.az x=true)(ak:o.op= .box t x)(U:cF ι fr a aP)(hw:bz X ι st w)(h:BQ t x call fr st= .ok v aA st'):
 aA=fr∧tP X ι w v st st' (execOp a.eval o):=by
 obtain⟨hp,h⟩:=BF h (by simp);rw[g8]at h;cases h;have cb:fr.ai x≠jB:=by intro e;rw[e]at hp;simp[uW,jB]at hp
 obtain⟨aR,h1,h2,ab,p6⟩:=hw.I1 t (bI.cells (U.ai hw J) cb) {w with heap:=w.heap.push (.cells (a.eval x).cells t)} (by simp);rw[p6]at h1 h2 ab;refine⟨rfl,_,_,_,.pointer (some ⟨w.heap.size,0,none⟩),_,rfl,by simp,?_,rfl,?_,h1,h2⟩
 ·unfold execOp;rw[ak];simp[Instr.box,newVar,newRow,Result.andThen]
 ·have:=bq.ptr (ι:=iG ι st.aj ⟨w.heap.size,0,0,id⟩) ⟨st.aj,0,none⟩ ⟨w.heap.size,0,0,id⟩ ab rfl;simpa using this
end
def ahA{op:BinOp}{x y:be}{c:be->aV}{r:aV}(h:Dq op x y c=r)(aL:aV.no≠r):
 (∃k a k' b,x= .int k a∧y= .int k' b∧AQ op k a k' b c=r)∨(∃s t,x= .string s∧y= .string t∧CU op s t c=r):=by
 cases x with
 |int k a=>
  cases y with
  |int k' b=>exact .inl ⟨k,a,k',b,rfl,rfl,h⟩
  |_=>exact absurd h aL
 |string s=>
  cases y with
  |string t=>exact .inr ⟨s,t,rfl,rfl,h⟩
  |_=>exact absurd h aL
 |_=>exact absurd h aL
def u0{a b:d8}(h:kG a b=true):a=b:=by
 cases a<;>cases b<;>first|rfl|(exact absurd h (by decide))
def aeG(k:d8)(m n:Nat):(BitVec.ofInt k.bits (m:Int)&&&BitVec.ofInt k.bits (n:Int)).toNat=Nat.land (m%2^k.bits) (n%2^k.bits):=by
 rw[zbN,zbN,BitVec.toNat_and];simp
def aeH(k:d8)(m n:Nat):(BitVec.ofInt k.bits (m:Int)|||BitVec.ofInt k.bits (n:Int)).toNat=Nat.lor (m%2^k.bits) (n%2^k.bits):=by
 rw[zbN,zbN,BitVec.toNat_or];simp
def aeI(k:d8)(m n:Nat):(BitVec.ofInt k.bits (m:Int)^^^BitVec.ofInt k.bits (n:Int)).toNat=Nat.xor (m%2^k.bits) (n%2^k.bits):=by
 rw[zbN,zbN,BitVec.toNat_xor];simp
def Lx(f:Nat->Nat->Nat)(g:Int)(k:d8)(a b:Int)(c:be->aV)(aO:∀m n:Nat,a=m->b=n->g=k.wrap (f (m%2^k.bits) (n%2^k.bits):Nat)):
 CV f g k a b c=c (.int k g):=by
 unfold CV;cases a with
 |ofNat m=>
  cases b with
  |ofNat n=>
   show iL k (oZ k (.ofNat (f (Nat.mod m (2^k.bits)) (Nat.mod n (2^k.bits))))) c=_;rw[iZ,ma,aO m n rfl rfl];rfl
  |negSucc n=>exact iZ _ _ _
 |negSucc m=>exact iZ _ _ _
def r5(op:BinOp)(k:d8)(a b:Int):am be:=
 match op with
 |.add=>some (.int k (k.wrap (a+b)))
 |.sub=>some (.int k (k.wrap (a-b)))
 |.mul=>some (.int k (k.wrap (a*b)))
 |.quo=>if b=0 then none else some (.int k (k.wrap (a.tdiv b)))
 |.rem=>if b=0 then none else some (.int k (a.tmod b))
 |.and=>some (.int k (k.wrap (BitVec.ofInt k.bits a&&&BitVec.ofInt k.bits b).toNat))
 |.or=>some (.int k (k.wrap (BitVec.ofInt k.bits a|||BitVec.ofInt k.bits b).toNat))
 |.xor=>some (.int k (k.wrap (BitVec.ofInt k.bits a^^^BitVec.ofInt k.bits b).toNat))
 |.andNot=>some (.int k (k.wrap (BitVec.ofInt k.bits a&&& ~~~(BitVec.ofInt k.bits b)).toNat))
 |.eql=>some (.bool (a==b))
 |.neq=>some (.bool (a != b))
 |.lss=>some (.bool (decide (a<b)))
 |.leq=>some (.bool (decide (a<=b)))
 |.gtr=>some (.bool (decide (b<a)))
 |.geq=>some (.bool (decide (b<=a)))
 |_=>none
def Lv(op:BinOp)(k:d8)(a b:Int)(c:be->aV):Ao op k a b c=match r5 op k a b with|some v=>c v|none=>.no:=by
 cases op<;>simp only[Ao,Sj,Sw,Sr,Su,Sv,Sk,St,Sx,Sl,Sm,Ss,Sq,Sp,So,Sn,Lu,r5]
 ·rw[iZ,ma,RD]
 ·rw[iZ,ma,RD,ON];rfl
 ·rw[iZ,ma,OF]
 ·rw[Dn];by_cases h:b=0
  ·subst h;rfl
  ·rw[zaa h,show(b==0)=false by simpa using h];cases a with
   |ofNat m=>
    cases b with
    |ofNat n=>
     show iL k (oZ k (.ofNat (m/n))) c=c (.int k (k.wrap ((m:Int).tdiv (n:Int))));rw[iZ,ma];rfl
    |negSucc n=>exact iZ _ _ _
   |negSucc m=>exact iZ _ _ _
 ·rw[Dn];by_cases h:b=0
  ·subst h;rfl
  ·rw[zaa h,show(b==0)=false by simpa using h];cases a with
   |ofNat m=>
    cases b with
    |ofNat n=>exact iZ k (Int.ofNat (m%n)) c
    |negSucc n=>exact iZ k ((Int.ofNat m).tmod (Int.negSucc n)) c
   |negSucc m=>exact iZ k ((Int.negSucc m).tmod b) c
 ·exact Lx _ _ _ _ _ _ (fun m n ha hb=>by subst ha hb;rw[aeG])
 ·exact Lx _ _ _ _ _ _ (fun m n ha hb=>by subst ha hb;rw[aeH])
 ·exact Lx _ _ _ _ _ _ (fun m n ha hb=>by subst ha hb;rw[aeI])
 ·exact iZ _ _ _
 ·rw[Dn]
 ·rw[Dn];rfl
 ·rw[tf];congr 2;rw[zbl];simp
 ·rw[tf]
 ·rw[tf];congr 2;rw[zbl];simp
 ·rw[tf]
def ar0(k:d8)(a:Int)(n:Nat):zO k a n=k.wrap (a*2^(min n k.bits)):=by
 unfold zO;rw[ma,OF];congr 2
def ar6(k:d8)(a:Int)(n:Nat):vB k a n=a.fdiv (2^(min n k.bits)):=by
 unfold vB;cases a with
 |ofNat m=>
  show((m/2^(min n k.bits):Nat):Int)=Int.fdiv (m:Int) _;rw[Int.fdiv_eq_ediv_of_nonneg _ (Int.pow_nonneg (by decide))]
  push_cast;rfl
 |negSucc m=>rfl
section
variable{ι:bx}{fr aA:aJ}{a:Act}{aP:Nat}{st st':au}{w:d7}{o:Oper}{v:be}{call:bG}
variable{op:BinOp}
def wZ{v':be}(h:aV.ok v fr st=aV.ok v' aA st'):v=v'∧fr=aA∧st=st':=by cases h;exact⟨rfl,rfl,rfl⟩
def ahg(P:f5)(w:d7)(op:BinOp)(t:ce)(x y:bi)(k k':d8)(m n:Int):(eqGuard op t x y (.int k m) (.int k' n)).run P w= .ok () w:=by
 cases op<;>simp[eqGuard]
def G4(P:f5)(w:d7)(op:BinOp)(t:ce)(x y:bi)(s u:f6):(eqGuard op t x y (.string s) (.string u)).run P w= .ok () w:=by
 cases op<;>simp[eqGuard]
def arG(P:f5)(w:d7)(op:BinOp)(t:ce)(k:d8)(m n:Int)(af:op≠.shl)(ft:op≠.shr)(h:r5 op k m n=some v):(binOp op t (.int k m) (.int k n)).run P w= .ok v w:=by
 cases op<;>simp only[r5]at h<;>first
  |(exact absurd rfl af)|(exact absurd rfl ft)
  |(cases h;simp[binOp,Op.intArith,Op.intBits,Op.intCmp];done)
  |(split at h
    ·cases h
    ·cases h;rename_i hb;simp[binOp,Op.intDiv,hb])
  |(simp at h)
def toList_eq(x y:f6):(x.toList==y.toList)=(x.data.toList==y.data.toList):=by
 rw[Lib.toList_data,Lib.toList_data]
def ahD{k k':d8}{m n:Int}{c:be->aV}{r:aV}(h:AQ op k m k' n c=r)(aL:aV.no≠r):
 ∃v,c v=r∧∀(P:f5) (w:d7) (t:ce),(binOp op t (.int k m) (.int k' n)).run P w= .ok v w:=by
 by_cases h1:op= .shl
 ·subst h1;obtain⟨b,hb,h⟩:=nB h aL;rw[iZ,ar0]at h;exact⟨_,h,fun P w t=>by subst hb;simp[binOp,Op.shift,show¬((b:Int)<0) by omega]⟩
 ·by_cases h2:op= .shr
  ·subst h2;obtain⟨b,hb,h⟩:=nB h aL;rw[iZ,ar6]at h;exact⟨_,h,fun P w t=>by subst hb;simp[binOp,Op.shift,show¬((b:Int)<0) by omega]⟩
  ·have aC:cond (kG k k') (Ao op k m n c) .no=r:=by
    rw[<-h];cases op<;>first|rfl|(exact absurd rfl h1)|(exact absurd rfl h2)
   obtain⟨hk,ab⟩:=jI aC aL;have:=u0 hk;subst this;rw[Lv]at ab;cases aa:r5 op k m n with
   |none=>rw[aa]at ab;exact absurd ab aL
   |some v=>rw[aa]at ab;exact⟨v,ab,fun P w t=>arG P w op t k m n h1 h2 aa⟩
def asc{t z4:ce}{x y:bi}(J:cH X.az x=true)(ay:cH X.az y=true)(ak:o.op= .binOp op t x y z4)(U:cF ι fr a aP)(hw:bz X ι st w)
 (h:Pj op x y call fr st= .ok v aA st'):aA=fr∧cl X ι w v st st' (execOp a.eval o):=by
 have bP:=U.ai hw J;have wI:=U.ai hw ay;unfold Pj at h;rcases ahA h (by simp)with⟨k,m,k',n,ex,uv,h⟩|⟨s,u,ex,uv,h⟩
 ·rw[ex]at bP;rw[uv]at wI;generalize cB:a.eval x=fH at bP;generalize gC:a.eval y=ru at wI;cases bP;cases wI;obtain⟨v1,oG,gB⟩:=ahD h (by simp);obtain⟨aq,e2,bS⟩:=wZ oG;subst aq e2 bS;refine⟨rfl,cl.same (v':=v1) hw ?_ ?_⟩
  ·unfold execOp;rw[ak];simp[cB,gC,ahg,gB,Result.andThen]
  ·have:kN v1=true:=by
    clear gB oG U hw J ay ex uv cB gC ak;rw[show AQ op k m k' n (fun v=>aV.ok v fr st)=(match op with
     |.shl=>ie n (fun b=>iL k (zO k m b) (fun v=>aV.ok v fr st)) .no
     |.shr=>ie n (fun b=>iL k (vB k m b) (fun v=>aV.ok v fr st)) .no
     |op=>cond (kG k k') (Ao op k m n (fun v=>aV.ok v fr st)) .no) by cases op<;>rfl]at h
    split at h
    ·obtain⟨b,_,h⟩:=nB h (by simp);rw[iZ]at h;cases h;rfl
    ·obtain⟨b,_,h⟩:=nB h (by simp);rw[iZ]at h;cases h;rfl
    ·obtain⟨_,h⟩:=jI h (by simp);rw[Lv]at h;split at h
     ·rename_i v2 mu;cases h;unfold r5 at mu;split at mu<;>first|(cases mu;rfl)|(split at mu<;>first|(cases mu;done)|(cases mu;rfl))|(cases mu)
     ·cases h
   exact bq.pure ι v1 this
 ·rw[ex]at bP;rw[uv]at wI;generalize cB:a.eval x=fH at bP;generalize gC:a.eval y=ru at wI;cases bP;cases wI;unfold CU at h;split at h
  ·obtain⟨hle,h⟩:=jZ h (by simp);cases h;simp only[fC]at hle;refine⟨rfl,cl.same (v':=.string (s++u)) hw ?_ ?_⟩
   ·unfold execOp;rw[ak];have et:¬(((s.size+u.size:Nat):Int)>IntKind.i64.max):=by
     have h1:s.size=s.data.toList.length:=(zbE (xs:=s.data)).symm;have h2:u.size=u.data.toList.length:=(zbE (xs:=u.data)).symm;have ab:IntKind.i64.max=9223372036854775807:=by decide
     have aD:s.data.toList.length+u.data.toList.length<=1099511627776:=hle;rw[ab,h1,h2];omega
    simp only[cB,gC,Sem.run_bind,G4,Result.andThen,binOp,Op.stringOp];rw[zaa et];rfl
   ·have:(⟨⟨gJ s.data.toList u.data.toList⟩⟩:f6)=s++u:=by
     rw[rF];apply ByteArray.ext;simp[ByteArray.data_append]
    rw[this];exact .string _
  ·cases h;refine⟨rfl,cl.same (v':=.bool (s.data.toList==u.data.toList)) hw ?_ (.bool _)⟩;unfold execOp;rw[ak];simp only[cB,gC,Sem.run_bind,G4,Result.andThen,binOp,Op.stringOp,toList_eq];rfl
  ·cases h;refine⟨rfl,cl.same (v':=.bool (!(s.data.toList==u.data.toList))) hw ?_ (.bool _)⟩;unfold execOp;rw[ak];simp only[cB,gC,Sem.run_bind,G4,Result.andThen,binOp,Op.stringOp,toList_eq];rfl
  ·cases h
end
def add_eq(b o n:Nat):Addr.add ⟨b,o,none⟩ n=⟨b,o+n,none⟩:=by unfold Addr.add;split<;>simp_all
def CO(a:Addr)(n:Nat):(a.add n).block=a.block:=by unfold Addr.add;split<;>rfl
def CP(a:Addr)(n:Nat)(h:a.spot=none):(a.add n).spot=none:=by unfold Addr.add;split<;>simp_all
def Gb(a:Addr)(n:Nat):(a.add n).off=a.off+n:=by unfold Addr.add;split<;>simp_all
def bq.PI{a:Addr}(h:ι a.block=some l)(af:a.spot=none)(n:Nat):bq ι (.pointer (some (a.add n))) (.pointer (some (Addr.add ⟨l.cJ,l.cQ+a.off,none⟩ n))):=by
 have:=bq.ptr (ι:=ι) (a.add n) l (by rw[CO];exact h) (CP a n af);rw[Gb]at this;rw[add_eq,show l.cQ+a.off+n=l.cQ+(a.off+n) by omega];exact this
section
variable{ι:bx}{fr aA:aJ}{a:Act}{aP:Nat}{st st':au}{w:d7}{o:Oper}{v:be}{call:bG}
variable{x:bi}{t s:ce}{n:Nat}{i:bi}{bb:f7}{d:ce}
def asw{f:Nat}{fields:ap Field}{fd:Field}{i:f7}(J:cH X.az x=true)(ak:o.op= .fieldAddr s x f)(hu:X.P.underlying s=some (.struct fields))(uJ:fields[f]? =some fd)
 (aa:X.P.info? fd.type=some i) (av:i.size≠0) (U:cF ι fr a aP) (hw:bz X ι st w) (h:ZV fd.offset x call fr st= .ok v aA st'):
 aA=fr∧cl X ι w v st st' (execOp a.eval o):=by
 obtain⟨p,hp,h⟩:=rp h (by simp);obtain⟨ad,rfl,h⟩:=gO h (by simp);cases h;have bP:=U.ai hw J;rw[hp]at bP;generalize cB:a.eval x=fH at bP;cases bP with
 |ptr _ l hl af=>
  refine⟨rfl,cl.same (v':=.pointer (some (Addr.add ⟨l.cJ,l.cQ+ad.off,none⟩ fd.offset))) hw ?_ (bq.PI hl af _)⟩;unfold execOp;rw[ak];simp[cB,Instr.fieldAt,run_underlying hu,uJ,Instr.sureAddr,fieldPlace,kq aa,av,Result.andThen]
def asy(J:cH X.az x=true)(eC:cH X.az i=true)(ak:o.op= .indexAddr t x i)(hu:X.P.underlying t=some (.array n e))(aa:X.P.info? e=some bb)
 (U:cF ι fr a aP) (hw:bz X ι st w) (h:w0 n bb.size x i call fr st= .ok v aA st'):
 aA=fr∧cl X ι w v st st' (execOp a.eval o):=by
 obtain⟨p,hp,h⟩:=rp h (by simp);obtain⟨ad,rfl,h⟩:=gO h (by simp);obtain⟨k,m,hm,h⟩:=j7 h (by simp);obtain⟨j,rfl,h⟩:=nB h (by simp);obtain⟨hj,h⟩:=jZ h (by simp);cases h;have bP:=U.ai hw J;rw[hp]at bP;generalize cB:a.eval x=fH at bP;have hD:=U.ai hw eC;rw[hm]at hD;generalize yC:a.eval i=nw at hD;cases hD;cases bP with
 |ptr _ l hl af=>
  refine⟨rfl,cl.same (v':=.pointer (some (Addr.add ⟨l.cJ,l.cQ+ad.off,none⟩ (j*bb.size)))) hw ?_ (bq.PI hl af _)⟩;unfold execOp;rw[ak];have nY:j<n:=by omega
  simp[cB,yC,Instr.indexAt,asIntOf,run_underlying hu,Instr.sureAddr,kq aa,Result.andThen,nY]
def asz(J:cH X.az x=true)(eC:cH X.az i=true)(ak:o.op= .indexAddr t x i)(hu:X.P.underlying t=some (.slice e))(aa:X.P.info? e=some bb)
 (U:cF ι fr a aP) (hw:bz X ι st w) (h:ZX bb.size x i call fr st= .ok v aA st'):
 aA=fr∧cl X ι w v st st' (execOp a.eval o):=by
 obtain⟨b,len,cap,hp,h⟩:=xy h (by simp);obtain⟨ad,rfl,h⟩:=gO h (by simp);obtain⟨k,m,hm,h⟩:=j7 h (by simp);obtain⟨j,rfl,h⟩:=nB h (by simp);obtain⟨hj,h⟩:=jZ h (by simp);cases h;have bP:=U.ai hw J;rw[hp]at bP;generalize cB:a.eval x=fH at bP;have hD:=U.ai hw eC;rw[hm]at hD;generalize yC:a.eval i=nw at hD;cases hD;cases bP with
 |hv _ l off _ _ hl af jL=>
  have uN:off=l.cQ+ad.off:=by rcases jL with h|⟨h,_⟩<;>omega
  subst uN;refine⟨rfl,cl.same (v':=.pointer (some (Addr.add ⟨l.cJ,l.cQ+ad.off,none⟩ (j*bb.size)))) hw ?_ (bq.PI hl af _)⟩;unfold execOp;rw[ak];have nY:j<len:=by omega
  simp[cB,yC,Instr.indexAt,asIntOf,run_underlying hu,kq aa,Result.andThen,nY]
def asj{k:d8}{en:TypeDesc}(J:cH X.az x=true)(ak:o.op= .convert s t x)(af:X.P.underlying s=some en)(aF:X.P.underlying t=some (.int k))
 (U:cF ι fr a aP) (hw:bz X ι st w) (h:ZR k x call fr st= .ok v aA st'):
 aA=fr∧cl X ι w v st st' (execOp a.eval o):=by
 obtain⟨k',n,hp,h⟩:=j7 h (by simp);rw[iZ,ma]at h;cases h;have bP:=U.ai hw J;rw[hp]at bP;generalize cB:a.eval x=fH at bP;cases bP;refine⟨rfl,cl.same (v':=.int k (k.wrap n)) hw ?_ (.int _ _)⟩;unfold execOp;rw[ak];simp[cB,convert,run_underlying af,run_underlying aF,Result.andThen,Conv.intToInt]
def asi{en:TypeDesc}(J:cH X.az x=true)(ak:o.op= .convert s t x)(af:X.P.underlying s=some en)(aF:X.P.underlying t=some .string)
 (U:cF ι fr a aP) (hw:bz X ι st w) (h:ZQ x call fr st= .ok v aA st'):
 aA=fr∧cl X ι w v st st' (execOp a.eval o):=by
 obtain⟨bh,hp,h⟩:=ql h (by simp);cases h;have bP:=U.ai hw J;rw[hp]at bP;generalize cB:a.eval x=fH at bP;cases bP;refine⟨rfl,cl.same (v':=.string bh) hw ?_ (.string _)⟩;unfold execOp;rw[ak];simp[cB,convert,run_underlying af,run_underlying aF,Result.andThen]
def asK{d:TypeDesc}(J:cH X.az x=true)(ak:o.op= .makeInterface t x)(aF:X.P.underlying t=some d)(ao:∀ms,d≠.interface ms)
 (U:cF ι fr a aP) (hw:bz X ι st w) (h:Z4 t x call fr st= .ok v aA st'):
 aA=fr∧cl X ι w v st st' (execOp a.eval o):=by
 cases h;refine⟨rfl,cl.same (v':=.iface t (a.eval x)) hw ?_ (.iface _ _ _ (U.ai hw J))⟩;unfold execOp;rw[ak];simp only[Instr.makeInterface,Sem.run_bind,run_underlying aF,Result.andThen];cases d<;>first|rfl|(exact absurd rfl (ao _))
theorem AS(U:cF ι fr a aP)(hw:bz X ι st w):∀xs:ac bi,(∀x∈xs,cH X.az x=true)->bI ι (er fr xs) (xs.map a.eval)
 |[],_=>bI.nil ι
 |x::xs,h=>bI.cons (U.ai hw (h x (by simp))) (AS U hw xs (fun y ay=>h y (by simp[ay])))
def acj{f:Fn}(nr:∀l,f≠.yield l){first fK:ap bi}(h1:∀x∈first.toList,cH X.az x=true)(h2:∀x∈fK.toList,cH X.az x=true)(ak:o.op= .makeFunc f first fK)
 (U:cF ι fr a aP) (hw:bz X ι st w) (h:Z3 f first.toList fK.toList call fr st= .ok v aA st'):
 aA=fr∧cl X ι w v st st' (execOp a.eval o):=by
 cases h;refine⟨rfl,cl.same (v':=.func f (first.map a.eval) (fK.map a.eval)) hw ?_ (bq.Jb (.inl ⟨rfl,nr⟩) ?_ ?_)⟩
 ·unfold execOp;rw[ak];simp[Instr.makeFunc]
 ·simpa using AS U hw first.toList h1
 ·simpa using AS U hw fK.toList h2
def asv{i:Nat}(J:cH X.az x=true)(ak:o.op= .extract x i)(U:cF ι fr a aP)(hw:bz X ι st w)(h:ZU x i call fr st= .ok v aA st'):
 aA=fr∧cl X ι w v st st' (execOp a.eval o):=by
 obtain⟨vs,hp,h⟩:=adx h (by simp);obtain⟨hn,h⟩:=vZ h (by simp);obtain⟨y,ay,h⟩:=BP h (by simp);cases h;have bP:=U.ai hw J;rw[hp]at bP;generalize cB:a.eval x=fH at bP;cases bP with
 |tuple _ al h1 h2=>
  have hlen:i<vs.size:=by simp at hn;omega
  have aa:vs[i]=v:=by
   have:=congrArg (fun l=>l[0]?) ay;simpa[hlen]using this
  refine⟨rfl,cl.same (v':=al[i]'(by omega)) hw ?_ ?_⟩
  ·unfold execOp;rw[ak];simp[cB,Instr.extract,show i<al.size by omega]
  ·rw[<-aa];exact h2 i hlen (by omega)
def asE(ak:o.op= .call {callee:=.builtin .len,args:= #[x],argTypes:= #[t]})(hu:X.P.underlying t=some (.array n d))(hw:bz X ι st w)
 (h:Pl n call fr st= .ok v aA st'):aA=fr∧cl X ι w v st st' (execOp a.eval o):=by
 cases h;refine⟨rfl,cl.same (v':=.int .i64 (.ofNat n)) hw ?_ (.int _ _)⟩;unfold execOp;rw[ak];simp[resolve,invoke,builtin,Builtin.len_,run_underlying hu,Result.andThen,goInt]
def asF{u:ce}(ak:o.op= .call {callee:=.builtin .len,args:= #[x],argTypes:= #[t]})(hu:X.P.underlying t=some (.pointer u))(yU:X.P.underlying u=some (.array n d))(hw:bz X ι st w)
 (h:Pl n call fr st= .ok v aA st'):aA=fr∧cl X ι w v st st' (execOp a.eval o):=by
 cases h;refine⟨rfl,cl.same (v':=.int .i64 (.ofNat n)) hw ?_ (.int _ _)⟩;unfold execOp;rw[ak];simp[resolve,invoke,builtin,Builtin.len_,run_underlying hu,run_underlying yU,Result.andThen,goInt]
def aoh(h:Jj x call fr st= .ok v aA st'):(∃b n c,fr.ai x= .slice b n c∧aV.ok (.int .i64 (.ofNat n)) fr st= .ok v aA st')∨(fr.ai x= .chan none∧aV.ok (.int .i64 (.ofNat 0)) fr st= .ok v aA st'):=by
 unfold Jj at h;cases aB:fr.ai x with
 |slice b n c=>rw[aB]at h;exact .inl ⟨b,n,c,rfl,h⟩
 |chan p=>
  rw[aB]at h;cases p with
  |none=>exact .inr ⟨rfl,h⟩
  |some _=>cases h
 |_=>rw[aB]at h;cases h
def asG(J:cH X.az x=true)(ak:o.op= .call {callee:=.builtin .len,args:= #[x],argTypes:= #[t]})(hu:X.P.underlying t=some (.slice e))
 (U:cF ι fr a aP) (hw:bz X ι st w) (h:Jj x call fr st= .ok v aA st'):aA=fr∧cl X ι w v st st' (execOp a.eval o):=by
 rcases aoh h with⟨b,n,c,hp,h⟩|⟨hp,h⟩
 ·cases h;have bP:=U.ai hw J;rw[hp]at bP;generalize cB:a.eval x=fH at bP;refine⟨rfl,cl.same (v':=.int .i64 (.ofNat n)) hw ?_ (.int _ _)⟩;unfold execOp;rw[ak];cases bP<;>simp[cB,resolve,invoke,builtin,Builtin.len_,run_underlying hu,Result.andThen,goInt]
 ·cases h;have bP:=U.ai hw J;rw[hp]at bP;generalize cB:a.eval x=fH at bP;refine⟨rfl,cl.same (v':=.int .i64 (.ofNat 0)) hw ?_ (.int _ _)⟩;unfold execOp;rw[ak];cases bP<;>simp[cB,resolve,invoke,builtin,Builtin.len_,run_underlying hu,Result.andThen,goInt]
def asH(J:cH X.az x=true)(ak:o.op= .call {callee:=.builtin .len,args:= #[x],argTypes:= #[t]})(hu:X.P.underlying t=some .string)
 (U:cF ι fr a aP) (hw:bz X ι st w) (h:Z1 x call fr st= .ok v aA st'):aA=fr∧cl X ι w v st st' (execOp a.eval o):=by
 obtain⟨s,hp,h⟩:=ql h (by simp);rw[AV,fC]at h;cases h;have bP:=U.ai hw J;rw[hp]at bP;generalize cB:a.eval x=fH at bP;cases bP;have e:Int.ofNat s.data.toList.length=(s.size:Int):=by rw[zbE];rfl
 rw[e];refine⟨rfl,cl.same (v':=.int .i64 s.size) hw ?_ (.int _ _)⟩;unfold execOp;rw[ak];simp[cB,resolve,invoke,builtin,Builtin.len_,run_underlying hu,Result.andThen,goInt]
end
def aal{t:ce}{d:TypeDesc}{i:f7}{off:Nat}{cs cs':ap be}(ao:P.underlying t=some d)(aa:P.info? t=some i)
 (aL:bI ι cs.toList cs'.toList) (h:vo off i.size (rE d) cs.toList=some v) (w:d7):∃v',(part t cs' off).run P w= .ok v' w∧bq ι v v':=by
 unfold vo at h;obtain⟨hn,h⟩:=vZ h (by simp);have mW:=(aL.drop off).take i.size;cases aO:rE d with
 |true=>
  rw[aO]at h;cases h;refine⟨.agg (cs'.extract off (off+i.size)),?_,bq.BO ?_⟩
  ·simp only[part,Sem.run_bind,Eu ao,aO,Result.andThen,if_true,kq aa,Sem.run_pure]
  ·have e:(cs'.extract off (off+i.size)).toList=(cs'.toList.drop off).take i.size:=by
    rw[zdG,zdH];congr 1;omega
   rw[e];simpa using mW
 |false=>
  rw[aO]at h;obtain⟨y,ay,h⟩:=BP h (by simp);cases h;rw[ay]at mW;obtain⟨z,gS,av,aB,r3⟩:=mW.cons_inv;have e:cs'[off]? =some z:=by
   have:=congrArg (fun l=>l[0]?) av;simp only[zaT,zaR,zcI,zbh]at this;split at this
   ·simpa using this
   ·cases this
  refine⟨z,?_,aB⟩;simp only[part,Sem.run_bind,Eu ao,aO,Result.andThen,zbt,if_false,e,Sem.run_pure]
theorem acw(off:Nat):∀(vs:ac be) (k:Nat) (C:ap be),off+k+vs.length<=C.size->
 (vs.zipIdx k).foldl (fun cs (p:be×Nat)=>cs.setIfInBounds (off+p.2) p.1) C=(C.toList.take (off+k)++(vs++C.toList.drop (off+k+vs.length))).toArray
 |[],k,C,_=>by simp
 |v::vs,k,C,h=>by
  simp only[zax]at h;have hl:off+k<C.toList.length:=by simp;omega
  rw[List.zipIdx_cons,List.foldl_cons,acw off vs (k+1) _ (by simp;omega)];have mr:(C.setIfInBounds (off+k) v).toList=C.toList.set (off+k) v:=by simp
  rw[mr];have t1:(C.toList.set (off+k) v).take (off+(k+1))=C.toList.take (off+k)++[v]:=by
   rw[show off+(k+1)=(off+k)+1 by omega,zce (by simpa using hl),zbg (b6 _)];simp
  have t2:(C.toList.set (off+k) v).drop (off+(k+1)+vs.length)=C.toList.drop (off+k+(v::vs).length):=by
   rw[zdb (by omega)];congr 1;simp only[zax];omega
  rw[t1,t2];simp
def bI.as6{cs' vs gG:ac be}(h:bI ι cs cs')(aB:bI ι vs gG)(n:Nat):
 bI ι (cs.take n++(vs++cs.drop (n+vs.length))) (cs'.take n++(gG++cs'.drop (n+gG.length))):=by
 rw[aB.1];exact(h.take n).append (aB.append (h.drop _))
section
variable{ι:bx}{fr aA:aJ}{a:Act}{aP:Nat}{st st':au}{w:d7}{o:Oper}{v:be}{call:bG}
variable{t:ce}{x:bi}{d:TypeDesc}{i:f7}
theorem Hc(place:Nat->am (Nat×Nat))(U:cF ι fr a aP)(hw:bz X ι st w){c:ac be->aV}{r:aV}(aL:aV.no≠r):
 ∀(parts:ac (Nat×bi)) (ps:ac (Nat×Nat×bi)),ps=parts.map (fun p=>(((place p.1).getD (0,0)).1,((place p.1).getD (0,0)).2,p.2))->(∀p∈parts,(place p.1).isSome∧cH X.az p.2=true)->
 ∀(cs:ac be) (cs':ap be),bI ι cs cs'.toList->o9 fr ps cs c=r->
  ∃out oN,Instr.fill place cs' (parts.map fun p=>(p.1,a.eval p.2))=some oN∧bI ι out oN.toList∧c out=r
 |[],_,rfl,_,cs,cs',eT,h=>⟨cs,cs',rfl,eT,h⟩
 |(i,x)::parts,_,rfl,bH,cs,cs',eT,h=>by
  obtain⟨amK,J⟩:=bH (i,x) (by simp);obtain⟨⟨off,a2⟩,hQ⟩:=zeo.1 amK;simp only[zaZ,hQ,zep]at h;obtain⟨l0,h⟩:=BF h aL;obtain⟨et,h⟩:=mN h aL;obtain⟨hle,h⟩:=jZ h aL;simp only[fC]at et hle;have avu:off+a2<=cs.length:=hle;have cb:fr.ai x≠jB:=by intro e;rw[e]at l0;simp[uW,jB]at l0
  have Xn:=bI.cells (U.ai hw J) cb;have ft:(jr (fr.ai x)).length=a2:=et;have hlen:(a.eval x).cells.size=a2:=by have:=Xn.1;simp at this;rw[<-this];simpa[jr]using ft
  have No:cs'.size=cs.length:=by have:=eT.1;simp at this;omega
  have h2:o9 fr (parts.map (fun p=>(((place p.1).getD (0,0)).1,((place p.1).getD (0,0)).2,p.2))) (cs.take off++(jr (fr.ai x)++cs.drop (off+(jr (fr.ai x)).length))) c=r:=by
   rcases PK h aL with⟨_,h⟩|⟨he,h⟩
   ·exact h
   ·rw[he];simp;exact h
  obtain⟨out,oN,ab,aD,bg⟩:=Hc place U hw aL parts _ rfl (fun p hp=>bH p (by simp[hp])) _ ((a.eval x).cells.zipIdx.foldl (fun cs (p:be×Nat)=>cs.setIfInBounds (off+p.2) p.1) cs') (by
   rw[<-Array.foldl_toList,Array.toList_zipIdx,acw off _ 0 cs' (by simp;omega)];have:=eT.as6 Xn off;simpa[jr]using this) h2
  refine⟨out,oN,?_,aD,bg⟩;simp only[zaZ,Instr.fill,hQ];rw[zaa (by simp;omega)];exact ab
def asx{f:Nat}{fields:ap Field}{fd:Field}(J:cH X.az x=true)(ak:o.op= .field t x f)(hu:X.P.underlying t=some (.struct fields))(uJ:fields[f]? =some fd)
 (ao:X.P.underlying fd.type=some d) (aa:X.P.info? fd.type=some i) (U:cF ι fr a aP) (hw:bz X ι st w) (h:ZW fd.offset i.size (rE d) x call fr st= .ok v aA st'):
 aA=fr∧cl X ι w v st st' (execOp a.eval o):=by
 obtain⟨cs,hp,h⟩:=zV h (by simp);obtain⟨v1,oG,h⟩:=gO h (by simp);cases h;have bP:=U.ai hw J;rw[hp]at bP;generalize cB:a.eval x=fH at bP;cases bP with
 |agg _ al h1 h2=>
  obtain⟨v',aL,aB⟩:=aal ao aa (bI.wW h1 h2) oG w;refine⟨rfl,cl.same (v':=v') hw ?_ aB⟩;unfold execOp;rw[ak];simp[cB,Instr.field,run_underlying hu,uJ,asAgg,aL,Result.andThen]
def asC{i:bi}{n:Nat}{bb:f7}(J:cH X.az x=true)(eC:cH X.az i=true)(ak:o.op= .index t x i)(hu:X.P.underlying t=some (.array n e))
 (ao:X.P.underlying e=some d) (aa:X.P.info? e=some bb) (U:cF ι fr a aP) (hw:bz X ι st w) (h:ZY n bb.size (rE d) x i call fr st= .ok v aA st'):
 aA=fr∧cl X ι w v st st' (execOp a.eval o):=by
 obtain⟨cs,hp,h⟩:=zV h (by simp);obtain⟨k,m,hm,h⟩:=j7 h (by simp);obtain⟨j,rfl,h⟩:=nB h (by simp);obtain⟨hj,h⟩:=jZ h (by simp);obtain⟨v1,oG,h⟩:=gO h (by simp);cases h;have bP:=U.ai hw J;rw[hp]at bP;generalize cB:a.eval x=fH at bP;have hD:=U.ai hw eC;rw[hm]at hD;generalize yC:a.eval i=nw at hD;cases hD;cases bP with
 |agg _ al h1 h2=>
  obtain⟨v',aL,aB⟩:=aal ao aa (bI.wW h1 h2) oG w;refine⟨rfl,cl.same (v':=v') hw ?_ aB⟩;unfold execOp;rw[ak];have nY:j<n:=by omega
  have mW:(part e al (j*bb.size)).run X.P w= .ok v' w:=aL;simp[cB,yC,Instr.index,asIntOf,run_underlying hu,kq aa,mW,nY,Result.andThen]
def asD{i:bi}(J:cH X.az x=true)(eC:cH X.az i=true)(ak:o.op= .index t x i)(hu:X.P.underlying t=some .string)
 (U:cF ι fr a aP) (hw:bz X ι st w) (h:ZZ x i call fr st= .ok v aA st'):
 aA=fr∧cl X ι w v st st' (execOp a.eval o):=by
 obtain⟨s,hp,h⟩:=ql h (by simp);obtain⟨k,m,hm,h⟩:=j7 h (by simp);obtain⟨j,rfl,h⟩:=nB h (by simp);obtain⟨hn,h⟩:=vZ h (by simp);obtain⟨b,hb,h⟩:=BP h (by simp);cases h;have bP:=U.ai hw J;rw[hp]at bP;generalize cB:a.eval x=fH at bP;have hD:=U.ai hw eC;rw[hm]at hD;generalize yC:a.eval i=nw at hD;cases hD;cases bP;have aE:j<s.data.size:=by rw[zaF,zbE]at hn;omega
 have cZ:s[j]? =some b:=by
  have:=congrArg (fun l=>l[0]?) hb;simp only[zaT,zaR,zcI,zbh]at this;rw[zab (by omega)]at this;have h1:s.data[j]? =some b:=by simpa using this
  rw[zdD aE]at h1;have Bb:j<s.size:=aE;rw[getElem?_pos s j Bb];exact h1
 refine⟨rfl,cl.same (v':=.int .u8 b.toNat) hw ?_ (.int _ _)⟩;unfold execOp;rw[ak];simp[cB,yC,Instr.index,asIntOf,run_underlying hu,cZ,Result.andThen]
def asY{lO:ce}{z:be}{ok:Bool}(J:cH X.az x=true)(ak:o.op= .typeAssert x lO t ok)(ao:X.P.underlying t=some d)(iV:∀ms,d≠.interface ms)
 (aa:X.P.info? t=some i) (av:i.zero=some z) (hp:kN z=true) (U:cF ι fr a aP) (hw:bz X ι st w) (h:Pn t z ok x call fr st= .ok v aA st'):
 aA=fr∧cl X ι w v st st' (execOp a.eval o):=by
 have bP:=U.ai hw J;generalize cB:a.eval x=fH at bP;unfold Pn at h;generalize aB:fr.ai x=lY at h bP;have H8:bq ι (.tuple #[z,.bool false]) (.tuple #[z,.bool false]):=bq.sh (bI.cons (bq.pure ι z hp) (bI.cons (.bool _) (bI.nil ι)));cases lY with
 |iface u y=>
  have jj:eQ u t (aV.ok (cond ok (.tuple #[y,.bool true]) y) fr st) (cond ok (aV.ok (.tuple #[z,.bool false]) fr st) aV.no)=aV.ok v aA st':=h;cases bP with
  |iface _ _ nP ay=>
   rw[pN]at jj;clear h;split at jj
   ·rename_i e;subst e;cases jj;refine⟨rfl,cl.same (v':=if ok then .tuple #[nP,.bool true]else nP) hw ?_ ?_⟩
    ·unfold execOp;rw[ak];simp only[cB,Instr.typeAssert,Sem.run_bind,run_underlying ao,Result.andThen];cases d<;>first|(exact absurd rfl (iV _))|(simp)
    ·cases ok
     ·exact ay
     ·exact bq.sh (bI.cons ay (bI.cons (.bool _) (bI.nil ι)))
   ·rename_i e;obtain⟨bH,jj⟩:=jI jj (by simp);cases jj;refine⟨rfl,cl.same (v':=.tuple #[z,.bool false]) hw ?_ H8⟩;unfold execOp;rw[ak];simp only[cB,Instr.typeAssert,Sem.run_bind,run_underlying ao,Result.andThen];cases d<;>first|(exact absurd rfl (iV _))|(simp[e,bH,vH aa av,Result.andThen])
 |nilIface=>
  have h:cond ok (aV.ok (.tuple #[z,.bool false]) fr st) aV.no=aV.ok v aA st':=h;obtain⟨bH,h⟩:=jI h (by simp);cases h;cases bP;refine⟨rfl,cl.same (v':=.tuple #[z,.bool false]) hw ?_ H8⟩;unfold execOp;rw[ak];simp only[cB,Instr.typeAssert,Sem.run_bind,run_underlying ao,Result.andThen];cases d<;>first|(exact absurd rfl (iV _))|(simp[bH,vH aa av,Result.andThen])
 |_=>exact absurd h (by simp[zW])
end
theorem Y0{α β:Type}(P:f5)(w:d7)(f:α->Sem β)(g:α->β):∀(l:ac α),(∀x∈l,(f x).run P w= .ok (g x) w)->(l.mapM f).run P w= .ok (l.map g) w
 |[],_=>by simp
 |x::xs,h=>by
  rw[zdI];simp[h x (by simp),Y0 P w f g xs (fun y ay=>h y (by simp[ay])),Result.andThen]
section
variable{ι:bx}{fr aA:aJ}{a:Act}{aP:Nat}{st st':au}{w:d7}{o:Oper}{v:be}{call:bG}
variable{t:ce}{z:be}{parts:ap (Nat×bi)}{ps:ac (Nat×Nat×bi)}{bb i:f7}
def asg{fields:ap Field}(ak:o.op= .build t parts)(hu:X.P.underlying t=some (.struct fields))
 (aa:X.P.info? t=some i) (av:i.zero=some z) (hp:nO z.cells.toList=true) (alM:∀f∈fields.toList,(X.P.info? f.type).isSome)
 (jY:ps=parts.toList.map (fun p=>((((fields.map fun f=>(f.offset,X.P.cellsOf f.type))[p.1]?).getD (0,0)).1,(((fields.map fun f=>(f.offset,X.P.cellsOf f.type))[p.1]?).getD (0,0)).2,p.2)))
 (bH:∀p∈parts.toList,((fields.map fun f=>(f.offset,X.P.cellsOf f.type))[p.1]?).isSome∧cH X.az p.2=true) (U:cF ι fr a aP) (hw:bz X ι st w)
 (h:Pk z.cells.toList ps call fr st= .ok v aA st'):aA=fr∧cl X ι w v st st' (execOp a.eval o):=by
 obtain⟨out,oN,h1,h2,ab⟩:=Hc (fun j=>(fields.map fun f=>(f.offset,X.P.cellsOf f.type))[j]?) U hw (by simp) parts.toList ps jY bH z.cells.toList z.cells (bI.zy ι _ hp) h;cases ab;refine⟨rfl,cl.same (v':=.agg oN) hw ?_ (bq.BO h2)⟩;unfold execOp;rw[ak];have hm:(fields.mapM fun f=>do pure (f.offset,<-sizeOf f.type):Sem (ap (Nat×Nat))).run X.P w= .ok (fields.map fun f=>(f.offset,X.P.cellsOf f.type)) w:=by
  rw[zeZ];rw[Sem.run_map,Y0 X.P w _ (fun f:Field=>(f.offset,X.P.cellsOf f.type)) fields.toList (fun f alK=>by
   obtain⟨au8,Xr⟩:=zeo.1 (alM f alK);simp[kq Xr,Result.andThen,Program.cellsOf,Xr])]
  simp only[Result.andThen];congr 1;apply Array.ext';simp
 simp only[Instr.build,Sem.run_bind,vH aa av,Result.andThen,run_underlying hu,hm];have lZ:Instr.fill (fun x=>(Array.map (fun f:Field=>(f.offset,X.P.cellsOf f.type)) fields)[x]?) z.cells (parts.map fun x=>(x.1,a.eval x.2)).toList=some oN:=by
  rw[<-h1];simp
 rw[lZ];rfl
def asf{n:Nat}(ak:o.op= .build t parts)(hu:X.P.underlying t=some (.array n e))
 (aa:X.P.info? t=some i) (av:i.zero=some z) (hp:nO z.cells.toList=true) (hs:X.P.info? e=some bb)
 (jY:ps=parts.toList.map (fun p=>(p.1*bb.size,bb.size,p.2))) (bH:∀p∈parts.toList,cH X.az p.2=true) (U:cF ι fr a aP) (hw:bz X ι st w)
 (h:Pk z.cells.toList ps call fr st= .ok v aA st'):aA=fr∧cl X ι w v st st' (execOp a.eval o):=by
 obtain⟨out,oN,h1,h2,ab⟩:=Hc (fun j=>some (j*bb.size,bb.size)) U hw (by simp) parts.toList ps (by rw[jY];simp) (fun p hp=>⟨by simp,bH p hp⟩) z.cells.toList z.cells (bI.zy ι _ hp) h;cases ab;refine⟨rfl,cl.same (v':=.agg oN) hw ?_ (bq.BO h2)⟩;unfold execOp;rw[ak];simp only[Instr.build,Sem.run_bind,vH aa av,Result.andThen,run_underlying hu,kq hs];have lZ:Instr.fill (fun i=>some (i*bb.size,bb.size)) z.cells (parts.map fun x=>(x.1,a.eval x.2)).toList=some oN:=by
  rw[<-h1];simp
 rw[lZ];rfl
def ase{len:Nat}{gS:ac be}(ak:o.op= .buildSlice t len parts)(hu:X.P.underlying t=some (.slice e))
 (hs:X.P.info? e=some bb) (av:bb.zero=some z) (XB:len*bb.size<=2^24) (r3:gS=(List.range (len*bb.size)).map (fun j=>(if len*bb.size=0 then(#[]:ap be)else z.cells)[j%(if len*bb.size=0 then(#[]:ap be)else z.cells).size]!))
 (hp:nO gS=true) (jY:ps=parts.toList.map (fun p=>(p.1*bb.size,bb.size,p.2))) (bH:∀p∈parts.toList,cH X.az p.2=true) (U:cF ι fr a aP) (hw:bz X ι st w)
 (h:BR e len gS ps call fr st= .ok v aA st'):aA=fr∧tP X ι w v st st' (execOp a.eval o):=by
 obtain⟨out,oN,h1,h2,ab⟩:=Hc (fun j=>some (j*bb.size,bb.size)) U hw (by simp) parts.toList ps (by rw[jY];simp) (fun p hp=>⟨by simp,bH p hp⟩) gS gS.toArray (by simpa using bI.zy ι _ hp) h;rw[g8]at ab;cases ab;obtain⟨aR,bf,bL,eM,p6⟩:=hw.I1 e h2 {w with heap:=w.heap.push (.cells oN e)} (by simp);rw[p6]at bf bL eM;refine⟨rfl,_,_,_,.slice (some ⟨w.heap.size,0,none⟩) len len,_,rfl,by simp,?_,rfl,?_,bf,bL⟩
 ·unfold execOp;rw[ak];simp only[Instr.buildSlice,Sem.run_bind,Result.andThen,run_underlying hu,kq hs];rw[zaa (by omega)];have lZ:Instr.fill (fun i=>some (i*bb.size,bb.size)) ((Array.range (len*bb.size)).map ((if len*bb.size=0 then(#[]:ap be)else z.cells)[· %(if len*bb.size=0 then(#[]:ap be)else z.cells).size]!)) (parts.map fun x=>(x.1,a.eval x.2)).toList=some oN:=by
   rw[<-h1];congr 1
   ·rw[r3];apply Array.ext';simp
   ·simp
  by_cases h0:len*bb.size=0
  ·simp only[h0,if_true]at lZ⊢;simp only[Sem.run_pure,Result.andThen,Sem.run_bind,lZ,newRow,run_newObj]
  ·simp only[h0,if_false]at lZ⊢;simp only[Sem.run_pure,Sem.run_bind,vH hs av,Result.andThen,lZ,newRow,run_newObj]
 ·have:=bq.hv (ι:=iG ι st.aj ⟨w.heap.size,0,0,id⟩) ⟨st.aj,0,none⟩ ⟨w.heap.size,0,0,id⟩ 0 len len eM rfl (.inl rfl);simpa using this
theorem Ta(z:ac be):∀(n:Nat),z≠[]->nR z n=(List.range (n*z.length)).map (fun j=>z.toArray[j%z.toArray.size]!)
 |0,_=>by simp only[zaA,List.range_zero,zcs];rfl
 |n+1,av=>by
  show gJ z (nR z n)=_;rw[rF,Ta z n av];have Ea:0<z.length:=zbn.2 av;rw[zcJ,zcf,List.range_add,zcg,zch];congr 1
  ·apply zbA;intro j;by_cases hj:j<z.length
   ·simp[hj,gR hj]
   ·simp[hj]
  ·apply zdJ;intro j _;simp
def asL{l c:bi}(hl:cH X.az l=true)(hc:cH X.az c=true)(ak:o.op= .makeSlice t l c)(hu:X.P.underlying t=some (.slice e))(hs:X.P.info? e=some bb)
 (av:bb.zero=some z) (et:z.cells.toList.length=bb.size) (cb:bb.size≠0) (hp:nO z.cells.toList=true) (U:cF ι fr a aP) (hw:bz X ι st w)
 (h:tq e bb.bytes z.cells.toList l c call fr st= .ok v aA st'):aA=fr∧tP X ι w v st st' (execOp a.eval o):=by
 obtain⟨k,avW,s4,aH⟩:=j7 h (by simp);obtain⟨k',au4,M9,aI⟩:=j7 aH (by simp);obtain⟨ct,aq,bj⟩:=nB aI (by simp);obtain⟨h9,e2,cn⟩:=nB bj (by simp);clear h aH aI bj;subst aq e2;obtain⟨hle,cT⟩:=jZ cn (by simp);obtain⟨hb,eB⟩:=jZ cT (by simp);rw[g8]at eB;cases eB;have cy:=U.ai hw hl;rw[s4]at cy;generalize al1:a.eval l=Ox at cy;have nX:=U.ai hw hc;rw[M9]at nX;generalize alr:a.eval c=AH at nX;cases cy;cases nX;have ana:z.cells.toList≠[]:=by intro e;rw[e]at et;simp at et;omega
 have ei:=Ta z.cells.toList h9 ana;have amt:bI ι (nR z.cells.toList h9) (nR z.cells.toList h9):=by
  have:∀n,bI ι (nR z.cells.toList n) (nR z.cells.toList n):=by
   intro n
   induction n with
   |zero=>exact bI.nil ι
   |succ n a1=>show bI ι (gJ _ _) (gJ _ _);rw[rF];exact(bI.zy ι _ hp).append a1
  exact this h9
 obtain⟨aR,bf,bL,eM,p6⟩:=hw.I1 e amt {w with heap:=w.heap.push (.cells (nR z.cells.toList h9).toArray e)} (by simp);rw[p6]at bf bL eM;refine⟨rfl,_,_,_,.slice (some ⟨w.heap.size,0,none⟩) ct h9,_,rfl,by simp,?_,rfl,?_,bf,bL⟩
 ·have cZ:h9*(bb.bytes+1)<=1099511627776:=hb;have yv:h9<=1099511627776:=zag (zci h9 (by omega)) cZ;have Xl:bb.bytes*h9<=1099511627776:=by
   have:bb.bytes*h9<=h9*(bb.bytes+1):=by rw[zam];exact pA _ (by omega)
   omega
  have wl:IntKind.i64.wrap (ct:Int)=ct:=by rw[<-ma];simp only[oZ];rw[z0 _ _ _ (by decide)];rw[zaa]<;>omega
  have Ri:IntKind.i64.wrap (h9:Int)=h9:=by rw[<-ma];simp only[oZ];rw[z0 _ _ _ (by decide)];rw[zaa]<;>omega
  unfold execOp;rw[ak];have avl:¬((bb.bytes:Int)*(h9:Int)>2^48):=by
   have:((bb.bytes*h9:Nat):Int)<=1099511627776:=by omega
   rw[zaK]at this;omega
  have aO:(decide ((h9:Int)<0)||decide ((bb.bytes:Int)*(h9:Int)>2^48)||decide ((ct:Int)<0)||decide ((ct:Int)>(h9:Int)))=false:=by
   simp only[Bool.or_eq_false_iff,decide_eq_false_iff_not];omega
  have mQ:(Array.range (h9*bb.size)).map (z.cells[· %z.cells.size]!)=(nR z.cells.toList h9).toArray:=by
   rw[ei];apply Array.ext';simp[et]
  have mo:¬(h9*bb.size=0)∨h9*bb.size=0:=by omega
  simp only[Instr.makeSlice,Sem.run_bind,Result.andThen,run_underlying hu,al1,alr,asInt,asIntOf,Sem.run_pure,typeInfo,run_program,hs,wl,Ri,aO,zbt,if_false,run_askRoom,kq hs,zcj];by_cases h0:h9*bb.size=0
  ·have pd:h9=0:=by rcases Nat.mul_eq_zero.1 h0 with h|h;exact h;exact absurd h cb
   subst pd;have a7:nR z.cells.toList 0=[]:=rfl;simp[Result.andThen,newRow,a7];congr 2;apply Array.ext';simp
  ·rw[zaa h0];simp only[Sem.run_bind,vH hs av,Result.andThen,Sem.run_pure,mQ,newRow,run_newObj]
 ·have:=bq.hv (ι:=iG ι st.aj ⟨w.heap.size,0,0,id⟩) ⟨st.aj,0,none⟩ ⟨w.heap.size,0,0,id⟩ 0 ct h9 eM rfl (.inl rfl);simpa using this
end
section
variable{ι:bx}{fr aA:aJ}{a:Act}{aP:Nat}{st st':au}{w:d7}{o:Oper}{v:be}{call:bG}
variable{x:bi}{xs:ac bi}
def asZ{op:UnOp}{t:ce}(J:cH X.az x=true)(ak:o.op= .unOp op t x)(U:cF ι fr a aP)(hw:bz X ι st w)(h:Po op x call fr st= .ok v aA st'):
 aA=fr∧cl X ι w v st st' (execOp a.eval o):=by
 have bP:=U.ai hw J;generalize cB:a.eval x=fH at bP;unfold Po at h;cases op with
 |neg=>
  obtain⟨k,n,hp,g⟩:=j7 h (by simp);rw[iZ,ma,ON]at g;rw[hp]at bP;cases bP;cases g;refine⟨rfl,cl.same (v':=.int k (k.wrap (-n))) hw ?_ (.int _ _)⟩;unfold execOp;rw[ak];simp[cB,Op.unary,Op.intArith]
 |xor=>
  obtain⟨k,n,hp,g⟩:=j7 h (by simp);rw[iZ]at g;rw[hp]at bP;cases bP;cases g;refine⟨rfl,cl.same (v':=.int k _) hw ?_ (.int _ _)⟩;unfold execOp;rw[ak];simp[cB,Op.unary,Op.intBits]
 |not=>
  obtain⟨b,hp,g⟩:=Rd h (by simp);rw[hp]at bP;cases bP;cases g;refine⟨rfl,cl.same (v':=.bool (!b)) hw ?_ (.bool _)⟩;unfold execOp;rw[ak];simp[cB,Op.unary]
 |_=>cases h
def asQ(J:cH X.az x=true)(ak:o.op= .nilCheck x)(U:cF ι fr a aP)(hw:bz X ι st w)(h:Pm x call fr st= .ok v aA st'):
 aA=fr∧cl X ι w v st st' (execOp a.eval o):=by
 have bP:=U.ai hw J;generalize cB:a.eval x=fH at bP;unfold Pm at h;generalize A5:fr.ai x=lY at h bP;cases lY with
 |pointer p=>
  cases p with
  |none=>cases h
  |some ad=>
   have h:aV.ok (.pointer (some ad)) fr st= .ok v aA st':=h;cases h;cases bP with
   |ptr _ l hl af=>
    refine⟨rfl,cl.same (v':=.pointer (some ⟨l.cJ,l.cQ+ad.off,none⟩)) hw ?_ (.ptr _ _ hl af)⟩;unfold execOp;rw[ak];simp[cB]
 |func f eF z2=>
  cases f with
  |func g=>
   have h:aV.ok (.func (.func g) eF z2) fr st= .ok v aA st':=h;cases h;cases bP with
   |func _ hr _ al _ vs iI h1 h2 ab aD=>
    rcases iI with⟨rfl,_⟩|⟨l,b,e,_⟩
    ·refine⟨rfl,cl.same (v':=.func (.func g) al vs) hw ?_ (.func _ _ _ _ _ _ (.inl ⟨rfl,by simp⟩) h1 h2 ab aD)⟩;unfold execOp;rw[ak];simp[cB]
    ·cases e
  |_=>cases h
 |_=>cases h
theorem Y1(k:d8)(U:cF ι fr a aP)(hw:bz X ι st w):∀(xs:ac bi) (m r:Int),(∀x∈xs,cH X.az x=true)->EC k fr xs m=some r->
 ((xs.map a.eval).foldlM Builtin.max2 (.int k m)).run X.P w= .ok (.int k r) w
 |[],m,r,_,h=>by cases h;simp
 |x::xs,m,r,bH,h=>by
  obtain⟨k',y,ay,h1⟩:=j7 h (by simp);obtain⟨hk,h2⟩:=jI h1 (by simp);have fs:=u0 hk;have bP:=U.ai hw (bH x (by simp));rw[ay]at bP;generalize cB:a.eval x=fH at bP;cases bP;have a1:=Y1 k U hw xs _ r (fun z av=>bH z (by simp[av])) h2;simp only[zaZ,List.foldlM_cons,Sem.run_bind,cB,Builtin.max2,Sem.run_pure,Result.andThen];have e:(if y>m then y else m)=cond (nz y m) m y:=by
   rw[tf];by_cases c:y<=m
   ·rw[zaa (by omega)];simp[c]
   ·rw[zab (by omega)];simp[c]
  rw[e];exact a1
theorem Y3(k:d8)(U:cF ι fr a aP)(hw:bz X ι st w):∀(xs:ac bi) (m r:Int),(∀x∈xs,cH X.az x=true)->ED k fr xs m=some r->
 ((xs.map a.eval).foldlM Builtin.min2 (.int k m)).run X.P w= .ok (.int k r) w
 |[],m,r,_,h=>by cases h;simp
 |x::xs,m,r,bH,h=>by
  obtain⟨k',y,ay,h1⟩:=j7 h (by simp);obtain⟨hk,h2⟩:=jI h1 (by simp);have fs:=u0 hk;have bP:=U.ai hw (bH x (by simp));rw[ay]at bP;generalize cB:a.eval x=fH at bP;cases bP;have a1:=Y3 k U hw xs _ r (fun z av=>bH z (by simp[av])) h2;simp only[zaZ,List.foldlM_cons,Sem.run_bind,cB,Builtin.min2,Sem.run_pure,Result.andThen];have e:(if y<m then y else m)=cond (nz m y) m y:=by
   rw[tf];by_cases c:m<=y
   ·rw[zaa (by omega)];simp[c]
   ·rw[zab (by omega)];simp[c]
  rw[e];exact a1
def asP{ts:ap ce}(bH:∀y∈x::xs,cH X.az y=true)(ak:o.op= .call {callee:=.builtin .max,args:=(x::xs).toArray,argTypes:=ts})(U:cF ι fr a aP)(hw:bz X ι st w)
 (h:Z7 x xs call fr st= .ok v aA st'):aA=fr∧cl X ι w v st st' (execOp a.eval o):=by
 obtain⟨k,n,hp,h1⟩:=j7 h (by simp);obtain⟨m,hm,h2⟩:=gO h1 (by simp);rw[iZ]at h2;have bP:=U.ai hw (bH x (by simp));rw[hp]at bP;generalize cB:a.eval x=fH at bP;cases bP;cases h2;have aL:=Y1 k U hw xs n m (fun y ay=>bH y (by simp[ay])) hm;refine⟨rfl,cl.same (v':=.int k m) hw ?_ (.int _ _)⟩;unfold execOp;rw[ak];simp[cB,resolve,invoke,builtin,Builtin.max_,aL,Result.andThen]
def asN{ts:ap ce}(bH:∀y∈x::xs,cH X.az y=true)(ak:o.op= .call {callee:=.builtin .min,args:=(x::xs).toArray,argTypes:=ts})(U:cF ι fr a aP)(hw:bz X ι st w)
 (h:Z5 x xs call fr st= .ok v aA st'):aA=fr∧cl X ι w v st st' (execOp a.eval o):=by
 obtain⟨k,n,hp,h1⟩:=j7 h (by simp);obtain⟨m,hm,h2⟩:=gO h1 (by simp);rw[iZ]at h2;have bP:=U.ai hw (bH x (by simp));rw[hp]at bP;generalize cB:a.eval x=fH at bP;cases bP;cases h2;have aL:=Y3 k U hw xs n m (fun y ay=>bH y (by simp[ay])) hm;refine⟨rfl,cl.same (v':=.int k m) hw ?_ (.int _ _)⟩;unfold execOp;rw[ak];simp[cB,resolve,invoke,builtin,Builtin.min_,aL,Result.andThen]
def pI(U:cF ι fr a aP)(hw:bz X ι st w){x:am bi}(J:∀y,x=some y->cH X.az y=true){d y:Nat}{k:Nat->aV}{r:aV}(h:fp fr x d y k=r)(aL:aV.no≠r):
 ∃n,k n=r∧((x=none∧n=d)∨(∃z b8,x=some z∧a.eval z= .int b8 (n:Int)∧n<=y)):=by
 cases x with
 |none=>exact⟨d,h,.inl ⟨rfl,rfl⟩⟩
 |some z=>
  obtain⟨b8,m,hp,h1⟩:=j7 (h:g2 (fr.ai z) _ _=r) aL;obtain⟨n,e,h2⟩:=nB h1 aL;obtain⟨hle,ab⟩:=jZ h2 aL;have av:=U.ai hw (J z rfl);rw[hp]at av;generalize r4:a.eval z=tJ at av;cases av;exact⟨n,ab,.inr ⟨z,b8,rfl,by rw[r4,e],hle⟩⟩
end
def acp(P:f5)(w:d7)(b8:d8)(n y:Nat)(c:BoundsCode)(h:n<=y):(Instr.sliceBound (.int b8 (n:Int)) y c).run P w= .ok n w:=by
 have:(n:Int)<=(y:Int):=by omega
 simp[Instr.sliceBound,asIntOf,h]
def FZ(v:am be)(d y n:Nat):Prop:=(v=none∧n=d)∨∃b8,v=some (.int b8 (n:Int))∧n<=y
def FD(P:f5)(w:d7)(is:Bool)(len cap l h m:Nat)(lo aa fb:am be)(hm:FZ fb cap cap m)(hh:FZ aa len m h)(hl:FZ lo 0 h l)(J:fb≠none->aa≠none):
 (Instr.sliceBounds is len cap lo aa fb).run P w= .ok (l,h,m) w:=by
 unfold Instr.sliceBounds;rcases hm with⟨rfl,rfl⟩|⟨avS,rfl,hm⟩
 ·clear J;rcases hh with⟨rfl,rfl⟩|⟨anU,rfl,hh⟩<;>rcases hl with⟨rfl,rfl⟩|⟨u1,rfl,hl⟩<;>simp[acp,Result.andThen, *]
 ·rcases hh with⟨rfl,rfl⟩|⟨anU,rfl,hh⟩
  ·exact absurd rfl (J (by simp))
  ·clear J;rcases hl with⟨rfl,rfl⟩|⟨u1,rfl,hl⟩<;>simp[acp,Result.andThen, *]
section
variable{ι:bx}{fr aA:aJ}{a:Act}{aP:Nat}{st st':au}{w:d7}{o:Oper}{v:be}{call:bG}
variable{n:Nat}{t:ce}{x:bi}{lo aa:am bi}{d y:Nat}{fb:am bi}{bb:f7}
def pH{x:am bi}(h:(x=none∧n=d)∨(∃z b8,x=some z∧a.eval z= .int b8 (n:Int)∧n<=y)):FZ (x.map a.eval) d y n:=by
 rcases h with⟨rfl,rfl⟩|⟨z,b8,rfl,h1,h2⟩
 ·exact .inl ⟨rfl,rfl⟩
 ·exact .inr ⟨b8,by simp[h1],h2⟩
def ahK(s:f6)(l h:Nat)(_hl:l<=h)(_hh:h<=s.data.toList.length):(⟨⟨(s.data.toList.drop l).take (h-l)⟩⟩:f6)=s.extract l h:=by
 apply ByteArray.ext;rw[ByteArray.data_extract];apply Array.ext';rw[zdG,zdH]
def Ar{x:am bi}(h:(x=none∧n=d)∨(∃z b8,x=some z∧a.eval z= .int b8 (n:Int)∧n<=y))(ao:d<=y):n<=y:=by
 rcases h with⟨_,rfl⟩|⟨_,_,_,_,h⟩<;>omega
def asW(J:cH X.az x=true)(h1:∀y,lo=some y->cH X.az y=true)(h2:∀y,aa=some y->cH X.az y=true)(ak:o.op= .slice t x lo aa none)
 (hu:X.P.underlying t=some .string) (U:cF ι fr a aP) (hw:bz X ι st w) (h:aac x lo aa call fr st= .ok v aA st'):aA=fr∧cl X ι w v st st' (execOp a.eval o):=by
 obtain⟨s,hp,aH⟩:=ql h (by simp);obtain⟨hn,aI,c3⟩:=pI U hw h2 aH (by simp);obtain⟨ct,bj,eP⟩:=pI U hw h1 aI (by simp);obtain⟨hc,cn⟩:=vZ bj (by simp);cases cn;rw[fC]at c3;have gW:hn<=s.data.toList.length:=Ar c3 (b6 _);have gf:ct<=hn:=Ar eP (zac _);have bP:=U.ai hw J;rw[hp]at bP;generalize cB:a.eval x=fH at bP;cases bP;refine⟨rfl,cl.same (v':=.string (s.extract ct hn)) hw ?_ ?_⟩
 ·unfold execOp;rw[ak];have et:s.data.toList.length=s.size:=by rw[zbE];rfl
  rw[et]at c3;have hb:=FD X.P w false s.size s.size ct hn s.size (lo.map a.eval) (aa.map a.eval) none (.inl ⟨rfl,rfl⟩) (pH c3) (pH eP) (by simp);simp[cB,Instr.sliceAt,Instr.slice,run_underlying hu,Result.andThen,hb]
 ·have e:=ahK s ct hn gf gW;have:(Nat.sub hn ct)=hn-ct:=rfl;rw[this,e];exact .string _
def asU(J:cH X.az x=true)(h1:∀y,lo=some y->cH X.az y=true)(h2:∀y,aa=some y->cH X.az y=true)(ab:∀y,fb=some y->cH X.az y=true)
 (yK:fb≠none->aa≠none) (ak:o.op= .slice t x lo aa fb) (hu:X.P.underlying t=some (.array n e)) (hs:X.P.info? e=some bb) (U:cF ι fr a aP) (hw:bz X ι st w)
 (h:Jn n bb.size x lo aa fb call fr st= .ok v aA st'):aA=fr∧cl X ι w v st st' (execOp a.eval o):=by
 obtain⟨p,hp,aH⟩:=rp h (by simp);obtain⟨ad,aq,aI⟩:=gO aH (by simp);subst aq;obtain⟨af,cs,elem,bk,a3,aO,bj⟩:=vV aI (by simp);obtain⟨yA,cn⟩:=BF bj (by simp);obtain⟨m,cT,b0⟩:=pI U hw ab cn (by simp);obtain⟨hn,eB,c3⟩:=pI U hw h2 cT (by simp);obtain⟨ct,gb,eP⟩:=pI U hw h1 eB (by simp);cases gb;subst yA;obtain⟨l,hl,C,fk,hc⟩:=hw.fe _ _ aO (by simp);have bP:=U.ai hw J;rw[hp]at bP;generalize cB:a.eval x=fH at bP;cases bP with
 |ptr _ l' cy ft=>
  rw[hl]at cy;cases cy;have hQ:=hc.plain rfl;refine⟨rfl,cl.same (v':=.slice (some (if m=ct then⟨l.cJ,l.cQ+ad.off,none⟩else Addr.add ⟨l.cJ,l.cQ+ad.off,none⟩ (ct*bb.size))) (hn-ct) (m-ct)) hw ?_ ?_⟩
  ·unfold execOp;rw[ak];have hb:=FD X.P w false n n ct hn m (lo.map a.eval) (aa.map a.eval) (fb.map a.eval) (pH b0) (pH c3) (pH eP) (by simpa using yK);simp[cB,Instr.sliceAt,Instr.sureAddr,run_underlying hu,Result.andThen,hb,kq hs]
  ·rw[pN];by_cases c:m=ct
   ·rw[zab c,zab c];have:=bq.hv (ι:=ι) ad l (l.cQ+ad.off) (Nat.sub hn ct) (Nat.sub m ct) hl af (.inl rfl);rw[hQ.1]at this;exact this
   ·rw[zaa c,zaa c,add_eq];have:=bq.hv (ι:=ι) (ad.add (Nat.mul ct bb.size)) l (l.cQ+(ad.add (Nat.mul ct bb.size)).off) (Nat.sub hn ct) (Nat.sub m ct) (by rw[CO];exact hl) (CP _ _ af) (.inl rfl);rw[hQ.1,Gb,<-zbW]at this;exact this
def asV(J:cH X.az x=true)(h1:∀y,lo=some y->cH X.az y=true)(h2:∀y,aa=some y->cH X.az y=true)(ab:∀y,fb=some y->cH X.az y=true)
 (yK:fb≠none->aa≠none) (ak:o.op= .slice t x lo aa fb) (hu:X.P.underlying t=some (.slice e)) (hs:X.P.info? e=some bb) (U:cF ι fr a aP) (hw:bz X ι st w)
 (h:aab bb.size x lo aa fb call fr st= .ok v aA st'):aA=fr∧cl X ι w v st st' (execOp a.eval o):=by
 obtain⟨b,len,cap,hp,aH⟩:=xy h (by simp);have bP:=U.ai hw J;rw[hp]at bP;generalize cB:a.eval x=fH at bP;cases b with
 |none=>
  have aH:fp fr fb cap cap (fun m=>fp fr aa len m fun h=>fp fr lo 0 h fun l=>.ok (.slice none (Nat.sub h l) (Nat.sub m l)) fr st)=aV.ok v aA st':=aH;obtain⟨m,cT,b0⟩:=pI U hw ab aH (by simp);obtain⟨hn,eB,c3⟩:=pI U hw h2 cT (by simp);obtain⟨ct,gb,eP⟩:=pI U hw h1 eB (by simp);cases gb;cases bP;refine⟨rfl,cl.same (v':=.slice none (hn-ct) (m-ct)) hw ?_ (.oW _ _)⟩;unfold execOp;rw[ak];have hb:=FD X.P w true len cap ct hn m (lo.map a.eval) (aa.map a.eval) (fb.map a.eval) (pH b0) (pH c3) (pH eP) (by simpa using yK);simp[cB,Instr.sliceAt,Instr.slice,run_underlying hu,Result.andThen,hb,kq hs]
 |some ad=>
  obtain⟨af,cs,elem,bk,a3,aO,bj⟩:=vV (aH:au.hz st ad _ _=_) (by simp);obtain⟨l,hl,C,fk,hc⟩:=hw.fe _ _ aO (by simp);cases bP with
  |hv _ l' off _ _ cy ft jL=>
   rw[hl]at cy;cases cy;cases a3 with
   |false=>
    have hQ:=hc.plain rfl;obtain⟨m,cT,b0⟩:=pI U hw ab (bj:fp fr fb cap cap _=_) (by simp);obtain⟨hn,eB,c3⟩:=pI U hw h2 cT (by simp);obtain⟨ct,gb,eP⟩:=pI U hw h1 eB (by simp);cases gb;have HN:m<=cap:=Ar b0 (b6 _);refine⟨rfl,cl.same (v':=.slice (some (if m=ct then⟨l.cJ,off,none⟩else Addr.add ⟨l.cJ,off,none⟩ (ct*bb.size))) (hn-ct) (m-ct)) hw ?_ ?_⟩
    ·unfold execOp;rw[ak];have hb:=FD X.P w true len cap ct hn m (lo.map a.eval) (aa.map a.eval) (fb.map a.eval) (pH b0) (pH c3) (pH eP) (by simpa using yK);have hex:cap+l.ex=cap:=by rw[hQ.1];rfl
     rw[hex]at cB;simp only[cB,Instr.sliceAt,Instr.slice,Sem.run_bind,run_underlying hu,Result.andThen,hb,kq hs,Sem.run_pure];by_cases c:m=ct<;>simp[c]
    ·rw[pN];by_cases c:m=ct
     ·rw[zab c,zab c];have:=bq.hv (ι:=ι) ad l off (Nat.sub hn ct) (Nat.sub m ct) hl af (by
       rcases jL with h|⟨h1,h2,ab⟩
       ·exact .inl h
       ·right;subst h1 h2;have aq:Nat.sub m ct=m-ct:=rfl;have e2:Nat.sub hn ct=hn-ct:=rfl;have hh:hn<=m:=by
         rcases c3 with⟨_,e⟩|⟨_,_,_,_,e⟩<;>omega
        refine⟨by omega,by omega,ab⟩)
      rw[hQ.1]at this;exact this
     ·rw[zaa c,zaa c,add_eq];have uN:off=l.cQ+ad.off:=by
       rcases jL with h|⟨h1,h2,ab⟩
       ·exact h
       ·exfalso;subst h1 h2;have hh:hn<=m:=by
         rcases c3 with⟨_,e⟩|⟨_,_,_,_,e⟩<;>omega
        have gf:ct<=hn:=Ar eP (zac _);omega
      subst uN;have:=bq.hv (ι:=ι) (ad.add (Nat.mul ct bb.size)) l (l.cQ+(ad.add (Nat.mul ct bb.size)).off) (Nat.sub hn ct) (Nat.sub m ct) (by rw[CO];exact hl) (CP _ _ af) (.inl rfl);rw[hQ.1,Gb,<-zbW]at this;exact this
   |true=>
    obtain⟨HQ,cn⟩:=ES (bj:bm fb (fun _=>aV.no) _=aV.ok v aA st') (fun _=>by simp);obtain⟨No,cT⟩:=jZ cn (by simp);obtain⟨hn,eB,c3⟩:=pI U hw h2 cT (by simp);obtain⟨ct,gb,eP⟩:=pI U hw h1 eB (by simp);cases gb;subst HQ;have gW:hn<=len:=Ar c3 (b6 _);have gf:ct<=hn:=Ar eP (zac _);have aeA:(aa=none∧hn=len)∨(∃z b8,aa=some z∧a.eval z= .int b8 (hn:Int)∧hn<=cap+l.ex):=by
     rcases c3 with h|⟨z,b8,h1,h2,ab⟩
     ·exact .inl h
     ·exact .inr ⟨z,b8,h1,h2,by omega⟩
    refine⟨rfl,cl.same (v':=.slice (some (if cap+l.ex=ct then⟨l.cJ,off,none⟩else Addr.add ⟨l.cJ,off,none⟩ (ct*bb.size))) (hn-ct) (cap+l.ex-ct)) hw ?_ ?_⟩
    ·unfold execOp;rw[ak];have hb:=FD X.P w true len (cap+l.ex) ct hn (cap+l.ex) (lo.map a.eval) (aa.map a.eval) none (.inl ⟨rfl,rfl⟩) (pH aeA) (pH eP) (by simp);simp only[cB,Instr.sliceAt,Instr.slice,Sem.run_bind,run_underlying hu,Result.andThen,Option.map_none,hb,kq hs,Sem.run_pure];by_cases c:cap+l.ex=ct<;>simp[c]
    ·have aq:Nat.sub cap ct=cap-ct:=rfl;have e2:cap+l.ex-ct=(cap-ct)+l.ex:=by omega
     rw[e2];by_cases c:cap+l.ex=ct
     ·rw[zab c];exact bq.hv (ι:=ι) (ad.add (Nat.mul ct bb.size)) l off (Nat.sub hn ct) (Nat.sub cap ct) (by rw[CO];exact hl) (CP _ _ af) (.inr ⟨by show hn-ct=0;omega,by show cap-ct=0;omega,by omega⟩)
     ·rw[zaa c,add_eq];refine bq.hv (ι:=ι) (ad.add (Nat.mul ct bb.size)) l (off+ct*bb.size) (Nat.sub hn ct) (Nat.sub cap ct) (by rw[CO];exact hl) (CP _ _ af) ?_;rcases jL with h|⟨h1,h2,ab⟩
      ·left;rw[Gb,h,zbW];rfl
      ·exfalso;omega
end
variable{nE:bt}
def bz.kill(h:bz X ι st w){id:Nat}(h₀:st.h.get id=some nE):bz X ι ⟨st.h.set id .dead,st.aj⟩ w:=by
 have pe:id<st.aj:=by
  rcases zao id st.aj with c|c
  ·exact c
  ·rw[(h.fresh id c).2]at h₀;cases h₀
 refine⟨fun j p hp ao=> ?_,fun i j p q l m aa iV hj ia=> ?_,fun j hj=> ?_,h.hN,h.nW,h.rR,fun j l p hl af hp ao=> ?_⟩
 ·rw[an.e8]at hp;split at hp
  ·cases hp;exact absurd rfl ao
  ·exact h.fe j p hp ao
 ·rw[an.e8]at aa hj;split at aa
  ·cases aa;exact absurd rfl iV
  ·split at hj
   ·cases hj;exact absurd rfl ia
   ·exact h.inj i j p q l m aa iV hj ia
 ·have nY:st.aj<=j:=hj;refine⟨(h.fresh j nY).1,?_⟩;rw[an.e8,zaa (by omega)];exact(h.fresh j nY).2
 ·rw[an.e8]at hp;split at hp
  ·cases hp;exact absurd rfl ao
  ·exact h.oO j l p hl af hp ao
def bz.ark(h:bz X ι st w){id:Nat}{l':Loc}(h₀:st.h.get id=some nE)(uF:nE≠.dead)(Nw:¬nE.wj)(ft:l'.ch≠js)(hl:ι id=some l)(o:bt)(cZ:l'.cJ=l.cJ)(O:Obj)
 (w':d7) (hw:w'.heap=w.heap.setIfInBounds l.cJ O) (hm:∀aR:bx,ι.le aR->w'.heap[l'.cJ]? =some O->kb X aR w' o l') (hx:sH w w':=by exact⟨rfl,rfl⟩):
 ∃aR,bz X aR ⟨(st.h.set id .dead).set st.aj o,st.aj+1⟩ w'∧fY ι aR w w'∧aR st.aj=some l':=by
 have hb:=h.hN id l hl;have oE:l.ch≠js:=fun e=>Nw (h.oO id l nE hl e h₀ uF);have pe:id<st.aj:=by
  rcases zao id st.aj with c|c
  ·exact c
  ·rw[(h.fresh id c).2]at h₀;cases h₀
 have hle:ι.le (fun i=>if i=st.aj then some l' else ι i):=by
  intro i m k1;show(if i=st.aj then _ else ι i)=_;rw[zaa];exact k1;intro e;subst e;rw[(h.fresh _ (b6 _)).1]at k1;cases k1
 refine⟨fun i=>if i=st.aj then some l' else ι i,⟨fun j p hp ao=> ?_,fun i j p q u2 It aa iV hj ia iX iY aO e=> ?_,fun j hj=> ?_,fun j u2 pf=> ?_,fun g aO=>hle _ _ (h.nW g aO),zdC h.rR,fun j u2 p pf af hp ao=> ?_⟩,⟨hle,by rw[hw];simp,fun b _ aa=> ?_,fun j u2 pf=> ?_,hx⟩,zab rfl⟩
 ·rw[an.e8]at hp;by_cases e:j=st.aj
  ·rw[zab e]at hp;cases hp;exact⟨l',by simp[e],hm _ hle (by rw[hw,cZ];simp[hb])⟩
  ·rw[zaa e,an.e8]at hp;split at hp
   ·cases hp;exact absurd rfl ao
   ·rename_i ne;obtain⟨m,k1,ak⟩:=h.fe j p hp ao;refine⟨m,hle _ _ k1,kb.mono X ak hle ?_⟩;have cb:m.cJ≠l.cJ:=fun kC=>ne (h.inj j id p nE m l hp ao h₀ uF k1 hl (.inr oE) kC);rw[hw,zbM (Ne.symm cb)]
 ·have key:∀j p m,((st.h.set id .dead).set st.aj o).get j=some p->p≠.dead->(if j=st.aj then some l' else ι j)=some m->
   (j=st.aj∧m=l')∨(j≠st.aj∧j≠id∧st.h.get j=some p∧ι j=some m):=by
   intro j p m hj ao k1;rw[an.e8]at hj;by_cases c:j=st.aj
   ·rw[zab c]at k1;cases k1;exact .inl ⟨c,rfl⟩
   ·rw[zaa c,an.e8]at hj;rw[zaa c]at k1;split at hj
    ·cases hj;exact absurd rfl ao
    ·rename_i ne;exact .inr ⟨c,ne,hj,k1⟩
  rcases key i p u2 aa iV iX with⟨aq,rfl⟩|⟨hH,fc,aH,aI⟩<;>rcases key j q It hj ia iY with⟨e2,rfl⟩|⟨jb,m0,f1,f2⟩
  ·rw[aq,e2]
  ·exact absurd (h.inj j id q nE It l f1 ia h₀ uF f2 hl (.inr oE) (by omega)) m0
  ·exact absurd (h.inj i id p nE u2 l aH iV h₀ uF aI hl (.inr oE) (by omega)) fc
  ·exact h.inj i j p q u2 It aH iV f1 ia aI f2 aO e
 ·have nY:st.aj+1<=j:=hj;have:=h.fresh j (by omega);refine⟨?_,?_⟩
  ·show(if j=st.aj then _ else ι j)=_;rw[zaa (by omega)];exact this.1
  ·rw[an.e8,zaa (by omega),an.e8,zaa (by omega)];exact this.2
 ·rw[hw];simp only[Array.size_setIfInBounds];by_cases e:j=st.aj
  ·simp only[zab e]at pf;cases pf;omega
  ·simp only[zaa e]at pf;exact h.hN j u2 pf
 ·rw[an.e8]at hp;by_cases e:j=st.aj
  ·simp only[zab e]at pf;cases pf;exact absurd af ft
  ·rw[zaa e,an.e8]at hp;simp only[zaa e]at pf;split at hp
   ·cases hp;exact absurd rfl ao
   ·exact h.oO j u2 p pf af hp ao
 ·rw[hw,zbM (aa id l hl oE)]
 ·by_cases e:j=st.aj
  ·simp only[zab e]at pf;cases pf;exact .inr (.inr ⟨id,l,hl,oE,cZ.symm⟩)
  ·simp only[zaa e]at pf;exact .inl pf
theorem W1(n B:Nat)(a8:n+(n+768)/4<=B):∀r c,c<=B->Builtin.growBy n r c<=B
 |0,c,h=>h
 |r+1,c,h=>by
  unfold Builtin.growBy;split
  ·exact h
  ·rename_i hc;exact W1 n B a8 r _ (by omega)
def ao1(n c:Nat)(h:c<n):Builtin.nextslicecap n c<=n+n/4+448:=by
 unfold Builtin.nextslicecap;split
 ·omega
 ·split
  ·omega
  ·exact W1 n _ (by omega) 4 c (by omega)
def Rm(z:ap be)(n:Nat):(Builtin.zeroCells z n).size=n*z.size:=by simp[Builtin.zeroCells]
def bz.I2{cs':ac be}(hw:bz X ι st w)(elem:ce)(aB:bI ι cs cs')(rest:ac be)(ex:Nat)(aL:ex*X.P.cellsOf elem<=rest.length)(bk:Nat×Nat)
 (qL:∀i,i<cs.length+rest.length->¬(bk.1<=i∧i<bk.2)) (w':d7) (hh:w'.heap=w.heap.push (.cells (cs'++rest).toArray elem bk)) (hx:sH w w':=by exact⟨rfl,rfl⟩):
 ∃aR,bz X aR ⟨st.h.set st.aj (.cells cs elem (0,0) true),st.aj+1⟩ w'∧fY ι aR w w'∧aR st.aj=some ⟨w.heap.size,0,ex,id⟩∧aR=iG ι st.aj ⟨w.heap.size,0,ex,id⟩:=by
 refine bz.alloc X hw _ _ ex (fun aR ku hle _ aF=> ?_) w' hh hx;refine⟨(cs'++rest).toArray,bk,⟨aF,by simp[aB.1];omega,fun i aa=> ?_,fun _ j _ hj=> ?_,fun h=>by cases h⟩⟩
 ·have eC:i<cs'.length:=by rw[<-aB.1];exact aa
  refine⟨cs'[i],?_,(aB.2 i aa eC).mono hle⟩;simp[zbm eC,eC]
 ·refine qL j ?_;have:0+cs.length+ex*X.P.cellsOf elem<=cs.length+rest.length:=by omega
  exact gH hj this
structure Src(P:f5)(w:d7)(x:be)(n size:Nat)(new:ac be):Prop where
 len:(Builtin.lenOf x).run P w= .ok n w
 cells:∀tape drawn,(Builtin.firstCells size n x).run P {w with tape:=tape,drawn:=drawn}= .ok new.toArray {w with tape:=tape,drawn:=drawn}
section
variable{P:f5}{w:d7}{mB lO elem:ce}{d:TypeDesc}{i:f7}{x:be}{n len cap:Nat}{new:ac be}
def Kh{base:am Addr}(hu:P.underlying mB=some (.slice elem))(J:P.underlying lO=some d)(ao:∀k,d≠.int k)(aa:P.info? elem=some i)(af:Src P w x n i.size new)(hn:len+n<=cap)(ty:ce)(w':d7)
 (dz:∀a,base=some a->(storeCells (a.add (len*i.size)) new).run P w= .ok () w') (gL:base=none->w'=w):
 (Builtin.append_ #[mB,lO] ty #[.slice base len cap,x]).run P w= .ok (.slice base (len+n) cap) w':=by
 have Bn:(d matches .int _)=false:=by cases d<;>first|rfl|(exact absurd rfl (ao _))
 have hc:=af.cells w.tape w.drawn;simp only[Builtin.append_,zcH,zcI,zdK,Sem.run_bind,run_underlying hu,Result.andThen,kq aa,run_underlying J,Sem.run_pure,zbt,if_false,af.len,hn,if_true,zeq];rw[hc];cases base with
 |none=>simp only[Sem.run_pure];rw[gL rfl]
 |some a=>
  simp only[Result.andThen,Sem.run_bind,Sem.run_pure];rw[dz a rfl]
def Qz{base:am Addr}{z:be}{old:ac be}(hu:P.underlying mB=some (.slice elem))(J:P.underlying lO=some d)(ao:∀k,d≠.int k)(aa:P.info? elem=some i)(av:i.zero=some z)(af:Src P w x n i.size new)
 (hn:cap<len+n) (hb:(5*(len+n)+1792)*(i.bytes+1)<=1125899906842624) (ty:ce)
 (hold:∀tape drawn,(Builtin.firstCells i.size len (.slice base len cap)).run P {w with tape:=tape,drawn:=drawn}= .ok old.toArray {w with tape:=tape,drawn:=drawn}):
 ∃dV w',len+n<=dV∧(Builtin.append_ #[mB,lO] ty #[.slice base len cap,x]).run P w= .ok (.slice (some ⟨w.heap.size,0,none⟩) (len+n) dV) w'∧
  w'.heap=w.heap.push (.cells (old++new++(Builtin.zeroCells z.cells (dV-(len+n))).toList).toArray elem)∧sH w w':=by
 have Bn:(d matches .int _)=false:=by cases d<;>first|rfl|(exact absurd rfl (ao _))
 have DI:=ao1 (len+n) cap hn;have hmul:Builtin.nextslicecap (len+n) cap*i.bytes<=281474976710656:=by
  have h1:4*Builtin.nextslicecap (len+n) cap*i.bytes<=(5*(len+n)+1792)*i.bytes:=jo _ (by omega);have h2:(5*(len+n)+1792)*i.bytes<=(5*(len+n)+1792)*(i.bytes+1):=pA _ (by omega);rw[zan]at h1;omega
 have avA:len+n<=1125899906842624:=by
  have:5*(len+n)+1792<=(5*(len+n)+1792)*(i.bytes+1):=zci _ (by omega);omega
 have al6:¬(((len+n:Nat):Int)>IntKind.i64.max∧((false=true)∨i.bytes=0)):=by
  have:IntKind.i64.max=9223372036854775807:=by decide
  rw[this];omega
 have ys:¬(Builtin.nextslicecap (len+n) cap*i.bytes>2^48):=by omega
 let q:Question:=.appendCap (len+n) cap elem
 refine⟨q.cut (w.tape w.drawn q),{w with drawn:=w.drawn+1,heap:=w.heap.push (.cells (old++new++(Builtin.zeroCells z.cells (q.cut (w.tape w.drawn q)-(len+n))).toList).toArray elem)},?_,?_,rfl,⟨rfl,rfl⟩⟩
 ·show len+n<=(len+n)+_;omega
 ·have hc:=af.cells w.tape (w.drawn+1);have ak:=hold w.tape (w.drawn+1);have H9:=vH (P:=P) aa av {w with drawn:=w.drawn+1};simp only[Builtin.append_,zcH,zcI,zdK,Sem.run_bind,run_underlying hu,Result.andThen,kq aa,run_underlying J,Sem.run_pure,zbt,if_false,af.len,typeInfo,zeq];rw[zaa (by omega)];simp only[Sem.run_bind,Sem.run_pure,run_program,Result.andThen,aa];rw[zaa (by simpa using al6)];simp only[Sem.run_bind,Sem.run_pure,run_program,Result.andThen,aa];rw[zaa ys];simp only[Sem.run_bind,Sem.run_pure,run_program,Result.andThen,aa,run_choose,Question.forced,zbt,if_false,run_askRoom,if_true];rw[ak];simp only[];rw[hc];simp only[Result.andThen,Sem.run_bind,H9,Sem.run_pure,newRow,run_newObj];simp[q];congr 2;apply Array.ext';simp
end
section
variable{ι:bx}{fr aA:aJ}{a:Act}{aP:Nat}{st st':au}{w:d7}{o:Oper}{v:be}{call:bG}
def ahI{mB lO:ce}{s x:bi}{v':be}{w':d7}(ak:o.op= .call {callee:=.builtin .append,args:= #[s,x],argTypes:= #[mB,lO]})
 (aL:(Builtin.append_ #[mB,lO] o.type #[a.eval s,a.eval x]).run X.P w= .ok v' w'):(execOp a.eval o).run X.P w= .ok (.value v') w':=by
 unfold execOp;rw[ak];simp only[resolve,zcK,zaZ,zcs,Sem.run_bind,Sem.run_pure,Result.andThen,invoke,builtin,aL]
def Ko{mB lO:ce}{d:TypeDesc}{i:f7}{z:be}{s x:bi}{base:am Addr}{len cap n:Nat}{new new':ac be}
 (ak:o.op= .call {callee:=.builtin .append,args:= #[s,x],argTypes:= #[mB,lO]}) (hu:X.P.underlying mB=some (.slice elem)) (J:X.P.underlying lO=some d) (ao:∀k,d≠.int k) (aa:X.P.info? elem=some i) (av:i.zero=some z)
 (r3:z.cells.size=i.size) (hw:bz X ι st w) (p2:bq ι (.slice base len cap) (a.eval s)) (yS:Src X.P w (a.eval x) n i.size new') (pZ:bI ι new new') (ph:new.length=n*i.size) (bH:h8 new=true)
 (h:kV fr st elem i.size i.bytes base len cap n new= .ok v aA st'):aA=fr∧lQ X ι w v st' (execOp a.eval o):=by
 obtain⟨hb,g⟩:=jZ h (by simp);have cZ:(5*(len+n)+1792)*(i.bytes+1)<=1125899906842624:=hb;have mQ:X.P.cellsOf elem=i.size:=by simp[Program.cellsOf,aa]
 have DW:new'.length=n*i.size:=by rw[<-pZ.1];exact ph
 generalize amO:a.eval s=atK at p2;have qQ:= @ahI X a w o mB lO s x;rw[amO]at qQ;cases base with
 |none=>
  obtain⟨DV,aH⟩:=mN (g:eQ len 0 _ _=_) (by simp);obtain⟨pd,aI⟩:=mN aH (by simp);subst DV pd;cases p2;rw[pN]at aI;split at aI
  ·rename_i mo;subst mo;cases aI;refine⟨rfl,lQ.same (v':=.slice none 0 0) hw ?_ (.oW _ _)⟩;exact qQ ak (Kh hu J ao aa yS (by omega) o.type w (fun a h=>by cases h) (fun _=>rfl))
  ·rename_i mo;rw[g8]at aI;cases aI;obtain⟨dV,w',k3,aL,hh,hx⟩:=Qz (base:=none) (len:=0) (cap:=0) (old:=[]) hu J ao aa av yS (by omega) cZ o.type (fun _ _=>rfl);obtain⟨aR,bf,bL,eM,_⟩:=hw.I2 elem pZ (Builtin.zeroCells z.cells (dV-(0+n))).toList (dV-(0+n)) (by
    rw[zbE,Rm,r3,mQ];exact b6 _) (0,0) (fun i _=>by simp) w' (by rw[hh];simp) hx
   refine⟨rfl,aR,.value _,w',qQ ak aL,.inl ⟨_,rfl,?_⟩,bf,bL⟩;have:=bq.hv (ι:=aR) ⟨st.aj,0,none⟩ ⟨w.heap.size,0,dV-(0+n),id⟩ 0 (0+n) (0+n) eM rfl (.inl rfl);rw[show 0+n+(dV-(0+n))=dV by omega]at this;exact this
 |some ad=>
  obtain⟨af,cs,el,bk,a3,aO,aH⟩:=vV (g:au.hz st ad _ _=_) (by simp);obtain⟨qL,aI⟩:=jZ aH (by simp);obtain⟨No,bj⟩:=jZ aI (by simp);obtain⟨Ed,cn⟩:=jZ bj (by simp);obtain⟨uG,cT⟩:=mN cn (by simp);rw[fC]at Ed;have avD:ad.off+cap*i.size<=cs.length:=Ed;subst uG;obtain⟨l,hl,C,fk,hc⟩:=hw.fe _ _ aO (by simp);have mX:=hc.room;rw[mQ]at mX;cases p2 with
  |hv _ l' off _ _ cy ft jL=>
   rw[hl]at cy;cases cy;have hmul:len*i.size<=cap*i.size:=jo _ No;rw[pN]at cT;split at cT
   ·rename_i mo;subst mo;cases cT;have Nx:new'=[]:=by
     have:new'.length=0:=by rw[DW];simp
     exact zbz this
    refine⟨rfl,lQ.same (v':=.slice (some ⟨l.cJ,off,none⟩) (len+0) (cap+l.ex)) hw ?_ (.hv _ _ _ _ _ hl af jL)⟩;refine qQ ak (Kh hu J ao aa yS (by omega) o.type w (fun a h=> ?_) (fun h=>by cases h));rw[Nx];rfl
   ·rename_i mo;have hold:∀tape drawn,(Builtin.firstCells i.size len (.slice (some ⟨l.cJ,off,none⟩) len (cap+l.ex))).run X.P {w with tape:=tape,drawn:=drawn}= .ok ((C.toList.drop off).take (len*i.size)).toArray {w with tape:=tape,drawn:=drawn}:=by
     intro tape drawn;simp only[Builtin.firstCells];rcases jL with h|⟨h1,_,_⟩
     ·exact Fx (by exact hc.there) (by rw[h];omega)
     ·subst h1;simp[loadCells,loadCellsFrom]
    have p1:∀(bf:len+n<=cap+l.ex),off=l.cQ+ad.off:=by
     intro bf;rcases jL with h|⟨h1,h2,ab⟩
     ·exact h
     ·omega
    have lD:bI ι ((cs.drop ad.off).take (len*i.size)) ((C.toList.drop off).take (len*i.size)):=by
     rcases jL with h|⟨h1,_,_⟩
     ·rw[h];exact hc.row ad.off (len*i.size) (by simp;omega)
     ·subst h1;simpa using bI.nil ι
    cases a3 with
    |true=>
     obtain⟨qK,eB⟩:=vZ (cT:iE cs ad.off _ _ _=_) (by simp);rw[lk,g8,rF]at eB;cases eB;by_cases gA:len+n<=cap+l.ex
     ·have uN:=p1 gA;subst uN;have HT:n*i.size+len*i.size<=(cap+l.ex)*i.size:=by rw[<-zah];exact jo _ (by omega)
      rw[zah]at HT;obtain⟨w',aL,hh,hx⟩:=QA (P:=X.P) (o:=l.cQ+ad.off+len*i.size) new' 0 C w hc.there (by omega) (Pd pZ bH) (fun j h1 h2=>hc.Cx qL j (by omega) (by rw[mQ];omega));simp only[zbh]at hh;have Bh:=qQ ak (Kh (base:=some ⟨l.cJ,l.cQ+ad.off,none⟩) hu J ao aa yS gA o.type w' (fun a h=>by cases h;rw[add_eq];exact aL) (fun h=>by cases h));obtain⟨aR,bf,bL,eM⟩:=bz.ark (X:=X) hw aO (by simp) (fun U=>by cases U.1) N1 hl (.cells ((cs.drop ad.off).take (len*i.size)++new) el (0,0) true) (l':=⟨l.cJ,l.cQ+ad.off,cap+l.ex-(len+n),id⟩) rfl _ w' hh (fun aR hle aF=>by
       have W7:(C.toList.take (l.cQ+ad.off+len*i.size)++(new'++C.toList.drop (l.cQ+ad.off+len*i.size+new'.length))).length=C.size:=by simp;omega
       have hF:((cs.drop ad.off).take (len*i.size)).length=len*i.size:=by simp;omega
       have Xp:(cap+l.ex-(len+n))*i.size=(cap*i.size+l.ex*i.size)-(len*i.size+n*i.size):=by rw[Nat.sub_mul,zah,zah]
       refine⟨_,fk,⟨aF,?_,fun j hj=> ?_,fun _ j h1 h2=> ?_,fun h=>by cases h⟩⟩
       ·rw[List.size_toArray,W7,mQ,zaE,hF,ph];simp only;rw[Xp];omega
       ·simp only[zcH];rw[zaE,hF,ph]at hj;rw[QP C.toList new' (l.cQ+ad.off+len*i.size) (l.cQ+ad.off+j) (by simp;omega)];by_cases c:j<len*i.size
        ·rw[zab (by omega)];obtain⟨AH,aq,e2⟩:=hc.cell (ad.off+j) (by omega);refine⟨AH,by rw[<-aq];simp[zbW],?_⟩;rw[zer (by omega)];simp only[List.getElem_take,zdE];exact e2.mono hle
        ·rw[zaa (by omega),zab (by omega)];rw[show l.cQ+ad.off+j-(l.cQ+ad.off+len*i.size)=j-len*i.size by omega];rw[bE (by omega)];refine⟨_,rfl,?_⟩;rw[zes (by omega)];simp only[hF];exact(pZ.2 _ (by omega) (by omega)).mono hle
       ·refine hc.Cx qL j ?_ ?_
        ·simp only at h1;omega
        ·rw[mQ]at h2⊢;rw[zaE,hF,ph]at h2;simp only at h2;rw[Xp]at h2;omega) hx
      refine⟨rfl,aR,.value _,w',Bh,.inl ⟨_,rfl,?_⟩,bf,bL⟩;have:=bq.hv (ι:=aR) ⟨st.aj,0,none⟩ ⟨l.cJ,l.cQ+ad.off,cap+l.ex-(len+n),id⟩ (l.cQ+ad.off) (len+n) (len+n) eM rfl (.inl rfl);rw[show len+n+(cap+l.ex-(len+n))=cap+l.ex by omega]at this;exact this
     ·obtain⟨dV,w',k3,aL,hh,hx⟩:=Qz (base:=some ⟨l.cJ,off,none⟩) (len:=len) (cap:=cap+l.ex) hu J ao aa av yS (by omega) cZ o.type hold;have hk:=hw.kill aO;obtain⟨aR,bf,bL,eM,_⟩:=hk.I2 el (lD.append pZ) (Builtin.zeroCells z.cells (dV-(len+n))).toList (dV-(len+n)) (by
       rw[zbE,Rm,r3,mQ];exact b6 _) (0,0) (fun i _=>by simp) w' (by rw[hh]) hx
      refine⟨rfl,aR,.value _,w',qQ ak aL,.inl ⟨_,rfl,?_⟩,bf,bL⟩;have:=bq.hv (ι:=aR) ⟨st.aj,0,none⟩ ⟨w.heap.size,0,dV-(len+n),id⟩ 0 (len+n) (len+n) eM rfl (.inl rfl);rw[show len+n+(dV-(len+n))=dV by omega]at this;exact this
    |false=>
     have hQ:=hc.plain rfl;have Xq:cap+l.ex=cap:=by rw[hQ.1];rfl
     rw[Xq]at qQ hold p1;have cT:ey (len+n) cap (ra cs (Nat.add ad.off (Nat.mul len i.size)) new (fun cs'=>st.h3 ad.block (.cells cs' el bk false) fun st=>aV.ok (.slice (some ad) (len+n) cap) fr st) .no)
      (iE cs ad.off (Nat.mul len i.size) (fun old=>st.j1 (.cells (gJ old new) el (0,0) true) fun id st=>.ok (.slice (some ⟨id,0,none⟩) (len+n) (len+n)) fr st) .no)=aV.ok v aA st':=cT
     rw[p7]at cT;split at cT
     ·rename_i gA;have uN:=p1 gA;subst uN;have HT:n*i.size+len*i.size<=cap*i.size:=by rw[<-zah];exact jo _ (by omega)
      have Np:ad.off+len*i.size+new.length<=cs.length:=by rw[ph];omega
      have eB:st.h3 ad.block (.cells (cs.take (ad.off+len*i.size)++(new++cs.drop (ad.off+len*i.size+new.length))) el bk false) (fun st=>aV.ok (.slice (some ad) (len+n) cap) fr st)=aV.ok v aA st':=by
       rcases PK cT (by simp)with⟨_,eB⟩|⟨he,eB⟩
       ·exact eB
       ·rw[he];simp;exact eB
      rw[lk]at eB;cases eB;obtain⟨w',aL,bf,bL⟩:=hw.store aO hl qL Np pZ bH;have Bh:=qQ ak (Kh (base:=some ⟨l.cJ,l.cQ+ad.off,none⟩) hu J ao aa yS gA o.type w' (fun a h=>by cases h;rw[add_eq,zbW];exact aL) (fun h=>by cases h));refine⟨rfl,ι,.value _,w',Bh,.inl ⟨_,rfl,?_⟩,bf,bL⟩;have:=bq.hv (ι:=ι) ad l (l.cQ+ad.off) (len+n) cap hl af (.inl rfl);rw[Xq]at this;exact this
     ·rename_i gA;obtain⟨qK,eB⟩:=vZ cT (by simp);rw[g8,rF]at eB;cases eB;obtain⟨dV,w',k3,aL,hh,hx⟩:=Qz (base:=some ⟨l.cJ,off,none⟩) (len:=len) (cap:=cap) hu J ao aa av yS (by omega) cZ o.type hold;obtain⟨aR,bf,bL,eM,_⟩:=hw.I2 el (lD.append pZ) (Builtin.zeroCells z.cells (dV-(len+n))).toList (dV-(len+n)) (by
       rw[zbE,Rm,r3,mQ];exact b6 _) (0,0) (fun i _=>by simp) w' (by rw[hh]) hx
      refine⟨rfl,aR,.value _,w',qQ ak aL,.inl ⟨_,rfl,?_⟩,bf,bL⟩;have:=bq.hv (ι:=aR) ⟨st.aj,0,none⟩ ⟨w.heap.size,0,dV-(len+n),id⟩ 0 (len+n) (len+n) eM rfl (.inl rfl);rw[show len+n+(dV-(len+n))=dV by omega]at this;exact this
end
theorem FP:∀bs:ac bv,mD bs=bs.map fun b=>Value.int .u8 (b.toNat:Int)
 |[]=>rfl
 |b::bs=>by show _::mD bs=_;rw[FP bs];rfl
theorem adu:∀bs:ac bv,h8 (mD bs)=true
 |[]=>rfl
 |_::bs=>adu bs
theorem Q7(ι:bx):∀bs:ac bv,bI ι (mD bs) (mD bs)
 |[]=>bI.nil ι
 |_::bs=>bI.cons (.int _ _) (Q7 ι bs)
theorem LJ:∀{vs:ac be} {bs:ac bv},bytesOf vs=some bs->∃gg:ac Int,vs=gg.map (Value.int .u8)∧bs=gg.map (fun n=>UInt8.ofNat n.toNat)
 |[],bs,h=>by cases h;exact⟨[],rfl,rfl⟩
 |v::vs,bs,h=>by
  obtain⟨k,n,e,aH⟩:=j7 (h:g2 v _ _=_) (by simp);obtain⟨hk,aI⟩:=jI aH (by simp);obtain⟨r,aL,bj⟩:=gO aI (by simp);cases bj;obtain⟨gg,aq,e2⟩:=LJ (vs:=vs) aL;have:=u0 hk;subst this;exact⟨n::gg,by simp[e,aq],by simp[e2]⟩
section
variable{ι:bx}{fr aA:aJ}{a:Act}{aP:Nat}{st st':au}{w:d7}{o:Oper}{v:be}{call:bG}
def atc(P:f5)(w:d7)(s:f6)(size:Nat):Src P w (.string s) s.data.toList.length size (mD s.data.toList):=by
 have et:s.size=s.data.toList.length:=(zbE (xs:=s.data)).symm;refine⟨by rw[<-et];rfl,fun tape drawn=> ?_⟩;simp only[Builtin.firstCells,Sem.run_pure];congr 1;apply Array.ext';have:(s.extract 0 s.data.toList.length).data=s.data:=by
  rw[ByteArray.data_extract];apply Array.ext';rw[zdG,zdH,zar,Nat.sub_zero,zaX]
 rw[this,FP];simp
def asb{mB lO:ce}{d:TypeDesc}{i:f7}{z:be}{s x:bi}(af:cH X.az s=true)(bP:cH X.az x=true)(ak:o.op= .call {callee:=.builtin .append,args:= #[s,x],argTypes:= #[mB,lO]})
 (hu:X.P.underlying mB=some (.slice elem)) (J:X.P.underlying lO=some d) (ao:∀k,d≠.int k) (aa:X.P.info? elem=some i) (av:i.zero=some z) (r3:z.cells.size=i.size)
 (U:cF ι fr a aP) (hw:bz X ι st w) (h:ZP elem i.size i.bytes s x call fr st= .ok v aA st'):aA=fr∧lQ X ι w v st' (execOp a.eval o):=by
 obtain⟨base,len,cap,p2,g⟩:=xy h (by simp);have r0:=U.ai hw af;rw[p2]at r0;have c7:=U.ai hw bP;generalize cB:fr.ai x=fH at g c7;cases fH with
 |slice b n c=>
  cases b with
  |none=>
   obtain⟨mo,aI⟩:=mN (g:eQ n 0 (kV fr st elem i.size i.bytes base len cap 0 []) _=aV.ok v aA st') (by simp);subst mo;generalize nm:a.eval x=xN at c7;cases c7;refine Ko (n:=0) (new:=[]) (new':=[]) ak hu J ao aa av r3 hw r0 ?_ (bI.nil ι) (by simp) rfl aI;rw[nm];exact⟨rfl,fun _ _=>rfl⟩
  |some b=>
   obtain⟨Xk,cs,el,bk,a3,aO,hn,aI⟩:=Bu (g:au.load st b _ _ _=_) (by simp);obtain⟨bH,bj⟩:=jI aI (by simp);obtain⟨l,hl,C,fk,hc⟩:=hw.fe _ _ aO (by simp);generalize nm:a.eval x=xN at c7;cases c7 with
   |hv _ l' off _ _ cy ft jL=>
    rw[hl]at cy;cases cy;have jx:n*i.size<=(cs.drop b.off).length:=hn;have mX:=hc.room;rw[zaF]at jx;refine Ko (n:=n) (new:=(cs.drop b.off).take (n*i.size)) (new':=(C.toList.drop off).take (n*i.size)) ak hu J ao aa av r3 hw r0 ?_ ?_ ?_ bH bj
    ·rw[nm];refine⟨rfl,fun tape drawn=> ?_⟩;simp only[Builtin.firstCells];rcases jL with h|⟨h1,_,_⟩
     ·by_cases h0:n*i.size=0
      ·rw[h0];simp[loadCells,loadCellsFrom]
      ·exact Fx (by exact hc.there) (by rw[h];omega)
     ·subst h1;simp[loadCells,loadCellsFrom]
    ·rcases jL with h|⟨h1,_,_⟩
     ·rw[h];exact hc.row b.off (n*i.size) hn
     ·subst h1;simpa using bI.nil ι
    ·simp;omega
 |string j6=>
  obtain⟨mr,aI⟩:=mN (g:eQ i.size 1 (kV fr st elem i.size i.bytes base len cap (dL j6.data.toList) (mD j6.data.toList)) _=aV.ok v aA st') (by simp);rw[fC]at aI;generalize nm:a.eval x=xN at c7;cases c7;refine Ko (n:=j6.data.toList.length) (new:=mD j6.data.toList) (new':=mD j6.data.toList) ak hu J ao aa av r3 hw r0 ?_ (Q7 ι _) ?_ (adu _) aI
  ·rw[nm];exact atc X.P w j6 i.size
  ·rw[FP,zbu,mr,zbc]
 |chan p=>
  cases p with
  |none=>
   have aq:∀(k:am Addr->Nat->Nat->aV) (z:aV),j8 (.chan none) k z=z:=fun _ _=>rfl;have e2:∀a z:aV,xx (.chan none) a z=a:=fun _ _=>rfl;simp only[aq,e2]at g;have aI:=g;generalize nm:a.eval x=xN at c7;cases c7;refine Ko (n:=0) (new:=[]) (new':=[]) ak hu J ao aa av r3 hw r0 ?_ (bI.nil ι) (by simp) rfl aI;rw[nm];refine⟨rfl,fun tape drawn=> ?_⟩;simp only[Builtin.firstCells];rw[show 0*i.size=0 from zaA _];simp[loadCells,loadCellsFrom]
  |some _=>exact absurd g (by simp[j8,jE,xx])
 |_=>exact absurd g (by simp[j8,jE,xx])
end
section
variable{ι:bx}{fr aA:aJ}{a:Act}{aP:Nat}{st st':au}{w:d7}{o:Oper}{v:be}{call:bG}
def aso{mB lO:ce}{i:f7}{d s:bi}(ao:cH X.az d=true)(af:cH X.az s=true)(ak:o.op= .call {callee:=.builtin .copy,args:= #[d,s],argTypes:= #[mB,lO]})
 (hu:X.P.underlying mB=some (.slice elem)) (aa:X.P.info? elem=some i) (U:cF ι fr a aP) (hw:bz X ι st w) (h:ZS i.size d s call fr st= .ok v aA st'):
 aA=fr∧lQ X ι w v st' (execOp a.eval o):=by
 obtain⟨qA,dl,agn,Nc,aH⟩:=xy h (by simp);obtain⟨arN,aN,eR,p2,aI⟩:=xy aH (by simp);have DL:=U.ai hw ao;rw[Nc]at DL;have r0:=U.ai hw af;rw[p2]at r0;have J:∀{v':be} {w':d7},(Builtin.copy_ #[mB,lO] o.type #[a.eval d,a.eval s]).run X.P w= .ok v' w'->(execOp a.eval o).run X.P w= .ok (.value v') w':=by
  intro v' w' aL;unfold execOp;rw[ak];simp only[resolve,zcK,zaZ,zcs,Sem.run_bind,Sem.run_pure,Result.andThen,invoke,builtin,aL]
 generalize pU:a.eval d=au6 at DL J;generalize s7:a.eval s=atK at r0 J;cases qA with
 |none=>
  obtain⟨h0,bj⟩:=mN (aI:eQ dl 0 _ _=_) (by simp);subst h0;cases bj;cases DL;refine⟨rfl,lQ.same (v':=.int .i64 0) hw (J ?_) (.int _ _)⟩;cases r0<;>simp[Builtin.copy_,run_underlying hu,Result.andThen,Builtin.lenOf,kq aa,Builtin.firstCells,loadCells,loadCellsFrom,goInt]
 |some ad=>
  cases arN with
  |none=>
   obtain⟨h0,bj⟩:=mN (aI:eQ aN 0 _ _=_) (by simp);subst h0;cases bj;cases r0;refine⟨rfl,lQ.same (v':=.int .i64 0) hw (J ?_) (.int _ _)⟩;cases DL;simp[Builtin.copy_,run_underlying hu,Result.andThen,Builtin.lenOf,kq aa,Builtin.firstCells,goInt,Nat.min_def,storeCells]
  |some Fy=>
   have bj:st.load Fy (Nat.mul (ey aN dl aN dl) i.size) (fun vs=>cond (h8 vs) (st.store ad vs (fun st=>aV.ok (.int .i64 (.ofNat (ey aN dl aN dl))) fr st) .no) .no) .no=aV.ok v aA st':=aI;rw[show ey aN dl aN dl=Nat.min aN dl by rw[p7];show _=min aN dl;rw[Nat.min_def]]at bj;rw[show Nat.mul (Nat.min aN dl) i.size=Nat.min aN dl*i.size from rfl]at bj;obtain⟨avI,cs,el,bk,a3,aO,hn,cn⟩:=Bu bj (by simp);obtain⟨bH,cT⟩:=jI cn (by simp);obtain⟨kj,au5,au7,Hm,ava,qM,alP,eB⟩:=acJ cT (by simp);obtain⟨l,hl,C,fk,hc⟩:=hw.fe _ _ aO (by simp);obtain⟨iB,kE,yI⟩:=hw.fe _ _ qM (by simp);have jx:Nat.min aN dl*i.size<=(cs.drop Fy.off).length:=hn;have mX:=hc.room;rw[zaF]at jx;cases r0 with
   |hv _ l' off _ _ cy ft jL=>
    rw[hl]at cy;cases cy;cases DL with
    |hv _ avU Pa _ _ XA avF amh=>
     rw[kE]at XA;cases XA;have Nt:aN=0∨dl=0->Nat.min aN dl=0:=by
      intro hh;show min aN dl=0;omega
     have lD:bI ι ((cs.drop Fy.off).take (Nat.min aN dl*i.size)) ((C.toList.drop off).take (Nat.min aN dl*i.size)):=by
      rcases jL with h|⟨h1,_,_⟩
      ·rw[h];exact hc.row Fy.off _ hn
      ·rw[Nt (.inl h1)];simpa using bI.nil ι
     have alH:(Builtin.firstCells i.size (Nat.min aN dl) (.slice (some ⟨l.cJ,off,none⟩) aN (eR+l.ex))).run X.P w= .ok ((C.toList.drop off).take (Nat.min aN dl*i.size)).toArray w:=by
      simp only[Builtin.firstCells];rcases jL with h|⟨h1,_,_⟩
      ·by_cases h0:Nat.min aN dl*i.size=0
       ·rw[h0];simp[loadCells,loadCellsFrom]
       ·exact Fx hc.there (by rw[h];omega)
      ·rw[Nt (.inl h1)];simp[loadCells,loadCellsFrom]
     have gB:∀w',(storeCells ⟨iB.cJ,Pa,none⟩ ((C.toList.drop off).take (Nat.min aN dl*i.size))).run X.P w= .ok () w'->
      (Builtin.copy_ #[mB,lO] o.type #[.slice (some ⟨iB.cJ,Pa,none⟩) dl (agn+iB.ex),.slice (some ⟨l.cJ,off,none⟩) aN (eR+l.ex)]).run X.P w= .ok (.int .i64 (Nat.min aN dl:Nat)) w':=by
      intro w' aL;simp only[Builtin.copy_,zcH,zcI,zdK,Sem.run_bind,run_underlying hu,Result.andThen,kq aa,Builtin.lenOf,Sem.run_pure];rw[alH];simp only[];simp only[aL,goInt]
     rcases eB with⟨hle,gb⟩|⟨he,gb⟩
     ·cases gb;by_cases av:(cs.drop Fy.off).take (Nat.min aN dl*i.size)=[]
      ·have yX:(C.toList.drop off).take (Nat.min aN dl*i.size)=[]:=by
        have:=lD.1;rw[av]at this;exact zbz this.symm
       refine⟨rfl,ι,.value _,w,J (gB w (by rw[yX];rfl)),.inl ⟨_,rfl,.int _ _⟩,?_,.refl ι w⟩;have:=hw.QD qM;rw[av];simpa using this
      ·have ami:Pa=iB.cQ+ad.off:=by
        rcases amh with h|⟨h1,_,_⟩
        ·exact h
        ·exfalso;apply av;rw[Nt (.inr h1)];simp
       subst ami;obtain⟨w',aL,bf,bL⟩:=hw.store qM kE alP hle lD bH;exact⟨rfl,ι,.value _,w',J (gB w' aL),.inl ⟨_,rfl,.int _ _⟩,bf,bL⟩
     ·cases gb;have yX:(C.toList.drop off).take (Nat.min aN dl*i.size)=[]:=by
       have:=lD.1;rw[he]at this;exact zbz this.symm
      exact⟨rfl,ι,.value _,w,J (gB w (by rw[yX];rfl)),.inl ⟨_,rfl,.int _ _⟩,hw.QD qM,.refl ι w⟩
theorem aaD(P:f5)(w:d7)(f:be->f6->Sem (ForInStep f6))(U:∀n s,f (.int .u8 n) s=pure (.yield (s.push (UInt8.ofNat n.toNat)))):∀(gg:ac Int) (s:f6),
 (forIn (gg.map (Value.int .u8)).toArray s f:Sem f6).run P w= .ok ⟨⟨s.data.toList++gg.map (fun n=>UInt8.ofNat n.toNat)⟩⟩ w
 |[],s=>by simp
 |n::gg,s=>by
  simp only[zaZ,List.forIn_toArray,List.forIn_cons,Sem.run_bind,U,Sem.run_pure,Result.andThen];have:=aaD P w f U gg (s.push (UInt8.ofNat n.toNat));simp only[List.forIn_toArray]at this;rw[this];congr 1;simp[ByteArray.data_push]
def ash{sv sx:ce}{x:bi}(J:cH X.az x=true)(ak:o.op= .convert sv sx x)(af:X.P.underlying sv=some (.slice e))(aF:X.P.underlying sx=some .string)(he:X.P.underlying e=some (.int .u8))
 (U:cF ι fr a aP) (hw:bz X ι st w) (h:Jf x call fr st= .ok v aA st'):aA=fr∧cl X ι w v st st' (execOp a.eval o):=by
 obtain⟨b,n,c,hp,aH⟩:=xy h (by simp);have c7:=U.ai hw J;rw[hp]at c7;generalize cB:a.eval x=fH at c7;cases b with
 |none=>
  cases aH;cases c7;refine⟨rfl,cl.same (v':=.string .empty) hw ?_ (.string _)⟩;unfold execOp;rw[ak];simp[cB,convert,run_underlying af,run_underlying aF,run_underlying he,Result.andThen,Conv.bytesToString]
 |some b=>
  obtain⟨Xk,cs,el,bk,a3,aO,hn,aI⟩:=Bu (aH:au.load st b _ _ _=_) (by simp);obtain⟨bs,hb,bj⟩:=gO aI (by simp);cases bj;obtain⟨l,hl,C,fk,hc⟩:=hw.fe _ _ aO (by simp);have mX:=hc.room;obtain⟨gg,aq,e2⟩:=LJ hb;cases c7 with
  |hv _ l' off _ _ cy ft jL=>
   rw[hl]at cy;cases cy;have lD:bI ι ((cs.drop b.off).take n) ((C.toList.drop off).take n):=by
    rcases jL with h|⟨h1,_,_⟩
    ·rw[h];exact hc.row b.off _ hn
    ·subst h1;simpa using bI.nil ι
   have eT:(C.toList.drop off).take n=gg.map (Value.int .u8):=by
    rw[aq]at lD;have key:∀(gg:ac Int) (al:ac be),bI ι (gg.map (Value.int .u8)) al->al=gg.map (Value.int .u8):=by
     intro gg
     induction gg with
     |nil=>intro al ay;rw[ay.wR];rfl
     |cons m ms a1=>
      intro al ay;obtain⟨y,jR,rfl,h1,h2⟩:=ay.cons_inv;cases h1;rw[a1 jR h2];rfl
    exact key gg _ lD
   have Ba:(loadCells ⟨l.cJ,off,none⟩ n).run X.P w= .ok (gg.map (Value.int .u8)).toArray w:=by
    rw[<-eT];rcases jL with h|⟨h1,_,_⟩
    ·by_cases h0:n=0
     ·subst h0;simp[loadCells,loadCellsFrom]
     ·rw[zaF]at hn;exact Fx hc.there (by rw[h];omega)
    ·subst h1;simp[loadCells,loadCellsFrom]
   refine⟨rfl,cl.same (v':=.string ⟨⟨bs⟩⟩) hw ?_ (.string _)⟩;unfold execOp;rw[ak];simp only[cB,convert,Sem.run_bind,run_underlying af,run_underlying aF,run_underlying he,Result.andThen,Conv.bytesToString,Ba];rw[aaD X.P w _ (fun _ _=>rfl) gg ByteArray.empty];simp[e2]
end
def YD(P:f5)(e:ce)(count off n:Nat)(af:P.cellsOf e≠0)(h0:off%P.cellsOf e=0)(hn:off/P.cellsOf e+n<=count):liesAt P P.depth e count off e n=true:=by
 have ao:P.depth=(2*(P.types.size+Made.depth)+1)+1:=rfl;rw[ao];have H3:sameLayout P (2*(P.types.size+Made.depth)+1+1) e e=true:=by simp[sameLayout]
 have aL:rowAt P (sameLayout P P.depth · e) P.depth e count off n=true:=by
  rw[ao];simp only[rowAt];rw[zaa af];simp[h0,hn,H3]
 simp only[liesAt];rw[aL];rfl
theorem X3(c:bv):∀(l:ac bv),qU c l=(List.range l.length).find? (fun i=>l[i]! ==c)
 |[]=>rfl
 |b::bs=>by
  show cond (Nat.beq b.toNat c.toNat) (some 0) (bm (qU c bs) (fun i=>some (Nat.succ i)) none)=_;rw[zax,zet,zeu];by_cases hb:b=c
  ·subst hb;simp
  ·have h1:Nat.beq b.toNat c.toNat=false:=by
    rw[zbV];intro hh;exact hb (zct.1 (eo hh))
   have h2:((b::bs)[0]! ==c)=false:=by simpa using hb
   rw[h1,h2,List.find?_map,X3 c bs];show bm _ _ _=_;have:((fun i=>(b::bs)[i]! ==c)∘Nat.succ)=(fun i=>bs[i]! ==c):=by
    funext i;simp
   rw[this];cases(List.range bs.length).find? (fun i=>bs[i]! ==c)<;>rfl
section
variable{ι:bx}{fr aA:aJ}{a:Act}{aP:Nat}{st st':au}{w:d7}{o:Oper}{v:be}{call:bG}
variable{x:bi}{f:ci}{t sv sx:ce}{i:f7}
def G9{args:ap bi}{ts:ap ce}(ak:o.op= .call {callee:=.value (.func f),args:=args,argTypes:=ts}):
 (execOp a.eval o).run X.P w=(callFunc f (args.map a.eval)).run X.P w:=by
 unfold execOp;rw[ak];simp[resolve,Act.eval,Deferred.ofValue,invoke]
def asR{ts:ap ce}(J:cH X.az x=true)(eJ:X.kI f=true)(ak:o.op= .call {callee:=.value (.func f),args:= #[x],argTypes:=ts})(U:cF ι fr a aP)(hw:bz X ι st w)
 (h:Z8 x call fr st= .ok v aA st'):aA=fr∧cl X ι w v st st' (execOp a.eval o):=by
 cases h;refine⟨rfl,cl.same (v':=a.eval x) hw ?_ (U.ai hw J)⟩;rw[G9 ak];simpa using X.EN f eJ (a.eval x) w
def asA{y:bi}{ts:ap ce}(J:cH X.az x=true)(ay:cH X.az y=true)(eJ:X.k4 f=true)(ak:o.op= .call {callee:=.value (.func f),args:= #[x,y],argTypes:=ts})(U:cF ι fr a aP)(hw:bz X ι st w)
 (h:Ji x y call fr st= .ok v aA st'):aA=fr∧cl X ι w v st st' (execOp a.eval o):=by
 obtain⟨s,af,aH⟩:=ql h (by simp);obtain⟨k,o1,hc,aI⟩:=j7 aH (by simp);obtain⟨hk,bj⟩:=jI aI (by simp);obtain⟨c,aq,cn⟩:=nB bj (by simp);have fs:=u0 hk;clear h aH aI bj;subst aq fs;have c7:=U.ai hw J;rw[af]at c7;generalize cB:a.eval x=fH at c7;have fM:=U.ai hw ay;rw[hc]at fM;generalize gC:a.eval y=ru at fM;cases c7;cases fM;obtain⟨e2,bS,gK⟩:=wZ cn;subst e2 bS gK;refine⟨rfl,cl.same (v':=.int .i64 (bm (qU (UInt8.ofNat c) s.data.toList) (fun i=>.ofNat i) (.negSucc 0))) hw ?_ (.int _ _)⟩;rw[G9 ak];have:=X.Ep f eJ s (c:Int) w;simp only[zcK,zaZ,zcs,cB,gC];rw[this];congr 2;have et:s.size=s.data.toList.length:=(zbE (xs:=s.data)).symm;rw[X3,et];have alO:(fun i:Nat=>s[i]! ==(c:Int).toNat.toUInt8)=(fun i:Nat=>s.data.toList[i]! ==UInt8.ofNat c):=by
  funext i;have:s[i]! =s.data.toList[i]! :=by
   have aq:s[i]! =s.data[i]! :=by
    by_cases aa:i<s.size
    ·rw[getElem!_pos s i aa,getElem!_pos s.data i aa];rfl
    ·rw[getElem!_neg s i aa,getElem!_neg s.data i aa]
   rw[aq];simp[Array.getElem!_eq_getD]
  rw[this];rfl
 rw[alO];cases(List.range s.data.toList.length).find? (fun i=>s.data.toList[i]! ==UInt8.ofNat c)<;>rfl
def arS(ts:ap ce)(t:ce)(n c:Nat):Builtin.unsafeSliceData_ ts t #[.slice none n c]=pure (.pointer none):=rfl
def arT(ts:ap ce)(t:ce)(b:Addr)(n c:Nat)(hc:c≠0):Builtin.unsafeSliceData_ ts t #[.slice (some b) n c]=pure (.pointer (some b)):=by
 have:Builtin.unsafeSliceData_ ts t #[.slice (some b) n c]=(if c≠0 then pure (.pointer (some b))else do
  if(<-viewAt b.block).isSome then pure (.pointer (some b))
  else pure (.pointer (some ⟨<-newObj (.view b (<-elemOf t)),0,none⟩))):=rfl
 rw[this,zab hc]
def asT(J:cH X.az x=true)(ak:o.op= .call {callee:=.builtin .unsafeSliceData,args:= #[x],argTypes:= #[t]})(U:cF ι fr a aP)(hw:bz X ι st w)
 (h:Jm x call fr st= .ok v aA st'):aA=fr∧cl X ι w v st st' (execOp a.eval o):=by
 obtain⟨b,n,c,hp,aH⟩:=xy h (by simp);have c7:=U.ai hw J;rw[hp]at c7;generalize cB:a.eval x=fH at c7;cases b with
 |none=>
  cases aH;cases c7;refine⟨rfl,cl.same (v':=.pointer none) hw ?_ .oQ⟩;unfold execOp;rw[ak];simp[resolve,invoke,builtin,arS,cB]
 |some b=>
  have aI:eQ c 0 aV.no (aV.ok (.pointer (some b)) fr st)=aV.ok v aA st':=aH;rw[pN]at aI;split at aI
  ·cases aI
  ·rename_i pd;cases aI;cases c7 with
   |hv _ l off _ _ hl af jL=>
    have uN:off=l.cQ+b.off:=by rcases jL with h|⟨_,h,_⟩;exact h;exact absurd h pd
    subst uN;refine⟨rfl,cl.same (v':=.pointer (some ⟨l.cJ,l.cQ+b.off,none⟩)) hw ?_ (.ptr _ _ hl af)⟩;unfold execOp;rw[ak];simp[resolve,invoke,builtin,arT _ _ _ _ (c+l.ex) (by omega),cB]
def Kn{C:ap be}(h:w.heap[b]? =some (.cells C e bk)):w.shape? b=some (e,C.size):=by simp[World.shape?,h]
def ab1(P:f5){ad:Addr}{C:ap be}(h:w.heap[ad.block]? =some (.cells C e bk)):(Conv.seenAt ad).run P w= .ok ad w:=by
 simp[Conv.seenAt,viewAt,Kn h,Result.andThen]
def asn(J:cH X.az x=true)(ak:o.op= .convert sv sx x)(af:X.P.underlying sv=some (.pointer t))(aF:X.P.underlying sx=some .unsafePointer)(aa:X.P.info? t=some i)(av:i.size≠0)
 (U:cF ι fr a aP) (hw:bz X ι st w) (h:Jg x call fr st= .ok v aA st'):aA=fr∧cl X ι w v st st' (execOp a.eval o):=by
 obtain⟨p,hp,aH⟩:=rp h (by simp);obtain⟨ad,aq,aI⟩:=gO aH (by simp);subst aq;obtain⟨s8,cs,elem,bk,a3,aO,bj⟩:=vV aI (by simp);obtain⟨aE,cn⟩:=jZ bj (by simp);rw[fC]at aE;cases cn;obtain⟨l,hl,C,fk,hc⟩:=hw.fe _ _ aO (by simp);have mX:=hc.room;have c7:=U.ai hw J;rw[hp]at c7;generalize cB:a.eval x=fH at c7;cases c7 with
 |ptr _ l' cy ft=>
  rw[hl]at cy;cases cy;refine⟨rfl,cl.same (v':=.pointer (some ⟨l.cJ,l.cQ+ad.off,none⟩)) hw ?_ (.ptr _ _ hl s8)⟩;unfold execOp;rw[ak];have D4:¬(C.size<=l.cQ+ad.off):=by omega
  simp[cB,convert,run_underlying af,run_underlying aF,Result.andThen,Conv.unsafePointer,ab1 X.P (ad:=⟨l.cJ,l.cQ+ad.off,none⟩) hc.there,cellsIn,Kn hc.there,kq aa,av,D4]
def asq(J:cH X.az x=true)(ak:o.op= .convert sv sx x)(af:X.P.underlying sv=some .unsafePointer)(aF:X.P.underlying sx=some (.pointer t))(aa:X.P.info? t=some i)(av:i.size≠0)
 (U:cF ι fr a aP) (hw:bz X ι st w) (h:Jh t i.size x call fr st= .ok v aA st'):aA=fr∧cl X ι w v st st' (execOp a.eval o):=by
 obtain⟨p,hp,aH⟩:=rp h (by simp);obtain⟨ad,aq,aI⟩:=gO aH (by simp);subst aq;obtain⟨s8,cs,elem,bk,a3,aO,bj⟩:=vV aI (by simp);obtain⟨yA,cn⟩:=BF bj (by simp);obtain⟨h0,cT⟩:=mN cn (by simp);obtain⟨uG,eB⟩:=mN cT (by simp);obtain⟨pY,gb⟩:=mN eB (by simp);rw[fC]at pY;cases gb;subst yA uG;obtain⟨l,hl,C,fk,hc⟩:=hw.fe _ _ aO (by simp);have hQ:=hc.plain rfl;have c7:=U.ai hw J;rw[hp]at c7;generalize cB:a.eval x=fH at c7;cases c7 with
 |ptr _ l' cy ft=>
  rw[hl]at cy;cases cy;have mQ:X.P.cellsOf elem=i.size:=by simp[Program.cellsOf,aa]
  have jL:l.cQ+ad.off=0:=by omega
  have NU:(variablesAt ⟨l.cJ,l.cQ+ad.off,none⟩ elem 1).run X.P w= .ok true w:=by
   simp only[variablesAt,Sem.run_bind,run_program,Result.andThen,run_shape,Kn hc.there,Sem.run_pure];rw[YD X.P elem _ _ 1 (by rw[mQ];exact av) (by rw[jL];simp) (by
    rw[jL,mQ,hQ.2.2,pY];simp[Nat.div_self (zaG av)])]
  refine⟨rfl,cl.same (v':=.pointer (some ⟨l.cJ,l.cQ+ad.off,none⟩)) hw ?_ (.ptr _ _ hl s8)⟩;unfold execOp;rw[ak];simp[cB,convert,run_underlying af,run_underlying aF,Result.andThen,Conv.unsafePointer,ab1 X.P (ad:=⟨l.cJ,l.cQ+ad.off,none⟩) hc.there,kq aa,av,NU]
end
section
variable{ι:bx}{fr aA:aJ}{a:Act}{aP:Nat}{st st':au}{w:d7}{o:Oper}{v:be}{call:bG}
variable{x:bi}{i:f7}
def asp{sv sx:ce}(J:cH X.az x=true)(ak:o.op= .convert sv sx x)(af:X.P.underlying sv=some .string)(aF:X.P.underlying sx=some (.slice e))(he:X.P.underlying e=some (.int .u8))
 (aa:X.P.info? e=some i) (av:i.size=1) (U:cF ι fr a aP) (hw:bz X ι st w) (h:BS e x call fr st= .ok v aA st'):aA=fr∧tP X ι w v st st' (execOp a.eval o):=by
 obtain⟨s,hp,aH⟩:=ql h (by simp);obtain⟨hle,aI⟩:=jZ aH (by simp);rw[g8]at aI;simp only[fC]at hle aI;cases aI;have c7:=U.ai hw J;rw[hp]at c7;generalize cB:a.eval x=fH at c7;cases c7;have et:s.size=s.data.toList.length:=(zbE (xs:=s.data)).symm
 let q:Question:=.appendCap s.size 0 e
 have DI:s.size<=q.cut (w.tape w.drawn q):=by show s.size<=s.size+_;omega
 let C:ap be:=(s.data.map fun b=>Value.int .u8 b.toNat)++Array.replicate (q.cut (w.tape w.drawn q)-s.size) (.int .u8 0)
 have W7:C.size=q.cut (w.tape w.drawn q):=by
  simp only[C,Array.size_append,Array.size_map,Array.size_replicate];have:s.data.size=s.size:=rfl;omega
 have mQ:X.P.cellsOf e=1:=by simp[Program.cellsOf,aa,av]
 let w':d7:={w with drawn:=w.drawn+1,heap:=w.heap.push (.cells C e (C.size,C.size+1))}
 have gB:(execOp a.eval o).run X.P w= .ok (.value (.slice (some ⟨w.heap.size,0,none⟩) s.size (q.cut (w.tape w.drawn q)))) w':=by
  unfold execOp;rw[ak];have mU:(markStringish ⟨w.heap.size,0,none⟩).run X.P {w with drawn:=w.drawn+1,heap:=w.heap.push (.cells C e)}= .ok () w':=by
   simp[markStringish,World.shape?,World.freeze,Result.andThen,w'];apply zdF;intro j;rw[zen];by_cases hj:w.heap.size=j
   ·subst hj;simp
   ·rw[zaa hj,zda,zda,zaa (Ne.symm hj),zaa (Ne.symm hj)]
  simp only[cB,convert,Sem.run_bind,run_underlying af,run_underlying aF,Result.andThen,run_underlying he,Conv.stringToBytes,run_choose,Question.forced,zbt,if_false,newRow,run_newObj,Sem.run_pure];rw[mU]
 obtain⟨aR,bf,bL,eM,p6⟩:=hw.I2 e (cs:=mD s.data.toList) (cs':=mD s.data.toList) (Q7 ι _) (List.replicate (q.cut (w.tape w.drawn q)-s.size) (.int .u8 0)) (q.cut (w.tape w.drawn q)-s.size) (by
  rw[mQ];simp) (C.size,C.size+1) (fun j hj=>by
   rw[FP]at hj;simp only[zbu,zav]at hj;simp only;omega) w' (by
   show w.heap.push (.cells C e (C.size,C.size+1))=_;congr 2;apply Array.ext';rw[FP];simp[C])
 rw[p6]at bf bL eM;refine⟨rfl,_,_,_,_,w',rfl,by simp,gB,rfl,?_,bf,bL⟩;have:=bq.hv (ι:=iG ι st.aj ⟨w.heap.size,0,q.cut (w.tape w.drawn q)-s.size,id⟩) ⟨st.aj,0,none⟩ ⟨w.heap.size,0,q.cut (w.tape w.drawn q)-s.size,id⟩ 0 s.data.toList.length s.data.toList.length eM rfl (.inl rfl);rw[<-et]at this⊢;rw[show s.size+(q.cut (w.tape w.drawn q)-s.size)=q.cut (w.tape w.drawn q) by omega]at this;exact this
theorem YI(P:f5)(w:d7)(b:Nat)(C:ap be)(e:ce)(bk:Nat×Nat)(h:w.heap[b]? =some (.cells C e bk)):∀(gg:ac Int) (o:Nat) (acc:f6),(C.toList.drop o).take gg.length=gg.map (Value.int .u8)->
 (loadBytes ⟨b,o,none⟩ acc gg.length).run P w= .ok ⟨⟨acc.data.toList++gg.map (fun n=>UInt8.ofNat n.toNat)⟩⟩ w
 |[],o,acc,_=>by simp[loadBytes]
 |n::gg,o,acc,hc=>by
  have kX:C[o]? =some (.int .u8 n):=by
   have:=congrArg (fun l=>l[0]?) hc;simpa using this
  have aE:o<C.toList.length:=by
   have:=(zbs.1 kX).1;simpa using this
  have l1:(C.toList.drop (o+1)).take gg.length=gg.map (Value.int .u8):=by
   rw[fP aE]at hc;simp only[zax,List.take_succ_cons,zaZ]at hc;exact(List.cons.inj hc).2
  simp only[zax,loadBytes,Sem.run_bind,run_load,cell_of h,kX,Result.andThen,add_eq];rw[YI P w b C e bk h gg (o+1) _ l1];congr 1;simp[ByteArray.data_push,Nat.toUInt8]
def as0{y:bi}{E0 t2:ce}(J:cH X.az x=true)(ay:cH X.az y=true)(ak:o.op= .call {callee:=.builtin .unsafeString,args:= #[x,y],argTypes:= #[E0,t2]})(mq:X.P.underlying E0=some (.pointer e))
 (aa:X.P.info? e=some i) (av:i.size=1) (U:cF ι fr a aP) (hw:bz X ι st w) (h:Jo e x y call fr st= .ok v aA st'):aA=fr∧lQ X ι w v st' (execOp a.eval o):=by
 obtain⟨p,hp,aH⟩:=rp h (by simp);obtain⟨k,th,hn,aI⟩:=j7 aH (by simp);obtain⟨n,aq,bj⟩:=nB aI (by simp);clear h aH aI;subst aq;have c7:=U.ai hw J;rw[hp]at c7;generalize cB:a.eval x=fH at c7;have fM:=U.ai hw ay;rw[hn]at fM;generalize gC:a.eval y=ru at fM;cases fM;have mQ:X.P.cellsOf e=1:=by simp[Program.cellsOf,aa,av]
 have uS:∀{v':be} {w':d7},(Builtin.unsafeString_ #[E0,t2] o.type #[a.eval x,a.eval y]).run X.P w= .ok v' w'->(execOp a.eval o).run X.P w= .ok (.value v') w':=by
  intro v' w' aL;unfold execOp;rw[ak];simp only[resolve,zcK,zaZ,zcs,Sem.run_bind,Sem.run_pure,Result.andThen,invoke,builtin,aL]
 rw[cB,gC]at uS;have HS:¬((n:Int)<0):=by omega
 have NS:∀p:am Addr,∃(jb:String) (m0:RuntimeError) (EB:Unsupported) (ID:RuntimeError) (IE:Unsupported),Builtin.unsafeString_ #[E0,t2] o.type #[.pointer p,.int k (n:Int)]=(do
  let r<-asInt (.int k (n:Int))
  let some e:=(#[E0,t2]:ap ce)[0]? |stuck jb
  if r<0 then runtimePanic m0
  if r>IntKind.i64.max then unsupported EB
  match p with
  |none=>if r=0 then pure (.string .empty)else runtimePanic ID
  |some q=>if r=0 then pure (.string .empty)else if<-variablesAt q (<-elemOf e) r.toNat then do let s<-loadBytes q .empty r.toNat;freeze q r.toNat;pure (.string s)else unsupported IE):=fun p=>⟨default,_,_,_,_,rfl⟩
 rw[pN]at bj;split at bj
 ·rename_i h0;subst h0;cases bj;have yK:¬(((0:Nat):Int)>IntKind.i64.max):=by decide
  cases c7 with
  |oQ=>
   refine⟨rfl,lQ.same (v':=.string .empty) hw (uS ?_) (.string _)⟩;obtain⟨jb,m0,EB,ID,IE,hu⟩:=NS _;rw[hu];simp[asInt,asIntOf]
  |ptr ad l hl af=>
   refine⟨rfl,lQ.same (v':=.string .empty) hw (uS ?_) (.string _)⟩;obtain⟨jb,m0,EB,ID,IE,hu⟩:=NS _;rw[hu];simp[asInt,asIntOf]
 ·rename_i h0;obtain⟨ad,aq,cn⟩:=gO bj (by simp);subst aq;obtain⟨XB,cT⟩:=jZ cn (by simp);obtain⟨s8,cs,el,bk,a3,aO,eB⟩:=vV cT (by simp);obtain⟨qL,gb⟩:=jZ eB (by simp);obtain⟨uG,nV⟩:=mN gb (by simp);obtain⟨hlen,sV⟩:=vZ nV (by simp);obtain⟨bs,hb,yh⟩:=gO sV (by simp);rw[lk]at yh;cases yh;clear bj cn cT eB gb nV sV;subst uG;obtain⟨l,hl,C,fk,hc⟩:=hw.fe _ _ aO (by simp);have mX:=hc.room;obtain⟨gg,aq,e2⟩:=LJ hb;have avv:n<=1099511627776:=XB;rw[zaF]at hlen;cases c7 with
  |ptr _ l' cy ft=>
   rw[hl]at cy;cases cy;have lD:=hc.row ad.off n (by rw[zaF];exact hlen);have eT:(C.toList.drop (l.cQ+ad.off)).take n=gg.map (Value.int .u8):=by
    rw[aq]at lD;have key:∀(gg:ac Int) (al:ac be),bI ι (gg.map (Value.int .u8)) al->al=gg.map (Value.int .u8):=by
     intro gg
     induction gg with
     |nil=>intro al ay;rw[ay.wR];rfl
     |cons m ms a1=>
      intro al ay;obtain⟨y,jR,rfl,h1,h2⟩:=ay.cons_inv;cases h1;rw[a1 jR h2];rfl
    exact key gg _ lD
   have ph:gg.length=n:=by
    have:=congrArg List.length aq;simp at this;omega
   have Ba:=YI X.P w l.cJ C el fk hc.there gg (l.cQ+ad.off) .empty (by rw[ph];exact eT);rw[ph]at Ba;have NU:(variablesAt ⟨l.cJ,l.cQ+ad.off,none⟩ el n).run X.P w= .ok true w:=by
    simp only[variablesAt,Sem.run_bind,run_program,Result.andThen,run_shape,Kn hc.there,Sem.run_pure];rw[YD X.P el _ _ n (by rw[mQ];omega) (by rw[mQ];omega) (by rw[mQ];simp;omega)]
   have cZ:=(zbs.1 hc.there).1
   let Hm:Nat×Nat:=if fk.1==fk.2 then(l.cQ+ad.off,l.cQ+ad.off+n)else(min fk.1 (l.cQ+ad.off),max fk.2 (l.cQ+ad.off+n))
   have oz:(w.freeze ⟨l.cJ,l.cQ+ad.off,none⟩ n).heap=w.heap.setIfInBounds l.cJ (.cells C el Hm):=by
    simp only[World.freeze,zaa h0];apply zdF;intro j;rw[zen];by_cases kf:l.cJ=j
    ·subst kf;rw[zab rfl,hc.there,zem];simp[cZ,Hm]
    ·rw[zaa kf,zbM kf]
   obtain⟨t1,t2⟩:=bz.xt X hw aO (by simp) (fun U=>by have:=U.2;omega) hl (.cells cs el (ad.off,Nat.add ad.off n) a3) _ (w.freeze ⟨l.cJ,l.cQ+ad.off,none⟩ n) oz (fun _ aF=>⟨C,Hm,⟨aF,hc.room,hc.cell,fun eL=>by
    exfalso;have:ad.off+n<=ad.off:=eL;omega,hc.plain⟩⟩) (by constructor<;>simp only[World.freeze,zaa h0])
   refine⟨rfl,ι,.value (.string ⟨⟨bs⟩⟩),_,uS ?_,.inl ⟨_,rfl,.string _⟩,t1,t2⟩;obtain⟨jb,m0,EB,ID,IE,hu⟩:=NS _;rw[hu];have ab:¬((n:Int)>IntKind.i64.max):=by
    have:IntKind.i64.max=9223372036854775807:=by decide
    rw[this];omega
   have aD:¬((n:Int)=0):=by omega
   simp only[asInt,asIntOf,Sem.run_bind,Sem.run_pure,Result.andThen,zcH,zcI,zaa HS,zaa ab,zaa aD,elemOf,run_underlying mq,NU,zcj,if_true,Ba,run_freeze];rw[e2];simp
end
section
variable{ι:bx}{fr aA:aJ}{a:Act}{aP:Nat}{st st':au}{w:d7}{o:Oper}{v:be}{call:bG}
variable{t:ce}{x y eY nP:be}
def wK:bi->Bool
 |.const _=>true
 |_=>false
def ahJ{neg:Bool}{z4:ce}{x y:bi}{b:Bool}(ak:o.op= .binOp (if neg then .neq else .eql) t x y z4)
 (aO:(eqGuard (if neg then .neq else .eql) t x y (a.eval x) (a.eval y)).run X.P w= .ok () w)
 (hb:∀op:BinOp,op= .eql∨op= .neq->binOp op t (a.eval x) (a.eval y)=(if op= .eql then do pure (.bool (<-Op.equal t (a.eval x) (a.eval y)))else do pure (.bool (!(<-Op.equal t (a.eval x) (a.eval y))))))
 (he:(Op.equal t (a.eval x) (a.eval y)).run X.P w= .ok b w):(execOp a.eval o).run X.P w= .ok (.value (.bool (cond neg (!b) b))) w:=by
 unfold execOp;rw[ak];simp only[Sem.run_bind,aO,Result.andThen];cases neg
 ·simp only[zbt,if_false];rw[hb .eql (.inl rfl),zab rfl];simp[he,Result.andThen]
 ·simp only[if_true];rw[hb .neq (.inr rfl),zaa (by simp)];simp[he,Result.andThen]
def ahj(hu:P.underlying t=some .bool)(d:Nat)(x y:Bool):(Op.equalIn (d+1) t (.bool x) (.bool y)).run P w= .ok (x==y) w:=by
 simp[Op.equalIn,run_underlying hu,Result.andThen]
def aho{b:Bool}(n:Nat)(J:bq ι x eY)(ay:bq ι y nP)(h:sR x y=some b)(hu:X.P.underlying t=some (.slice e)):
 (Op.equalIn (n+1) t eY nP).run X.P w= .ok b w:=by
 unfold sR at h;split at h
 ·cases h;cases J;cases ay<;>simp[Op.equalIn,run_underlying hu,Result.andThen]
 ·cases h;cases J;cases ay;simp[Op.equalIn,run_underlying hu,Result.andThen]
 ·cases h;cases J;cases ay;simp[Op.equalIn,run_underlying hu,Result.andThen]
 ·cases h
def ahn{b:Bool}{k:ce}(n:Nat)(J:bq ι x eY)(ay:bq ι y nP)(h:Dm x y=some b)(hu:X.P.underlying t=some (.map k e)):
 (Op.equalIn (n+1) t eY nP).run X.P w= .ok b w:=by
 unfold Dm at h;split at h
 ·cases h;cases J;cases ay<;>simp[Op.equalIn,run_underlying hu,Result.andThen]
 ·cases h;cases J;cases ay;simp[Op.equalIn,run_underlying hu,Result.andThen]
 ·cases h
def ahl{b:Bool}{p q:ap ce}{r:Bool}(n:Nat)(J:bq ι x eY)(ay:bq ι y nP)(h:AO x y=some b)(hu:X.P.underlying t=some (.func p q r)):
 (Op.equalIn (n+1) t eY nP).run X.P w= .ok b w:=by
 unfold AO at h;split at h
 ·cases h;cases J;cases ay;simp[Op.equalIn,run_underlying hu,Result.andThen]
 ·cases h;cases J;cases ay;simp[Op.equalIn,run_underlying hu,Result.andThen]
 ·cases h;cases J;cases ay;simp[Op.equalIn,run_underlying hu,Result.andThen]
 ·cases h
def ahm{b:Bool}{ms:ap (String×ce)}(n:Nat)(J:bq ι x eY)(ay:bq ι y nP)(h:Dl x y=some b)(hu:X.P.underlying t=some (.interface ms)):
 (Op.equalIn (n+1) t eY nP).run X.P w= .ok b w:=by
 unfold Dl at h;split at h
 ·cases h;cases J;cases ay;simp[Op.equalIn,run_underlying hu,Result.andThen]
 ·cases h;cases J;cases ay;simp[Op.equalIn,run_underlying hu,Result.andThen]
 ·cases h;cases J;cases ay;simp[Op.equalIn,run_underlying hu,Result.andThen]
 ·cases h
def ahq{b:Bool}{i:f7}(n:Nat)(J:bq ι x eY)(ay:bq ι y nP)(h:sS x y=some b)(hu:X.P.underlying t=some (.pointer e))(aa:X.P.info? e=some i)(av:i.size≠0):
 (Op.equalIn (n+1) t eY nP).run X.P w= .ok b w:=by
 unfold sS at h;split at h
 ·cases h;cases J;cases ay<;>simp[Op.equalIn,run_underlying hu,Result.andThen]
 ·cases h;cases J;cases ay;simp[Op.equalIn,run_underlying hu,Result.andThen]
 ·split at h
  ·rename_i p q hc;cases h;cases J with
   |ptr _ l hl af=>
    cases ay with
    |ptr _ iB kE nZ=>
     rw[hc.1,kE]at hl;cases hl;simp[Op.equalIn,run_underlying hu,kq aa,av,sameAddr,Result.andThen];rw[zbl];simp
  ·cases h
 ·cases h
inductive vK(P:Program)(t:TypeId)(x y:Operand):pC->Prop
 |tu (h:P.underlying t=some .bool):vK P t x y .tu
 |sd (e:TypeId) (h:P.underlying t=some (.slice e)):vK P t x y .sd
 |zm (k e:TypeId) (h:P.underlying t=some (.map k e)):vK P t x y .zm
 |wQ (p q:Array TypeId) (r:Bool) (h:P.underlying t=some (.func p q r)):vK P t x y .wQ
 |zl (ms:Array (String×TypeId)) (h:P.underlying t=some (.interface ms)) (hc:wK x=true∨wK y=true):vK P t x y .zl
 |ptr (e:TypeId) (i:TypeInfo) (h:P.underlying t=some (.pointer e)) (aa:P.info? e=some i) (av:i.size≠0):vK P t x y .ptr
def ahh(P:f5)(op:BinOp)(t:ce)(x y:bi)(hc:wK x=true∨wK y=true):(eqGuard op t x y .nilIface .nilIface).run P w= .ok () w:=by
 rcases hc with hc|hc
 ·cases x<;>simp[wK]at hc;cases op<;>simp[eqGuard]
 ·cases y<;>simp[wK]at hc;cases op<;>cases x<;>simp[eqGuard]
def ast{neg:Bool}{e:pC}{z4:ce}{x y:bi}(J:cH X.az x=true)(ay:cH X.az y=true)(ak:o.op= .binOp (if neg then .neq else .eql) t x y z4)(bH:vK X.P t x y e)
 (U:cF ι fr a aP) (hw:bz X ι st w) (h:ZT neg e x y call fr st= .ok v aA st'):aA=fr∧cl X ι w v st st' (execOp a.eval o):=by
 obtain⟨b,hb,g⟩:=gO h (by simp);have c7:=U.ai hw J;have fM:=U.ai hw ay;obtain⟨aq,e2,bS⟩:=wZ g;subst aq e2 bS;clear g h;generalize cB:a.eval x=fH at c7;generalize gC:a.eval y=ru at fM;have key:∀(_:(Op.equal t fH ru).run X.P w= .ok b w) (_:(eqGuard (if neg then .neq else .eql) t x y fH ru).run X.P w= .ok () w)
  (_:∀op:BinOp,op= .eql∨op= .neq->binOp op t fH ru=(if op= .eql then do pure (.bool (<-Op.equal t fH ru))else do pure (.bool (!(<-Op.equal t fH ru))))),
  fr=fr∧cl X ι w (.bool (cond neg (!b) b)) st st (execOp a.eval o):=by
  intro h1 h2 ab;exact⟨rfl,cl.same (v':=.bool (cond neg (!b) b)) hw (ahJ ak (by rw[cB,gC];exact h2) (by rw[cB,gC];exact ab) (by rw[cB,gC];exact h1)) (.bool _)⟩
 cases bH with
 |tu hu=>
  have cZ:AP (fr.ai x) (fr.ai y)=some b:=hb;generalize fr.ai x=Dy at cZ c7;generalize fr.ai y=Dz at cZ fM;unfold AP at cZ;split at cZ
  ·cases cZ;cases c7;cases fM;exact key (ahj hu 9999 _ _) (by cases neg<;>simp[eqGuard]) (by intro op dB;rcases dB with rfl|rfl<;>rfl)
  ·split at cZ
   ·cases cZ;cases c7;cases fM;rename_i bf hH bL fc hk;subst hk;refine⟨rfl,cl.same (v':=.bool (cond neg (!(hH==fc)) (hH==fc))) hw ?_ (.bool _)⟩;unfold execOp;rw[ak];cases neg<;>simp[cB,gC,eqGuard,binOp,Op.intCmp]<;>rfl
   ·cases cZ
  ·cases cZ;cases c7;cases fM;rename_i s1 s2;refine⟨rfl,cl.same (v':=.bool (cond neg (!(s1.data.toList==s2.data.toList)) (s1.data.toList==s2.data.toList))) hw ?_ (.bool _)⟩;unfold execOp;rw[ak];cases neg<;>simp only[cB,gC,Sem.run_bind,zbt,if_false,if_true,G4,Result.andThen,binOp,Op.stringOp,toList_eq]<;>rfl
  ·cases cZ
 |sd e hu=>
  have cZ:sR (fr.ai x) (fr.ai y)=some b:=hb;have h1:=aho (w:=w) 9999 c7 fM cZ hu;generalize fr.ai x=Dy at cZ c7;generalize fr.ai y=Dz at cZ fM;unfold sR at cZ;split at cZ<;>first|(cases cZ;done)|(cases cZ;cases c7;cases fM<;>exact key h1 (by cases neg<;>simp[eqGuard]) (by intro op dB;rcases dB with rfl|rfl<;>rfl))
 |zm k e hu=>
  have cZ:Dm (fr.ai x) (fr.ai y)=some b:=hb;have h1:=ahn (w:=w) 9999 c7 fM cZ hu;generalize fr.ai x=Dy at cZ c7;generalize fr.ai y=Dz at cZ fM;unfold Dm at cZ;split at cZ<;>first|(cases cZ;done)|(cases cZ;cases c7;cases fM<;>exact key h1 (by cases neg<;>simp[eqGuard]) (by intro op dB;rcases dB with rfl|rfl<;>rfl))
 |wQ p q r hu=>
  have cZ:AO (fr.ai x) (fr.ai y)=some b:=hb;have h1:=ahl (w:=w) 9999 c7 fM cZ hu;generalize fr.ai x=Dy at cZ c7;generalize fr.ai y=Dz at cZ fM;unfold AO at cZ;split at cZ<;>first|(cases cZ;done)|(cases cZ;cases c7;cases fM;exact key h1 (by cases neg<;>simp[eqGuard]) (by intro op dB;rcases dB with rfl|rfl<;>rfl))
 |zl ms hu hc=>
  have cZ:Dl (fr.ai x) (fr.ai y)=some b:=hb;have h1:=ahm (w:=w) 9999 c7 fM cZ hu;generalize fr.ai x=Dy at cZ c7;generalize fr.ai y=Dz at cZ fM;unfold Dl at cZ;split at cZ
  ·cases cZ;cases c7;cases fM;exact key h1 (ahh X.P _ t x y hc) (by intro op dB;rcases dB with rfl|rfl<;>rfl)
  ·cases cZ;cases c7;cases fM;exact key h1 (by cases neg<;>simp[eqGuard]) (by intro op dB;rcases dB with rfl|rfl<;>rfl)
  ·cases cZ;cases c7;cases fM;exact key h1 (by cases neg<;>simp[eqGuard]) (by intro op dB;rcases dB with rfl|rfl<;>rfl)
  ·cases cZ
 |ptr e i hu aa av=>
  have cZ:sS (fr.ai x) (fr.ai y)=some b:=hb;have h1:=ahq (w:=w) 9999 c7 fM cZ hu aa av;generalize fr.ai x=Dy at cZ c7;generalize fr.ai y=Dz at cZ fM;unfold sS at cZ;split at cZ
  ·cases cZ;cases c7;cases fM<;>exact key h1 (by cases neg<;>simp[eqGuard]) (by intro op dB;rcases dB with rfl|rfl<;>rfl)
  ·cases cZ;cases c7;cases fM;exact key h1 (by cases neg<;>simp[eqGuard]) (by intro op dB;rcases dB with rfl|rfl<;>rfl)
  ·cases c7;cases fM;exact key h1 (by cases neg<;>simp[eqGuard]) (by intro op dB;rcases dB with rfl|rfl<;>rfl)
  ·cases cZ
end
end Go.ah
namespace Go.ah
variable{a b:bi}{az:Nat}
def Pp:bi->bi->Bool
 |.tmp a,.tmp b=>Nat.beq a b
 |.const v,.const w=>dU v w
 |.global a,.global b=>Nat.beq a b
 |.func a,.func b=>Nat.beq a b
 |_,_=>false
def apT(h:Pp a b=true):a=b:=by
 cases a<;>cases b<;>simp only[Pp]at h<;>first|(cases h;done)|(rw[eo h])|(rw[od _ _ h])
def bT(az:Nat)(a b:bi):Bool:=Pp a b&&cH az b
def c9(h:bT az a b=true):a=b∧cH az b=true:=by
 unfold bT at h;rw[b4]at h;exact⟨apT h.1,h.2⟩
def lG(az:Nat):ac bi->ac bi->Bool
 |[],[]=>true
 |a::as,b::bs=>bT az a b&&lG az as bs
 |_,_=>false
theorem tr{az:Nat}:∀{as bs:ac bi},lG az as bs=true->as=bs∧∀x∈bs,cH az x=true
 |[],[],_=>⟨rfl,by simp⟩
 |a::as,b::bs,h=>by
  simp only[lG,b4]at h;obtain⟨h1,h2⟩:=c9 h.1;obtain⟨ab,aD⟩:=tr h.2;exact⟨by rw[h1,ab],fun x J=>by rcases zap.1 J with rfl|J;exact h2;exact aD x J⟩
 |[],_::_,h=>by simp[lG]at h
 |_::_,[],h=>by simp[lG]at h
def m6(az:Nat):am bi->am bi->Bool
 |none,none=>true
 |some a,some b=>bT az a b
 |_,_=>false
def w1{a b:am bi}(h:m6 az a b=true):a=b∧∀y,b=some y->cH az y=true:=by
 cases a<;>cases b<;>simp only[m6]at h<;>first|(cases h;done)|skip
 ·exact⟨rfl,by simp⟩
 ·obtain⟨h1,h2⟩:=c9 h;exact⟨by rw[h1],fun y ay=>by cases ay;exact h2⟩
def sj(az:Nat)(place:Nat->am (Nat×Nat)):ac (Nat×Nat×bi)->ac (Nat×bi)->Bool
 |[],[]=>true
 |(off,a2,x)::ps,(i,y)::dt=>
  (match place i with
   |some (o,s)=>Nat.beq off o&&Nat.beq a2 s
   |none=>false)&&bT az x y&&sj az place ps dt
 |_,_=>false
theorem Ju{az:Nat}{place:Nat->am (Nat×Nat)}:∀{ps:ac (Nat×Nat×bi)} {dt:ac (Nat×bi)},sj az place ps dt=true->
 ps=dt.map (fun p=>(((place p.1).getD (0,0)).1,((place p.1).getD (0,0)).2,p.2))∧∀p∈dt,(place p.1).isSome∧cH az p.2=true
 |[],[],_=>⟨rfl,by simp⟩
 |(off,a2,x)::ps,(i,y)::dt,h=>by
  simp only[sj,b4]at h;obtain⟨⟨h1,h2⟩,ab⟩:=h;obtain⟨aq,e2⟩:=c9 h2;obtain⟨f1,f2⟩:=Ju ab;cases hp:place i with
  |none=>rw[hp]at h1;cases h1
  |some q=>
   obtain⟨o,s⟩:=q;rw[hp]at h1;simp only[b4]at h1;have gU:=eo h1.1;have hM:=eo h1.2;refine⟨by rw[f1,aq,gU,hM];simp[hp],fun p mq=> ?_⟩;rcases zap.1 mq with rfl|mq
   ·exact⟨by simp[hp],e2⟩
   ·exact f2 p mq
 |[],_::_,h=>by simp[sj]at h
 |_::_,[],h=>by simp[sj]at h
section
variable(P:f5)(az:Nat)(kI k4:ci->Bool)(keys:ce->am fW)(qy:ci->Bool)(eqs:ce->am Nat)(qV:ci->Bool)(m1:Nat)
def qp(t:ce):am Bool:=(P.underlying t).map rE
def g1(t:ce):am Nat:=(P.info? t).map (·.size)
def sC(t:ce):am be:=(P.info? t).bind (·.zero)
def G6(t:ce)(e:pC)(x y:bi):Bool:=
 match e,P.underlying t with
 |.tu,some .bool=>true
 |.sd,some (.slice _)=>true
 |.zm,some (.map _ _)=>true
 |.wQ,some (.func _ _ _)=>true
 |.zl,some (.interface _)=>wK x||wK y
 |.ptr,some (.pointer el)=>match g1 P el with
  |some n=> !Nat.beq n 0
  |none=>false
 |_,_=>false
def aht{t:ce}{e:pC}{x y:bi}(h:G6 P t e x y=true):vK P t x y e:=by
 unfold G6 at h;split at h
 ·rename_i hu;exact .tu hu
 ·rename_i hu;exact .sd _ hu
 ·rename_i hu;exact .zm _ _ hu
 ·rename_i hu;exact .wQ _ _ _ hu
 ·rename_i hu;exact .zl _ hu (by simpa using h)
 ·rename_i hu;split at h
  ·rename_i n hn;unfold g1 at hn;obtain⟨i,aa,e⟩:=zbv.1 hn;refine .ptr _ i hu aa ?_;intro av;rw[<-e,av]at h;simp at h
  ·cases h
 ·cases h
def Oj:fW->fW->Bool
 |.int k,.int k'=>decide (k=k')
 |.str,.str=>true
 |.arr k n,.arr k' b1=>decide (k=k')&&Nat.beq n b1
 |_,_=>false
def Ev(t:ce)(cX:fW):Bool:=
 match P.underlying t with
 |some (.map fB _)=>(match keys fB with|some Yp=>Oj cX Yp|none=>false)
 |_=>false
def Rl(op:Op)(y:vQ):Bool:=
 match y,op with
 |.look cX z ok m k,.lookup t gF k' wX=>bT az m gF&&bT az k k'&&(ok==wX)&&Ev P keys t cX&&
  (match P.underlying t with|some (.map _ e)=>(match sC P e with|some v=>dU z v&&kN z|none=>false)|_=>false)
 |.hI cX m k v,.mapUpdate t gF k' v'|.hI cX m k v,.insert t gF k' v'=>bT az m gF&&bT az k k'&&bT az v v'&&Ev P keys t cX
 |.del cX m k,.call {callee:=.builtin .delete,args:=⟨[gF,k']⟩,argTypes:=⟨[t,_]⟩}=>bT az m gF&&bT az k k'&&Ev P keys t cX
 |.BA m,.call {callee:=.builtin .len,args:=⟨[gF]⟩,argTypes:=⟨[t]⟩}=>bT az m gF&&(match P.underlying t with|some (.map _ _)=>true|_=>false)
 |.BB m,.range t gF=>bT az m gF&&(match P.underlying t with|some (.map _ _)=>true|_=>false)
 |.Bz i,.entry c4=>bT az i c4
 |.EP i,.next c4 false=>bT az i c4
 |.xW gt a b,.binOp bD t a' gw _=>decide (bD=(if gt then .gtr else .leq))&&bT az a a'&&bT az b gw&&(match P.underlying t with|some (.int .i64)=>true|_=>false)
 |.idxs g a c,.call {callee:=.value (.func f),args:=⟨[b,d]⟩,.. }=>bT az a b&&bT az c d&&qV f&&Nat.beq g m1
 |.a6 a c,.call {callee:=.value (.func f),args:=⟨[b,d]⟩,.. }=>bT az a b&&bT az c d&&qy f
 |.uu neg n a b,.binOp bD t a' gw _=>decide (bD=(if neg then .neq else .eql))&&bT az a a'&&bT az b gw&&(match eqs t with|some b1=>Nat.beq n b1|none=>false)
 |_,_=>false
def auV(op:Op)(x:de):Bool:=
 match x,op with
 |.m3 a,.move b|.m3 a,.assign b=>bT az a b
 |.pick c a b,.pick bW a' gw=>bT az c bW&&bT az a a'&&bT az b gw
 |.alloc z e,.alloc t=>Nat.beq e t&&(match sC P t with|some v=>nb z v.cells.toList&&nO z|none=>false)
 |.box e a,.box t b=>Nat.beq e t&&bT az a b
 |.build z ps,.build t parts=>
  (match sC P t with|some v=>nb z v.cells.toList&&nO z|none=>false)&&
  (match P.underlying t with
   |some (.struct fields)=>fields.toList.all (fun f=>(P.info? f.type).isSome)&&sj az (fun j=>(fields.map fun f=>(f.offset,P.cellsOf f.type))[j]?) ps parts.toList
   |some (.array _ e)=>(match g1 P e with|some s=>sj az (fun j=>some (j*s,s)) ps parts.toList|none=>false)
   |_=>false)
 |.pJ e n z ps,.buildSlice t m parts=>
  Nat.beq n m&&(match P.underlying t with
   |some (.slice el)=>Nat.beq e el&&(match g1 P el,sC P el with
    |some s,some v=>Nat.ble (m*s) (2^24)&&nb z ((List.range (m*s)).map (fun j=>(if m*s=0 then(#[]:ap be)else v.cells)[j%(if m*s=0 then(#[]:ap be)else v.cells).size]!))&&nO z&&
     sj az (fun j=>some (j*s,s)) ps parts.toList
    |_,_=>false)
   |_=>false)
 |.lE a,.load t b=>bT az a b&&(match qp P t with|some g=> !g|none=>false)
 |.p9 n a,.load t b=>bT az a b&&(match qp P t,g1 P t with|some g,some s=>g&&Nat.beq n s|_,_=>false)
 |.store n a x,.store t b y=>bT az a b&&bT az x y&&(match g1 P t with|some s=>Nat.beq n s|none=>false)
 |.tj a,.nilCheck b=>bT az a b
 |.bin o a b,.binOp bD _ a' gw _=>decide (o=bD)&&bT az a a'&&bT az b gw
 |.eqv neg e a b,.binOp bD t a' gw _=>decide (bD=(if neg then .neq else .eql))&&bT az a a'&&bT az b gw&&G6 P t e a' gw
 |.un o a,.unOp bD _ b=>decide (o=bD)&&bT az a b
 |.tZ k a,.convert s t b=>bT az a b&&(match P.underlying s,P.underlying t with|some _,some (.int k')=>decide (k=k')|_,_=>false)
 |.xV a,.convert s t b=>bT az a b&&(match P.underlying s,P.underlying t with|some _,some .string=>true|_,_=>false)
 |.Av a,.convert s t b=>bT az a b&&(match P.underlying s,P.underlying t with|some (.slice e),some .string=>(match P.underlying e with|some (.int .u8)=>true|_=>false)|_,_=>false)
 |.vX e a,.convert s t b=>bT az a b&&(match P.underlying s,P.underlying t with|some .string,some (.slice cK)=>Nat.beq e cK&&(match P.underlying cK,g1 P cK with|some (.int .u8),some 1=>true|_,_=>false)|_,_=>false)
 |.IP t a,.makeInterface cL b=>Nat.beq t cL&&bT az a b&&(match P.underlying cL with|some (.interface _)=>false|some _=>true|none=>false)
 |.vb (.func f) a c,.makeFunc (.func g) b d=>Nat.beq f g&&lG az a b.toList&&lG az c d.toList
 |.vb (.method f) a c,.makeFunc (.method g) b d=>f==g&&lG az a b.toList&&lG az c d.toList
 |.qc e bs z l c,.makeSlice t l' bW=>bT az l l'&&bT az c bW&&(match P.underlying t with
  |some (.slice el)=>Nat.beq e el&&(match P.info? el with
   |some i=>Nat.beq bs i.bytes&& !Nat.beq i.size 0&&(match i.zero with|some v=>nb z v.cells.toList&&nO z&&Nat.beq v.cells.toList.length i.size|none=>false)
   |none=>false)
  |_=>false)
 |.tA a lo aa,.slice t b r9 eC none=>bT az a b&&m6 az lo r9&&m6 az aa eC&&(match P.underlying t with|some .string=>true|_=>false)
 |.FC n s a lo aa fb,.slice t b r9 eC qd=>bT az a b&&m6 az lo r9&&m6 az aa eC&&m6 az fb qd&&(qd.isNone||eC.isSome)&&
  (match P.underlying t with|some (.array b1 e)=>Nat.beq n b1&&(match g1 P e with|some bh=>Nat.beq s bh|none=>false)|_=>false)
 |.n9 s a lo aa fb,.slice t b r9 eC qd=>bT az a b&&m6 az lo r9&&m6 az aa eC&&m6 az fb qd&&(qd.isNone||eC.isSome)&&
  (match P.underlying t with|some (.slice e)=>(match g1 P e with|some bh=>Nat.beq s bh|none=>false)|_=>false)
 |.yd off a,.fieldAddr t b f=>bT az a b&&(match P.underlying t with
  |some (.struct fields)=>(match fields[f]? with|some fd=>Nat.beq off fd.offset&&(match g1 P fd.type with|some s=> !Nat.beq s 0|none=>false)|none=>false)
  |_=>false)
 |.pO off a2 il a,.field t b f=>bT az a b&&(match P.underlying t with
  |some (.struct fields)=>(match fields[f]? with|some fd=>Nat.beq off fd.offset&&(match g1 P fd.type,qp P fd.type with|some s,some g=>Nat.beq a2 s&&(il==g)|_,_=>false)|none=>false)
  |_=>false)
 |.uT n a2 a i,.indexAddr t b j=>bT az a b&&bT az i j&&(match P.underlying t with|some (.array b1 e)=>Nat.beq n b1&&(match g1 P e with|some s=>Nat.beq a2 s|none=>false)|_=>false)
 |.mZ a2 a i,.indexAddr t b j=>bT az a b&&bT az i j&&(match P.underlying t with|some (.slice e)=>(match g1 P e with|some s=>Nat.beq a2 s|none=>false)|_=>false)
 |.uY a i,.index t b j=>bT az a b&&bT az i j&&(match P.underlying t with|some .string=>true|_=>false)
 |.Im n a2 il a i,.index t b j=>bT az a b&&bT az i j&&(match P.underlying t with|some (.array b1 e)=>Nat.beq n b1&&(match g1 P e,qp P e with|some s,some g=>Nat.beq a2 s&&(il==g)|_,_=>false)|_=>false)
 |.Ky t z ok a,.typeAssert b _ cL wX=>bT az a b&&Nat.beq t cL&&(ok==wX)&&(match P.underlying cL with|some (.interface _)=>false|some _=>true|none=>false)&&(match sC P cL with|some v=>dU z v&&kN z|none=>false)
 |.yc a i,.extract b j=>bT az a b&&Nat.beq i j
 |.call f as,.call {callee:=.value g,args,.. }=>bT az f g&&lG az as args.toList&&(match g with|.func k=>((P.funcs[k]?).map (fun fn=>fn.body.isSome&& !(fn.name== "runtime.NumGoroutine"))).getD false|_=>true)
 |.p8 a,.call {callee:=.builtin .len,args:=⟨[b]⟩,argTypes:=⟨[t]⟩}=>bT az a b&&(match P.underlying t with|some (.slice _)=>true|_=>false)
 |.u7 a,.call {callee:=.builtin .len,args:=⟨[b]⟩,argTypes:=⟨[t]⟩}=>bT az a b&&(match P.underlying t with|some .string=>true|_=>false)
 |.y7 n,.call {callee:=.builtin .len,args:=⟨[_]⟩,argTypes:=⟨[t]⟩}=>(match P.underlying t with|some (.array m _)=>Nat.beq n m|some (.pointer u)=>(match P.underlying u with|some (.array m _)=>Nat.beq n m|_=>false)|_=>false)
 |.app e a2 bs s a,.call {callee:=.builtin .append,args:=⟨[bh,b]⟩,argTypes:=⟨[t,u]⟩}=>bT az s bh&&bT az a b&&(match P.underlying t,P.underlying u with
  |some (.slice el),some d=>Nat.beq e el&&(match d with|.int _=>false|_=>true)&&(match P.info? el with
   |some i=>Nat.beq a2 i.size&&Nat.beq bs i.bytes&&(match i.zero with|some v=>Nat.beq v.cells.size i.size|none=>false)
   |none=>false)
  |_,_=>false)
 |.fb a as,.call {callee:=.builtin .max,args:=⟨b::bs⟩,.. }=>bT az a b&&lG az as bs
 |.zf a as,.call {callee:=.builtin .min,args:=⟨b::bs⟩,.. }=>bT az a b&&lG az as bs
 |.rI a2 d s,.call {callee:=.builtin .copy,args:=⟨[kB,bh]⟩,argTypes:=⟨[t,_]⟩}=>bT az d kB&&bT az s bh&&(match P.underlying t with|some (.slice e)=>(match g1 P e with|some n=>Nat.beq a2 n|none=>false)|_=>false)
 |.xl,.call {callee:=.builtin .recover,args:=⟨[]⟩,.. }=>true
 |.rK f as,.defer {callee:=.value g,args,.. }=>bT az f g&&lG az as args.toList
 |.sk a,.panic b=>bT az a b
 |.C6 a,.convert s t b=>bT az a b&&(match P.underlying s,P.underlying t with|some (.pointer e),some .unsafePointer=>(match g1 P e with|some n=> !Nat.beq n 0|none=>false)|_,_=>false)
 |.C7 e n a,.convert s t b=>bT az a b&&(match P.underlying s,P.underlying t with|some .unsafePointer,some (.pointer cK)=>Nat.beq e cK&&(match g1 P cK with|some m=>Nat.beq n m&& !Nat.beq m 0|none=>false)|_,_=>false)
 |.Ce a,.call {callee:=.builtin .unsafeSliceData,args:=⟨[b]⟩,argTypes:=⟨[_]⟩}=>bT az a b
 |.tE e a n,.call {callee:=.builtin .unsafeString,args:=⟨[b,m]⟩,argTypes:=⟨[t,_]⟩}=>bT az a b&&bT az n m&&(match P.underlying t with|some (.pointer cK)=>Nat.beq e cK&&(match g1 P cK with|some 1=>true|_=>false)|_=>false)
 |.k4 a c,.call {callee:=.value (.func f),args:=⟨[b,d]⟩,.. }=>bT az a b&&bT az c d&&k4 f
 |.kI a,.call {callee:=.value (.func f),args:=⟨[b]⟩,.. }=>bT az a b&&kI f
 |.vc,.makeMap _ none=>true
 |.wM _,_=>true
 |.ext y,op=>Rl P az keys qy eqs qV m1 op y
 |.refuse,_=>true
 |_,_=>false
end
end Go.ah
namespace Go.ah
variable{X:Ctx}
section
variable{α β:Type}{r z:β}
variable{o:am bt}
def FQ{v:be}{k:am Nat->β}(h:zX v k z=r)(av:z≠r):∃p,v= .map p∧k p=r:=by
 cases v<;>first|exact absurd h av|exact⟨_,rfl,h⟩
def Bx{k:ac d9->Nat->β}(h:sb o k z=r)(av:z≠r):∃es c,o=some (.map es c)∧k es c=r:=by
 unfold sb at h;obtain⟨o,rfl,h⟩:=gO h av;cases o<;>first|exact absurd h av|exact⟨_,_,rfl,h⟩
def anF{k:am Nat->Nat->ac Nat->Nat->β}(h:N8 o k z=r)(av:z≠r):∃a b c d,o=some (.va a b c d)∧k a b c d=r:=by
 unfold N8 at h;obtain⟨o,rfl,h⟩:=gO h av;cases o<;>first|exact absurd h av|exact⟨_,_,_,_,rfl,h⟩
end
variable{es:ac d9}{k:be}{ι:bx}{cX:fW}{clock lr:Nat}{v v':be}{e:d9}{j:Nat}{c:d9}
def fW.same(h:cX.ok v=true)(aL:bq ι v v'):v'=v:=by
 cases cX with
 |int k=>
  obtain⟨k',n,rfl,_⟩:=j7 (v:=v) (z:=false) (r:=true) h (by decide);cases aL;rfl
 |str=>
  obtain⟨s,rfl,_⟩:=ql (v:=v) (z:=false) (r:=true) h (by decide);cases aL;rfl
 |arr k n=>
  obtain⟨xs,rfl,h2⟩:=zV (v:=v) (z:=false) (r:=true) h (by decide);rw[b4,zck]at h2;cases aL with
  |agg _ al h1 hh=>
   congr 1;apply Array.ext
   ·exact h1.symm
   ·intro i a b;have J:=h2.2 xs[i] (by simp);obtain⟨k',m,he,_⟩:=j7 (v:=xs[i]) (z:=false) (r:=true) J (by decide);have:=hh i b a;rw[he]at this⊢;generalize al[i]=y at this⊢;cases this;rfl
def uniq(h:es.Pairwise (fun a b=>a.key≠b.key)){a b:d9}(ha:a∈es)(hb:b∈es)(e:a.key=b.key):a=b:=by
 induction es with
 |nil=>cases ha
 |cons x xs a1=>
  rw[zev]at h;rcases zap.1 ha with rfl|uC<;>rcases zap.1 hb with rfl|cZ
  ·rfl
  ·exact absurd e (h.1 b cZ)
  ·exact absurd e.symm (h.1 a uC)
  ·exact a1 h.2 uC cZ
def YZ(h:qY k es=some e):e∈es∧e.key=k:=by
 unfold qY at h;refine⟨zdL h,?_⟩;have:=zdM h;exact(od _ _ this).symm
def OC(h:qY k es=none):∀e∈es,e.key≠k:=by
 intro e he ag6;unfold qY at h;have:=List.find?_eq_none.1 h e he;rw[ag6,Ct]at this;exact this rfl
def Iq(h:wL cX es=true)(he:e∈es):cX.ok e.key=true:=
 zck.1 h e he
def ln.find{ch:Nat->Nat}{C:ac d9}(h:ln ι ch es clock C lr){fB:ce}(dJ:X.keys fB=some cX)(hk:cX.ok k=true)(he:wL cX es=true)(w:d7):
 ((Instr.findKey fB k C).run X.P w= .ok none w∧qY k es=none∧∀c∈C,c.key≠k)∨
 ∃e j c,(Instr.findKey fB k C).run X.P w= .ok (some (j,c.val)) w∧C[j]? =some c∧c.key=k∧qY k es=some e∧e∈es∧e.key=k∧bq ι e.val c.val∧c.born=ch e.born:=by
 obtain⟨K,bH⟩:=X.td fB cX dJ;obtain⟨l,hp,hlen,hl⟩:=h.same;have wy:∀(i:Nat) (a:i<l.length) (b:i<C.length),C[i].key=l[i].key:=by
  intro i a b;exact fW.same (Iq he (hp.mem_iff.1 (fy a))) (hl i a b).1
 have eI:∀c∈C,∃l,keyOf X.P fB c.key=some l:=by
  intro c hc;obtain⟨i,aa,rfl⟩:=zdN hc;have eC:i<l.length:=by omega
  rw[wy i eC aa];exact bH _ (Iq he (hp.mem_iff.1 (fy eC)))
 obtain⟨EA,yH⟩:=bH k hk;rcases K.find w yH C eI with⟨h1,h2⟩|⟨j,c,h1,h2,ab⟩
 ·left;refine⟨h1,?_,h2⟩;cases U:qY k es with
  |none=>rfl
  |some e=>
   exfalso;obtain⟨jb,m0⟩:=YZ U;obtain⟨i,aa,hs⟩:=zdN (hp.mem_iff.2 jb);have eC:i<C.length:=by omega
   exact h2 C[i] (fy eC) (by rw[wy i aa eC,hs,m0])
 ·right;obtain⟨hj,wx⟩:=zaf.1 h2;have nY:j<l.length:=by omega
  have DX:l[j].key=k:=by rw[<-wy j nY hj,wx,ab]
  have Bd:l[j]∈es:=hp.mem_iff.1 (fy nY);cases U:qY k es with
  |none=>exact absurd DX (OC U _ Bd)
  |some e=>
   obtain⟨jb,m0⟩:=YZ U;have:e=l[j]:=uniq h.keys jb Bd (by rw[m0,DX]);subst this;have:=hl j nY hj;rw[wx]at this;exact⟨_,j,c,h1,h2,ab,rfl,Bd,DX,this.2.1,this.2.2⟩
def ln.put{ch:Nat->Nat}{C:ac d9}(h:ln ι ch es clock C lr)(he:wL cX es=true)(hj:C[j]? =some c)(hc:c.key=k)(aB:bq ι v v'):
 ln ι ch (By k v es) clock (C.set j {c with key:=k,val:=v'}) lr:=by
 obtain⟨l,hp,hlen,hl⟩:=h.same;have ar:∀e:d9,(cond (dU k e.key) (⟨e.key,v,e.born⟩:d9) e).key=e.key:=by
  intro e;cases dU k e.key<;>rfl
 have a8:∀e:d9,(cond (dU k e.key) (⟨e.key,v,e.born⟩:d9) e).born=e.born:=by
  intro e;cases dU k e.key<;>rfl
 have wy:∀(i:Nat) (a:i<l.length) (b:i<C.length),C[i].key=l[i].key:=by
  intro i a b;exact fW.same (Iq he (hp.mem_iff.1 (fy a))) (hl i a b).1
 obtain⟨iJ,wx⟩:=zaf.1 hj;refine⟨h.ub,h.Ci,?_,?_,?_,l.map (fun e=>cond (dU k e.key) ⟨e.key,v,e.born⟩ e),hp.map _,by simp[hlen],?_⟩
 ·intro e hm;obtain⟨cK,nq,rfl⟩:=zbX.1 hm;rw[a8];exact h.born cK nq
 ·unfold By;rw[List.pairwise_map];exact h.keys.imp (fun{a b} iT=>by rw[ar,ar];exact iT)
 ·unfold By;rw[List.pairwise_map];exact h.Aq.imp (fun{a b} iT=>by rw[a8,a8];exact iT)
 ·intro i a b;have a':i<l.length:=by simpa using a
  have gw:i<C.length:=by simpa using b
  rw[List.getElem_map,List.getElem_set];by_cases e:j=i
  ·subst e;rw[zab rfl];have hk:l[j].key=k:=by rw[<-wy j a' gw,wx,hc]
   have:dU k l[j].key=true:=by rw[hk];exact Ct k
   rw[this];have hh:=hl j a' gw;rw[wx]at hh;refine⟨?_,aB,hh.2.2⟩;have:=hh.1;rw[hc]at this;exact this
  ·rw[zaa e];have cb:dU k l[i].key=false:=by
    rw[zbV];intro hq;have hk:=od _ _ hq;have yE:j<l.length:=by omega
    have h1:l[i].key=l[j].key:=by rw[<-hk,<-wy j yE iJ,wx,hc]
    have qP:=(hp.symm.pairwise_iff (R:=fun a b:d9=>a.key≠b.key) (fun{a b} h=>h.symm)).1 h.keys;have h2:i=j:=by
     rcases zbo i j with h|h|h
     ·exact absurd h1 (zdc.1 qP i j a' yE h)
     ·exact h
     ·exact absurd h1.symm (zdc.1 qP j i yE a' h)
    exact e h2.symm
   rw[cb];exact hl i a' gw
def ln.push{ch:Nat->Nat}{C:ac d9}(h:ln ι ch es clock C lr)(hk:bq ι k k)(hn:qY k es=none)(aB:bq ι v v'):
 ln ι ch (es++[⟨k,v,clock⟩]) (clock+1) (C++[⟨k,v',lr⟩]) (lr+1):=by
 obtain⟨l,hp,hlen,hl⟩:=h.same;have af:=h.Ci;refine⟨?_,⟨fun s t ft aF e=> ?_,fun s ft=> ?_,fun j=> ?_⟩,?_,?_,?_,l++[⟨k,v,clock⟩],hp.append_right _,by simp[hlen],?_⟩
 ·rw[h.ub,af.up 1]
 ·rcases zao s clock with a|a<;>rcases zao t clock with b|b
  ·exact af.inj s t a b e
  ·have:t=clock:=by omega
   subst this;have:=af.lt s a;omega
  ·have:s=clock:=by omega
   subst this;have:=af.lt t b;omega
  ·omega
 ·rw[af.up 1];rcases zao s clock with a|a
  ·have:=af.lt s a;omega
  ·have:s=clock:=by omega
   subst this;omega
 ·rw[show clock+1+j=clock+(1+j) by omega,af.up,af.up 1];omega
 ·intro e he;rcases zbw.1 he with he|he
  ·have:=h.born e he;omega
  ·have:e=⟨k,v,clock⟩:=by simpa using he
   subst this;exact zbp _
 ·rw[List.pairwise_append];refine⟨h.keys,by simp,fun a ha b hb=> ?_⟩;have:b=⟨k,v,clock⟩:=by simpa using hb
  subst this;exact OC hn a ha
 ·rw[List.pairwise_append];refine⟨h.Aq,by simp,fun a ha b hb=> ?_⟩;have:b=⟨k,v,clock⟩:=by simpa using hb
  subst this;have:=h.born a ha;exact Nat.ne_of_lt this
 ·intro i a b;by_cases e:i<l.length
  ·rw[zer e,zer (by omega)];exact hl i e (by omega)
  ·have aa:i=l.length:=by simp at a;omega
   subst aa;rw[zes (by omega),zes (by omega)];simp only[hlen,zcL,List.getElem_cons_zero];exact⟨hk,aB,h.ub⟩
def ln.del{ch:Nat->Nat}{C:ac d9}(h:ln ι ch es clock C lr)(he:wL cX es=true)(hj:C[j]? =some c)(hc:c.key=k):
 ln ι ch (Bw k es) clock (C.eraseIdx j) lr:=by
 obtain⟨l,hp,hlen,hl⟩:=h.same;have wy:∀(i:Nat) (a:i<l.length) (b:i<C.length),C[i].key=l[i].key:=by
  intro i a b;exact fW.same (Iq he (hp.mem_iff.1 (fy a))) (hl i a b).1
 obtain⟨iJ,wx⟩:=zaf.1 hj;have yE:j<l.length:=by omega
 have DX:l[j].key=k:=by rw[<-wy j yE iJ,wx,hc]
 have qP:l.Pairwise (fun a b=>a.key≠b.key):=(hp.symm.pairwise_iff (R:=fun a b:d9=>a.key≠b.key) (fun{a b} h=>h.symm)).1 h.keys;have alI:∀(l:ac d9) (j:Nat) (hj:j<l.length),l.Pairwise (fun a b=>a.key≠b.key)->l[j].key=k->l.filter (fun e=> !dU k e.key)=l.eraseIdx j:=by
  intro l
  induction l with
  |nil=>intro j hj;simp at hj
  |cons x xs a1=>
   intro j hj qP hk;rw[zev]at qP;cases j with
   |zero=>
    have J:dU k x.key=true:=by rw[show x.key=k from hk];exact Ct k
    rw[zdd];simp only[J,Bool.not_true,zbt,if_false,List.eraseIdx_cons_zero];rw[List.filter_eq_self];intro a ha;have:=qP.1 a ha;rw[show x.key=k from hk]at this;cases aB:dU k a.key
    ·rfl
    ·exact absurd (od _ _ aB) this
   |succ j=>
    have nY:j<xs.length:=by simpa using hj
    have fs:xs[j].key=k:=by simpa using hk
    have J:dU k x.key=false:=by
     rw[zbV];intro hq;exact qP.1 xs[j] (fy nY) (by rw[fs,od _ _ hq])
    rw[zdd];simp only[J,zeq,if_true,List.eraseIdx_cons_succ];rw[a1 j nY qP.2 fs]
 refine⟨h.ub,h.Ci,fun e hm=>h.born e (List.mem_filter.1 hm).1,h.keys.filter _,h.Aq.filter _,l.eraseIdx j,?_,?_,?_⟩
 ·rw[<-alI l j yE qP DX];exact hp.filter _
 ·rw[zfa yE,zfa iJ,hlen]
 ·intro i a b;rw[List.getElem_eraseIdx,List.getElem_eraseIdx];split
  ·exact hl i _ _
  ·exact hl (i+1) _ _
section
variable{ι:bx}{fr aA:aJ}{a:Act}{aP:Nat}{st st':au}{w:d7}{o:Oper}{v:be}{call:bG}
open Go.MapKept
variable{fB:ce}{m:bi}{t ew:ce}
def ahY(dJ:X.keys fB=some cX)(hk:cX.ok k=true)(w:d7):(Instr.findKey fB k []).run X.P w= .ok none w:=by
 obtain⟨K,bH⟩:=X.td fB cX dJ;obtain⟨EA,yH⟩:=bH k hk;rcases K.find w yH [] (by simp)with⟨h1,_⟩|⟨j,c,_,h2,_⟩
 ·exact h1
 ·simp at h2
def xU(dJ:X.keys fB=some cX)(hk:cX.ok k=true)(em:Bool)(w:d7):(Instr.checkKey em 10000 fB k).run X.P w= .ok () w:=by
 obtain⟨K,bH⟩:=X.td fB cX dJ;obtain⟨EA,yH⟩:=bH k hk;exact K.check w em yH
def asI{z:be}{ok:Bool}{k:bi}{i:f7}(hm:cH X.az m=true)(hk:cH X.az k=true)(ak:o.op= .lookup t m k ok)(hu:X.P.underlying t=some (.map fB ew))
 (dJ:X.keys fB=some cX) (aa:X.P.info? ew=some i) (av:i.zero=some z) (Bm:kN z=true) (U:cF ι fr a aP) (hw:bz X ι st w)
 (h:qF fr st (.look cX z ok m k)= .ok v aA st'):aA=fr∧cl X ι w v st st' (execOp a.eval o):=by
 obtain⟨iW,h⟩:=jI h (by simp);obtain⟨r,aL,h⟩:=FQ h (by simp);have wA:a.eval k=fr.ai k:=fW.same iW (U.ai hw hk);have k2:=U.ai hw hm;rw[aL]at k2;generalize pg:a.eval m=m3 at k2;have H9:=vH (P:=X.P) aa av w;have Bn:bq ι z z:=bq.pure ι z Bm;cases r with
 |none=>
  cases k2;have h:aV.ok (cond ok (.tuple #[z,.bool false]) z) fr st= .ok v aA st':=h;cases h;refine⟨rfl,cl.same (v':=cond ok (.tuple #[z,.bool false]) z) hw ?_ ?_⟩
  ·unfold execOp;rw[ak];simp only[pg,wA,Instr.lookup,Sem.run_bind,run_underlying hu,Result.andThen,Sem.run_pure,xU dJ iW,ahY dJ iW,H9];cases ok<;>rfl
  ·cases ok
   ·exact Bn
   ·exact bq.sh (bI.cons Bn (bI.cons (.bool _) (bI.nil ι)))
 |some id=>
  have h:sb (st.h.get id) (fun es _=>cond (wL cX es) (bm (qY (fr.ai k) es) (fun e=>.ok (cond ok (.tuple #[e.val,.bool true]) e.val) fr st) (.ok (cond ok (.tuple #[z,.bool false]) z) fr st)) .no) .no=aV.ok v aA st':=h;obtain⟨es,c,aO,h⟩:=Bx h (by simp);obtain⟨yG,h⟩:=jI h (by simp);obtain⟨l,hl,h0,kh,C,bW,hC,dY⟩:=hw.fe _ _ aO (by simp);cases k2 with
  |map _ b ch hb=>
   rw[hl]at hb;cases hb;have hC:w.heap[b]? =some (.map C bW):=hC;rcases dY.find (X:=X) dJ iW yG w with⟨h1,h2,_⟩|⟨e,j,o1,h1,h2,ab,aD,bg,cv,dq,hB⟩
   ·rw[h2]at h;cases h;refine⟨rfl,cl.same (v':=cond ok (.tuple #[z,.bool false]) z) hw ?_ ?_⟩
    ·unfold execOp;rw[ak];simp only[pg,wA,Instr.lookup,Sem.run_bind,run_underlying hu,Result.andThen,Sem.run_pure,MapKept.run_getObj_map hC,xU dJ iW,h1,H9];cases ok<;>rfl
    ·cases ok
     ·exact Bn
     ·exact bq.sh (bI.cons Bn (bI.cons (.bool _) (bI.nil ι)))
   ·rw[aD]at h;cases h;refine⟨rfl,cl.same (v':=cond ok (.tuple #[o1.val,.bool true]) o1.val) hw ?_ ?_⟩
    ·unfold execOp;rw[ak];simp only[pg,wA,Instr.lookup,Sem.run_bind,run_underlying hu,Result.andThen,Sem.run_pure,MapKept.run_getObj_map hC,xU dJ iW,h1];cases ok<;>rfl
    ·cases ok
     ·exact dq
     ·exact bq.sh (bI.cons dq (bI.cons (.bool _) (bI.nil ι)))
def asM(hm:cH X.az m=true)(ak:o.op= .call {callee:=.builtin .len,args:= #[m],argTypes:= #[t]})(hu:X.P.underlying t=some (.map fB ew))(U:cF ι fr a aP)(hw:bz X ι st w)
 (h:qF fr st (.BA m)= .ok v aA st'):aA=fr∧cl X ι w v st st' (execOp a.eval o):=by
 obtain⟨r,aL,h⟩:=FQ h (by simp);have k2:=U.ai hw hm;rw[aL]at k2;generalize pg:a.eval m=m3 at k2;cases r with
 |none=>
  cases k2;have h:aV.ok (.int .i64 0) fr st= .ok v aA st':=h;cases h;refine⟨rfl,cl.same (v':=.int .i64 0) hw ?_ (.int _ _)⟩;unfold execOp;rw[ak];simp[resolve,invoke,builtin,pg,Builtin.len_,run_underlying hu,Result.andThen,goInt]
 |some id=>
  have h:sb (st.h.get id) (fun es _=>g4 (dL es) fun n=>aV.ok (.int .i64 (.ofNat n)) fr st) .no= .ok v aA st':=h;obtain⟨es,c,aO,h⟩:=Bx h (by simp);rw[AV,fC]at h;cases h;obtain⟨l,hl,h0,kh,C,bW,hC,dY⟩:=hw.fe _ _ aO (by simp);cases k2 with
  |map _ b ch hb=>
   rw[hl]at hb;cases hb;have hC:w.heap[b]? =some (.map C bW):=hC;obtain⟨l,hp,hlen,_⟩:=dY.same;have e:es.length=C.size:=by rw[<-hp.length_eq,hlen];simp
   refine⟨rfl,cl.same (v':=.int .i64 es.length) hw ?_ (.int _ _)⟩;unfold execOp;rw[ak];simp[resolve,invoke,builtin,pg,Builtin.len_,run_underlying hu,Result.andThen,goInt,MapKept.run_getObj_map hC,e]
end
