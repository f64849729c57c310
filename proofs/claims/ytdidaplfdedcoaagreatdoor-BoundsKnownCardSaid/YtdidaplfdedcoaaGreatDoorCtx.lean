/- What the abstract machine needs to know of this program; no condition. -/
import Derived.Test.YtdidaplfdedcoaaGreatDoorProg
import Derived.DeepKeys4
import Derived.Test.YtdidaplfdedcoaaGreatDoorM3
namespace Go.AM.Xa
open Go.Proofs
theorem next245 : Extern.findNext Tryz.f245 = none := by kernel_rfl
theorem find245 : Extern.find Tryz.f245 = some Extern.AbiNoEscape.same := by kernel_rfl
theorem next216 : Extern.findNext Tryz.f216 = none := by kernel_rfl
theorem find216 : Extern.find Tryz.f216 = some Extern.BytealgIndexByte.indexByte := by kernel_rfl
theorem next168 : Extern.findNext Tryz.f168 = none := by kernel_rfl
theorem find168 : Extern.find Tryz.f168 = some Extern.BytealgCount.count := by kernel_rfl
theorem next213 : Extern.findNext Tryz.f213 = none := by kernel_rfl
theorem find213 : Extern.find Tryz.f213 = some Extern.BytealgIndex.index := by kernel_rfl
theorem same1 (x : Value) : Extern.AbiNoEscape.same #[x] = pure x := rfl
theorem noesc (x : Value) (w : World) : (callFunc 245 #[x]).run Tryz.prog w = .ok (.value x) w := by
  have hn : (Tryz.f245.name == "runtime.NumGoroutine") = false := by kernel_rfl
  have hb : Tryz.f245.body.isNone = true := by kernel_rfl
  simp only [callFunc, program, Sem.run_bind]
  simp [Sem.run, Tryz.func245, hn, hb, next245, find245, Result.andThen, mark, same1]
theorem ib1 (s : ByteArray) (c : Int) : Extern.BytealgIndexByte.indexByte #[.string s, .int .u8 c] = (do
    match (List.range s.size).find? fun i => s[i]! == c.toNat.toUInt8 with
    | some i => pure (goInt i)
    | none => pure (goInt (-1))) := by
  show (do
    let b ← Extern.Bytes.bytesOf (.string s)
    let c ← Extern.Bytes.asByte (.int .u8 c)
    match (List.range b.size).find? fun i => b[i]! == c with
    | some i => pure (goInt i)
    | none => pure (goInt (-1)) : Sem Value) = _
  simp only [Extern.Bytes.bytesOf, Extern.Bytes.asByte]
  rfl
theorem ibs (s : ByteArray) (c : Int) (w : World) : (callFunc 216 #[.string s, .int .u8 c]).run Tryz.prog w = .ok (.value (goInt (match (List.range s.size).find? (fun i => s[i]! == c.toNat.toUInt8) with | some i => (i : Int) | none => -1))) w := by
  have hn : (Tryz.f216.name == "runtime.NumGoroutine") = false := by kernel_rfl
  have hb : Tryz.f216.body.isNone = true := by kernel_rfl
  simp only [callFunc, program, Sem.run_bind]
  simp only [Sem.run, Tryz.func216, hn, hb, next216, find216, Result.andThen, mark, ib1]
  cases (List.range s.size).find? fun i => s[i]! == c.toNat.toUInt8 <;> rfl
theorem fold_count (c : UInt8) : ∀ (l : List UInt8) (n : Int), l.foldl (fun n x => if x == c then n + 1 else n) n = n + (l.countP (fun b => b == c) : Nat)
  | [], n => by simp
  | x :: xs, n => by
    rw [List.foldl_cons, fold_count c xs, List.countP_cons]
    split <;> omega
theorem loop_eq (f : Int → UInt8 → Int) (bs : ByteArray) : ∀ (i j : Nat) (b : Int), i + j = bs.size →
    (ByteArray.foldlM.loop (m := _root_.Id) (fun x y => pure (f x y)) bs bs.size (Nat.le_refl _) i j b).run = (bs.data.toList.drop j).foldl f b
  | 0, j, b, h => by
    unfold ByteArray.foldlM.loop
    have hsz : bs.data.toList.length = bs.size := rfl
    have : bs.data.toList.drop j = [] := by rw [List.drop_eq_nil_iff]; omega
    rw [this]
    split <;> rfl
  | i + 1, j, b, h => by
    have hj : j < bs.size := by omega
    unfold ByteArray.foldlM.loop
    rw [dif_pos hj]
    have hj' : j < bs.data.toList.length := hj
    rw [List.drop_eq_getElem_cons hj', List.foldl_cons]
    exact loop_eq f bs i (j + 1) _ (by omega)
theorem bfold (f : Int → UInt8 → Int) (s : ByteArray) : s.foldl f (0 : Int) = s.data.toList.foldl f 0 := by
  have : s.foldl f (0 : Int) = (ByteArray.foldlM.loop (m := _root_.Id) (fun x y => pure (f x y)) s s.size (Nat.le_refl _) (s.size - 0) 0 0).run := by
    unfold ByteArray.foldl ByteArray.foldlM
    simp
  rw [this, loop_eq f s (s.size - 0) 0 0 (by omega)]
  simp
theorem ct1 (s : ByteArray) (c : Int) : Extern.BytealgCount.count #[.string s, .int .u8 c] = pure (goInt (s.data.toList.countP (fun b => b == c.toNat.toUInt8) : Nat)) := by
  have h0 : Extern.BytealgCount.count #[.string s, .int .u8 c] = pure (goInt (s.foldl (fun n x => if x == c.toNat.toUInt8 then n + 1 else n) (0 : Int))) := rfl
  rw [h0, bfold, fold_count]
  simp
theorem cnt (s : ByteArray) (c : Int) (w : World) : (callFunc 168 #[.string s, .int .u8 c]).run Tryz.prog w = .ok (.value (goInt (s.data.toList.countP (fun b => b == c.toNat.toUInt8) : Nat))) w := by
  have hn : (Tryz.f168.name == "runtime.NumGoroutine") = false := by kernel_rfl
  have hb : Tryz.f168.body.isNone = true := by kernel_rfl
  simp only [callFunc, program, Sem.run_bind]
  simp [Sem.run, Tryz.func168, hn, hb, next168, find168, Result.andThen, mark, ct1]
/-! where a row stands in another -/
theorem preX_iff : ∀ (b a : List UInt8), preX b a = true ↔ b.isPrefixOf a = true
  | [], a => by simp [preX]
  | x :: xs, [] => by simp [preX]
  | x :: xs, y :: ys => by simp [preX, preX_iff xs ys]
theorem subX_find (b : List UInt8) (hb : 0 < b.length) : ∀ a : List UInt8, subX b a = (List.range (a.length + 1 - b.length)).find? (fun i => (a.drop i).take b.length == b)
  | [] => by
    have : ([] : List UInt8).length + 1 - b.length = 0 := by simp; omega
    rw [this]
    unfold subX
    rw [if_neg (by cases b <;> simp_all)]
    rfl
  | x :: xs => by
    unfold subX
    have hp : preX b (x :: xs) = ((x :: xs).take b.length == b) := by
      rw [Bool.eq_iff_iff, preX_iff, List.isPrefixOf_iff_prefix, List.prefix_iff_eq_take, beq_iff_eq]
      exact eq_comm
    by_cases h : preX b (x :: xs) = true
    · rw [if_pos h]
      have hle : b.length ≤ (x :: xs).length := by
        rw [preX_iff, List.isPrefixOf_iff_prefix] at h; exact h.length_le
      rw [show (x :: xs).length + 1 - b.length = ((x :: xs).length - b.length) + 1 by omega, List.range_succ_eq_map, List.find?_cons]
      rw [hp] at h
      simp only [List.drop_zero, h]
    · rw [if_neg h, subX_find b hb xs]
      rcases Nat.lt_or_ge (x :: xs).length b.length with hl | hl
      · have e1 : (x :: xs).length + 1 - b.length = 0 := by omega
        have e2 : xs.length + 1 - b.length = 0 := by simp at hl; omega
        rw [e1, e2]; rfl
      · rw [show (x :: xs).length + 1 - b.length = (xs.length + 1 - b.length) + 1 by simp at hl ⊢; omega, List.range_succ_eq_map, List.find?_cons]
        have hf : ((x :: xs).take b.length == b) = false := by rw [← hp]; simpa using h
        simp only [List.drop_zero, hf]
        rw [List.find?_map]
        rfl
theorem ext_eq (a b : ByteArray) (i : Nat) : (a.extract i (i + b.size) == b) = ((a.data.toList.drop i).take b.data.toList.length == b.data.toList) := by
  have h0 : (a.extract i (i + b.size) == b) = ((a.extract i (i + b.size)).data == b.data) := rfl
  rw [h0, Bool.eq_iff_iff, beq_iff_eq, beq_iff_eq]
  have h1 : (a.extract i (i + b.size)).data.toList = (a.data.toList.drop i).take b.data.toList.length := by
    rw [ByteArray.data_extract, Array.toList_extract, List.extract_eq_take_drop]
    have hsz : b.data.toList.length = b.size := rfl
    rw [hsz]
    congr 1
    omega
  constructor
  · intro h; rw [← h1, h]
  · intro h
    apply Array.toList_inj.1; rw [h1, h]
theorem gml : (Tryz.prog.globalNamed "internal/bytealg.MaxLen") = some 3 := by kernel_rfl
theorem ix1 (s b : ByteArray) (m : Int) (w : World) (hl : (load ⟨3, 0, none⟩).run Tryz.prog w = .ok (.int .i64 m) w) (h2 : 2 ≤ b.size) (hm : (b.size : Int) ≤ m) (hs : s.size ≤ 1000000) :
    (Extern.BytealgIndex.index #[.string s, .string b]).run Tryz.prog w = .ok (goInt (match subX b.data.toList s.data.toList with | some i => (i : Int) | none => -1)) w := by
  obtain ⟨m1, m2, e⟩ : ∃ (m1 m2 : Unsupported), Extern.BytealgIndex.index #[.string s, .string b] = (do
    let x ← Extern.Bytes.bytesOf (.string s)
    let y ← Extern.Bytes.bytesOf (.string b)
    if y.size < 2 || (y.size : Int) > (← Extern.BytealgIndex.maxLen) then unsupported m1
    if x.size ≥ 2 ^ 32 - 15 then unsupported m2
    match (List.range (x.size + 1 - y.size)).find? fun i => x.extract i (i + y.size) == y with
    | some i => pure (goInt i)
    | none => pure (goInt (-1)) : Sem Value) := ⟨_, _, rfl⟩
  have hg : (globalAddr "internal/bytealg.MaxLen").run Tryz.prog w = .ok ⟨3, 0, none⟩ w := by
    have : Tryz.prog.globals.findIdx? (fun g => g.name == "internal/bytealg.MaxLen") = some 3 := by kernel_rfl
    simp [globalAddr, program, Sem.run, this]
  have hml : Extern.BytealgIndex.maxLen.run Tryz.prog w = .ok m w := by
    simp only [Extern.BytealgIndex.maxLen, Sem.run_bind, hg, Result.andThen, hl]
    simp [asInt, asIntOf]
  have c1 : ¬ b.size < 2 := by omega
  have c2 : ¬ (b.size : Int) > m := by omega
  have c3 : ¬ s.size ≥ 2 ^ 32 - 15 := by omega
  rw [e]
  simp only [Extern.Bytes.bytesOf, Sem.run_bind, Sem.run_pure, Result.andThen, hml, c1, c2, c3, decide_false, Bool.or_false, Bool.false_eq_true, if_false]
  have hsub := subX_find b.data.toList (show 0 < b.size by omega) s.data.toList
  have hrew : (List.range (s.size + 1 - b.size)).find? (fun i => s.extract i (i + b.size) == b) = subX b.data.toList s.data.toList := by
    rw [hsub]
    simp only [ext_eq]
    rfl
  rw [hrew]
  cases subX b.data.toList s.data.toList <;> rfl
theorem idx (s b : ByteArray) (m : Int) (w : World) (hl : (load ⟨3, 0, none⟩).run Tryz.prog w = .ok (.int .i64 m) w) (h2 : 2 ≤ b.size) (hm : (b.size : Int) ≤ m) (hs : s.size ≤ 1000000) :
    (callFunc 213 #[.string s, .string b]).run Tryz.prog w = .ok (.value (goInt (match subX b.data.toList s.data.toList with | some i => (i : Int) | none => -1))) w := by
  have hn : (Tryz.f213.name == "runtime.NumGoroutine") = false := by kernel_rfl
  have hb : Tryz.f213.body.isNone = true := by kernel_rfl
  have := ix1 s b m w hl h2 hm hs
  simp only [callFunc, program, Sem.run_bind]
  have e1 : ∀ (x : Sem Value), ((do let r ← x; pure (Next.value r)) : Sem Next).run Tryz.prog w = (x.run Tryz.prog w).andThen (fun v w' => .ok (.value v) w') := fun x => by
    simp
  have e2 := e1 (Extern.BytealgIndex.index #[.string s, .string b])
  rw [this] at e2
  simp only [Sem.run, Tryz.func213, hn, hb, next213, find213, Result.andThen, mark] at e2 ⊢
  exact e2
end Go.AM.Xa
namespace Go.AM.Xa
open Go.Proofs
theorem wf_of {k : IntKind} {n : Int} (h : inKind k n = true) : (Lit.int k n).wf = true := by
  unfold inKind at h
  rw [Bool.and_eq_true, leX_eq, leX_eq] at h
  simp only [Lit.wf, Bool.and_eq_true]
  exact h
theorem ok_int {k : IntKind} {v : Value} (h : (KS.int k).ok v = true) : ∃ n, v = .int k n ∧ (Lit.int k n).wf = true := by
  obtain ⟨k', n, rfl, h2⟩ := vInt_inv (v := v) (z := false) (r := true) h (by decide)
  rw [Bool.and_eq_true] at h2
  have := kindEq_eq h2.1
  subst this
  exact ⟨n, rfl, wf_of h2.2⟩
theorem ok_arr {k : IntKind} {n : Nat} {v : Value} (h : (KS.arr k n).ok v = true) : ∃ xs : Array Value, v = .agg xs ∧ xs.toList.length = n ∧ ∀ x ∈ xs.toList, ∃ m, x = .int k m ∧ (Lit.int k m).wf = true := by
  obtain ⟨xs, rfl, h2⟩ := vAgg_inv (v := v) (z := false) (r := true) h (by decide)
  rw [Bool.and_eq_true, List.all_eq_true, lenX_eq] at h2
  exact ⟨xs, rfl, Nat.eq_of_beq_eq_true h2.1, fun x hx => ok_int (h2.2 x hx)⟩

def keys (k : TypeId) : Option KS := if k = 3 then some (.int .i64) else if k = 9 then some .str else if k = 368 then some (.arr .i64 6) else none
theorem law368 : WideMaps.KeyLaw Tryz.prog 368 := deep_law_laid (by kernel_rfl) (m := 2) (by omega) (of_decide_eq_true (by kernel_rfl)) (by kernel_rfl) (by kernel_rfl)
theorem c3 : Tryz.prog.cellsOf 3 = 1 := by kernel_rfl
theorem c368 : Tryz.prog.cellsOf 368 = 6 := by kernel_rfl
theorem kt368 : Tryz.prog.keyType 368 = true := by kernel_rfl
theorem ts : Tryz.prog.types.size + 1 = 482 := by kernel_rfl
theorem key368 {v : Value} (h : (KS.arr .i64 6).ok v = true) : ∃ l, keyOf Tryz.prog 368 v = some l := by
  obtain ⟨xs, rfl, hlen, hall⟩ := ok_arr h
  obtain ⟨l⟩ := xs
  simp only at hlen hall
  match l, hlen with
  | [a, b, c, d, e, f], _ =>
    obtain ⟨a, rfl, wa⟩ := hall a (by simp)
    obtain ⟨b, rfl, wb⟩ := hall b (by simp)
    obtain ⟨c, rfl, wc⟩ := hall c (by simp)
    obtain ⟨d, rfl, wd⟩ := hall d (by simp)
    obtain ⟨e, rfl, we⟩ := hall e (by simp)
    obtain ⟨f, rfl, wf⟩ := hall f (by simp)
    refine ⟨.string (keyBytes [.int .i64 a, .int .i64 b, .int .i64 c, .int .i64 d, .int .i64 e, .int .i64 f]), ?_⟩
    unfold keyOf
    rw [Tryz.underlying368, ts]
    have hf : Value.formed Tryz.prog 368 (.agg #[.int .i64 a, .int .i64 b, .int .i64 c, .int .i64 d, .int .i64 e, .int .i64 f]) = true := by
      simp [Value.formed, Tryz.underlying368, c368]
    simp only [kt368, hf, Bool.and_self, if_true]
    have hk : ∀ n : Int, (Lit.int .i64 n).wf = true → Tryz.prog.keyLits 481 3 [.int .i64 n] = some [.int .i64 n] := by
      intro n hn
      simp [Program.keyLits, Tryz.underlying3, hn]
    have hst : ∀ cs : List Value, Tryz.prog.keyLits 482 368 cs = if cs.length = Tryz.prog.cellsOf 368 then ((List.range 6).mapM fun i => Tryz.prog.keyLits 481 3 ((cs.drop (i * Tryz.prog.cellsOf 3)).take (Tryz.prog.cellsOf 3))).map List.flatten else none := by
      intro cs
      conv => lhs; unfold Program.keyLits
      rw [Tryz.underlying368]
    rw [hst]
    simp [c368, c3, Value.cells, List.range, List.range.loop, hk a wa, hk b wb, hk c wc, hk d wd, hk e we, hk f wf]
theorem keysOk : ∀ k ks, keys k = some ks → Maps.Keyed Tryz.prog k ∧ ∀ v, ks.ok v = true → ∃ l, keyOf Tryz.prog k v = some l := by
  intro k ks h
  unfold keys at h
  split at h
  · rename_i e; subst e; cases h
    refine ⟨Maps.int_keyed Tryz.underlying3, fun v hv => ?_⟩
    obtain ⟨n, rfl, hn⟩ := ok_int hv
    exact ⟨_, Maps.keyOf_int_mk Tryz.underlying3 hn⟩
  · split at h
    · rename_i e; subst e; cases h
      refine ⟨Maps.Keyed.of_law (WideMaps.string_law Tryz.underlying9), fun v hv => ?_⟩
      obtain ⟨s, rfl, h2⟩ := vString_inv (v := v) (z := false) (r := true) hv (by decide)
      rw [lenX_eq] at h2
      have h3 := ble_true.1 h2
      have h4 : s.data.toList.length = s.size := rfl
      exact ⟨_, WideMaps.keyOf_string_mk Tryz.underlying9 (by unfold maxLen; omega)⟩
    · split at h
      · rename_i e; subst e; cases h
        exact ⟨Maps.Keyed.of_law law368, fun v hv => key368 hv⟩
      · cases h
def eqs (t : TypeId) : Option Nat := if t = 262 then some 2 else none
theorem eqInt_inv {x y : Value} {b : Bool} (h : eqIntV x y = some b) : ∃ k m n, x = .int k m ∧ y = .int k n ∧ b = (m == n) := by
  unfold eqIntV at h
  split at h
  · split at h
    · rename_i e; subst e; cases h; exact ⟨_, _, _, rfl, rfl, rfl⟩
    · cases h
  · cases h
theorem eqsOk : ∀ t n, eqs t = some n → Tryz.prog.eqGuardType Tryz.prog.depth t = false ∧ ∀ xs ys b w, xs.size = n → ys.size = n → eqFlat xs.toList ys.toList = some b → (Op.equalIn 10000 t (.agg xs) (.agg ys)).run Tryz.prog w = .ok b w := by
  intro t n h
  unfold eqs at h
  split at h
  · rename_i e
    subst e
    cases h
    refine ⟨by kernel_rfl, fun xs ys b w hx hy he => ?_⟩
    obtain ⟨xs⟩ := xs
    obtain ⟨ys⟩ := ys
    match xs, hx, ys, hy, he with
    | [x0, x1], _, [y0, y1], _, he =>
      unfold eqFlat at he
      obtain ⟨b0, h0, he1⟩ := oK_inv (z := none) (r := some b) he (by simp)
      obtain ⟨k0, m0, n0, rfl, rfl, e0⟩ := eqInt_inv h0
      have hu : Tryz.prog.underlying 262 = some (.struct (Tryz.prog.fieldsOf 262)) := by kernel_rfl
      have hs : Tryz.prog.stoodInHeld 262 = false := by kernel_rfl
      have h1 : ∃ b1, eqFlat [x1] [y1] = some b1 ∧ b = (b0 && b1) := by
        cases b0
        · obtain ⟨b1, hb1, hb2⟩ := oK_inv (z := none) (r := some b) he1 (by simp)
          cases hb2
          exact ⟨b1, hb1, rfl⟩
        · exact ⟨b, he1, by simp⟩
      obtain ⟨b1, hb1, hb⟩ := h1
      unfold eqFlat at hb1
      obtain ⟨c1, hc1, hc2⟩ := oK_inv (z := none) (r := some b1) hb1 (by simp)
      obtain ⟨k1, m1, n1, rfl, rfl, e1⟩ := eqInt_inv hc1
      have hb1' : b1 = (m1 == n1) := by
        rw [← e1]
        cases c1
        · have hq : (some false : Option Bool) = some b1 := hc2
          cases hq; rfl
        · have : (some true : Option Bool) = some b1 := hc2
          cases this; rfl
      have hfs : (Tryz.prog.fieldsOf 262).toList = [Field.mk "Hi" 201 0 false "" "" 0, Field.mk "Lo" 201 1 false "" "" 8] := by kernel_rfl
      rw [show (10000 : Nat) = 9998 + 1 + 1 from rfl, run_equalIn_struct w (9998 + 1) 262 _ _ hu hs, hfs]
      have hag : Tryz.prog.underlying 201 = some (.int .u64) := Tryz.underlying201
      have hp : ∀ (cs : Array Value) (off : Nat) (v : Value) (w : World), cs[off]? = some v → (part 201 cs off).run Tryz.prog w = .ok v w := by
        intro cs off v w h
        simp [part, isAgg, run_underlying hag, h]
      rw [hb, e0, hb1']
      have q1 := fun w => hp #[.int k0 m0, .int k1 m1] 0 (.int k0 m0) w rfl
      have q2 := fun w => hp #[.int k0 n0, .int k1 n1] 0 (.int k0 n0) w rfl
      have q3 := fun w => hp #[.int k0 m0, .int k1 m1] 1 (.int k1 m1) w rfl
      have q4 := fun w => hp #[.int k0 n0, .int k1 n1] 1 (.int k1 n1) w rfl
      have q5 : ∀ (k : IntKind) (a b : Int) w, (Op.equalIn (9998 + 1) 201 (.int k a) (.int k b)).run Tryz.prog w = .ok (a == b) w := fun k a b w => run_equalIn_int w 9998 201 k _ a b hag
      have nn1 : ("Hi" : String) ≠ "_" := by decide
      have nn2 : ("Lo" : String) ≠ "_" := by decide
      simp only [Op.eqFields, Sem.run_bind, Sem.run_ite, q1, q2, q3, q4, q5, Result.andThen_ok]
      rw [if_pos nn1]
      cases h5 : (m0 == n0) <;> cases h6 : (m1 == n1) <;> simp
  · cases h

noncomputable def base : Base0 where
  P := Tryz.prog
  ng := 11
  noesc := fun f => Nat.beq f 245
  ibs := fun f => Nat.beq f 216
  noescOk := fun f hf x w => by rw [Nat.eq_of_beq_eq_true hf]; exact noesc x w
  ibsOk := fun f hf s c w => by rw [Nat.eq_of_beq_eq_true hf]; exact ibs s c w
  keys := keys
  keysOk := keysOk
  cntf := fun f => Nat.beq f 168
  cntOk := fun f hf s c w => by rw [Nat.eq_of_beq_eq_true hf]; exact cnt s c w
  idxf := fun f => Nat.beq f 213
  mlg := 3
  mlgOk := by decide
  idxOk := fun f hf s b m w h1 h2 h3 h4 => by rw [Nat.eq_of_beq_eq_true hf]; exact idx s b m w h1 h2 h3 h4
  eqs := eqs
  eqsOk := eqsOk
noncomputable def ctx : Ctx := mkCtx base
theorem good : Good ctx := mkCtx_good _ (by kernel_rfl)
end Go.AM.Xa
