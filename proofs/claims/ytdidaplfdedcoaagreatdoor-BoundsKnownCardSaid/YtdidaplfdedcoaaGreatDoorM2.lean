/- An abstract machine, and that its evaluations stand for runs of the model (part 2); no condition. -/
import Derived.KernelRfl
import Derived.Laws.StructEq
import Derived.Recover
import Derived.Test.YtdidaplfdedcoaaGreatDoorM1
namespace Go.AM
variable {X : Ctx}

section
variable {ι : Inj} {fr fr' : AFr} {a : Act} {nt : Nat} {st st' : St} {w : World} {o : Oper} {v : Value} {call : CallT}

theorem exec_append {tp xt : TypeId} {s x : Operand} {v' : Value} {w' : World} (ho : o.op = .call { callee := .builtin .append, args := #[s, x], argTypes := #[tp, xt] })
    (hr : (Builtin.append_ #[tp, xt] o.type #[a.eval s, a.eval x]).run X.P w = .ok v' w') : (execOp a.eval o).run X.P w = .ok (.value v') w' := by
  unfold execOp; rw [ho]
  simp only [resolve, List.map_toArray, List.map_cons, List.map_nil, Sem.run_bind, Sem.run_pure, Result.andThen, invoke, builtin, hr]

theorem sim_append {tp xt elem : TypeId} {d : TypeDesc} {i : TypeInfo} {z : Value} {s x : Operand} {base : Option Addr} {len cap n : Nat} {new new' : List Value}
    (ho : o.op = .call { callee := .builtin .append, args := #[s, x], argTypes := #[tp, xt] }) (hu : X.P.underlying tp = some (.slice elem)) (hx : X.P.underlying xt = some d) (hd : ∀ k, d ≠ .int k) (hi : X.P.info? elem = some i) (hz : i.zero = some z)
    (hzs : z.cells.size = i.size) (hw : WRel X ι st w) (hsv : VRel ι (.slice base len cap) (a.eval s)) (hsrc : Src X.P w (a.eval x) n i.size new') (hnew : VRels ι new new') (hnl : new.length = n * i.size) (hok : allOk new = true)
    (h : evAppend fr st elem i.size i.bytes base len cap n new = .ok v fr' st') : fr' = fr ∧ Sim X ι w v st' (execOp a.eval o) := by
  obtain ⟨hb, g⟩ := leK_inv h (by simp)
  have hb' : (2 * (len + n) + 768) * (i.bytes + 1) ≤ 1099511627776 := hb
  have hcell : X.P.cellsOf elem = i.size := by simp [Program.cellsOf, hi]
  have hlen' : new'.length = n * i.size := by rw [← hnew.1]; exact hnl
  generalize hsv' : a.eval s = sv at hsv
  have hr0 := @exec_append X a w o tp xt s x
  rw [hsv'] at hr0
  cases base with
  | none =>
    obtain ⟨hl0, g1⟩ := eqK_inv (g : eqK len 0 _ _ = _) (by simp)
    obtain ⟨hc0, g2⟩ := eqK_inv g1 (by simp)
    subst hl0 hc0
    cases hsv
    rw [eqK_eq] at g2
    split at g2
    · rename_i hn0; subst hn0
      cases g2
      refine ⟨rfl, Sim.same (v' := .slice none 0 0) hw ?_ (.slcNil _ _)⟩
      exact hr0 ho (run_append_in hu hx hd hi hsrc (by omega) o.type w (fun a h => by cases h) (fun _ => rfl))
    · rename_i hn0
      rw [newK_eq] at g2
      cases g2
      obtain ⟨nc, w', hnc, hr, hh, so⟩ := run_append_new (base := none) (len := 0) (cap := 0) (old := []) hu hx hd hi hz hsrc (by omega) hb' o.type (fun _ _ => rfl)
      obtain ⟨κ, k1, k2, k3, _⟩ := hw.newGrown elem hnew (Builtin.zeroCells z.cells (nc - (0 + n))).toList (nc - (0 + n)) (by
        rw [Array.length_toList, zeroCells_size, hzs, hcell]; exact Nat.le_refl _) (0, 0) (fun i _ => by simp) w' (by rw [hh]; simp) so
      refine ⟨rfl, κ, .value _, w', hr0 ho hr, .inl ⟨_, rfl, ?_⟩, k1, k2⟩
      have := VRel.slc (ι := κ) ⟨st.nx, 0, none⟩ ⟨w.heap.size, 0, nc - (0 + n), id⟩ 0 (0 + n) (0 + n) k3 rfl (.inl rfl)
      rw [show 0 + n + (nc - (0 + n)) = nc by omega] at this
      exact this
  | some ad =>
    obtain ⟨hs, cs, el, fz, gr, hg, g1⟩ := cellsAt_inv (g : St.cellsAt st ad _ _ = _) (by simp)
    obtain ⟨hfz, g2⟩ := leK_inv g1 (by simp)
    obtain ⟨hlc, g3⟩ := leK_inv g2 (by simp)
    obtain ⟨hro, g4⟩ := leK_inv g3 (by simp)
    obtain ⟨hel, g5⟩ := eqK_inv g4 (by simp)
    rw [lenX_eq] at hro
    have hro' : ad.off + cap * i.size ≤ cs.length := hro
    subst hel
    obtain ⟨l, hl, C, fz', hc⟩ := hw.objs _ _ hg (by simp)
    have hroom := hc.room
    rw [hcell] at hroom
    cases hsv with
    | slc _ l' off _ _ hl' hs' hoff =>
      rw [hl] at hl'; cases hl'
      have hmul : len * i.size ≤ cap * i.size := Nat.mul_le_mul_right _ hlc
      rw [eqK_eq] at g5
      split at g5
      · rename_i hn0; subst hn0
        cases g5
        have hnil : new' = [] := by
          have : new'.length = 0 := by rw [hlen']; simp
          exact List.eq_nil_of_length_eq_zero this
        refine ⟨rfl, Sim.same (v' := .slice (some ⟨l.blk, off, none⟩) (len + 0) (cap + l.ex)) hw ?_ (.slc _ _ _ _ _ hl hs hoff)⟩
        refine hr0 ho (run_append_in hu hx hd hi hsrc (by omega) o.type w (fun a h => ?_) (fun h => by cases h))
        rw [hnil]; rfl
      · rename_i hn0
        have hold : ∀ tape drawn, (Builtin.firstCells i.size len (.slice (some ⟨l.blk, off, none⟩) len (cap + l.ex))).run X.P { w with tape := tape, drawn := drawn } = .ok ((C.toList.drop off).take (len * i.size)).toArray { w with tape := tape, drawn := drawn } := by
          intro tape drawn
          simp only [Builtin.firstCells]
          rcases hoff with h | ⟨h1, _, _⟩
          · exact run_cells (by exact hc.there) (by rw [h]; omega)
          · subst h1; simp [loadCells, loadCellsFrom]
        have hnx : ∀ (k1 : len + n ≤ cap + l.ex), off = l.sh + ad.off := by
          intro k1
          rcases hoff with h | ⟨h1, h2, h3⟩
          · exact h
          · omega
        have hrow : VRels ι ((cs.drop ad.off).take (len * i.size)) ((C.toList.drop off).take (len * i.size)) := by
          rcases hoff with h | ⟨h1, _, _⟩
          · rw [h]; exact hc.row ad.off (len * i.size) (by simp; omega)
          · subst h1; simpa using VRels.nil ι
        cases gr with
        | true =>
          obtain ⟨hcut, g6⟩ := cutK_inv (g5 : cutK cs ad.off _ _ _ = _) (by simp)
          rw [setO_eq, newK_eq, appX_eq] at g6
          cases g6
          by_cases hin : len + n ≤ cap + l.ex
          · have hoff' := hnx hin
            subst hoff'
            have hnm : n * i.size + len * i.size ≤ (cap + l.ex) * i.size := by rw [← Nat.add_mul]; exact Nat.mul_le_mul_right _ (by omega)
            rw [Nat.add_mul] at hnm
            obtain ⟨w', hr, hh, so⟩ := run_stores (P := X.P) (o := l.sh + ad.off + len * i.size) new' 0 C w hc.there (by omega) (ones_of_rel hnew hok) (fun j h1 h2 => hc.warm hfz j (by omega) (by rw [hcell]; omega))
            simp only [Nat.add_zero] at hh
            have hra := hr0 ho (run_append_in (base := some ⟨l.blk, l.sh + ad.off, none⟩) hu hx hd hi hsrc hin o.type w' (fun a h => by cases h; rw [add_eq]; exact hr) (fun h => by cases h))
            obtain ⟨κ, k1, k2, k3⟩ := WRel.regrow (X := X) hw hg (by simp) (fun hf => by cases hf.1) id_gsg hl (.cells ((cs.drop ad.off).take (len * i.size) ++ new) el (0, 0) true) (l' := ⟨l.blk, l.sh + ad.off, cap + l.ex - (len + n), id⟩) rfl _ w' hh (fun κ hle ht => by
              have hCl : (C.toList.take (l.sh + ad.off + len * i.size) ++ (new' ++ C.toList.drop (l.sh + ad.off + len * i.size + new'.length))).length = C.size := by simp; omega
              have hol : ((cs.drop ad.off).take (len * i.size)).length = len * i.size := by simp; omega
              have hexm : (cap + l.ex - (len + n)) * i.size = (cap * i.size + l.ex * i.size) - (len * i.size + n * i.size) := by rw [Nat.sub_mul, Nat.add_mul, Nat.add_mul]
              refine ⟨_, fz', ⟨ht, ?_, fun j hj => ?_, fun _ j h1 h2 => ?_, fun h => by cases h⟩⟩
              · rw [List.size_toArray, hCl, hcell, List.length_append, hol, hnl]
                simp only
                rw [hexm]; omega
              · simp only [List.getElem?_toArray]
                rw [List.length_append, hol, hnl] at hj
                rw [splice_get C.toList new' (l.sh + ad.off + len * i.size) (l.sh + ad.off + j) (by simp; omega)]
                by_cases c : j < len * i.size
                · rw [if_pos (by omega)]
                  obtain ⟨cv, e1, e2⟩ := hc.cell (ad.off + j) (by omega)
                  refine ⟨cv, by rw [← e1]; simp [Nat.add_assoc], ?_⟩
                  rw [List.getElem_append_left (by omega)]
                  simp only [List.getElem_take, List.getElem_drop]
                  exact e2.mono hle
                · rw [if_neg (by omega), if_pos (by omega)]
                  rw [show l.sh + ad.off + j - (l.sh + ad.off + len * i.size) = j - len * i.size by omega]
                  rw [List.getElem?_eq_getElem (by omega)]
                  refine ⟨_, rfl, ?_⟩
                  rw [List.getElem_append_right (by omega)]
                  simp only [hol]
                  exact (hnew.2 _ (by omega) (by omega)).mono hle
              · refine hc.warm hfz j ?_ ?_
                · simp only at h1; omega
                · rw [hcell] at h2 ⊢
                  rw [List.length_append, hol, hnl] at h2
                  simp only at h2
                  rw [hexm] at h2; omega) so
            refine ⟨rfl, κ, .value _, w', hra, .inl ⟨_, rfl, ?_⟩, k1, k2⟩
            have := VRel.slc (ι := κ) ⟨st.nx, 0, none⟩ ⟨l.blk, l.sh + ad.off, cap + l.ex - (len + n), id⟩ (l.sh + ad.off) (len + n) (len + n) k3 rfl (.inl rfl)
            rw [show len + n + (cap + l.ex - (len + n)) = cap + l.ex by omega] at this
            exact this
          · obtain ⟨nc, w', hnc, hr, hh, so⟩ := run_append_new (base := some ⟨l.blk, off, none⟩) (len := len) (cap := cap + l.ex) hu hx hd hi hz hsrc (by omega) hb' o.type hold
            have hk := hw.kill hg
            obtain ⟨κ, k1, k2, k3, _⟩ := hk.newGrown el (hrow.append hnew) (Builtin.zeroCells z.cells (nc - (len + n))).toList (nc - (len + n)) (by
              rw [Array.length_toList, zeroCells_size, hzs, hcell]; exact Nat.le_refl _) (0, 0) (fun i _ => by simp) w' (by rw [hh]) so
            refine ⟨rfl, κ, .value _, w', hr0 ho hr, .inl ⟨_, rfl, ?_⟩, k1, k2⟩
            have := VRel.slc (ι := κ) ⟨st.nx, 0, none⟩ ⟨w.heap.size, 0, nc - (len + n), id⟩ 0 (len + n) (len + n) k3 rfl (.inl rfl)
            rw [show len + n + (nc - (len + n)) = nc by omega] at this
            exact this
        | false =>
          have hpl := hc.plain rfl
          have hexz : cap + l.ex = cap := by rw [hpl.1]; rfl
          rw [hexz] at hr0 hold hnx
          have g5 : leK (len + n) cap (putsK cs (Nat.add ad.off (Nat.mul len i.size)) new (fun cs' => st.setO ad.block (.cells cs' el fz false) fun st => OR.ok (.slice (some ad) (len + n) cap) fr st) .no)
                  (cutK cs ad.off (Nat.mul len i.size) (fun old => st.newK (.cells (appX old new) el (0, 0) true) fun id st => .ok (.slice (some ⟨id, 0, none⟩) (len + n) (len + n)) fr st) .no) = OR.ok v fr' st' := g5
          rw [leK_eq] at g5
          split at g5
          · rename_i hin
            have hoff' := hnx hin
            subst hoff'
            have hnm : n * i.size + len * i.size ≤ cap * i.size := by rw [← Nat.add_mul]; exact Nat.mul_le_mul_right _ (by omega)
            have hle2 : ad.off + len * i.size + new.length ≤ cs.length := by rw [hnl]; omega
            have g6 : st.setO ad.block (.cells (cs.take (ad.off + len * i.size) ++ (new ++ cs.drop (ad.off + len * i.size + new.length))) el fz false) (fun st => OR.ok (.slice (some ad) (len + n) cap) fr st) = OR.ok v fr' st' := by
              rcases putsK_inv g5 (by simp) with ⟨_, g6⟩ | ⟨he, g6⟩
              · exact g6
              · rw [he]; simp; exact g6
            rw [setO_eq] at g6
            cases g6
            obtain ⟨w', hr, k1, k2⟩ := hw.store hg hl hfz hle2 hnew hok
            have hra := hr0 ho (run_append_in (base := some ⟨l.blk, l.sh + ad.off, none⟩) hu hx hd hi hsrc hin o.type w' (fun a h => by cases h; rw [add_eq, Nat.add_assoc]; exact hr) (fun h => by cases h))
            refine ⟨rfl, ι, .value _, w', hra, .inl ⟨_, rfl, ?_⟩, k1, k2⟩
            have := VRel.slc (ι := ι) ad l (l.sh + ad.off) (len + n) cap hl hs (.inl rfl)
            rw [hexz] at this
            exact this
          · rename_i hin
            obtain ⟨hcut, g6⟩ := cutK_inv g5 (by simp)
            rw [newK_eq, appX_eq] at g6
            cases g6
            obtain ⟨nc, w', hnc, hr, hh, so⟩ := run_append_new (base := some ⟨l.blk, off, none⟩) (len := len) (cap := cap) hu hx hd hi hz hsrc (by omega) hb' o.type hold
            obtain ⟨κ, k1, k2, k3, _⟩ := hw.newGrown el (hrow.append hnew) (Builtin.zeroCells z.cells (nc - (len + n))).toList (nc - (len + n)) (by
              rw [Array.length_toList, zeroCells_size, hzs, hcell]; exact Nat.le_refl _) (0, 0) (fun i _ => by simp) w' (by rw [hh]) so
            refine ⟨rfl, κ, .value _, w', hr0 ho hr, .inl ⟨_, rfl, ?_⟩, k1, k2⟩
            have := VRel.slc (ι := κ) ⟨st.nx, 0, none⟩ ⟨w.heap.size, 0, nc - (len + n), id⟩ 0 (len + n) (len + n) k3 rfl (.inl rfl)
            rw [show len + n + (nc - (len + n)) = nc by omega] at this
            exact this
end
end Go.AM
namespace Go.AM
variable {X : Ctx}

theorem u8s_eq : ∀ bs : List UInt8, u8s bs = bs.map fun b => Value.int .u8 (b.toNat : Int)
  | [] => rfl
  | b :: bs => by show _ :: u8s bs = _; rw [u8s_eq bs]; rfl
theorem u8s_ok : ∀ bs : List UInt8, allOk (u8s bs) = true
  | [] => rfl
  | _ :: bs => u8s_ok bs
theorem u8s_rel (ι : Inj) : ∀ bs : List UInt8, VRels ι (u8s bs) (u8s bs)
  | [] => VRels.nil ι
  | _ :: bs => VRels.cons (.int _ _) (u8s_rel ι bs)

theorem bytesOf_inv : ∀ {vs : List Value} {bs : List UInt8}, bytesOf vs = some bs → ∃ ns : List Int, vs = ns.map (Value.int .u8) ∧ bs = ns.map (fun n => UInt8.ofNat n.toNat)
  | [], bs, h => by cases h; exact ⟨[], rfl, rfl⟩
  | v :: vs, bs, h => by
    obtain ⟨k, n, e, g1⟩ := vInt_inv (h : vInt v _ _ = _) (by simp)
    obtain ⟨hk, g2⟩ := cond_inv g1 (by simp)
    obtain ⟨r, hr, g3⟩ := oK_inv g2 (by simp)
    cases g3
    obtain ⟨ns, e1, e2⟩ := bytesOf_inv (vs := vs) hr
    have := kindEq_eq hk
    subst this
    exact ⟨n :: ns, by simp [e, e1], by simp [e2]⟩

section
variable {ι : Inj} {fr fr' : AFr} {a : Act} {nt : Nat} {st st' : St} {w : World} {o : Oper} {v : Value} {call : CallT}

theorem src_str (P : Program) (w : World) (s : ByteArray) (size : Nat) : Src P w (.string s) s.data.toList.length size (u8s s.data.toList) := by
  have hsz : s.size = s.data.toList.length := (Array.length_toList (xs := s.data)).symm
  refine ⟨by rw [← hsz]; rfl, fun tape drawn => ?_⟩
  simp only [Builtin.firstCells, Sem.run_pure]
  congr 1
  apply Array.ext'
  have : (s.extract 0 s.data.toList.length).data = s.data := by
    rw [ByteArray.data_extract]; apply Array.ext'
    rw [Array.toList_extract, List.extract_eq_take_drop, List.drop_zero, Nat.sub_zero, List.take_length]
  rw [this, u8s_eq]
  simp

theorem sim_app {tp xt elem : TypeId} {d : TypeDesc} {i : TypeInfo} {z : Value} {s x : Operand} (hs : opdOk X.ng s = true) (hx' : opdOk X.ng x = true) (ho : o.op = .call { callee := .builtin .append, args := #[s, x], argTypes := #[tp, xt] })
    (hu : X.P.underlying tp = some (.slice elem)) (hx : X.P.underlying xt = some d) (hd : ∀ k, d ≠ .int k) (hi : X.P.info? elem = some i) (hz : i.zero = some z) (hzs : z.cells.size = i.size)
    (hf : FRel ι fr a nt) (hw : WRel X ι st w) (h : op_app elem i.size i.bytes s x call fr st = .ok v fr' st') : fr' = fr ∧ Sim X ι w v st' (execOp a.eval o) := by
  obtain ⟨base, len, cap, hsv, g⟩ := vSlice_inv h (by simp)
  have hsr := hf.ev hw hs
  rw [hsv] at hsr
  have hxr := hf.ev hw hx'
  generalize hxv : fr.ev x = xv at g hxr
  cases xv with
  | slice b n c =>
    cases b with
    | none =>
      obtain ⟨hn0, g2⟩ := eqK_inv (g : eqK n 0 (evAppend fr st elem i.size i.bytes base len cap 0 []) _ = OR.ok v fr' st') (by simp)
      subst hn0
      generalize hav : a.eval x = av at hxr
      cases hxr
      refine sim_append (n := 0) (new := []) (new' := []) ho hu hx hd hi hz hzs hw hsr ?_ (VRels.nil ι) (by simp) rfl g2
      rw [hav]
      exact ⟨rfl, fun _ _ => rfl⟩
    | some b =>
      obtain ⟨hbs, cs, el, fz, gr, hg, hn, g2⟩ := load_inv (g : St.load st b _ _ _ = _) (by simp)
      obtain ⟨hok, g3⟩ := cond_inv g2 (by simp)
      obtain ⟨l, hl, C, fz', hc⟩ := hw.objs _ _ hg (by simp)
      generalize hav : a.eval x = av at hxr
      cases hxr with
      | slc _ l' off _ _ hl' hs' hoff =>
        rw [hl] at hl'; cases hl'
        have hn' : n * i.size ≤ (cs.drop b.off).length := hn
        have hroom := hc.room
        rw [List.length_drop] at hn'
        refine sim_append (n := n) (new := (cs.drop b.off).take (n * i.size)) (new' := (C.toList.drop off).take (n * i.size)) ho hu hx hd hi hz hzs hw hsr ?_ ?_ ?_ hok g3
        · rw [hav]
          refine ⟨rfl, fun tape drawn => ?_⟩
          simp only [Builtin.firstCells]
          rcases hoff with h | ⟨h1, _, _⟩
          · by_cases h0 : n * i.size = 0
            · rw [h0]; simp [loadCells, loadCellsFrom]
            · exact run_cells (by exact hc.there) (by rw [h]; omega)
          · subst h1; simp [loadCells, loadCellsFrom]
        · rcases hoff with h | ⟨h1, _, _⟩
          · rw [h]; exact hc.row b.off (n * i.size) hn
          · subst h1; simpa using VRels.nil ι
        · simp; omega
  | string sx =>
    obtain ⟨hs1, g2⟩ := eqK_inv (g : eqK i.size 1 (evAppend fr st elem i.size i.bytes base len cap (lenX sx.data.toList) (u8s sx.data.toList)) _ = OR.ok v fr' st') (by simp)
    rw [lenX_eq] at g2
    generalize hav : a.eval x = av at hxr
    cases hxr
    refine sim_append (n := sx.data.toList.length) (new := u8s sx.data.toList) (new' := u8s sx.data.toList) ho hu hx hd hi hz hzs hw hsr ?_ (u8s_rel ι _) ?_ (u8s_ok _) g2
    · rw [hav]; exact src_str X.P w sx i.size
    · rw [u8s_eq, List.length_map, hs1, Nat.mul_one]
  | _ => exact absurd g (by simp [vSlice, vString])
end
end Go.AM
namespace Go.AM
variable {X : Ctx}

section
variable {ι : Inj} {fr fr' : AFr} {a : Act} {nt : Nat} {st st' : St} {w : World} {o : Oper} {v : Value} {call : CallT}

theorem sim_cpy {tp xt elem : TypeId} {i : TypeInfo} {d s : Operand} (hd : opdOk X.ng d = true) (hs : opdOk X.ng s = true) (ho : o.op = .call { callee := .builtin .copy, args := #[d, s], argTypes := #[tp, xt] })
    (hu : X.P.underlying tp = some (.slice elem)) (hi : X.P.info? elem = some i) (hf : FRel ι fr a nt) (hw : WRel X ι st w) (h : op_cpy i.size d s call fr st = .ok v fr' st') :
    fr' = fr ∧ Sim X ι w v st' (execOp a.eval o) := by
  obtain ⟨da, dl, dc, hdv, g1⟩ := vSlice_inv h (by simp)
  obtain ⟨sa, sl, sc, hsv, g2⟩ := vSlice_inv g1 (by simp)
  have hdr := hf.ev hw hd
  rw [hdv] at hdr
  have hsr := hf.ev hw hs
  rw [hsv] at hsr
  have hx : ∀ {v' : Value} {w' : World}, (Builtin.copy_ #[tp, xt] o.type #[a.eval d, a.eval s]).run X.P w = .ok v' w' → (execOp a.eval o).run X.P w = .ok (.value v') w' := by
    intro v' w' hr
    unfold execOp; rw [ho]
    simp only [resolve, List.map_toArray, List.map_cons, List.map_nil, Sem.run_bind, Sem.run_pure, Result.andThen, invoke, builtin, hr]
  generalize hda : a.eval d = dv at hdr hx
  generalize hsa : a.eval s = sv at hsr hx
  cases da with
  | none =>
    obtain ⟨h0, g3⟩ := eqK_inv (g2 : eqK dl 0 _ _ = _) (by simp)
    subst h0
    cases g3
    cases hdr
    refine ⟨rfl, Sim.same (v' := .int .i64 0) hw (hx ?_) (.int _ _)⟩
    cases hsr <;> simp [Builtin.copy_, run_underlying hu, Result.andThen, Builtin.lenOf, sizeOf_run hi, Builtin.firstCells, loadCells, loadCellsFrom, goInt]
  | some ad =>
    cases sa with
    | none =>
      obtain ⟨h0, g3⟩ := eqK_inv (g2 : eqK sl 0 _ _ = _) (by simp)
      subst h0
      cases g3
      cases hsr
      refine ⟨rfl, Sim.same (v' := .int .i64 0) hw (hx ?_) (.int _ _)⟩
      cases hdr
      simp [Builtin.copy_, run_underlying hu, Result.andThen, Builtin.lenOf, sizeOf_run hi, Builtin.firstCells, goInt, Nat.min_def, storeCells]
    | some sad =>
      have g3 : st.load sad (Nat.mul (leK sl dl sl dl) i.size) (fun vs => cond (allOk vs) (st.store ad vs (fun st => OR.ok (.int .i64 (.ofNat (leK sl dl sl dl))) fr st) .no) .no) .no = OR.ok v fr' st' := g2
      rw [show leK sl dl sl dl = Nat.min sl dl by rw [leK_eq]; show _ = min sl dl; rw [Nat.min_def]] at g3
      rw [show Nat.mul (Nat.min sl dl) i.size = Nat.min sl dl * i.size from rfl] at g3
      obtain ⟨hss, cs, el, fz, gr, hg, hn, g4⟩ := load_inv g3 (by simp)
      obtain ⟨hok, g5⟩ := cond_inv g4 (by simp)
      obtain ⟨hds, cs2, el2, fz2, gr2, hg2, hfz2, g6⟩ := store_inv g5 (by simp)
      obtain ⟨l, hl, C, fz', hc⟩ := hw.objs _ _ hg (by simp)
      obtain ⟨l2, hl2, hm2⟩ := hw.objs _ _ hg2 (by simp)
      have hn' : Nat.min sl dl * i.size ≤ (cs.drop sad.off).length := hn
      have hroom := hc.room
      rw [List.length_drop] at hn'
      cases hsr with
      | slc _ l' off _ _ hl' hs' hoff =>
        rw [hl] at hl'; cases hl'
        cases hdr with
        | slc _ l2' off2 _ _ hl2' hs2' hoff2 =>
          rw [hl2] at hl2'; cases hl2'
          have hmin0 : sl = 0 ∨ dl = 0 → Nat.min sl dl = 0 := by
            intro hh; show min sl dl = 0; omega
          have hrow : VRels ι ((cs.drop sad.off).take (Nat.min sl dl * i.size)) ((C.toList.drop off).take (Nat.min sl dl * i.size)) := by
            rcases hoff with h | ⟨h1, _, _⟩
            · rw [h]; exact hc.row sad.off _ hn
            · rw [hmin0 (.inl h1)]; simpa using VRels.nil ι
          have hfc : (Builtin.firstCells i.size (Nat.min sl dl) (.slice (some ⟨l.blk, off, none⟩) sl (sc + l.ex))).run X.P w = .ok ((C.toList.drop off).take (Nat.min sl dl * i.size)).toArray w := by
            simp only [Builtin.firstCells]
            rcases hoff with h | ⟨h1, _, _⟩
            · by_cases h0 : Nat.min sl dl * i.size = 0
              · rw [h0]; simp [loadCells, loadCellsFrom]
              · exact run_cells hc.there (by rw [h]; omega)
            · rw [hmin0 (.inl h1)]; simp [loadCells, loadCellsFrom]
          have hrun : ∀ w', (storeCells ⟨l2.blk, off2, none⟩ ((C.toList.drop off).take (Nat.min sl dl * i.size))).run X.P w = .ok () w' →
              (Builtin.copy_ #[tp, xt] o.type #[.slice (some ⟨l2.blk, off2, none⟩) dl (dc + l2.ex), .slice (some ⟨l.blk, off, none⟩) sl (sc + l.ex)]).run X.P w = .ok (.int .i64 (Nat.min sl dl : Nat)) w' := by
            intro w' hr
            simp only [Builtin.copy_, List.getElem?_toArray, List.getElem?_cons_zero, List.getElem?_cons_succ, Sem.run_bind, run_underlying hu, Result.andThen, sizeOf_run hi, Builtin.lenOf, Sem.run_pure]
            rw [hfc]
            simp only []
            simp only [hr, goInt]
          rcases g6 with ⟨hle, g7⟩ | ⟨he, g7⟩
          · cases g7
            by_cases hz : (cs.drop sad.off).take (Nat.min sl dl * i.size) = []
            · have hz' : (C.toList.drop off).take (Nat.min sl dl * i.size) = [] := by
                have := hrow.1; rw [hz] at this; exact List.eq_nil_of_length_eq_zero this.symm
              refine ⟨rfl, ι, .value _, w, hx (hrun w (by rw [hz']; rfl)), .inl ⟨_, rfl, .int _ _⟩, ?_, .refl ι w⟩
              have := hw.set_same hg2
              rw [hz]
              simpa using this
            · have hoff2' : off2 = l2.sh + ad.off := by
                rcases hoff2 with h | ⟨h1, _, _⟩
                · exact h
                · exfalso; apply hz; rw [hmin0 (.inr h1)]; simp
              subst hoff2'
              obtain ⟨w', hr, k1, k2⟩ := hw.store hg2 hl2 hfz2 hle hrow hok
              exact ⟨rfl, ι, .value _, w', hx (hrun w' hr), .inl ⟨_, rfl, .int _ _⟩, k1, k2⟩
          · cases g7
            have hz' : (C.toList.drop off).take (Nat.min sl dl * i.size) = [] := by
              have := hrow.1; rw [he] at this; exact List.eq_nil_of_length_eq_zero this.symm
            exact ⟨rfl, ι, .value _, w, hx (hrun w (by rw [hz']; rfl)), .inl ⟨_, rfl, .int _ _⟩, hw.set_same hg2, .refl ι w⟩

theorem push_bytes (P : Program) (w : World) (f : Value → ByteArray → Sem (ForInStep ByteArray)) (hf : ∀ n s, f (.int .u8 n) s = pure (.yield (s.push (UInt8.ofNat n.toNat)))) : ∀ (ns : List Int) (s : ByteArray),
    (forIn (ns.map (Value.int .u8)).toArray s f : Sem ByteArray).run P w = .ok ⟨⟨s.data.toList ++ ns.map (fun n => UInt8.ofNat n.toNat)⟩⟩ w
  | [], s => by simp
  | n :: ns, s => by
    simp only [List.map_cons, List.forIn_toArray, List.forIn_cons, Sem.run_bind, hf, Sem.run_pure, Result.andThen]
    have := push_bytes P w f hf ns (s.push (UInt8.ofNat n.toNat))
    simp only [List.forIn_toArray] at this
    rw [this]
    congr 1
    simp [ByteArray.data_push]

theorem sim_cb2s {sT tT e : TypeId} {x : Operand} (hx : opdOk X.ng x = true) (ho : o.op = .convert sT tT x) (hs : X.P.underlying sT = some (.slice e)) (ht : X.P.underlying tT = some .string) (he : X.P.underlying e = some (.int .u8))
    (hf : FRel ι fr a nt) (hw : WRel X ι st w) (h : op_cb2s x call fr st = .ok v fr' st') : fr' = fr ∧ SimR X ι w v st st' (execOp a.eval o) := by
  obtain ⟨b, n, c, hp, g1⟩ := vSlice_inv h (by simp)
  have hxr := hf.ev hw hx
  rw [hp] at hxr
  generalize hxv : a.eval x = xv at hxr
  cases b with
  | none =>
    cases g1
    cases hxr
    refine ⟨rfl, SimR.same (v' := .string .empty) hw ?_ (.string _)⟩
    unfold execOp; rw [ho]
    simp [hxv, convert, run_underlying hs, run_underlying ht, run_underlying he, Result.andThen, Conv.bytesToString]
  | some b =>
    obtain ⟨hbs, cs, el, fz, gr, hg, hn, g2⟩ := load_inv (g1 : St.load st b _ _ _ = _) (by simp)
    obtain ⟨bs, hb, g3⟩ := oK_inv g2 (by simp)
    cases g3
    obtain ⟨l, hl, C, fz', hc⟩ := hw.objs _ _ hg (by simp)
    have hroom := hc.room
    obtain ⟨ns, e1, e2⟩ := bytesOf_inv hb
    cases hxr with
    | slc _ l' off _ _ hl' hs' hoff =>
      rw [hl] at hl'; cases hl'
      have hrow : VRels ι ((cs.drop b.off).take n) ((C.toList.drop off).take n) := by
        rcases hoff with h | ⟨h1, _, _⟩
        · rw [h]; exact hc.row b.off _ hn
        · subst h1; simpa using VRels.nil ι
      have hcs : (C.toList.drop off).take n = ns.map (Value.int .u8) := by
        rw [e1] at hrow
        have key : ∀ (ns : List Int) (ys : List Value), VRels ι (ns.map (Value.int .u8)) ys → ys = ns.map (Value.int .u8) := by
          intro ns
          induction ns with
          | nil => intro ys hy; rw [hy.nil_inv]; rfl
          | cons m ms ih =>
            intro ys hy
            obtain ⟨y, ys', rfl, h1, h2⟩ := hy.cons_inv
            cases h1
            rw [ih ys' h2]; rfl
        exact key ns _ hrow
      have hld : (loadCells ⟨l.blk, off, none⟩ n).run X.P w = .ok (ns.map (Value.int .u8)).toArray w := by
        rw [← hcs]
        rcases hoff with h | ⟨h1, _, _⟩
        · by_cases h0 : n = 0
          · subst h0; simp [loadCells, loadCellsFrom]
          · rw [List.length_drop] at hn; exact run_cells hc.there (by rw [h]; omega)
        · subst h1; simp [loadCells, loadCellsFrom]
      refine ⟨rfl, SimR.same (v' := .string ⟨⟨bs⟩⟩) hw ?_ (.string _)⟩
      unfold execOp; rw [ho]
      simp only [hxv, convert, Sem.run_bind, run_underlying hs, run_underlying ht, run_underlying he, Result.andThen, Conv.bytesToString, hld]
      rw [push_bytes X.P w _ (fun _ _ => rfl) ns ByteArray.empty]
      simp [e2]

end
end Go.AM
namespace Go.AM
variable {X : Ctx}

theorem lies_same (P : Program) (e : TypeId) (count off n : Nat) (hs : P.cellsOf e ≠ 0) (h0 : off % P.cellsOf e = 0) (hn : off / P.cellsOf e + n ≤ count) : liesAt P P.depth e count off e n = true := by
  have hd : P.depth = (2 * (P.types.size + Made.depth) + 1) + 1 := rfl
  rw [hd]
  have hsl : sameLayout P (2 * (P.types.size + Made.depth) + 1 + 1) e e = true := by simp [sameLayout]
  have hr : rowAt P (sameLayout P P.depth · e) P.depth e count off n = true := by
    rw [hd]
    simp only [rowAt]
    rw [if_neg hs]
    simp [h0, hn, hsl]
  simp only [liesAt]
  rw [hr]; rfl

theorem idxX_eq (c : UInt8) : ∀ (l : List UInt8), idxX c l = (List.range l.length).find? (fun i => l[i]! == c)
  | [] => rfl
  | b :: bs => by
    show cond (Nat.beq b.toNat c.toNat) (some 0) (oK (idxX c bs) (fun i => some (Nat.succ i)) none) = _
    rw [List.length_cons, List.range_succ_eq_map, List.find?_cons]
    by_cases hb : b = c
    · subst hb; simp
    · have h1 : Nat.beq b.toNat c.toNat = false := by
        rw [Bool.eq_false_iff]; intro hh
        exact hb (UInt8.toNat_inj.1 (Nat.eq_of_beq_eq_true hh))
      have h2 : ((b :: bs)[0]! == c) = false := by simpa using hb
      rw [h1, h2, List.find?_map, idxX_eq c bs]
      show oK _ _ _ = _
      have : ((fun i => (b :: bs)[i]! == c) ∘ Nat.succ) = (fun i => bs[i]! == c) := by
        funext i; simp
      rw [this]
      cases (List.range bs.length).find? (fun i => bs[i]! == c) <;> rfl

section
variable {ι : Inj} {fr fr' : AFr} {a : Act} {nt : Nat} {st st' : St} {w : World} {o : Oper} {v : Value} {call : CallT}

theorem exec_fn {f : FuncId} {args : Array Operand} {ts : Array TypeId} (ho : o.op = .call { callee := .value (.func f), args := args, argTypes := ts }) :
    (execOp a.eval o).run X.P w = (callFunc f (args.map a.eval)).run X.P w := by
  unfold execOp; rw [ho]
  simp [resolve, Act.eval, Deferred.ofValue, invoke]

theorem sim_noesc {f : FuncId} {x : Operand} {ts : Array TypeId} (hx : opdOk X.ng x = true) (hf' : X.noesc f = true) (ho : o.op = .call { callee := .value (.func f), args := #[x], argTypes := ts }) (hf : FRel ι fr a nt) (hw : WRel X ι st w)
    (h : op_noesc x call fr st = .ok v fr' st') : fr' = fr ∧ SimR X ι w v st st' (execOp a.eval o) := by
  cases h
  refine ⟨rfl, SimR.same (v' := a.eval x) hw ?_ (hf.ev hw hx)⟩
  rw [exec_fn ho]
  simpa using X.noescOk f hf' (a.eval x) w

theorem sim_ibs {f : FuncId} {x y : Operand} {ts : Array TypeId} (hx : opdOk X.ng x = true) (hy : opdOk X.ng y = true) (hf' : X.ibs f = true) (ho : o.op = .call { callee := .value (.func f), args := #[x, y], argTypes := ts }) (hf : FRel ι fr a nt) (hw : WRel X ι st w)
    (h : op_ibs x y call fr st = .ok v fr' st') : fr' = fr ∧ SimR X ι w v st st' (execOp a.eval o) := by
  obtain ⟨s, hs, g1⟩ := vString_inv h (by simp)
  obtain ⟨k, c0, hc, g2⟩ := vInt_inv g1 (by simp)
  obtain ⟨hk, g3⟩ := cond_inv g2 (by simp)
  obtain ⟨c, e1, g4⟩ := natK_inv g3 (by simp)
  have hk' := kindEq_eq hk
  clear h g1 g2 g3
  subst e1 hk'
  have hxr := hf.ev hw hx
  rw [hs] at hxr
  generalize hxv : a.eval x = xv at hxr
  have hyr := hf.ev hw hy
  rw [hc] at hyr
  generalize hyv : a.eval y = yv at hyr
  cases hxr; cases hyr
  obtain ⟨e2, e3, e4⟩ := ok_inj g4
  subst e2 e3 e4
  refine ⟨rfl, SimR.same (v' := .int .i64 (oK (idxX (UInt8.ofNat c) s.data.toList) (fun i => .ofNat i) (.negSucc 0))) hw ?_ (.int _ _)⟩
  rw [exec_fn ho]
  have := X.ibsOk f hf' s (c : Int) w
  simp only [List.map_toArray, List.map_cons, List.map_nil, hxv, hyv]
  rw [this]
  congr 2
  have hsz : s.size = s.data.toList.length := (Array.length_toList (xs := s.data)).symm
  rw [idxX_eq, hsz]
  have hfun : (fun i : Nat => s[i]! == (c : Int).toNat.toUInt8) = (fun i : Nat => s.data.toList[i]! == UInt8.ofNat c) := by
    funext i
    have : s[i]! = s.data.toList[i]! := by
      have e1 : s[i]! = s.data[i]! := by
        by_cases hi : i < s.size
        · rw [getElem!_pos s i hi, getElem!_pos s.data i hi]; rfl
        · rw [getElem!_neg s i hi, getElem!_neg s.data i hi]
      rw [e1]; simp [Array.getElem!_eq_getD]
    rw [this]; rfl
  rw [hfun]
  cases (List.range s.data.toList.length).find? (fun i => s.data.toList[i]! == UInt8.ofNat c) <;> rfl

theorem sdata_nil (ts : Array TypeId) (t : TypeId) (n c : Nat) : Builtin.unsafeSliceData_ ts t #[.slice none n c] = pure (.pointer none) := rfl
theorem sdata_some (ts : Array TypeId) (t : TypeId) (b : Addr) (n c : Nat) (hc : c ≠ 0) : Builtin.unsafeSliceData_ ts t #[.slice (some b) n c] = pure (.pointer (some b)) := by
  have : Builtin.unsafeSliceData_ ts t #[.slice (some b) n c] = (if c ≠ 0 then pure (.pointer (some b)) else do
      if (← viewAt b.block).isSome then pure (.pointer (some b))
      else pure (.pointer (some ⟨← newObj (.view b (← elemOf t)), 0, none⟩))) := rfl
  rw [this, if_pos hc]

theorem sim_sdata {x : Operand} {t : TypeId} (hx : opdOk X.ng x = true) (ho : o.op = .call { callee := .builtin .unsafeSliceData, args := #[x], argTypes := #[t] }) (hf : FRel ι fr a nt) (hw : WRel X ι st w)
    (h : op_sdata x call fr st = .ok v fr' st') : fr' = fr ∧ SimR X ι w v st st' (execOp a.eval o) := by
  obtain ⟨b, n, c, hp, g1⟩ := vSlice_inv h (by simp)
  have hxr := hf.ev hw hx
  rw [hp] at hxr
  generalize hxv : a.eval x = xv at hxr
  cases b with
  | none =>
    cases g1
    cases hxr
    refine ⟨rfl, SimR.same (v' := .pointer none) hw ?_ .ptrNil⟩
    unfold execOp; rw [ho]
    simp [resolve, invoke, builtin, sdata_nil, hxv]
  | some b =>
    have g2 : eqK c 0 OR.no (OR.ok (.pointer (some b)) fr st) = OR.ok v fr' st' := g1
    rw [eqK_eq] at g2
    split at g2
    · cases g2
    · rename_i hc0
      cases g2
      cases hxr with
      | slc _ l off _ _ hl hs hoff =>
        have hoff' : off = l.sh + b.off := by rcases hoff with h | ⟨_, h, _⟩; exact h; exact absurd h hc0
        subst hoff'
        refine ⟨rfl, SimR.same (v' := .pointer (some ⟨l.blk, l.sh + b.off, none⟩)) hw ?_ (.ptr _ _ hl hs)⟩
        unfold execOp; rw [ho]
        simp [resolve, invoke, builtin, sdata_some _ _ _ _ (c + l.ex) (by omega), hxv]

theorem shape_of {w : World} {b : Nat} {C : Array Value} {e : TypeId} {fz : Nat × Nat} (h : w.heap[b]? = some (.cells C e fz)) : w.shape? b = some (e, C.size) := by simp [World.shape?, h]

theorem seenAt_run (P : Program) {w : World} {ad : Addr} {C : Array Value} {e : TypeId} {fz : Nat × Nat} (h : w.heap[ad.block]? = some (.cells C e fz)) : (Conv.seenAt ad).run P w = .ok ad w := by
  simp [Conv.seenAt, viewAt, shape_of h, Result.andThen]

theorem sim_cpu {sT tT t : TypeId} {x : Operand} {i : TypeInfo} (hx : opdOk X.ng x = true) (ho : o.op = .convert sT tT x) (hs : X.P.underlying sT = some (.pointer t)) (ht : X.P.underlying tT = some .unsafePointer) (hi : X.P.info? t = some i) (hz : i.size ≠ 0)
    (hf : FRel ι fr a nt) (hw : WRel X ι st w) (h : op_cpu x call fr st = .ok v fr' st') : fr' = fr ∧ SimR X ι w v st st' (execOp a.eval o) := by
  obtain ⟨p, hp, g1⟩ := vPointer_inv h (by simp)
  obtain ⟨ad, e1, g2⟩ := oK_inv g1 (by simp)
  subst e1
  obtain ⟨hsp, cs, elem, fz, gr, hg, g3⟩ := cellsAt_inv g2 (by simp)
  obtain ⟨hlt, g4⟩ := leK_inv g3 (by simp)
  rw [lenX_eq] at hlt
  cases g4
  obtain ⟨l, hl, C, fz', hc⟩ := hw.objs _ _ hg (by simp)
  have hroom := hc.room
  have hxr := hf.ev hw hx
  rw [hp] at hxr
  generalize hxv : a.eval x = xv at hxr
  cases hxr with
  | ptr _ l' hl' hs' =>
    rw [hl] at hl'; cases hl'
    refine ⟨rfl, SimR.same (v' := .pointer (some ⟨l.blk, l.sh + ad.off, none⟩)) hw ?_ (.ptr _ _ hl hsp)⟩
    unfold execOp; rw [ho]
    have hnot : ¬ (C.size ≤ l.sh + ad.off) := by omega
    simp [hxv, convert, run_underlying hs, run_underlying ht, Result.andThen, Conv.unsafePointer, seenAt_run X.P (ad := ⟨l.blk, l.sh + ad.off, none⟩) hc.there, cellsIn, shape_of hc.there, sizeOf_run hi, hz, hnot]

theorem sim_cup {sT tT t : TypeId} {x : Operand} {i : TypeInfo} (hx : opdOk X.ng x = true) (ho : o.op = .convert sT tT x) (hs : X.P.underlying sT = some .unsafePointer) (ht : X.P.underlying tT = some (.pointer t)) (hi : X.P.info? t = some i) (hz : i.size ≠ 0)
    (hf : FRel ι fr a nt) (hw : WRel X ι st w) (h : op_cup t i.size x call fr st = .ok v fr' st') : fr' = fr ∧ SimR X ι w v st st' (execOp a.eval o) := by
  obtain ⟨p, hp, g1⟩ := vPointer_inv h (by simp)
  obtain ⟨ad, e1, g2⟩ := oK_inv g1 (by simp)
  subst e1
  obtain ⟨hsp, cs, elem, fz, gr, hg, g3⟩ := cellsAt_inv g2 (by simp)
  obtain ⟨hgr, g4⟩ := ncond_inv g3 (by simp)
  obtain ⟨h0, g5⟩ := eqK_inv g4 (by simp)
  obtain ⟨hel, g6⟩ := eqK_inv g5 (by simp)
  obtain ⟨hln, g7⟩ := eqK_inv g6 (by simp)
  rw [lenX_eq] at hln
  cases g7
  subst hgr hel
  obtain ⟨l, hl, C, fz', hc⟩ := hw.objs _ _ hg (by simp)
  have hpl := hc.plain rfl
  have hxr := hf.ev hw hx
  rw [hp] at hxr
  generalize hxv : a.eval x = xv at hxr
  cases hxr with
  | ptr _ l' hl' hs' =>
    rw [hl] at hl'; cases hl'
    have hcell : X.P.cellsOf elem = i.size := by simp [Program.cellsOf, hi]
    have hoff : l.sh + ad.off = 0 := by omega
    have hva : (variablesAt ⟨l.blk, l.sh + ad.off, none⟩ elem 1).run X.P w = .ok true w := by
      simp only [variablesAt, Sem.run_bind, run_program, Result.andThen, run_shape, shape_of hc.there, Sem.run_pure]
      rw [lies_same X.P elem _ _ 1 (by rw [hcell]; exact hz) (by rw [hoff]; simp) (by
        rw [hoff, hcell, hpl.2.2, hln]; simp [Nat.div_self (Nat.pos_of_ne_zero hz)])]
    refine ⟨rfl, SimR.same (v' := .pointer (some ⟨l.blk, l.sh + ad.off, none⟩)) hw ?_ (.ptr _ _ hl hsp)⟩
    unfold execOp; rw [ho]
    simp [hxv, convert, run_underlying hs, run_underlying ht, Result.andThen, Conv.unsafePointer, seenAt_run X.P (ad := ⟨l.blk, l.sh + ad.off, none⟩) hc.there, sizeOf_run hi, hz, hva]

end
end Go.AM
namespace Go.AM
variable {X : Ctx}

section
variable {ι : Inj} {fr fr' : AFr} {a : Act} {nt : Nat} {st st' : St} {w : World} {o : Oper} {v : Value} {call : CallT}

theorem sim_cs2b {sT tT e : TypeId} {x : Operand} {i : TypeInfo} (hx : opdOk X.ng x = true) (ho : o.op = .convert sT tT x) (hs : X.P.underlying sT = some .string) (ht : X.P.underlying tT = some (.slice e)) (he : X.P.underlying e = some (.int .u8))
    (hi : X.P.info? e = some i) (hz : i.size = 1) (hf : FRel ι fr a nt) (hw : WRel X ι st w) (h : op_cs2b e x call fr st = .ok v fr' st') : fr' = fr ∧ SimA X ι w v st st' (execOp a.eval o) := by
  obtain ⟨s, hp, g1⟩ := vString_inv h (by simp)
  obtain ⟨hle, g2⟩ := leK_inv g1 (by simp)
  rw [newK_eq] at g2
  simp only [lenX_eq] at hle g2
  cases g2
  have hxr := hf.ev hw hx
  rw [hp] at hxr
  generalize hxv : a.eval x = xv at hxr
  cases hxr
  have hsz : s.size = s.data.toList.length := (Array.length_toList (xs := s.data)).symm
  let q : Question := .appendCap s.size 0 e
  have hcap : s.size ≤ q.cut (w.tape w.drawn q) := by show s.size ≤ s.size + _; omega
  let C : Array Value := (s.data.map fun b => Value.int .u8 b.toNat) ++ Array.replicate (q.cut (w.tape w.drawn q) - s.size) (.int .u8 0)
  have hCl : C.size = q.cut (w.tape w.drawn q) := by
    simp only [C, Array.size_append, Array.size_map, Array.size_replicate]
    have : s.data.size = s.size := rfl
    omega
  have hcell : X.P.cellsOf e = 1 := by simp [Program.cellsOf, hi, hz]
  let w' : World := { w with drawn := w.drawn + 1, heap := w.heap.push (.cells C e (C.size, C.size + 1)) }
  have hrun : (execOp a.eval o).run X.P w = .ok (.value (.slice (some ⟨w.heap.size, 0, none⟩) s.size (q.cut (w.tape w.drawn q)))) w' := by
    unfold execOp; rw [ho]
    have hmk : (markStringish ⟨w.heap.size, 0, none⟩).run X.P { w with drawn := w.drawn + 1, heap := w.heap.push (.cells C e) } = .ok () w' := by
      simp [markStringish, World.shape?, World.freeze, Result.andThen, w']
      apply Array.ext_getElem?
      intro j
      rw [Array.getElem?_modify]
      by_cases hj : w.heap.size = j
      · subst hj; simp
      · rw [if_neg hj, Array.getElem?_push, Array.getElem?_push, if_neg (Ne.symm hj), if_neg (Ne.symm hj)]
    simp only [hxv, convert, Sem.run_bind, run_underlying hs, run_underlying ht, Result.andThen, run_underlying he, Conv.stringToBytes, run_choose, Question.forced, Bool.false_eq_true, if_false, newRow, run_newObj, Sem.run_pure]
    rw [hmk]
  obtain ⟨κ, k1, k2, k3, hκ⟩ := hw.newGrown e (cs := u8s s.data.toList) (cs' := u8s s.data.toList) (u8s_rel ι _) (List.replicate (q.cut (w.tape w.drawn q) - s.size) (.int .u8 0)) (q.cut (w.tape w.drawn q) - s.size) (by
    rw [hcell]; simp) (C.size, C.size + 1) (fun j hj => by
      rw [u8s_eq] at hj
      simp only [List.length_map, List.length_replicate] at hj
      simp only
      omega) w' (by
      show w.heap.push (.cells C e (C.size, C.size + 1)) = _
      congr 2
      apply Array.ext'
      rw [u8s_eq]
      simp [C])
  rw [hκ] at k1 k2 k3
  refine ⟨rfl, _, _, _, _, w', rfl, by simp, hrun, rfl, ?_, k1, k2⟩
  have := VRel.slc (ι := extI ι st.nx ⟨w.heap.size, 0, q.cut (w.tape w.drawn q) - s.size, id⟩) ⟨st.nx, 0, none⟩ ⟨w.heap.size, 0, q.cut (w.tape w.drawn q) - s.size, id⟩ 0 s.data.toList.length s.data.toList.length k3 rfl (.inl rfl)
  rw [← hsz] at this ⊢
  rw [show s.size + (q.cut (w.tape w.drawn q) - s.size) = q.cut (w.tape w.drawn q) by omega] at this
  exact this

theorem loadBytes_run (P : Program) (w : World) (b : Nat) (C : Array Value) (e : TypeId) (fz : Nat × Nat) (h : w.heap[b]? = some (.cells C e fz)) : ∀ (ns : List Int) (o : Nat) (acc : ByteArray), (C.toList.drop o).take ns.length = ns.map (Value.int .u8) →
    (loadBytes ⟨b, o, none⟩ acc ns.length).run P w = .ok ⟨⟨acc.data.toList ++ ns.map (fun n => UInt8.ofNat n.toNat)⟩⟩ w
  | [], o, acc, _ => by simp [loadBytes]
  | n :: ns, o, acc, hc => by
    have hget : C[o]? = some (.int .u8 n) := by
      have := congrArg (fun l => l[0]?) hc
      simpa using this
    have hlt : o < C.toList.length := by
      have := (Array.getElem?_eq_some_iff.1 hget).1; simpa using this
    have htl : (C.toList.drop (o + 1)).take ns.length = ns.map (Value.int .u8) := by
      rw [List.drop_eq_getElem_cons hlt] at hc
      simp only [List.length_cons, List.take_succ_cons, List.map_cons] at hc
      exact (List.cons.inj hc).2
    simp only [List.length_cons, loadBytes, Sem.run_bind, run_load, cell_of h, hget, Result.andThen, add_eq]
    rw [loadBytes_run P w b C e fz h ns (o + 1) _ htl]
    congr 1
    simp [ByteArray.data_push, Nat.toUInt8]

theorem sim_ustr {x y : Operand} {pT t2 e : TypeId} {i : TypeInfo} (hx : opdOk X.ng x = true) (hy : opdOk X.ng y = true) (ho : o.op = .call { callee := .builtin .unsafeString, args := #[x, y], argTypes := #[pT, t2] }) (hp' : X.P.underlying pT = some (.pointer e))
    (hi : X.P.info? e = some i) (hz : i.size = 1) (hf : FRel ι fr a nt) (hw : WRel X ι st w) (h : op_ustr e x y call fr st = .ok v fr' st') : fr' = fr ∧ Sim X ι w v st' (execOp a.eval o) := by
  obtain ⟨p, hp, g1⟩ := vPointer_inv h (by simp)
  obtain ⟨k, n0, hn, g2⟩ := vInt_inv g1 (by simp)
  obtain ⟨n, e1, g3⟩ := natK_inv g2 (by simp)
  clear h g1 g2
  subst e1
  have hxr := hf.ev hw hx
  rw [hp] at hxr
  generalize hxv : a.eval x = xv at hxr
  have hyr := hf.ev hw hy
  rw [hn] at hyr
  generalize hyv : a.eval y = yv at hyr
  cases hyr
  have hcell : X.P.cellsOf e = 1 := by simp [Program.cellsOf, hi, hz]
  have hx2 : ∀ {v' : Value} {w' : World}, (Builtin.unsafeString_ #[pT, t2] o.type #[a.eval x, a.eval y]).run X.P w = .ok v' w' → (execOp a.eval o).run X.P w = .ok (.value v') w' := by
    intro v' w' hr
    unfold execOp; rw [ho]
    simp only [resolve, List.map_toArray, List.map_cons, List.map_nil, Sem.run_bind, Sem.run_pure, Result.andThen, invoke, builtin, hr]
  rw [hxv, hyv] at hx2
  have hneg : ¬ ((n : Int) < 0) := by omega
  have husp : ∀ p : Option Addr, ∃ (m1 : String) (m2 : RuntimeError) (m3 : Unsupported) (m4 : RuntimeError) (m5 : Unsupported), Builtin.unsafeString_ #[pT, t2] o.type #[.pointer p, .int k (n : Int)] = (do
      let r ← asInt (.int k (n : Int))
      let some e := (#[pT, t2] : Array TypeId)[0]? | stuck m1
      if r < 0 then runtimePanic m2
      if r > IntKind.i64.max then unsupported m3
      match p with
      | none => if r = 0 then pure (.string .empty) else runtimePanic m4
      | some q => if r = 0 then pure (.string .empty) else if ← variablesAt q (← elemOf e) r.toNat then do let s ← loadBytes q .empty r.toNat; freeze q r.toNat; pure (.string s) else unsupported m5) := fun p => ⟨default, _, _, _, _, rfl⟩
  rw [eqK_eq] at g3
  split at g3
  · rename_i h0
    subst h0
    cases g3
    have hmx : ¬ (((0 : Nat) : Int) > IntKind.i64.max) := by decide
    cases hxr with
    | ptrNil =>
      refine ⟨rfl, Sim.same (v' := .string .empty) hw (hx2 ?_) (.string _)⟩
      obtain ⟨m1, m2, m3, m4, m5, hu⟩ := husp _
      rw [hu]
      simp [asInt, asIntOf]
    | ptr ad l hl hs =>
      refine ⟨rfl, Sim.same (v' := .string .empty) hw (hx2 ?_) (.string _)⟩
      obtain ⟨m1, m2, m3, m4, m5, hu⟩ := husp _
      rw [hu]
      simp [asInt, asIntOf]
  · rename_i h0
    obtain ⟨ad, e1, g4⟩ := oK_inv g3 (by simp)
    subst e1
    obtain ⟨hlim, g5⟩ := leK_inv g4 (by simp)
    obtain ⟨hsp, cs, el, fz, gr, hg, g6⟩ := cellsAt_inv g5 (by simp)
    obtain ⟨hfz, g7⟩ := leK_inv g6 (by simp)
    obtain ⟨hel, g8⟩ := eqK_inv g7 (by simp)
    obtain ⟨hlen, g9⟩ := cutK_inv g8 (by simp)
    obtain ⟨bs, hb, g10⟩ := oK_inv g9 (by simp)
    rw [setO_eq] at g10
    cases g10
    clear g3 g4 g5 g6 g7 g8 g9
    subst hel
    obtain ⟨l, hl, C, fz', hc⟩ := hw.objs _ _ hg (by simp)
    have hroom := hc.room
    obtain ⟨ns, e1, e2⟩ := bytesOf_inv hb
    have hlim' : n ≤ 1099511627776 := hlim
    rw [List.length_drop] at hlen
    cases hxr with
    | ptr _ l' hl' hs' =>
      rw [hl] at hl'; cases hl'
      have hrow := hc.row ad.off n (by rw [List.length_drop]; exact hlen)
      have hcs : (C.toList.drop (l.sh + ad.off)).take n = ns.map (Value.int .u8) := by
        rw [e1] at hrow
        have key : ∀ (ns : List Int) (ys : List Value), VRels ι (ns.map (Value.int .u8)) ys → ys = ns.map (Value.int .u8) := by
          intro ns
          induction ns with
          | nil => intro ys hy; rw [hy.nil_inv]; rfl
          | cons m ms ih =>
            intro ys hy
            obtain ⟨y, ys', rfl, h1, h2⟩ := hy.cons_inv
            cases h1
            rw [ih ys' h2]; rfl
        exact key ns _ hrow
      have hnl : ns.length = n := by
        have := congrArg List.length e1
        simp at this; omega
      have hld := loadBytes_run X.P w l.blk C el fz' hc.there ns (l.sh + ad.off) .empty (by rw [hnl]; exact hcs)
      rw [hnl] at hld
      have hva : (variablesAt ⟨l.blk, l.sh + ad.off, none⟩ el n).run X.P w = .ok true w := by
        simp only [variablesAt, Sem.run_bind, run_program, Result.andThen, run_shape, shape_of hc.there, Sem.run_pure]
        rw [lies_same X.P el _ _ n (by rw [hcell]; omega) (by rw [hcell]; omega) (by rw [hcell]; simp; omega)]
      have hb' := (Array.getElem?_eq_some_iff.1 hc.there).1
      let fz2 : Nat × Nat := if fz'.1 == fz'.2 then (l.sh + ad.off, l.sh + ad.off + n) else (min fz'.1 (l.sh + ad.off), max fz'.2 (l.sh + ad.off + n))
      have hfr : (w.freeze ⟨l.blk, l.sh + ad.off, none⟩ n).heap = w.heap.setIfInBounds l.blk (.cells C el fz2) := by
        simp only [World.freeze, if_neg h0]
        apply Array.ext_getElem?
        intro j
        rw [Array.getElem?_modify]
        by_cases ej : l.blk = j
        · subst ej; rw [if_pos rfl, hc.there, Array.getElem?_setIfInBounds]; simp [hb', fz2]
        · rw [if_neg ej, Array.getElem?_setIfInBounds_ne ej]
      obtain ⟨t1, t2⟩ := WRel.turn X hw hg (by simp) (fun hf => by have := hf.2; omega) hl (.cells cs el (ad.off, Nat.add ad.off n) gr) _ (w.freeze ⟨l.blk, l.sh + ad.off, none⟩ n) hfr (fun _ ht => ⟨C, fz2, ⟨ht, hc.room, hc.cell, fun hw' => by
        exfalso
        have : ad.off + n ≤ ad.off := hw'
        omega, hc.plain⟩⟩) (by constructor <;> simp only [World.freeze, if_neg h0])
      refine ⟨rfl, ι, .value (.string ⟨⟨bs⟩⟩), _, hx2 ?_, .inl ⟨_, rfl, .string _⟩, t1, t2⟩
      obtain ⟨m1, m2, m3, m4, m5, hu⟩ := husp _
      rw [hu]
      have h3 : ¬ ((n : Int) > IntKind.i64.max) := by
        have : IntKind.i64.max = 9223372036854775807 := by decide
        rw [this]; omega
      have h4 : ¬ ((n : Int) = 0) := by omega
      simp only [asInt, asIntOf, Sem.run_bind, Sem.run_pure, Result.andThen, List.getElem?_toArray, List.getElem?_cons_zero, if_neg hneg, if_neg h3, if_neg h4, elemOf, run_underlying hp', hva, Int.toNat_natCast, if_true, hld, run_freeze]
      rw [e2]
      simp
end
end Go.AM
namespace Go.AM
variable {X : Ctx}

section
variable {ι : Inj} {fr fr' : AFr} {a : Act} {nt : Nat} {st st' : St} {w : World} {o : Oper} {v : Value} {call : CallT}

def isConstO : Operand → Bool
  | .const _ => true
  | _ => false

theorem eq_depth : Op.maxDepth = 9999 + 1 := rfl

/-- How '==' and '!=' run, once both values are known to be no numbers and no strings. -/
theorem exec_eq {neg : Bool} {t yt : TypeId} {x y : Operand} {b : Bool} (ho : o.op = .binOp (if neg then .neq else .eql) t x y yt)
    (hg : (eqGuard (if neg then .neq else .eql) t x y (a.eval x) (a.eval y)).run X.P w = .ok () w)
    (hb : ∀ op : BinOp, op = .eql ∨ op = .neq → binOp op t (a.eval x) (a.eval y) = (if op = .eql then do pure (.bool (← Op.equal t (a.eval x) (a.eval y))) else do pure (.bool (!(← Op.equal t (a.eval x) (a.eval y))))))
    (he : (Op.equal t (a.eval x) (a.eval y)).run X.P w = .ok b w) : (execOp a.eval o).run X.P w = .ok (.value (.bool (cond neg (!b) b))) w := by
  unfold execOp; rw [ho]
  simp only [Sem.run_bind, hg, Result.andThen]
  cases neg
  · simp only [Bool.false_eq_true, if_false]
    rw [hb .eql (.inl rfl), if_pos rfl]
    simp [he, Result.andThen]
  · simp only [if_true]
    rw [hb .neq (.inr rfl), if_neg (by simp)]
    simp [he, Result.andThen]

theorem eqIn_bool {P : Program} {t : TypeId} (hu : P.underlying t = some .bool) (d : Nat) (x y : Bool) : (Op.equalIn (d + 1) t (.bool x) (.bool y)).run P w = .ok (x == y) w := by
  simp [Op.equalIn, run_underlying hu, Result.andThen]

theorem sim_eqB {neg : Bool} {t yt : TypeId} {x y : Operand} (hx : opdOk X.ng x = true) (hy : opdOk X.ng y = true) (ho : o.op = .binOp (if neg then .neq else .eql) t x y yt) (hu : X.P.underlying t = some .bool)
    (hf : FRel ι fr a nt) (hw : WRel X ι st w) {bx by_ b : Bool} (e1 : fr.ev x = .bool bx) (e2 : fr.ev y = .bool by_) (hb : b = (bx == by_)) (h : OR.ok (.bool (cond neg (!b) b)) fr st = OR.ok v fr' st') :
    fr' = fr ∧ SimR X ι w v st st' (execOp a.eval o) := by
  obtain ⟨g1, g2, g3⟩ := ok_inj h
  subst g1 g2 g3
  have hxr := hf.ev hw hx
  rw [e1] at hxr
  generalize hxv : a.eval x = xv at hxr
  have hyr := hf.ev hw hy
  rw [e2] at hyr
  generalize hyv : a.eval y = yv at hyr
  cases hxr; cases hyr
  refine ⟨rfl, SimR.same (v' := .bool (cond neg (!b) b)) hw (exec_eq ho ?_ ?_ ?_) (.bool _)⟩
  · rw [hxv, hyv]; cases neg <;> simp [eqGuard]
  · rw [hxv, hyv]; intro op hop; rcases hop with rfl | rfl <;> rfl
  · rw [hxv, hyv, hb]; exact eqIn_bool hu 9999 bx by_

theorem eqNilS_in {x y x' y' : Value} {b : Bool} {t e : TypeId} (n : Nat) (hx : VRel ι x x') (hy : VRel ι y y') (h : eqNilS x y = some b) (hu : X.P.underlying t = some (.slice e)) :
    (Op.equalIn (n + 1) t x' y').run X.P w = .ok b w := by
  unfold eqNilS at h
  split at h
  · cases h; cases hx; cases hy <;> simp [Op.equalIn, run_underlying hu, Result.andThen]
  · cases h; cases hx; cases hy; simp [Op.equalIn, run_underlying hu, Result.andThen]
  · cases h
theorem eqNilM_in {x y x' y' : Value} {b : Bool} {t k e : TypeId} (n : Nat) (hx : VRel ι x x') (hy : VRel ι y y') (h : eqNilM x y = some b) (hu : X.P.underlying t = some (.map k e)) :
    (Op.equalIn (n + 1) t x' y').run X.P w = .ok b w := by
  unfold eqNilM at h
  split at h
  · cases h; cases hx; cases hy <;> simp [Op.equalIn, run_underlying hu, Result.andThen]
  · cases h; cases hx; cases hy; simp [Op.equalIn, run_underlying hu, Result.andThen]
  · cases h
theorem eqNilF_in {x y x' y' : Value} {b : Bool} {t : TypeId} {p q : Array TypeId} {r : Bool} (n : Nat) (hx : VRel ι x x') (hy : VRel ι y y') (h : eqNilF x y = some b) (hu : X.P.underlying t = some (.func p q r)) :
    (Op.equalIn (n + 1) t x' y').run X.P w = .ok b w := by
  unfold eqNilF at h
  split at h
  · cases h; cases hx; cases hy; simp [Op.equalIn, run_underlying hu, Result.andThen]
  · cases h; cases hx; cases hy; simp [Op.equalIn, run_underlying hu, Result.andThen]
  · cases h; cases hx; cases hy; simp [Op.equalIn, run_underlying hu, Result.andThen]
  · cases h
theorem eqNilI_in {x y x' y' : Value} {b : Bool} {t : TypeId} {ms : Array (String × TypeId)} (n : Nat) (hx : VRel ι x x') (hy : VRel ι y y') (h : eqNilI x y = some b) (hu : X.P.underlying t = some (.interface ms)) :
    (Op.equalIn (n + 1) t x' y').run X.P w = .ok b w := by
  unfold eqNilI at h
  split at h
  · cases h; cases hx; cases hy; simp [Op.equalIn, run_underlying hu, Result.andThen]
  · cases h; cases hx; cases hy; simp [Op.equalIn, run_underlying hu, Result.andThen]
  · cases h; cases hx; cases hy; simp [Op.equalIn, run_underlying hu, Result.andThen]
  · cases h

theorem eqPtr_in {x y x' y' : Value} {b : Bool} {t e : TypeId} {i : TypeInfo} (n : Nat) (hx : VRel ι x x') (hy : VRel ι y y') (h : eqPtr x y = some b) (hu : X.P.underlying t = some (.pointer e)) (hi : X.P.info? e = some i) (hz : i.size ≠ 0) :
    (Op.equalIn (n + 1) t x' y').run X.P w = .ok b w := by
  unfold eqPtr at h
  split at h
  · cases h; cases hx; cases hy <;> simp [Op.equalIn, run_underlying hu, Result.andThen]
  · cases h; cases hx; cases hy; simp [Op.equalIn, run_underlying hu, Result.andThen]
  · split at h
    · rename_i p q hc
      cases h
      cases hx with
      | ptr _ l hl hs =>
        cases hy with
        | ptr _ l2 hl2 hs2 =>
          rw [hc.1, hl2] at hl; cases hl
          simp [Op.equalIn, run_underlying hu, sizeOf_run hi, hz, sameAddr, Result.andThen]
          rw [Bool.eq_iff_iff]; simp
    · cases h
  · cases h

/-- What a translation of '==' must meet. -/
inductive EqvOk (P : Program) (t : TypeId) (x y : Operand) : EqT → Prop
  | prim (h : P.underlying t = some .bool) : EqvOk P t x y .prim
  | nilS (e : TypeId) (h : P.underlying t = some (.slice e)) : EqvOk P t x y .nilS
  | nilM (k e : TypeId) (h : P.underlying t = some (.map k e)) : EqvOk P t x y .nilM
  | nilF (p q : Array TypeId) (r : Bool) (h : P.underlying t = some (.func p q r)) : EqvOk P t x y .nilF
  | nilI (ms : Array (String × TypeId)) (h : P.underlying t = some (.interface ms)) (hc : isConstO x = true ∨ isConstO y = true) : EqvOk P t x y .nilI
  | ptr (e : TypeId) (i : TypeInfo) (h : P.underlying t = some (.pointer e)) (hi : P.info? e = some i) (hz : i.size ≠ 0) : EqvOk P t x y .ptr

theorem eqGuard_nil (P : Program) (op : BinOp) (t : TypeId) (x y : Operand) (hc : isConstO x = true ∨ isConstO y = true) : (eqGuard op t x y .nilIface .nilIface).run P w = .ok () w := by
  rcases hc with hc | hc
  · cases x <;> simp [isConstO] at hc
    cases op <;> simp [eqGuard]
  · cases y <;> simp [isConstO] at hc
    cases op <;> cases x <;> simp [eqGuard]

theorem sim_eqv {neg : Bool} {e : EqT} {t yt : TypeId} {x y : Operand} (hx : opdOk X.ng x = true) (hy : opdOk X.ng y = true) (ho : o.op = .binOp (if neg then .neq else .eql) t x y yt) (hok : EqvOk X.P t x y e)
    (hf : FRel ι fr a nt) (hw : WRel X ι st w) (h : op_eqv neg e x y call fr st = .ok v fr' st') : fr' = fr ∧ SimR X ι w v st st' (execOp a.eval o) := by
  obtain ⟨b, hb, g⟩ := oK_inv h (by simp)
  have hxr := hf.ev hw hx
  have hyr := hf.ev hw hy
  obtain ⟨e1, e2, e3⟩ := ok_inj g
  subst e1 e2 e3
  clear g h
  generalize hxv : a.eval x = xv at hxr
  generalize hyv : a.eval y = yv at hyr
  have key : ∀ (_ : (Op.equal t xv yv).run X.P w = .ok b w) (_ : (eqGuard (if neg then .neq else .eql) t x y xv yv).run X.P w = .ok () w)
      (_ : ∀ op : BinOp, op = .eql ∨ op = .neq → binOp op t xv yv = (if op = .eql then do pure (.bool (← Op.equal t xv yv)) else do pure (.bool (!(← Op.equal t xv yv))))),
      fr = fr ∧ SimR X ι w (.bool (cond neg (!b) b)) st st (execOp a.eval o) := by
    intro h1 h2 h3
    exact ⟨rfl, SimR.same (v' := .bool (cond neg (!b) b)) hw (exec_eq ho (by rw [hxv, hyv]; exact h2) (by rw [hxv, hyv]; exact h3) (by rw [hxv, hyv]; exact h1)) (.bool _)⟩
  cases hok with
  | prim hu =>
    have hb' : eqPrim (fr.ev x) (fr.ev y) = some b := hb
    generalize fr.ev x = fx at hb' hxr
    generalize fr.ev y = fy at hb' hyr
    unfold eqPrim at hb'
    split at hb'
    · cases hb'; cases hxr; cases hyr
      exact key (eqIn_bool hu 9999 _ _) (by cases neg <;> simp [eqGuard]) (by intro op hop; rcases hop with rfl | rfl <;> rfl)
    · split at hb'
      · cases hb'; cases hxr; cases hyr
        rename_i k1 n1 k2 n2 hk
        subst hk
        refine ⟨rfl, SimR.same (v' := .bool (cond neg (!(n1 == n2)) (n1 == n2))) hw ?_ (.bool _)⟩
        unfold execOp; rw [ho]
        cases neg <;> simp [hxv, hyv, eqGuard, binOp, Op.intCmp] <;> rfl
      · cases hb'
    · cases hb'; cases hxr; cases hyr
      rename_i s1 s2
      refine ⟨rfl, SimR.same (v' := .bool (cond neg (!(s1.data.toList == s2.data.toList)) (s1.data.toList == s2.data.toList))) hw ?_ (.bool _)⟩
      unfold execOp; rw [ho]
      cases neg <;> simp only [hxv, hyv, Sem.run_bind, Bool.false_eq_true, if_false, if_true, eqGuard_str, Result.andThen, binOp, Op.stringOp, toList_eq] <;> rfl
    · cases hb'
  | nilS e hu =>
    have hb' : eqNilS (fr.ev x) (fr.ev y) = some b := hb
    have h1 := eqNilS_in (w := w) 9999 hxr hyr hb' hu
    generalize fr.ev x = fx at hb' hxr
    generalize fr.ev y = fy at hb' hyr
    unfold eqNilS at hb'
    split at hb' <;> first | (cases hb'; done) | (cases hb'; cases hxr; cases hyr <;> exact key h1 (by cases neg <;> simp [eqGuard]) (by intro op hop; rcases hop with rfl | rfl <;> rfl))
  | nilM k e hu =>
    have hb' : eqNilM (fr.ev x) (fr.ev y) = some b := hb
    have h1 := eqNilM_in (w := w) 9999 hxr hyr hb' hu
    generalize fr.ev x = fx at hb' hxr
    generalize fr.ev y = fy at hb' hyr
    unfold eqNilM at hb'
    split at hb' <;> first | (cases hb'; done) | (cases hb'; cases hxr; cases hyr <;> exact key h1 (by cases neg <;> simp [eqGuard]) (by intro op hop; rcases hop with rfl | rfl <;> rfl))
  | nilF p q r hu =>
    have hb' : eqNilF (fr.ev x) (fr.ev y) = some b := hb
    have h1 := eqNilF_in (w := w) 9999 hxr hyr hb' hu
    generalize fr.ev x = fx at hb' hxr
    generalize fr.ev y = fy at hb' hyr
    unfold eqNilF at hb'
    split at hb' <;> first | (cases hb'; done) | (cases hb'; cases hxr; cases hyr; exact key h1 (by cases neg <;> simp [eqGuard]) (by intro op hop; rcases hop with rfl | rfl <;> rfl))
  | nilI ms hu hc =>
    have hb' : eqNilI (fr.ev x) (fr.ev y) = some b := hb
    have h1 := eqNilI_in (w := w) 9999 hxr hyr hb' hu
    generalize fr.ev x = fx at hb' hxr
    generalize fr.ev y = fy at hb' hyr
    unfold eqNilI at hb'
    split at hb'
    · cases hb'; cases hxr; cases hyr
      exact key h1 (eqGuard_nil X.P _ t x y hc) (by intro op hop; rcases hop with rfl | rfl <;> rfl)
    · cases hb'; cases hxr; cases hyr
      exact key h1 (by cases neg <;> simp [eqGuard]) (by intro op hop; rcases hop with rfl | rfl <;> rfl)
    · cases hb'; cases hxr; cases hyr
      exact key h1 (by cases neg <;> simp [eqGuard]) (by intro op hop; rcases hop with rfl | rfl <;> rfl)
    · cases hb'
  | ptr e i hu hi hz =>
    have hb' : eqPtr (fr.ev x) (fr.ev y) = some b := hb
    have h1 := eqPtr_in (w := w) 9999 hxr hyr hb' hu hi hz
    generalize fr.ev x = fx at hb' hxr
    generalize fr.ev y = fy at hb' hyr
    unfold eqPtr at hb'
    split at hb'
    · cases hb'; cases hxr; cases hyr <;> exact key h1 (by cases neg <;> simp [eqGuard]) (by intro op hop; rcases hop with rfl | rfl <;> rfl)
    · cases hb'; cases hxr; cases hyr; exact key h1 (by cases neg <;> simp [eqGuard]) (by intro op hop; rcases hop with rfl | rfl <;> rfl)
    · cases hxr; cases hyr; exact key h1 (by cases neg <;> simp [eqGuard]) (by intro op hop; rcases hop with rfl | rfl <;> rfl)
    · cases hb'

end
end Go.AM
namespace Go.AM

def opdEq : Operand → Operand → Bool
  | .tmp a, .tmp b => Nat.beq a b
  | .const v, .const w => veq v w
  | .global a, .global b => Nat.beq a b
  | .func a, .func b => Nat.beq a b
  | _, _ => false
theorem opdEq_eq {a b : Operand} (h : opdEq a b = true) : a = b := by
  cases a <;> cases b <;> simp only [opdEq] at h <;> first | (cases h; done) | (rw [Nat.eq_of_beq_eq_true h]) | (rw [veq_eq _ _ h])

/-- The same operand, and one that a translation may have. -/
def opdIs (ng : Nat) (a b : Operand) : Bool := opdEq a b && opdOk ng b
theorem opdIs_eq {ng : Nat} {a b : Operand} (h : opdIs ng a b = true) : a = b ∧ opdOk ng b = true := by
  unfold opdIs at h; rw [Bool.and_eq_true] at h; exact ⟨opdEq_eq h.1, h.2⟩

def opdsIs (ng : Nat) : List Operand → List Operand → Bool
  | [], [] => true
  | a :: as, b :: bs => opdIs ng a b && opdsIs ng as bs
  | _, _ => false
theorem opdsIs_eq {ng : Nat} : ∀ {as bs : List Operand}, opdsIs ng as bs = true → as = bs ∧ ∀ x ∈ bs, opdOk ng x = true
  | [], [], _ => ⟨rfl, by simp⟩
  | a :: as, b :: bs, h => by
    simp only [opdsIs, Bool.and_eq_true] at h
    obtain ⟨h1, h2⟩ := opdIs_eq h.1
    obtain ⟨h3, h4⟩ := opdsIs_eq h.2
    exact ⟨by rw [h1, h3], fun x hx => by rcases List.mem_cons.1 hx with rfl | hx; exact h2; exact h4 x hx⟩
  | [], _ :: _, h => by simp [opdsIs] at h
  | _ :: _, [], h => by simp [opdsIs] at h

def opdIs? (ng : Nat) : Option Operand → Option Operand → Bool
  | none, none => true
  | some a, some b => opdIs ng a b
  | _, _ => false
theorem opdIs?_eq {ng : Nat} {a b : Option Operand} (h : opdIs? ng a b = true) : a = b ∧ ∀ y, b = some y → opdOk ng y = true := by
  cases a <;> cases b <;> simp only [opdIs?] at h <;> first | (cases h; done) | skip
  · exact ⟨rfl, by simp⟩
  · obtain ⟨h1, h2⟩ := opdIs_eq h; exact ⟨by rw [h1], fun y hy => by cases hy; exact h2⟩

/-- Parts of a composite literal: the places as a function gives them. -/
def partsIs (ng : Nat) (place : Nat → Option (Nat × Nat)) : List (Nat × Nat × Operand) → List (Nat × Operand) → Bool
  | [], [] => true
  | (off, sz, x) :: ps, (i, y) :: qs =>
    (match place i with
      | some (o, s) => Nat.beq off o && Nat.beq sz s
      | none => false) && opdIs ng x y && partsIs ng place ps qs
  | _, _ => false
theorem partsIs_eq {ng : Nat} {place : Nat → Option (Nat × Nat)} : ∀ {ps : List (Nat × Nat × Operand)} {qs : List (Nat × Operand)}, partsIs ng place ps qs = true →
    ps = qs.map (fun p => (((place p.1).getD (0, 0)).1, ((place p.1).getD (0, 0)).2, p.2)) ∧ ∀ p ∈ qs, (place p.1).isSome ∧ opdOk ng p.2 = true
  | [], [], _ => ⟨rfl, by simp⟩
  | (off, sz, x) :: ps, (i, y) :: qs, h => by
    simp only [partsIs, Bool.and_eq_true] at h
    obtain ⟨⟨h1, h2⟩, h3⟩ := h
    obtain ⟨e1, e2⟩ := opdIs_eq h2
    obtain ⟨f1, f2⟩ := partsIs_eq h3
    cases hp : place i with
    | none => rw [hp] at h1; cases h1
    | some q =>
      obtain ⟨o, s⟩ := q
      rw [hp] at h1
      simp only [Bool.and_eq_true] at h1
      have a1 := Nat.eq_of_beq_eq_true h1.1
      have a2 := Nat.eq_of_beq_eq_true h1.2
      refine ⟨by rw [f1, e1, a1, a2]; simp [hp], fun p hp' => ?_⟩
      rcases List.mem_cons.1 hp' with rfl | hp'
      · exact ⟨by simp [hp], e2⟩
      · exact f2 p hp'
  | [], _ :: _, h => by simp [partsIs] at h
  | _ :: _, [], h => by simp [partsIs] at h

section
variable (P : Program) (ng : Nat) (noesc ibs : FuncId → Bool) (keys : TypeId → Option KS) (cntf : FuncId → Bool) (eqs : TypeId → Option Nat) (idxf : FuncId → Bool) (mlg : Nat)

def agT (t : TypeId) : Option Bool := (P.underlying t).map aggD
def szT (t : TypeId) : Option Nat := (P.info? t).map (·.size)
def zrT (t : TypeId) : Option Value := (P.info? t).bind (·.zero)

def eqvIs (t : TypeId) (e : EqT) (x y : Operand) : Bool :=
  match e, P.underlying t with
  | .prim, some .bool => true
  | .nilS, some (.slice _) => true
  | .nilM, some (.map _ _) => true
  | .nilF, some (.func _ _ _) => true
  | .nilI, some (.interface _) => isConstO x || isConstO y
  | .ptr, some (.pointer el) => match szT P el with
    | some n => !Nat.beq n 0
    | none => false
  | _, _ => false
theorem eqvIs_ok {t : TypeId} {e : EqT} {x y : Operand} (h : eqvIs P t e x y = true) : EqvOk P t x y e := by
  unfold eqvIs at h
  split at h
  · rename_i hu; exact .prim hu
  · rename_i hu; exact .nilS _ hu
  · rename_i hu; exact .nilM _ _ hu
  · rename_i hu; exact .nilF _ _ _ hu
  · rename_i hu; exact .nilI _ hu (by simpa using h)
  · rename_i hu
    split at h
    · rename_i n hn
      unfold szT at hn
      obtain ⟨i, hi, e⟩ := Option.map_eq_some_iff.1 hn
      refine .ptr _ i hu hi ?_
      intro hz
      rw [← e, hz] at h
      simp at h
    · cases h
  · cases h

def ksEq : KS → KS → Bool
  | .int k, .int k' => decide (k = k')
  | .str, .str => true
  | .arr k n, .arr k' n' => decide (k = k') && Nat.beq n n'
  | _, _ => false
def ksIs (t : TypeId) (ks : KS) : Bool :=
  match P.underlying t with
  | some (.map kt _) => (match keys kt with | some ks' => ksEq ks ks' | none => false)
  | _ => false

/-- Operations on maps, and a few more. -/
def yopOk (op : Op) (y : YOp) : Bool :=
  match y, op with
  | .look ks z ok m k, .lookup t m' k' ok' => opdIs ng m m' && opdIs ng k k' && (ok == ok') && ksIs P keys t ks &&
      (match P.underlying t with | some (.map _ e) => (match zrT P e with | some v => veq z v && vpure z | none => false) | _ => false)
  | .upd ks m k v, .mapUpdate t m' k' v' | .upd ks m k v, .insert t m' k' v' => opdIs ng m m' && opdIs ng k k' && opdIs ng v v' && ksIs P keys t ks
  | .del ks m k, .call { callee := .builtin .delete, args := ⟨[m', k']⟩, argTypes := ⟨[t, _]⟩ } => opdIs ng m m' && opdIs ng k k' && ksIs P keys t ks
  | .mlen m, .call { callee := .builtin .len, args := ⟨[m']⟩, argTypes := ⟨[t]⟩ } => opdIs ng m m' && (match P.underlying t with | some (.map _ _) => true | _ => false)
  | .mrng m, .range t m' => opdIs ng m m' && (match P.underlying t with | some (.map _ _) => true | _ => false)
  | .ment i, .entry i' => opdIs ng i i'
  | .nxt i, .next i' false => opdIs ng i i'
  | .cmpu gt a b, .binOp o' t a' b' _ => decide (o' = (if gt then .gtr else .leq)) && opdIs ng a a' && opdIs ng b b' && (match P.underlying t with | some (.int .i64) => true | _ => false)
  | .idxs g a c, .call { callee := .value (.func f), args := ⟨[b, d]⟩, .. } => opdIs ng a b && opdIs ng c d && idxf f && Nat.beq g mlg
  | .cnt a c, .call { callee := .value (.func f), args := ⟨[b, d]⟩, .. } => opdIs ng a b && opdIs ng c d && cntf f
  | .eqa neg n a b, .binOp o' t a' b' _ => decide (o' = (if neg then .neq else .eql)) && opdIs ng a a' && opdIs ng b b' && (match eqs t with | some n' => Nat.beq n n' | none => false)
  | _, _ => false

/-- One of the operations that are done in place. -/
def xopOk (op : Op) (x : XOp) : Bool :=
  match x, op with
  | .mv a, .move b | .mv a, .assign b => opdIs ng a b
  | .pick c a b, .pick c' a' b' => opdIs ng c c' && opdIs ng a a' && opdIs ng b b'
  | .alloc z e, .alloc t => Nat.beq e t && (match zrT P t with | some v => veqL z v.cells.toList && vpureL z | none => false)
  | .box e a, .box t b => Nat.beq e t && opdIs ng a b
  | .build z ps, .build t parts =>
    (match zrT P t with | some v => veqL z v.cells.toList && vpureL z | none => false) &&
    (match P.underlying t with
      | some (.struct fields) => fields.toList.all (fun f => (P.info? f.type).isSome) && partsIs ng (fun j => (fields.map fun f => (f.offset, P.cellsOf f.type))[j]?) ps parts.toList
      | some (.array _ e) => (match szT P e with | some s => partsIs ng (fun j => some (j * s, s)) ps parts.toList | none => false)
      | _ => false)
  | .bslice e n z ps, .buildSlice t m parts =>
    Nat.beq n m && (match P.underlying t with
      | some (.slice el) => Nat.beq e el && (match szT P el, zrT P el with
        | some s, some v => Nat.ble (m * s) (2 ^ 24) && veqL z ((List.range (m * s)).map (fun j => (if m * s = 0 then (#[] : Array Value) else v.cells)[j % (if m * s = 0 then (#[] : Array Value) else v.cells).size]!)) && vpureL z &&
          partsIs ng (fun j => some (j * s, s)) ps parts.toList
        | _, _ => false)
      | _ => false)
  | .load1 a, .load t b => opdIs ng a b && (match agT P t with | some g => !g | none => false)
  | .loadn n a, .load t b => opdIs ng a b && (match agT P t, szT P t with | some g, some s => g && Nat.beq n s | _, _ => false)
  | .store n a x, .store t b y => opdIs ng a b && opdIs ng x y && (match szT P t with | some s => Nat.beq n s | none => false)
  | .nilck a, .nilCheck b => opdIs ng a b
  | .bin o a b, .binOp o' _ a' b' _ => decide (o = o') && opdIs ng a a' && opdIs ng b b'
  | .eqv neg e a b, .binOp o' t a' b' _ => decide (o' = (if neg then .neq else .eql)) && opdIs ng a a' && opdIs ng b b' && eqvIs P t e a' b'
  | .un o a, .unOp o' _ b => decide (o = o') && opdIs ng a b
  | .cint k a, .convert s t b => opdIs ng a b && (match P.underlying s, P.underlying t with | some _, some (.int k') => decide (k = k') | _, _ => false)
  | .cid a, .convert s t b => opdIs ng a b && (match P.underlying s, P.underlying t with | some _, some .string => true | _, _ => false)
  | .cb2s a, .convert s t b => opdIs ng a b && (match P.underlying s, P.underlying t with | some (.slice e), some .string => (match P.underlying e with | some (.int .u8) => true | _ => false) | _, _ => false)
  | .cs2b e a, .convert s t b => opdIs ng a b && (match P.underlying s, P.underlying t with | some .string, some (.slice e') => Nat.beq e e' && (match P.underlying e', szT P e' with | some (.int .u8), some 1 => true | _, _ => false) | _, _ => false)
  | .mkif t a, .makeInterface t' b => Nat.beq t t' && opdIs ng a b && (match P.underlying t' with | some (.interface _) => false | some _ => true | none => false)
  | .mkfn (.func f) a c, .makeFunc (.func g) b d => Nat.beq f g && opdsIs ng a b.toList && opdsIs ng c d.toList
  | .mksl e bs z l c, .makeSlice t l' c' => opdIs ng l l' && opdIs ng c c' && (match P.underlying t with
      | some (.slice el) => Nat.beq e el && (match P.info? el with
        | some i => Nat.beq bs i.bytes && !Nat.beq i.size 0 && (match i.zero with | some v => veqL z v.cells.toList && vpureL z && Nat.beq v.cells.toList.length i.size | none => false)
        | none => false)
      | _ => false)
  | .slstr a lo hi, .slice t b lo' hi' none => opdIs ng a b && opdIs? ng lo lo' && opdIs? ng hi hi' && (match P.underlying t with | some .string => true | _ => false)
  | .slarr n s a lo hi mx, .slice t b lo' hi' mx' => opdIs ng a b && opdIs? ng lo lo' && opdIs? ng hi hi' && opdIs? ng mx mx' && (mx'.isNone || hi'.isSome) &&
      (match P.underlying t with | some (.array n' e) => Nat.beq n n' && (match szT P e with | some s' => Nat.beq s s' | none => false) | _ => false)
  | .slsl s a lo hi mx, .slice t b lo' hi' mx' => opdIs ng a b && opdIs? ng lo lo' && opdIs? ng hi hi' && opdIs? ng mx mx' && (mx'.isNone || hi'.isSome) &&
      (match P.underlying t with | some (.slice e) => (match szT P e with | some s' => Nat.beq s s' | none => false) | _ => false)
  | .faddr off a, .fieldAddr t b f => opdIs ng a b && (match P.underlying t with
      | some (.struct fields) => (match fields[f]? with | some fd => Nat.beq off fd.offset && (match szT P fd.type with | some s => !Nat.beq s 0 | none => false) | none => false)
      | _ => false)
  | .fld off sz ag a, .field t b f => opdIs ng a b && (match P.underlying t with
      | some (.struct fields) => (match fields[f]? with | some fd => Nat.beq off fd.offset && (match szT P fd.type, agT P fd.type with | some s, some g => Nat.beq sz s && (ag == g) | _, _ => false) | none => false)
      | _ => false)
  | .iaA n sz a i, .indexAddr t b j => opdIs ng a b && opdIs ng i j && (match P.underlying t with | some (.array n' e) => Nat.beq n n' && (match szT P e with | some s => Nat.beq sz s | none => false) | _ => false)
  | .iaS sz a i, .indexAddr t b j => opdIs ng a b && opdIs ng i j && (match P.underlying t with | some (.slice e) => (match szT P e with | some s => Nat.beq sz s | none => false) | _ => false)
  | .ixs a i, .index t b j => opdIs ng a b && opdIs ng i j && (match P.underlying t with | some .string => true | _ => false)
  | .ixa n sz ag a i, .index t b j => opdIs ng a b && opdIs ng i j && (match P.underlying t with | some (.array n' e) => Nat.beq n n' && (match szT P e, agT P e with | some s, some g => Nat.beq sz s && (ag == g) | _, _ => false) | _ => false)
  | .tas t z ok a, .typeAssert b _ t' ok' => opdIs ng a b && Nat.beq t t' && (ok == ok') && (match P.underlying t' with | some (.interface _) => false | some _ => true | none => false) && (match zrT P t' with | some v => veq z v && vpure z | none => false)
  | .extr a i, .extract b j => opdIs ng a b && Nat.beq i j
  | .call f as, .call { callee := .value g, args, .. } => opdIs ng f g && opdsIs ng as args.toList && (match g with | .func k => ((P.funcs[k]?).map (fun fn => fn.body.isSome && !(fn.name == "runtime.NumGoroutine"))).getD false | _ => true)
  | .lenS a, .call { callee := .builtin .len, args := ⟨[b]⟩, argTypes := ⟨[t]⟩ } => opdIs ng a b && (match P.underlying t with | some (.slice _) => true | _ => false)
  | .lenT a, .call { callee := .builtin .len, args := ⟨[b]⟩, argTypes := ⟨[t]⟩ } => opdIs ng a b && (match P.underlying t with | some .string => true | _ => false)
  | .lenC n, .call { callee := .builtin .len, args := ⟨[_]⟩, argTypes := ⟨[t]⟩ } => (match P.underlying t with | some (.array m _) => Nat.beq n m | some (.pointer u) => (match P.underlying u with | some (.array m _) => Nat.beq n m | _ => false) | _ => false)
  | .app e sz bs s a, .call { callee := .builtin .append, args := ⟨[s', b]⟩, argTypes := ⟨[t, u]⟩ } => opdIs ng s s' && opdIs ng a b && (match P.underlying t, P.underlying u with
      | some (.slice el), some d => Nat.beq e el && (match d with | .int _ => false | _ => true) && (match P.info? el with
        | some i => Nat.beq sz i.size && Nat.beq bs i.bytes && (match i.zero with | some v => Nat.beq v.cells.size i.size | none => false)
        | none => false)
      | _, _ => false)
  | .mx a as, .call { callee := .builtin .max, args := ⟨b :: bs⟩, .. } => opdIs ng a b && opdsIs ng as bs
  | .mn a as, .call { callee := .builtin .min, args := ⟨b :: bs⟩, .. } => opdIs ng a b && opdsIs ng as bs
  | .cpy sz d s, .call { callee := .builtin .copy, args := ⟨[d', s']⟩, argTypes := ⟨[t, _]⟩ } => opdIs ng d d' && opdIs ng s s' && (match P.underlying t with | some (.slice e) => (match szT P e with | some n => Nat.beq sz n | none => false) | _ => false)
  | .recov, .call { callee := .builtin .recover, args := ⟨[]⟩, .. } => true
  | .dfr f as, .defer { callee := .value g, args, .. } => opdIs ng f g && opdsIs ng as args.toList
  | .pnc a, .panic b => opdIs ng a b
  | .cpu a, .convert s t b => opdIs ng a b && (match P.underlying s, P.underlying t with | some (.pointer e), some .unsafePointer => (match szT P e with | some n => !Nat.beq n 0 | none => false) | _, _ => false)
  | .cup e n a, .convert s t b => opdIs ng a b && (match P.underlying s, P.underlying t with | some .unsafePointer, some (.pointer e') => Nat.beq e e' && (match szT P e' with | some m => Nat.beq n m && !Nat.beq m 0 | none => false) | _, _ => false)
  | .sdata a, .call { callee := .builtin .unsafeSliceData, args := ⟨[b]⟩, argTypes := ⟨[_]⟩ } => opdIs ng a b
  | .ustr e a n, .call { callee := .builtin .unsafeString, args := ⟨[b, m]⟩, argTypes := ⟨[t, _]⟩ } => opdIs ng a b && opdIs ng n m && (match P.underlying t with | some (.pointer e') => Nat.beq e e' && (match szT P e' with | some 1 => true | _ => false) | _ => false)
  | .ibs a c, .call { callee := .value (.func f), args := ⟨[b, d]⟩, .. } => opdIs ng a b && opdIs ng c d && ibs f
  | .noesc a, .call { callee := .value (.func f), args := ⟨[b]⟩, .. } => opdIs ng a b && noesc f
  | .mkmap, .makeMap _ none => true
  | .lenM _, _ => true
  | .ext y, op => yopOk P ng keys cntf eqs idxf mlg op y
  | .refuse, _ => true
  | _, _ => false
end
end Go.AM
namespace Go.AM
variable {X : Ctx}

section
variable {α β : Type} {r z : β}
theorem vMap_inv {v : Value} {k : Option Nat → β} (h : vMap v k z = r) (hz : z ≠ r) : ∃ p, v = .map p ∧ k p = r := by
  cases v <;> first | exact absurd h hz | exact ⟨_, rfl, h⟩
theorem mapK_inv {o : Option AObj} {k : List MapEntry → Nat → β} (h : mapK o k z = r) (hz : z ≠ r) : ∃ es c, o = some (.map es c) ∧ k es c = r := by
  unfold mapK at h
  obtain ⟨o, rfl, h⟩ := oK_inv h hz
  cases o <;> first | exact absurd h hz | exact ⟨_, _, rfl, h⟩
theorem iterK_inv {o : Option AObj} {k : Option Nat → Nat → List Nat → Nat → β} (h : iterK o k z = r) (hz : z ≠ r) : ∃ a b c d, o = some (.miter a b c d) ∧ k a b c d = r := by
  unfold iterK at h
  obtain ⟨o, rfl, h⟩ := oK_inv h hz
  cases o <;> first | exact absurd h hz | exact ⟨_, _, _, _, rfl, h⟩
end

theorem veq_iff (a b : Value) : veq a b = true ↔ a = b := ⟨veq_eq a b, fun h => h ▸ veq_refl a⟩

/-- Keys are what they stand for. -/
theorem KS.same {ι : Inj} {ks : KS} {v v' : Value} (h : ks.ok v = true) (hr : VRel ι v v') : v' = v := by
  cases ks with
  | int k =>
    obtain ⟨k', n, rfl, _⟩ := vInt_inv (v := v) (z := false) (r := true) h (by decide)
    cases hr; rfl
  | str =>
    obtain ⟨s, rfl, _⟩ := vString_inv (v := v) (z := false) (r := true) h (by decide)
    cases hr; rfl
  | arr k n =>
    obtain ⟨xs, rfl, h2⟩ := vAgg_inv (v := v) (z := false) (r := true) h (by decide)
    rw [Bool.and_eq_true, List.all_eq_true] at h2
    cases hr with
    | agg _ ys h1 hh =>
      congr 1
      apply Array.ext
      · exact h1.symm
      · intro i a b
        have hx := h2.2 xs[i] (by simp)
        obtain ⟨k', m, he, _⟩ := vInt_inv (v := xs[i]) (z := false) (r := true) hx (by decide)
        have := hh i b a
        rw [he] at this ⊢
        generalize ys[i] = y at this ⊢
        cases this; rfl

theorem uniq {es : List MapEntry} (h : es.Pairwise (fun a b => a.key ≠ b.key)) {a b : MapEntry} (ha : a ∈ es) (hb : b ∈ es) (e : a.key = b.key) : a = b := by
  induction es with
  | nil => cases ha
  | cons x xs ih =>
    rw [List.pairwise_cons] at h
    rcases List.mem_cons.1 ha with rfl | ha' <;> rcases List.mem_cons.1 hb with rfl | hb'
    · rfl
    · exact absurd e (h.1 b hb')
    · exact absurd e.symm (h.1 a ha')
    · exact ih h.2 ha' hb'

theorem mapFind_some {k : Value} {es : List MapEntry} {e : MapEntry} (h : mapFind k es = some e) : e ∈ es ∧ e.key = k := by
  unfold mapFind at h
  refine ⟨List.mem_of_find?_eq_some h, ?_⟩
  have := List.find?_some h
  exact (veq_eq _ _ this).symm
theorem mapFind_none {k : Value} {es : List MapEntry} (h : mapFind k es = none) : ∀ e ∈ es, e.key ≠ k := by
  intro e he ek
  unfold mapFind at h
  have := List.find?_eq_none.1 h e he
  rw [ek, veq_refl] at this
  exact this rfl

theorem keysB_mem {ks : KS} {es : List MapEntry} (h : keysB ks es = true) {e : MapEntry} (he : e ∈ es) : ks.ok e.key = true :=
  List.all_eq_true.1 h e he

/-- Where a key is found. -/
theorem MapRel.find {ι : Inj} {sg : Nat → Nat} {es : List MapEntry} {clock : Nat} {C : List MapEntry} {clock' : Nat} (h : MapRel ι sg es clock C clock') {kt : TypeId} {ks : KS} (hK : X.keys kt = some ks) {k : Value} (hk : ks.ok k = true) (he : keysB ks es = true) (w : World) :
    ((Instr.findKey kt k C).run X.P w = .ok none w ∧ mapFind k es = none ∧ ∀ c ∈ C, c.key ≠ k) ∨
    ∃ e j c, (Instr.findKey kt k C).run X.P w = .ok (some (j, c.val)) w ∧ C[j]? = some c ∧ c.key = k ∧ mapFind k es = some e ∧ e ∈ es ∧ e.key = k ∧ VRel ι e.val c.val ∧ c.born = sg e.born := by
  obtain ⟨K, hok⟩ := X.keysOk kt ks hK
  obtain ⟨l, hp, hlen, hl⟩ := h.same
  have hkey : ∀ (i : Nat) (a : i < l.length) (b : i < C.length), C[i].key = l[i].key := by
    intro i a b
    exact KS.same (keysB_mem he (hp.mem_iff.1 (List.getElem_mem a))) (hl i a b).1
  have hall : ∀ c ∈ C, ∃ l, keyOf X.P kt c.key = some l := by
    intro c hc
    obtain ⟨i, hi, rfl⟩ := List.getElem_of_mem hc
    have hi' : i < l.length := by omega
    rw [hkey i hi' hi]
    exact hok _ (keysB_mem he (hp.mem_iff.1 (List.getElem_mem hi')))
  obtain ⟨lx, hlx⟩ := hok k hk
  rcases K.find w hlx C hall with ⟨h1, h2⟩ | ⟨j, c, h1, h2, h3⟩
  · left
    refine ⟨h1, ?_, h2⟩
    cases hf : mapFind k es with
    | none => rfl
    | some e =>
      exfalso
      obtain ⟨m1, m2⟩ := mapFind_some hf
      obtain ⟨i, hi, hie⟩ := List.getElem_of_mem (hp.mem_iff.2 m1)
      have hi' : i < C.length := by omega
      exact h2 C[i] (List.getElem_mem hi') (by rw [hkey i hi hi', hie, m2])
  · right
    obtain ⟨hj, hjc⟩ := List.getElem?_eq_some_iff.1 h2
    have hj' : j < l.length := by omega
    have hlk : l[j].key = k := by rw [← hkey j hj' hj, hjc, h3]
    have hmem : l[j] ∈ es := hp.mem_iff.1 (List.getElem_mem hj')
    cases hf : mapFind k es with
    | none => exact absurd hlk (mapFind_none hf _ hmem)
    | some e =>
      obtain ⟨m1, m2⟩ := mapFind_some hf
      have : e = l[j] := uniq h.keys m1 hmem (by rw [m2, hlk])
      subst this
      have := hl j hj' hj
      rw [hjc] at this
      exact ⟨_, j, c, h1, h2, h3, rfl, hmem, hlk, this.2.1, this.2.2⟩

/-- A value is put at a key that is there. -/
theorem MapRel.put {ι : Inj} {sg : Nat → Nat} {es : List MapEntry} {clock : Nat} {C : List MapEntry} {clock' : Nat} (h : MapRel ι sg es clock C clock') {ks : KS} {k v v' : Value} (he : keysB ks es = true) {j : Nat} {c : MapEntry} (hj : C[j]? = some c) (hc : c.key = k) (hv : VRel ι v v') :
    MapRel ι sg (mapPut k v es) clock (C.set j { c with key := k, val := v' }) clock' := by
  obtain ⟨l, hp, hlen, hl⟩ := h.same
  have hF : ∀ e : MapEntry, (cond (veq k e.key) (⟨e.key, v, e.born⟩ : MapEntry) e).key = e.key := by
    intro e; cases veq k e.key <;> rfl
  have hB : ∀ e : MapEntry, (cond (veq k e.key) (⟨e.key, v, e.born⟩ : MapEntry) e).born = e.born := by
    intro e; cases veq k e.key <;> rfl
  have hkey : ∀ (i : Nat) (a : i < l.length) (b : i < C.length), C[i].key = l[i].key := by
    intro i a b
    exact KS.same (keysB_mem he (hp.mem_iff.1 (List.getElem_mem a))) (hl i a b).1
  obtain ⟨hjl, hjc⟩ := List.getElem?_eq_some_iff.1 hj
  refine ⟨h.clk, h.sgs, ?_, ?_, ?_, l.map (fun e => cond (veq k e.key) ⟨e.key, v, e.born⟩ e), hp.map _, by simp [hlen], ?_⟩
  · intro e hm
    obtain ⟨e', he', rfl⟩ := List.mem_map.1 hm
    rw [hB]; exact h.born e' he'
  · unfold mapPut
    rw [List.pairwise_map]
    exact h.keys.imp (fun {a b} hab => by rw [hF, hF]; exact hab)
  · unfold mapPut
    rw [List.pairwise_map]
    exact h.borns.imp (fun {a b} hab => by rw [hB, hB]; exact hab)
  · intro i a b
    have a' : i < l.length := by simpa using a
    have b' : i < C.length := by simpa using b
    rw [List.getElem_map, List.getElem_set]
    by_cases e : j = i
    · subst e
      rw [if_pos rfl]
      have hk : l[j].key = k := by rw [← hkey j a' b', hjc, hc]
      have : veq k l[j].key = true := by rw [hk]; exact veq_refl k
      rw [this]
      have hh := hl j a' b'
      rw [hjc] at hh
      refine ⟨?_, hv, hh.2.2⟩
      have := hh.1
      rw [hc] at this
      exact this
    · rw [if_neg e]
      have hne : veq k l[i].key = false := by
        rw [Bool.eq_false_iff]
        intro hq
        have hk := veq_eq _ _ hq
        have hjl' : j < l.length := by omega
        have h1 : l[i].key = l[j].key := by rw [← hk, ← hkey j hjl' hjl, hjc, hc]
        have hpw := (hp.symm.pairwise_iff (R := fun a b : MapEntry => a.key ≠ b.key) (fun {a b} h => h.symm)).1 h.keys
        have h2 : i = j := by
          rcases Nat.lt_trichotomy i j with h | h | h
          · exact absurd h1 (List.pairwise_iff_getElem.1 hpw i j a' hjl' h)
          · exact h
          · exact absurd h1.symm (List.pairwise_iff_getElem.1 hpw j i hjl' a' h)
        exact e h2.symm
      rw [hne]
      exact hl i a' b'

theorem MapRel.push {ι : Inj} {sg : Nat → Nat} {es : List MapEntry} {clock : Nat} {C : List MapEntry} {clock' : Nat} (h : MapRel ι sg es clock C clock') {k v v' : Value} (hk : VRel ι k k) (hn : mapFind k es = none) (hv : VRel ι v v') :
    MapRel ι sg (es ++ [⟨k, v, clock⟩]) (clock + 1) (C ++ [⟨k, v', clock'⟩]) (clock' + 1) := by
  obtain ⟨l, hp, hlen, hl⟩ := h.same
  have hs := h.sgs
  refine ⟨?_, ⟨fun s t hs' ht e => ?_, fun s hs' => ?_, fun j => ?_⟩, ?_, ?_, ?_, l ++ [⟨k, v, clock⟩], hp.append_right _, by simp [hlen], ?_⟩
  · rw [h.clk, hs.up 1]
  · rcases Nat.lt_or_ge s clock with a | a <;> rcases Nat.lt_or_ge t clock with b | b
    · exact hs.inj s t a b e
    · have : t = clock := by omega
      subst this
      have := hs.lt s a; omega
    · have : s = clock := by omega
      subst this
      have := hs.lt t b; omega
    · omega
  · rw [hs.up 1]
    rcases Nat.lt_or_ge s clock with a | a
    · have := hs.lt s a; omega
    · have : s = clock := by omega
      subst this; omega
  · rw [show clock + 1 + j = clock + (1 + j) by omega, hs.up, hs.up 1]; omega
  · intro e he
    rcases List.mem_append.1 he with he | he
    · have := h.born e he; omega
    · have : e = ⟨k, v, clock⟩ := by simpa using he
      subst this; exact Nat.lt_succ_self _
  · rw [List.pairwise_append]
    refine ⟨h.keys, by simp, fun a ha b hb => ?_⟩
    have : b = ⟨k, v, clock⟩ := by simpa using hb
    subst this
    exact mapFind_none hn a ha
  · rw [List.pairwise_append]
    refine ⟨h.borns, by simp, fun a ha b hb => ?_⟩
    have : b = ⟨k, v, clock⟩ := by simpa using hb
    subst this
    have := h.born a ha
    exact Nat.ne_of_lt this
  · intro i a b
    by_cases e : i < l.length
    · rw [List.getElem_append_left e, List.getElem_append_left (by omega)]
      exact hl i e (by omega)
    · have hi : i = l.length := by simp at a; omega
      subst hi
      rw [List.getElem_append_right (by omega), List.getElem_append_right (by omega)]
      simp only [hlen, Nat.sub_self, List.getElem_cons_zero]
      exact ⟨hk, hv, h.clk⟩

/-- What is struck at a key. -/
theorem MapRel.del {ι : Inj} {sg : Nat → Nat} {es : List MapEntry} {clock : Nat} {C : List MapEntry} {clock' : Nat} (h : MapRel ι sg es clock C clock') {ks : KS} {k : Value} (he : keysB ks es = true) {j : Nat} {c : MapEntry} (hj : C[j]? = some c) (hc : c.key = k) :
    MapRel ι sg (mapDel k es) clock (C.eraseIdx j) clock' := by
  obtain ⟨l, hp, hlen, hl⟩ := h.same
  have hkey : ∀ (i : Nat) (a : i < l.length) (b : i < C.length), C[i].key = l[i].key := by
    intro i a b
    exact KS.same (keysB_mem he (hp.mem_iff.1 (List.getElem_mem a))) (hl i a b).1
  obtain ⟨hjl, hjc⟩ := List.getElem?_eq_some_iff.1 hj
  have hjl' : j < l.length := by omega
  have hlk : l[j].key = k := by rw [← hkey j hjl' hjl, hjc, hc]
  have hpw : l.Pairwise (fun a b => a.key ≠ b.key) := (hp.symm.pairwise_iff (R := fun a b : MapEntry => a.key ≠ b.key) (fun {a b} h => h.symm)).1 h.keys
  have hfil : ∀ (l : List MapEntry) (j : Nat) (hj : j < l.length), l.Pairwise (fun a b => a.key ≠ b.key) → l[j].key = k → l.filter (fun e => !veq k e.key) = l.eraseIdx j := by
    intro l
    induction l with
    | nil => intro j hj; simp at hj
    | cons x xs ih =>
      intro j hj hpw hk
      rw [List.pairwise_cons] at hpw
      cases j with
      | zero =>
        have hx : veq k x.key = true := by rw [show x.key = k from hk]; exact veq_refl k
        rw [List.filter_cons]
        simp only [hx, Bool.not_true, Bool.false_eq_true, if_false, List.eraseIdx_cons_zero]
        rw [List.filter_eq_self]
        intro a ha
        have := hpw.1 a ha
        rw [show x.key = k from hk] at this
        cases hv : veq k a.key
        · rfl
        · exact absurd (veq_eq _ _ hv) this
      | succ j =>
        have hj' : j < xs.length := by simpa using hj
        have hk' : xs[j].key = k := by simpa using hk
        have hx : veq k x.key = false := by
          rw [Bool.eq_false_iff]; intro hq
          exact hpw.1 xs[j] (List.getElem_mem hj') (by rw [hk', veq_eq _ _ hq])
        rw [List.filter_cons]
        simp only [hx, Bool.not_false, if_true, List.eraseIdx_cons_succ]
        rw [ih j hj' hpw.2 hk']
  refine ⟨h.clk, h.sgs, fun e hm => h.born e (List.mem_filter.1 hm).1, h.keys.filter _, h.borns.filter _, l.eraseIdx j, ?_, ?_, ?_⟩
  · rw [← hfil l j hjl' hpw hlk]
    exact hp.filter _
  · rw [List.length_eraseIdx_of_lt hjl', List.length_eraseIdx_of_lt hjl, hlen]
  · intro i a b
    rw [List.getElem_eraseIdx, List.getElem_eraseIdx]
    split
    · exact hl i _ _
    · exact hl (i + 1) _ _
end Go.AM
namespace Go.AM
variable {X : Ctx}
section
variable {ι : Inj} {fr fr' : AFr} {a : Act} {nt : Nat} {st st' : St} {w : World} {o : Oper} {v : Value} {call : CallT}
open Go.MapKept

theorem find_nil {kt : TypeId} {ks : KS} (hK : X.keys kt = some ks) {k : Value} (hk : ks.ok k = true) (w : World) : (Instr.findKey kt k []).run X.P w = .ok none w := by
  obtain ⟨K, hok⟩ := X.keysOk kt ks hK
  obtain ⟨lx, hlx⟩ := hok k hk
  rcases K.find w hlx [] (by simp) with ⟨h1, _⟩ | ⟨j, c, _, h2, _⟩
  · exact h1
  · simp at h2
theorem check_run {kt : TypeId} {ks : KS} (hK : X.keys kt = some ks) {k : Value} (hk : ks.ok k = true) (em : Bool) (w : World) : (Instr.checkKey em 10000 kt k).run X.P w = .ok () w := by
  obtain ⟨K, hok⟩ := X.keysOk kt ks hK
  obtain ⟨lx, hlx⟩ := hok k hk
  exact K.check w em hlx

theorem sim_look {ks : KS} {z : Value} {ok : Bool} {m k : Operand} {t kt et : TypeId} {i : TypeInfo} (hm : opdOk X.ng m = true) (hk : opdOk X.ng k = true) (ho : o.op = .lookup t m k ok) (hu : X.P.underlying t = some (.map kt et))
    (hK : X.keys kt = some ks) (hi : X.P.info? et = some i) (hz : i.zero = some z) (hzp : vpure z = true) (hf : FRel ι fr a nt) (hw : WRel X ι st w)
    (h : evY fr st (.look ks z ok m k) = .ok v fr' st') : fr' = fr ∧ SimR X ι w v st st' (execOp a.eval o) := by
  obtain ⟨hkk, h⟩ := cond_inv h (by simp)
  obtain ⟨r, hr, h⟩ := vMap_inv h (by simp)
  have hkv : a.eval k = fr.ev k := KS.same hkk (hf.ev hw hk)
  have hmr := hf.ev hw hm
  rw [hr] at hmr
  generalize hmv : a.eval m = mv at hmr
  have hzr := zeroValue_run (P := X.P) hi hz w
  have hzz : VRel ι z z := VRel.pure ι z hzp
  cases r with
  | none =>
    cases hmr
    have h : OR.ok (cond ok (.tuple #[z, .bool false]) z) fr st = .ok v fr' st' := h
    cases h
    refine ⟨rfl, SimR.same (v' := cond ok (.tuple #[z, .bool false]) z) hw ?_ ?_⟩
    · unfold execOp; rw [ho]
      simp only [hmv, hkv, Instr.lookup, Sem.run_bind, run_underlying hu, Result.andThen, Sem.run_pure, check_run hK hkk, find_nil hK hkk, hzr]
      cases ok <;> rfl
    · cases ok
      · exact hzz
      · exact VRel.of_tuple (VRels.cons hzz (VRels.cons (.bool _) (VRels.nil ι)))
  | some id =>
    have h : mapK (st.h.get id) (fun es _ => cond (keysB ks es) (oK (mapFind (fr.ev k) es) (fun e => .ok (cond ok (.tuple #[e.val, .bool true]) e.val) fr st) (.ok (cond ok (.tuple #[z, .bool false]) z) fr st)) .no) .no = OR.ok v fr' st' := h
    obtain ⟨es, c, hg, h⟩ := mapK_inv h (by simp)
    obtain ⟨hkb, h⟩ := cond_inv h (by simp)
    obtain ⟨l, hl, h0, h0', C, c', hC, hR⟩ := hw.objs _ _ hg (by simp)
    cases hmr with
    | map _ b sg hb =>
      rw [hl] at hb
      cases hb
      have hC : w.heap[b]? = some (.map C c') := hC
      rcases hR.find (X := X) hK hkk hkb w with ⟨h1, h2, _⟩ | ⟨e, j, c0, h1, h2, h3, h4, h5, h6, h7, h8⟩
      · rw [h2] at h
        cases h
        refine ⟨rfl, SimR.same (v' := cond ok (.tuple #[z, .bool false]) z) hw ?_ ?_⟩
        · unfold execOp; rw [ho]
          simp only [hmv, hkv, Instr.lookup, Sem.run_bind, run_underlying hu, Result.andThen, Sem.run_pure, MapKept.run_getObj_map hC, check_run hK hkk, h1, hzr]
          cases ok <;> rfl
        · cases ok
          · exact hzz
          · exact VRel.of_tuple (VRels.cons hzz (VRels.cons (.bool _) (VRels.nil ι)))
      · rw [h4] at h
        cases h
        refine ⟨rfl, SimR.same (v' := cond ok (.tuple #[c0.val, .bool true]) c0.val) hw ?_ ?_⟩
        · unfold execOp; rw [ho]
          simp only [hmv, hkv, Instr.lookup, Sem.run_bind, run_underlying hu, Result.andThen, Sem.run_pure, MapKept.run_getObj_map hC, check_run hK hkk, h1]
          cases ok <;> rfl
        · cases ok
          · exact h7
          · exact VRel.of_tuple (VRels.cons h7 (VRels.cons (.bool _) (VRels.nil ι)))

theorem sim_mlen {m : Operand} {t kt et : TypeId} (hm : opdOk X.ng m = true) (ho : o.op = .call { callee := .builtin .len, args := #[m], argTypes := #[t] }) (hu : X.P.underlying t = some (.map kt et)) (hf : FRel ι fr a nt) (hw : WRel X ι st w)
    (h : evY fr st (.mlen m) = .ok v fr' st') : fr' = fr ∧ SimR X ι w v st st' (execOp a.eval o) := by
  obtain ⟨r, hr, h⟩ := vMap_inv h (by simp)
  have hmr := hf.ev hw hm
  rw [hr] at hmr
  generalize hmv : a.eval m = mv at hmr
  cases r with
  | none =>
    cases hmr
    have h : OR.ok (.int .i64 0) fr st = .ok v fr' st' := h
    cases h
    refine ⟨rfl, SimR.same (v' := .int .i64 0) hw ?_ (.int _ _)⟩
    unfold execOp; rw [ho]
    simp [resolve, invoke, builtin, hmv, Builtin.len_, run_underlying hu, Result.andThen, goInt]
  | some id =>
    have h : mapK (st.h.get id) (fun es _ => forceN (lenX es) fun n => OR.ok (.int .i64 (.ofNat n)) fr st) .no = .ok v fr' st' := h
    obtain ⟨es, c, hg, h⟩ := mapK_inv h (by simp)
    rw [forceN_eq, lenX_eq] at h
    cases h
    obtain ⟨l, hl, h0, h0', C, c', hC, hR⟩ := hw.objs _ _ hg (by simp)
    cases hmr with
    | map _ b sg hb =>
      rw [hl] at hb
      cases hb
      have hC : w.heap[b]? = some (.map C c') := hC
      obtain ⟨l, hp, hlen, _⟩ := hR.same
      have e : es.length = C.size := by rw [← hp.length_eq, hlen]; simp
      refine ⟨rfl, SimR.same (v' := .int .i64 es.length) hw ?_ (.int _ _)⟩
      unfold execOp; rw [ho]
      simp [resolve, invoke, builtin, hmv, Builtin.len_, run_underlying hu, Result.andThen, goInt, MapKept.run_getObj_map hC, e]
end
end Go.AM
namespace Go.AM
variable {X : Ctx}
section
variable {ι : Inj} {fr fr' : AFr} {a : Act} {nt : Nat} {st st' : St} {w : World} {o : Oper} {v : Value} {call : CallT}

theorem stays_run {kt : TypeId} {ks : KS} (hK : X.keys kt = some ks) {k : Value} (hk : ks.ok k = true) (w : World) : (Instr.keyThatStays k k).run X.P w = .ok k w := by
  obtain ⟨K, hok⟩ := X.keysOk kt ks hK
  obtain ⟨lx, hlx⟩ := hok k hk
  exact K.stays w hlx

theorem toList_modify (C : Array MapEntry) (j : Nat) (f : MapEntry → MapEntry) {c : MapEntry} (h : C.toList[j]? = some c) : (C.modify j f).toList = C.toList.set j (f c) := by
  obtain ⟨hj, hc⟩ := List.getElem?_eq_some_iff.1 h
  apply List.ext_getElem
  · simp
  · intro i h1 h2
    rw [List.getElem_set]
    simp only [Array.getElem_toList, Array.getElem_modify]
    by_cases e : j = i
    · subst e; simp only [if_true]; rw [← hc]; rfl
    · rw [if_neg e, if_neg e]

theorem KS.pure {ι : Inj} {ks : KS} {v v' : Value} (h : ks.ok v = true) (hr : VRel ι v v') : VRel ι v v := by
  have := KS.same h hr
  rw [this] at hr
  exact hr

theorem sim_upd {ks : KS} {m k x : Operand} {t kt et : TypeId} (hm : opdOk X.ng m = true) (hk : opdOk X.ng k = true) (hx : opdOk X.ng x = true) (ho : o.op = .mapUpdate t m k x ∨ o.op = .insert t m k x) (hu : X.P.underlying t = some (.map kt et))
    (hK : X.keys kt = some ks) (hf : FRel ι fr a nt) (hw : WRel X ι st w) (h : evY fr st (.upd ks m k x) = .ok v fr' st') : fr' = fr ∧ Sim X ι w v st' (execOp a.eval o) := by
  obtain ⟨hkk, h⟩ := cond_inv h (by simp)
  obtain ⟨r, hr, h⟩ := vMap_inv h (by simp)
  obtain ⟨id, rfl, h⟩ := oK_inv h (by simp)
  obtain ⟨es, c, hg, h⟩ := mapK_inv h (by simp)
  obtain ⟨hkb, h⟩ := cond_inv h (by simp)
  have hkr := hf.ev hw hk
  have hkv : a.eval k = fr.ev k := KS.same hkk hkr
  have hmr := hf.ev hw hm
  have hxr := hf.ev hw hx
  rw [hr] at hmr
  generalize hmv : a.eval m = mv at hmr
  obtain ⟨l, hl, h0, h0', C, c', hC, hR⟩ := hw.objs _ _ hg (by simp)
  cases hmr with
  | map _ b sg hb =>
    rw [hl] at hb
    cases hb
    have hC : w.heap[b]? = some (.map C c') := hC
    have hR : MapRel ι sg es c C.toList c' := hR
    have hex : ∀ w', (Instr.mapUpdate t (.map (some b)) (fr.ev k) (a.eval x)).run X.P w = .ok () w' → (execOp a.eval o).run X.P w = .ok .skip w' := by
      intro w' hrun
      unfold execOp
      rcases ho with ho | ho <;> (rw [ho]; simp only [hmv, hkv]; simp [hrun, Result.andThen])
    rcases hR.find (X := X) hK hkk hkb w with ⟨h1, h2, _⟩ | ⟨e, j, c0, h1, h2, h3, h4, h5, h6, h7, h8⟩
    · rw [h2] at h
      have h : st.setO id (.map (es ++ [⟨fr.ev k, fr.ev x, c⟩]) (Nat.succ c)) (fun st => OR.ok undef fr st) = .ok v fr' st' := h
      rw [setO_eq] at h
      cases h
      have hrun : (Instr.mapUpdate t (.map (some b)) (fr.ev k) (a.eval x)).run X.P w = .ok () { w with heap := w.heap.setIfInBounds b (.map (C.push { key := fr.ev k, val := a.eval x, born := c' }) (c' + 1)) } := by
        simp only [Instr.mapUpdate, Sem.run_bind, run_underlying hu, Result.andThen, MapKept.run_getObj_map hC, check_run hK hkk, h1, MapKept.run_setObj_map _ hC]
      obtain ⟨k1, k2⟩ := WRel.turn X hw hg (by simp) (fun hf => hf) hl (.map (es ++ [⟨fr.ev k, fr.ev x, c⟩]) (Nat.succ c)) (.map (C.push { key := fr.ev k, val := a.eval x, born := c' }) (c' + 1)) { w with heap := w.heap.setIfInBounds b (.map (C.push { key := fr.ev k, val := a.eval x, born := c' }) (c' + 1)) } rfl
        (fun _ ht => ⟨rfl, rfl, _, _, ht, by
          have := hR.push (KS.pure hkk hkr) h2 hxr
          simpa using this⟩)
      exact ⟨rfl, ι, .skip, _, hex _ hrun, .inr ⟨rfl, rfl⟩, k1, k2⟩
    · rw [h4] at h
      have h : st.setO id (.map (mapPut (fr.ev k) (fr.ev x) es) c) (fun st => OR.ok undef fr st) = .ok v fr' st' := h
      rw [setO_eq] at h
      cases h
      have hj : C[j]? = some c0 := by rw [← Array.getElem?_toList]; exact h2
      have hrun : (Instr.mapUpdate t (.map (some b)) (fr.ev k) (a.eval x)).run X.P w = .ok () { w with heap := w.heap.setIfInBounds b (.map (C.modify j fun e => { e with key := fr.ev k, val := a.eval x }) c') } := by
        simp only [Instr.mapUpdate, Sem.run_bind, run_underlying hu, Result.andThen, MapKept.run_getObj_map hC, check_run hK hkk, h1, MapKept.run_setObj_map _ hC, hj, Option.map_some, Option.getD_some, h3, stays_run hK hkk]
      obtain ⟨k1, k2⟩ := WRel.turn X hw hg (by simp) (fun hf => hf) hl (.map (mapPut (fr.ev k) (fr.ev x) es) c) (.map (C.modify j fun e => { e with key := fr.ev k, val := a.eval x }) c') { w with heap := w.heap.setIfInBounds b (.map (C.modify j fun e => { e with key := fr.ev k, val := a.eval x }) c') } rfl
        (fun _ ht => ⟨rfl, rfl, _, _, ht, by
          rw [toList_modify C j _ h2]
          exact hR.put hkb h2 h3 hxr⟩)
      exact ⟨rfl, ι, .skip, _, hex _ hrun, .inr ⟨rfl, rfl⟩, k1, k2⟩

theorem sim_del {ks : KS} {m k : Operand} {t u kt et : TypeId} (hm : opdOk X.ng m = true) (hk : opdOk X.ng k = true) (ho : o.op = .call { callee := .builtin .delete, args := #[m, k], argTypes := #[t, u] }) (hu : X.P.underlying t = some (.map kt et))
    (hK : X.keys kt = some ks) (hf : FRel ι fr a nt) (hw : WRel X ι st w) (h : evY fr st (.del ks m k) = .ok v fr' st') : fr' = fr ∧ Sim X ι w v st' (execOp a.eval o) := by
  obtain ⟨hkk, h⟩ := cond_inv h (by simp)
  obtain ⟨r, hr, h⟩ := vMap_inv h (by simp)
  obtain ⟨id, rfl, h⟩ := oK_inv h (by simp)
  obtain ⟨es, c, hg, h⟩ := mapK_inv h (by simp)
  obtain ⟨hkb, h⟩ := cond_inv h (by simp)
  rw [setO_eq] at h
  cases h
  have hkr := hf.ev hw hk
  have hkv : a.eval k = fr.ev k := KS.same hkk hkr
  have hmr := hf.ev hw hm
  rw [hr] at hmr
  generalize hmv : a.eval m = mv at hmr
  obtain ⟨l, hl, h0, h0', C, c', hC, hR⟩ := hw.objs _ _ hg (by simp)
  cases hmr with
  | map _ b sg hb =>
    rw [hl] at hb
    cases hb
    have hC : w.heap[b]? = some (.map C c') := hC
    have hR : MapRel ι sg es c C.toList c' := hR
    rcases hR.find (X := X) hK hkk hkb w with ⟨h1, h2, _⟩ | ⟨e, j, c0, h1, h2, h3, h4, h5, h6, h7, h8⟩
    · have hid : mapDel (fr.ev k) es = es := by
        unfold mapDel
        rw [List.filter_eq_self]
        intro e he
        have := mapFind_none h2 e he
        cases hv : veq (fr.ev k) e.key
        · rfl
        · exact absurd (veq_eq _ _ hv).symm this
      obtain ⟨k1, k2⟩ := WRel.turn X hw hg (by simp) (fun hf => hf) hl (.map (mapDel (fr.ev k) es) c) (.map C c') { w with heap := w.heap.setIfInBounds b (.map C c') } rfl (fun _ ht => ⟨rfl, rfl, _, _, ht, by rw [hid]; exact hR⟩)
      refine ⟨rfl, ι, .value (.tuple #[]), _, ?_, .inl ⟨_, rfl, VRel.of_tuple (VRels.nil ι)⟩, k1, k2⟩
      unfold execOp; rw [ho]
      simp [resolve, invoke, builtin, hmv, hkv, Builtin.delete_, run_underlying hu, Result.andThen, MapKept.run_getObj_map hC, check_run hK hkk, h1, MapKept.run_setObj_map _ hC]
    · obtain ⟨k1, k2⟩ := WRel.turn X hw hg (by simp) (fun hf => hf) hl (.map (mapDel (fr.ev k) es) c) (.map (C.eraseIdxIfInBounds j) c') { w with heap := w.heap.setIfInBounds b (.map (C.eraseIdxIfInBounds j) c') } rfl (fun _ ht => ⟨rfl, rfl, _, _, ht, by
        have := hR.del hkb h2 h3
        rw [Array.toList_eraseIdxIfInBounds]; exact this⟩)
      refine ⟨rfl, ι, .value (.tuple #[]), _, ?_, .inl ⟨_, rfl, VRel.of_tuple (VRels.nil ι)⟩, k1, k2⟩
      unfold execOp; rw [ho]
      simp [resolve, invoke, builtin, hmv, hkv, Builtin.delete_, run_underlying hu, Result.andThen, MapKept.run_getObj_map hC, check_run hK hkk, h1, MapKept.run_setObj_map _ hC]

theorem sim_mrng {m : Operand} {t kt et : TypeId} (hm : opdOk X.ng m = true) (ho : o.op = .range t m) (hu : X.P.underlying t = some (.map kt et)) (hf : FRel ι fr a nt) (hw : WRel X ι st w)
    (h : evY fr st (.mrng m) = .ok v fr' st') : fr' = fr ∧ Sim X ι w v st' (execOp a.eval o) := by
  obtain ⟨r, hr, h⟩ := vMap_inv h (by simp)
  have hmr := hf.ev hw hm
  rw [hr] at hmr
  generalize hmv : a.eval m = mv at hmr
  cases r with
  | none =>
    cases hmr
    have h : st.newK (.miter none 0 [] 0) (fun id st => OR.ok (.pointer (some ⟨id, 0, none⟩)) fr st) = .ok v fr' st' := h
    rw [newK_eq] at h
    cases h
    obtain ⟨κ, k1, k2, k3, hκ⟩ := WRel.alloc X hw (.miter none 0 [] 0) (.mapIter none 0 #[] 0) 0 (fun κ w' _ _ ht => ⟨rfl, rfl, _, _, _, _, ht, .inl ⟨rfl, rfl⟩⟩) { w with heap := w.heap.push (.mapIter none 0 #[] 0) } rfl
    refine ⟨rfl, κ, .value (.pointer (some ⟨w.heap.size, 0, none⟩)), _, ?_, .inl ⟨_, rfl, ?_⟩, k1, k2⟩
    · unfold execOp; rw [ho]
      simp [hmv, Instr.range, run_underlying hu, Result.andThen]
    · exact VRel.ptr ⟨st.nx, 0, none⟩ _ k3 rfl
  | some id =>
    have h : mapK (st.h.get id) (fun _ clock => st.newK (.miter (some id) clock [] clock) fun id st => OR.ok (.pointer (some ⟨id, 0, none⟩)) fr st) .no = .ok v fr' st' := h
    obtain ⟨es, c, hg, h⟩ := mapK_inv h (by simp)
    rw [newK_eq] at h
    cases h
    obtain ⟨l, hl, h0, h0', C, c', hC, hR⟩ := hw.objs _ _ hg (by simp)
    cases hmr with
    | map _ b sg hb =>
      rw [hl] at hb
      cases hb
      have hC : w.heap[b]? = some (.map C c') := hC
      have hR : MapRel ι sg es c C.toList c' := hR
      obtain ⟨κ, k1, k2, k3, hκ⟩ := WRel.alloc X hw (.miter (some id) c [] c) (.mapIter (some b) c' #[] c') 0
        (fun κ w' hle _ ht => ⟨rfl, rfl, _, _, _, _, ht, .inr ⟨id, b, sg, rfl, rfl, hle _ _ hl, hR.clk, rfl, hR.clk⟩⟩) { w with heap := w.heap.push (.mapIter (some b) c' #[] c') } rfl
      refine ⟨rfl, κ, .value (.pointer (some ⟨w.heap.size, 0, none⟩)), _, ?_, .inl ⟨_, rfl, ?_⟩, k1, k2⟩
      · unfold execOp; rw [ho]
        simp [hmv, Instr.range, run_underlying hu, Result.andThen, MapKept.run_getObj_map hC]
      · exact VRel.ptr ⟨st.nx, 0, none⟩ _ k3 rfl

/-- The entry with a stamp. -/
theorem MapRel.stamp {ι : Inj} {sg : Nat → Nat} {es : List MapEntry} {clock : Nat} {C : List MapEntry} {clock' : Nat} (h : MapRel ι sg es clock C clock') {s : Nat} (hs : s < clock) {e : MapEntry} (he : es.find? (fun e => Nat.beq e.born s) = some e) :
    ∃ c, C.find? (fun c => c.born == sg s) = some c ∧ VRel ι e.key c.key ∧ VRel ι e.val c.val := by
  obtain ⟨l, hp, hlen, hl⟩ := h.same
  have hq := List.find?_some he
  have hb : e.born = s := Nat.eq_of_beq_eq_true hq
  have hm := List.mem_of_find?_eq_some he
  obtain ⟨i, hi, hie⟩ := List.getElem_of_mem (hp.mem_iff.2 hm)
  have hi' : i < C.length := by omega
  cases hf : C.find? (fun c => c.born == sg s) with
  | none =>
    exfalso
    have := List.find?_eq_none.1 hf C[i] (List.getElem_mem hi')
    have h3 := (hl i hi hi').2.2
    rw [hie, hb] at h3
    rw [h3] at this
    simp at this
  | some c =>
    have hcb : c.born = sg s := by simpa using List.find?_some hf
    obtain ⟨k, hk, hkc⟩ := List.getElem_of_mem (List.mem_of_find?_eq_some hf)
    have hk' : k < l.length := by omega
    have h3 := hl k hk' hk
    have h4 : l[k].born < clock := h.born _ (hp.mem_iff.1 (List.getElem_mem hk'))
    have h5 : sg l[k].born = sg s := by rw [← h3.2.2, hkc, hcb]
    have h6 := h.sgs.inj _ _ h4 hs h5
    have hpw : l.Pairwise (fun a b => a.born ≠ b.born) := (hp.symm.pairwise_iff (R := fun a b : MapEntry => a.born ≠ b.born) (fun {a b} h => h.symm)).1 h.borns
    have hik : i = k := by
      rcases Nat.lt_trichotomy i k with g | g | g
      · exact absurd (by rw [hie, hb, h6]) (List.pairwise_iff_getElem.1 hpw i k hi hk' g)
      · exact g
      · exact absurd (by rw [hie, hb, h6]) (List.pairwise_iff_getElem.1 hpw k i hk' hi g)
    subst hik
    rw [hie, hkc] at h3
    exact ⟨c, rfl, h3.1, h3.2.1⟩

theorem run_getObj_iter {P : Program} {w : World} {r : Nat} {m : Option Nat} {a : Nat} {s : Array Nat} {b : Nat} (hb : w.heap[r]? = some (.mapIter m a s b)) : (getObj r).run P w = .ok (.mapIter m a s b) w := by
  simp [getObj, Sem.run, hb]
theorem run_setObj_iter {P : Program} {w : World} {r : Nat} {m : Option Nat} {a : Nat} {s : Array Nat} {b : Nat} (o : Obj) (hb : w.heap[r]? = some (.mapIter m a s b)) : (setObj r o).run P w = .ok () { w with heap := w.heap.setIfInBounds r o } := by
  simp [setObj, Sem.run, hb]

theorem sim_ment {i : Operand} (hi : opdOk X.ng i = true) (ho : o.op = .entry i) (hf : FRel ι fr a nt) (hw : WRel X ι st w)
    (h : evY fr st (.ment i) = .ok v fr' st') : fr' = fr ∧ SimR X ι w v st st' (execOp a.eval o) := by
  obtain ⟨p, hp, g1⟩ := vPointer_inv h (by simp)
  obtain ⟨ad, hpa, g2⟩ := oK_inv g1 (by simp)
  obtain ⟨hs, g3⟩ := oK_none g2 (fun _ => by simp)
  obtain ⟨h0, g4⟩ := eqK_inv g3 (by simp)
  obtain ⟨m, since, seen, stepped, hg, g5⟩ := iterK_inv g4 (by simp)
  obtain ⟨id, hmi, g6⟩ := oK_inv g5 (by simp)
  obtain ⟨s, hs2, g7⟩ := oK_inv g6 (by simp)
  obtain ⟨es, clock, hg2, g8⟩ := mapK_inv g7 (by simp)
  obtain ⟨h1, g9⟩ := eqK_inv g8 (by simp)
  obtain ⟨h2, g10⟩ := leK_inv g9 (by simp)
  obtain ⟨e, he, g11⟩ := oK_inv g10 (by simp)
  clear h g1 g2 g3 g4 g5 g6 g7 g8 g9 g10
  subst hpa hmi
  cases g11
  have hir := hf.ev hw hi
  rw [hp] at hir
  generalize hiv : a.eval i = iv at hir
  obtain ⟨l, hl, l0, l1, m', since', seen', last', hI, hcase⟩ := hw.objs _ _ hg (by simp)
  rcases hcase with ⟨hh, _⟩ | ⟨r, b, sg, e1, e2, e3, e4, e5, e6⟩
  · cases hh
  · cases e1
    subst e2
    obtain ⟨lm, hlm, m0, m1, C, c', hC, hR⟩ := hw.objs _ _ hg2 (by simp)
    rw [hlm] at e3
    cases e3
    have hC : w.heap[b]? = some (.map C c') := hC
    have hR : MapRel ι sg es clock C.toList c' := hR
    cases hir with
    | ptr _ l' hl' hs' =>
      rw [hl] at hl'; cases hl'
      obtain ⟨c, hc1, hc2, hc3⟩ := hR.stamp h2 he
      have hback : seen'.back? = some (sg s) := by
        have : seen'.back? = seen'.toList.getLast? := by simp
        rw [this, e5, List.getLast?_map]
        rw [show seen.getLast? = some s from hs2]; rfl
      have hcl : c' = last' := by rw [hR.clk, e6, h1]
      have hfind : C.find? (fun x => x.born == sg s) = some c := by rw [← Array.find?_toList]; exact hc1
      refine ⟨rfl, SimR.same (v' := .tuple #[c.key, c.val]) hw ?_ (VRel.of_tuple (VRels.cons hc2 (VRels.cons hc3 (VRels.nil ι))))⟩
      unfold execOp; rw [ho]
      have hoff : l.sh + ad.off = 0 := by rw [l0, h0]
      simp only [hiv, hoff, Instr.entry, Sem.run_bind, run_getObj_iter hI, Result.andThen, hback, Sem.run_pure, MapKept.run_getObj_map hC]
      simp [hcl, hfind]

theorem sim_cnt {f : FuncId} {x y : Operand} {ts : Array TypeId} (hx : opdOk X.ng x = true) (hy : opdOk X.ng y = true) (hf' : X.cntf f = true) (ho : o.op = .call { callee := .value (.func f), args := #[x, y], argTypes := ts }) (hf : FRel ι fr a nt) (hw : WRel X ι st w)
    (h : evY fr st (.cnt x y) = .ok v fr' st') : fr' = fr ∧ SimR X ι w v st st' (execOp a.eval o) := by
  obtain ⟨s, hs, g1⟩ := vString_inv h (by simp)
  obtain ⟨k, c0, hc, g2⟩ := vInt_inv g1 (by simp)
  obtain ⟨hk, g3⟩ := cond_inv g2 (by simp)
  obtain ⟨c, e1, g4⟩ := natK_inv g3 (by simp)
  have hk' := kindEq_eq hk
  clear h g1 g2 g3
  subst e1 hk'
  have hxr := hf.ev hw hx
  rw [hs] at hxr
  generalize hxv : a.eval x = xv at hxr
  have hyr := hf.ev hw hy
  rw [hc] at hyr
  generalize hyv : a.eval y = yv at hyr
  cases hxr; cases hyr
  cases g4
  refine ⟨rfl, SimR.same (v' := .int .i64 (.ofNat (s.data.toList.countP (fun b => b == UInt8.ofNat c)))) hw ?_ (.int _ _)⟩
  rw [exec_fn ho]
  have := X.cntOk f hf' s (c : Int) w
  simp only [List.map_toArray, List.map_cons, List.map_nil, hxv, hyv]
  rw [this]
  rfl

theorem sim_eqa {neg : Bool} {n : Nat} {x y : Operand} {t u : TypeId} (hx : opdOk X.ng x = true) (hy : opdOk X.ng y = true) (hE : X.eqs t = some n) (ho : o.op = .binOp (if neg then .neq else .eql) t x y u) (hf : FRel ι fr a nt) (hw : WRel X ι st w)
    (h : evY fr st (.eqa neg n x y) = .ok v fr' st') : fr' = fr ∧ SimR X ι w v st st' (execOp a.eval o) := by
  obtain ⟨xs, hxs, h⟩ := vAgg_inv h (by simp)
  obtain ⟨ys, hys, h⟩ := vAgg_inv h (by simp)
  obtain ⟨h1, h⟩ := eqK_inv h (by simp)
  obtain ⟨h2, h⟩ := eqK_inv h (by simp)
  obtain ⟨b, hb, h⟩ := oK_inv h (by simp)
  cases h
  rw [lenX_eq] at h1 h2
  have plain : ∀ (l m : List Value) (b : Bool), eqFlat l m = some b → ∀ (i : Nat) (hi : i < l.length) (hj : i < m.length) (u v : Value), (VRel ι l[i] u → u = l[i]) ∧ (VRel ι m[i] v → v = m[i]) := by
    intro l
    induction l with
    | nil => intro m b _ i hi; simp at hi
    | cons p ps ih =>
      intro m b hb i hi hj u v
      cases m with
      | nil => simp at hj
      | cons q qs =>
        unfold eqFlat at hb
        obtain ⟨b1, hb1, hb2⟩ := oK_inv (z := none) (r := some b) hb (by simp)
        cases i with
        | zero =>
          simp only [List.getElem_cons_zero]
          unfold eqIntV at hb1
          split at hb1 <;> first | (cases hb1; done) | exact ⟨fun hr => by cases hr; rfl, fun hr => by cases hr; rfl⟩
        | succ i =>
          simp only [List.getElem_cons_succ]
          have : ∃ b', eqFlat ps qs = some b' := by
            cases b1
            · obtain ⟨b', hb', _⟩ := oK_inv (z := none) (r := some b) hb2 (by simp)
              exact ⟨b', hb'⟩
            · exact ⟨b, hb2⟩
          obtain ⟨b', hb'⟩ := this
          exact ih qs b' hb' i (by simpa using hi) (by simpa using hj) u v
  have hpl := plain _ _ _ hb
  have hxr := hf.ev hw hx
  rw [hxs] at hxr
  generalize hxv : a.eval x = xv at hxr
  have hyr := hf.ev hw hy
  rw [hys] at hyr
  generalize hyv : a.eval y = yv at hyr
  cases hxr with
  | agg _ xs' a1 a2 =>
    cases hyr with
    | agg _ ys' b1 b2 =>
      have hxe : xs' = xs := by
        apply Array.ext
        · exact a1.symm
        · intro i c d
          have := (hpl i (by simpa using d) (by simp; simp at h1 h2; omega) xs'[i] xs'[i]).1 (by simpa using a2 i d c)
          simpa using this
      have hye : ys' = ys := by
        apply Array.ext
        · exact b1.symm
        · intro i c d
          have := (hpl i (by simp; simp at h1 h2; omega) (by simpa using d) ys'[i] ys'[i]).2 (by simpa using b2 i d c)
          simpa using this
      subst hxe hye
      obtain ⟨hgd, heq⟩ := X.eqsOk t n hE
      have hq := heq xs' ys' b w (by simpa using h1) (by simpa using h2) hb
      refine ⟨rfl, SimR.same (v' := .bool (cond neg (!b) b)) hw ?_ (.bool _)⟩
      unfold execOp; rw [ho]
      cases neg
      · simp only [hxv, hyv, Bool.false_eq_true, if_false]
        have hg : (eqGuard .eql t x y (.agg xs') (.agg ys')).run X.P w = .ok () w := by
          simp [eqGuard, program, Sem.run, hgd]
        simp [hg, run_eql_struct, hq, Result.andThen]
      · simp only [hxv, hyv, if_true]
        have hg : (eqGuard .neq t x y (.agg xs') (.agg ys')).run X.P w = .ok () w := by
          simp [eqGuard, program, Sem.run, hgd]
        simp [hg, run_neq_struct, hq, Result.andThen]
end
end Go.AM
namespace Go.AM
variable {X : Ctx}

theorem VRel.of_chan {ι : Inj} {c : Nat} {y : Value} (h : VRel ι (.chan (some c)) y) (hc : c ≠ 0) : ∃ m, y = .int .i64 m ∧ unkOk c m := by
  generalize hv : Value.chan (some c) = v at h
  cases h with
  | unk c' m h => cases hv; exact ⟨m, rfl, h⟩
  | top _ => unfold poison at hv; cases hv; exact absurd rfl hc
  | _ => cases hv

theorem cmpU_ok {ι : Inj} {n : Nat} {v y : Value} {b : Bool} (h : cmpU n v = some b) (hr : VRel ι v y) : ∃ m : Int, y = .int .i64 m ∧ b = decide ((n : Int) ≤ m) := by
  unfold cmpU at h
  split at h
  · rename_i c
    split at h
    · rename_i h2
      split at h
      · rename_i h3
        cases h
        obtain ⟨m, rfl, hu⟩ := hr.of_chan (by omega)
        refine ⟨m, rfl, ?_⟩
        have : (n : Int) ≤ m := by
          rcases hu with hu | ⟨k, hk, hm⟩ | ⟨k, hk, hm⟩ <;> omega
        simp [this]
      · cases h
    · rename_i h2
      split at h
      · rename_i h3
        cases h
        obtain ⟨m, rfl, hu⟩ := hr.of_chan (by omega)
        refine ⟨m, rfl, ?_⟩
        have : ¬ (n : Int) ≤ m := by
          rcases hu with hu | ⟨k, hk, hm⟩ | ⟨k, hk, hm⟩ <;> omega
        simp [this]
      · cases h
  · cases h

section
variable {ι : Inj} {fr fr' : AFr} {a : Act} {nt : Nat} {st st' : St} {w : World} {o : Oper} {v : Value} {call : CallT}

theorem sim_cmpu {gt : Bool} {x y : Operand} {t u : TypeId} (hx : opdOk X.ng x = true) (hy : opdOk X.ng y = true) (ho : o.op = .binOp (if gt then .gtr else .leq) t x y u) (hf : FRel ι fr a nt) (hw : WRel X ι st w)
    (h : evY fr st (.cmpu gt x y) = .ok v fr' st') : fr' = fr ∧ SimR X ι w v st st' (execOp a.eval o) := by
  obtain ⟨k, n0, hxs, h1⟩ := vInt_inv h (by simp)
  obtain ⟨hk, h2⟩ := cond_inv h1 (by simp)
  obtain ⟨n, hn, h3⟩ := natK_inv h2 (by simp)
  obtain ⟨b, hb, h4⟩ := oK_inv h3 (by simp)
  have hk' := kindEq_eq hk
  subst hk' hn
  cases h4
  have hxr := hf.ev hw hx
  rw [hxs] at hxr
  generalize hxv : a.eval x = xv at hxr
  cases hxr
  obtain ⟨m, hyv, hbm⟩ := cmpU_ok hb (hf.ev hw hy)
  refine ⟨rfl, SimR.same (v' := .bool (cond gt (!b) b)) hw ?_ (.bool _)⟩
  unfold execOp; rw [ho, hbm]
  cases gt
  · simp [hxv, hyv, eqGuard, binOp, Op.intCmp]
  · simp only [hxv, hyv, if_true]
    have : (!decide ((n : Int) ≤ m)) = decide (m < (n : Int)) := by rw [Bool.eq_iff_iff]; simp
    simp [eqGuard, binOp, Op.intCmp, this]

theorem sim_idxs {f : FuncId} {x y : Operand} {ts : Array TypeId} (hx : opdOk X.ng x = true) (hy : opdOk X.ng y = true) (hf' : X.idxf f = true) (ho : o.op = .call { callee := .value (.func f), args := #[x, y], argTypes := ts }) (hf : FRel ι fr a nt) (hw : WRel X ι st w)
    (h : evY fr st (.idxs X.mlg x y) = .ok v fr' st') : fr' = fr ∧ SimR X ι w v st st' (execOp a.eval o) := by
  obtain ⟨s, hs, g1⟩ := vString_inv h (by simp)
  obtain ⟨b, hb, g2⟩ := vString_inv g1 (by simp)
  unfold cellsK at g2
  obtain ⟨ob, hob, g3⟩ := oK_inv g2 (by simp)
  cases ob with
  | cells cs el fz gr =>
    have g4 : cond gr OR.no (one cs (fun c => cond (idxU (lenX b.data.toList) c) (leK 2 (lenX b.data.toList) (leK (lenX s.data.toList) 1000000
      (.ok (.int .i64 (oK (subX b.data.toList s.data.toList) (fun i => .ofNat i) (.negSucc 0))) fr st) .no) .no) .no) .no) = .ok v fr' st' := g3
    obtain ⟨hgr, g5⟩ := ncond_inv g4 (by simp)
    obtain ⟨c, hc, g6⟩ := one_inv g5 (by simp)
    obtain ⟨hi, g7⟩ := cond_inv g6 (by simp)
    obtain ⟨h2, g8⟩ := leK_inv g7 (by simp)
    obtain ⟨h3, g9⟩ := leK_inv g8 (by simp)
    rw [lenX_eq] at hi h2 h3
    cases g9
    have hxr := hf.ev hw hx
    rw [hs] at hxr
    generalize hxv : a.eval x = xv at hxr
    have hyr := hf.ev hw hy
    rw [hb] at hyr
    generalize hyv : a.eval y = yv at hyr
    cases hxr; cases hyr
    obtain ⟨l, hl, C, fz', hC⟩ := hw.objs _ _ hob (by simp)
    rw [hw.glob _ X.mlgOk] at hl
    cases hl
    subst hc
    obtain ⟨c', hc1, hc2⟩ := hC.cell 0 (by simp)
    have hcu : cmpU b.data.toList.length c = some true := by
      unfold idxU at hi
      split at hi
      · assumption
      · cases hi
    obtain ⟨m, rfl, hbm⟩ := cmpU_ok hcu hc2
    have hle : ((b.data.toList.length : Nat) : Int) ≤ m := by simpa using hbm.symm
    have hload : (load ⟨X.mlg, 0, none⟩).run X.P w = .ok (.int .i64 m) w := by
      have hc3 : C[0]? = some (.int .i64 m) := by simpa using hc1
      rw [run_load, cell_of hC.there]
      simp [hc3]
    refine ⟨rfl, SimR.same (v' := .int .i64 (oK (subX b.data.toList s.data.toList) (fun i => .ofNat i) (.negSucc 0))) hw ?_ (.int _ _)⟩
    rw [exec_fn ho]
    have := X.idxOk f hf' s b m w hload (by simpa using h2) (by simpa using hle) (by simpa using h3)
    simp only [List.map_toArray, List.map_cons, List.map_nil, hxv, hyv]
    rw [this]
    cases subX b.data.toList s.data.toList <;> rfl
  | _ => cases g3
end
end Go.AM
namespace Go.AM
variable {X : Ctx}

/-- Operations that hand on a value and leave the frame alone. -/
def XOp.inPlace : XOp → Bool
  | .call _ _ | .recov | .dfr _ _ | .pnc _ => false
  | _ => true

def Ctx.opOk (X : Ctx) (op : Op) (x : XOp) : Bool := xopOk X.P X.ng X.noesc X.ibs X.keys X.cntf X.eqs X.idxf X.mlg op x

theorem szT_eq {P : Program} {t : TypeId} {n : Nat} (h : szT P t = some n) : ∃ i, P.info? t = some i ∧ i.size = n := by
  unfold szT at h; exact Option.map_eq_some_iff.1 h
theorem zrT_eq {P : Program} {t : TypeId} {v : Value} (h : zrT P t = some v) : ∃ i, P.info? t = some i ∧ i.zero = some v := by
  unfold zrT at h; exact Option.bind_eq_some_iff.1 h
theorem agT_eq {P : Program} {t : TypeId} {g : Bool} (h : agT P t = some g) : ∃ d, P.underlying t = some d ∧ aggD d = g := by
  unfold agT at h; exact Option.map_eq_some_iff.1 h
theorem beqN {a b : Nat} (h : Nat.beq a b = true) : a = b := Nat.eq_of_beq_eq_true h
theorem nbeq0 {a : Nat} (h : (!Nat.beq a 0) = true) : a ≠ 0 := by intro e; subst e; simp at h

/-- Operations that read alone. -/
def YOp.isRd : YOp → Bool
  | .look _ _ _ _ _ | .mlen _ | .ment _ | .cnt _ _ | .eqa _ _ _ _ | .cmpu _ _ _ | .idxs _ _ _ => true
  | _ => false
def XOp.isRd : XOp → Bool
  | .ext y => y.isRd
  | .alloc _ _ | .box _ _ | .bslice _ _ _ _ | .store _ _ _ | .cs2b _ _ | .mkmap | .mksl _ _ _ _ _ | .call _ _ | .lenM _ | .app _ _ _ _ _ | .cpy _ _ _ | .recov | .dfr _ _ | .pnc _ | .ustr _ _ _ | .refuse => false
  | _ => true
/-- Operations that make one new block. -/
def XOp.isAl : XOp → Bool
  | .alloc _ _ | .box _ _ | .bslice _ _ _ _ | .cs2b _ _ | .mksl _ _ _ _ _ | .mkmap => true
  | _ => false

def Sim3 (X : Ctx) (x : XOp) (ι : Inj) (w : World) (v : Value) (st st' : St) (s : Sem Next) : Prop :=
  Sim X ι w v st' s ∧ (x.isRd = true → SimR X ι w v st st' s) ∧ (x.isAl = true → SimA X ι w v st st' s)
section
variable {p : Prop} {x : XOp} {ι : Inj} {w : World} {v : Value} {st st' : St} {s : Sem Next}
theorem rdSim (h : p ∧ SimR X ι w v st st' s) (hx : x.isAl = false) : p ∧ Sim3 X x ι w v st st' s := ⟨h.1, h.2.sim, fun _ => h.2, fun e => by rw [hx] at e; cases e⟩
theorem alSim (h : p ∧ SimA X ι w v st st' s) (hx : x.isRd = false) : p ∧ Sim3 X x ι w v st st' s := ⟨h.1, h.2.sim, fun e => (by rw [hx] at e; cases e), fun _ => h.2⟩
theorem wrSim (h : p ∧ Sim X ι w v st' s) (hx : x.isRd = false) (hx' : x.isAl = false) : p ∧ Sim3 X x ι w v st st' s := ⟨h.1, h.2, fun e => (by rw [hx] at e; cases e), fun e => by rw [hx'] at e; cases e⟩
end

/-- A first group of operations. -/
def grpA : XOp → Bool
  | .mv _ | .pick _ _ _ | .alloc _ _ | .box _ _ | .build _ _ | .bslice _ _ _ _ | .load1 _ | .loadn _ _ | .store _ _ _ | .nilck _ | .bin _ _ _ | .eqv _ _ _ _ | .un _ _ | .mkmap | .refuse | .lenM _ => true
  | _ => false

section
variable {ι : Inj} {fr fr' : AFr} {a : Act} {nt : Nat} {st st' : St} {w : World} {o : Oper} {v : Value} {call : CallT}

theorem opSim_a {x : XOp} (hk : X.opOk o.op x = true) (hf : FRel ι fr a nt) (hw : WRel X ι st w) (h : evOp call x fr st = .ok v fr' st')
    (hx : grpA x = true) :
    fr' = fr ∧ Sim3 X x ι w v st st' (execOp a.eval o) := by
  generalize ho : o.op = op at hk
  cases x with
  | mv p =>
    cases op with
    | move q => obtain ⟨rfl, h2⟩ := opdIs_eq hk; exact rdSim (sim_mv (call := call) h2 (.inl ho) hf hw h) rfl
    | assign q => obtain ⟨rfl, h2⟩ := opdIs_eq hk; exact rdSim (sim_mv (call := call) h2 (.inr ho) hf hw h) rfl
    | _ => exact absurd hk Bool.false_ne_true
  | pick c p q =>
    cases op with
    | pick c' p' q' =>
      have hk : (opdIs X.ng c c' && opdIs X.ng p p' && opdIs X.ng q q') = true := hk
      simp only [Bool.and_eq_true] at hk
      obtain ⟨⟨h1, h2⟩, h3⟩ := hk
      obtain ⟨rfl, k1⟩ := opdIs_eq h1
      obtain ⟨rfl, k2⟩ := opdIs_eq h2
      obtain ⟨rfl, k3⟩ := opdIs_eq h3
      exact rdSim (sim_pick (call := call) k1 k2 k3 ho hf hw h) rfl
    | _ => exact absurd hk Bool.false_ne_true
  | alloc z e =>
    cases op with
    | alloc t =>
      have hk : (Nat.beq e t && (match zrT X.P t with | some v => veqL z v.cells.toList && vpureL z | none => false)) = true := hk
      rw [Bool.and_eq_true] at hk
      obtain ⟨h1, h2⟩ := hk
      have e1 := beqN h1
      subst e1
      split at h2
      · rename_i zv hzv
        rw [Bool.and_eq_true] at h2
        have e2 := veqL_eq _ _ h2.1
        subst e2
        obtain ⟨i, hi, hz⟩ := zrT_eq hzv
        exact alSim (sim_alloc (call := call) ho hi hz h2.2 hw h) rfl
      · cases h2
    | _ => exact absurd hk Bool.false_ne_true
  | box e p =>
    cases op with
    | box t q =>
      have hk : (Nat.beq e t && opdIs X.ng p q) = true := hk
      rw [Bool.and_eq_true] at hk
      have e1 := beqN hk.1
      subst e1
      obtain ⟨rfl, h2⟩ := opdIs_eq hk.2
      exact alSim (sim_box (call := call) h2 ho hf hw h) rfl
    | _ => exact absurd hk Bool.false_ne_true
  | build z ps =>
    cases op with
    | build t parts =>
      have hk : ((match zrT X.P t with | some v => veqL z v.cells.toList && vpureL z | none => false) &&
        (match X.P.underlying t with
          | some (.struct fields) => fields.toList.all (fun f => (X.P.info? f.type).isSome) && partsIs X.ng (fun j => (fields.map fun f => (f.offset, X.P.cellsOf f.type))[j]?) ps parts.toList
          | some (.array _ e) => (match szT X.P e with | some s => partsIs X.ng (fun j => some (j * s, s)) ps parts.toList | none => false)
          | _ => false)) = true := hk
      rw [Bool.and_eq_true] at hk
      obtain ⟨h1, h2⟩ := hk
      split at h1
      · rename_i zv hzv
        rw [Bool.and_eq_true] at h1
        have e2 := veqL_eq _ _ h1.1
        subst e2
        obtain ⟨i, hi, hz⟩ := zrT_eq hzv
        split at h2
        · rename_i fields hu
          rw [Bool.and_eq_true, List.all_eq_true] at h2
          obtain ⟨k1, k2⟩ := partsIs_eq h2.2
          exact rdSim (sim_buildS (call := call) ho hu hi hz h1.2 h2.1 k1 k2 hf hw h) rfl
        · rename_i n e hu
          split at h2
          · rename_i s hs
            obtain ⟨ie, hie, rfl⟩ := szT_eq hs
            obtain ⟨k1, k2⟩ := partsIs_eq h2
            exact rdSim (sim_buildA (call := call) ho hu hi hz h1.2 hie (by rw [k1]; simp) (fun p hp => (k2 p hp).2) hf hw h) rfl
          · cases h2
        · cases h2
      · cases h1
    | _ => exact absurd hk Bool.false_ne_true
  | bslice e n z ps =>
    cases op with
    | buildSlice t m parts =>
      have hk : (Nat.beq n m && (match X.P.underlying t with
        | some (.slice el) => Nat.beq e el && (match szT X.P el, zrT X.P el with
          | some s, some v => Nat.ble (m * s) (2 ^ 24) && veqL z ((List.range (m * s)).map (fun j => (if m * s = 0 then (#[] : Array Value) else v.cells)[j % (if m * s = 0 then (#[] : Array Value) else v.cells).size]!)) && vpureL z &&
            partsIs X.ng (fun j => some (j * s, s)) ps parts.toList
          | _, _ => false)
        | _ => false)) = true := hk
      rw [Bool.and_eq_true] at hk
      obtain ⟨h1, h2⟩ := hk
      have e1 := beqN h1
      subst e1
      split at h2
      · rename_i el hu
        rw [Bool.and_eq_true] at h2
        obtain ⟨h3, h4⟩ := h2
        have e2 := beqN h3
        subst e2
        split at h4
        · rename_i s zv hs hzv
          simp only [Bool.and_eq_true] at h4
          obtain ⟨⟨⟨h5, h6⟩, h7⟩, h8⟩ := h4
          obtain ⟨ie, hie, rfl⟩ := szT_eq hs
          obtain ⟨ie', hie', hz⟩ := zrT_eq hzv
          rw [hie] at hie'; cases hie'
          obtain ⟨k1, k2⟩ := partsIs_eq h8
          exact alSim (sim_bslice (call := call) ho hu hie hz (ble_true.1 h5) (veqL_eq _ _ h6) h7 (by rw [k1]; simp) (fun p hp => (k2 p hp).2) hf hw h) rfl
        · cases h4
      · cases h2
    | _ => exact absurd hk Bool.false_ne_true
  | load1 p =>
    cases op with
    | load t q =>
      have hk : (opdIs X.ng p q && (match agT X.P t with | some g => !g | none => false)) = true := hk
      rw [Bool.and_eq_true] at hk
      obtain ⟨h1, h2⟩ := hk
      obtain ⟨rfl, k1⟩ := opdIs_eq h1
      split at h2
      · rename_i g hg
        obtain ⟨d, hd, e⟩ := agT_eq hg
        exact rdSim (sim_load1 (call := call) k1 ho hd (by rw [e]; simpa using h2) hf hw h) rfl
      · cases h2
    | _ => exact absurd hk Bool.false_ne_true
  | loadn n p =>
    cases op with
    | load t q =>
      have hk : (opdIs X.ng p q && (match agT X.P t, szT X.P t with | some g, some s => g && Nat.beq n s | _, _ => false)) = true := hk
      rw [Bool.and_eq_true] at hk
      obtain ⟨h1, h2⟩ := hk
      obtain ⟨rfl, k1⟩ := opdIs_eq h1
      split at h2
      · rename_i g s hg hs
        rw [Bool.and_eq_true] at h2
        obtain ⟨d, hd, e⟩ := agT_eq hg
        obtain ⟨i, hi, rfl⟩ := szT_eq hs
        have e1 := beqN h2.2
        subst e1
        exact rdSim (sim_loadn (call := call) k1 ho hd (by rw [e]; exact h2.1) hi hf hw h) rfl
      · cases h2
    | _ => exact absurd hk Bool.false_ne_true
  | store n p q =>
    cases op with
    | store t p' q' =>
      have hk : (opdIs X.ng p p' && opdIs X.ng q q' && (match szT X.P t with | some s => Nat.beq n s | none => false)) = true := hk
      simp only [Bool.and_eq_true] at hk
      obtain ⟨⟨h1, h2⟩, h3⟩ := hk
      obtain ⟨rfl, k1⟩ := opdIs_eq h1
      obtain ⟨rfl, k2⟩ := opdIs_eq h2
      split at h3
      · rename_i s hs
        obtain ⟨i, hi, rfl⟩ := szT_eq hs
        have e1 := beqN h3
        subst e1
        exact wrSim (sim_store (call := call) k1 k2 ho hi hf hw h) rfl rfl
      · cases h3
    | _ => exact absurd hk Bool.false_ne_true
  | nilck p =>
    cases op with
    | nilCheck q => obtain ⟨rfl, h2⟩ := opdIs_eq hk; exact rdSim (sim_nilck (call := call) h2 ho hf hw h) rfl
    | _ => exact absurd hk Bool.false_ne_true
  | bin bo p q =>
    cases op with
    | binOp bo' t p' q' yt =>
      have hk : (decide (bo = bo') && opdIs X.ng p p' && opdIs X.ng q q') = true := hk
      simp only [Bool.and_eq_true, decide_eq_true_eq] at hk
      obtain ⟨⟨h1, h2⟩, h3⟩ := hk
      subst h1
      obtain ⟨rfl, k1⟩ := opdIs_eq h2
      obtain ⟨rfl, k2⟩ := opdIs_eq h3
      exact rdSim (sim_bin (call := call) k1 k2 ho hf hw h) rfl
    | _ => exact absurd hk Bool.false_ne_true
  | eqv neg e p q =>
    cases op with
    | binOp bo' t p' q' yt =>
      have hk : (decide (bo' = (if neg then .neq else .eql)) && opdIs X.ng p p' && opdIs X.ng q q' && eqvIs X.P t e p' q') = true := hk
      simp only [Bool.and_eq_true, decide_eq_true_eq] at hk
      obtain ⟨⟨⟨h1, h2⟩, h3⟩, h4⟩ := hk
      subst h1
      obtain ⟨rfl, k1⟩ := opdIs_eq h2
      obtain ⟨rfl, k2⟩ := opdIs_eq h3
      exact rdSim (sim_eqv (call := call) k1 k2 ho (eqvIs_ok _ h4) hf hw h) rfl
    | _ => exact absurd hk Bool.false_ne_true
  | un uo p =>
    cases op with
    | unOp uo' t q =>
      have hk : (decide (uo = uo') && opdIs X.ng p q) = true := hk
      simp only [Bool.and_eq_true, decide_eq_true_eq] at hk
      obtain ⟨h1, h2⟩ := hk
      subst h1
      obtain ⟨rfl, k1⟩ := opdIs_eq h2
      exact rdSim (sim_un (call := call) k1 ho hf hw h) rfl
    | _ => exact absurd hk Bool.false_ne_true
  | mkmap =>
    cases op with
    | makeMap t r =>
      cases r with
      | none =>
        have h : op_mkmap call fr st = .ok v fr' st' := h
        unfold op_mkmap at h
        rw [newK_eq] at h
        cases h
        obtain ⟨κ, k1, k2, k3, hκ⟩ := WRel.alloc X hw (.map [] 0) (.map #[] 0) 0 (fun κ w' _ _ ht => ⟨rfl, rfl, #[], 0, ht, rfl, ⟨fun s t h _ _ => absurd h (Nat.not_lt_zero _), fun s h => absurd h (Nat.not_lt_zero _), fun j => by simp⟩, by simp, .nil, .nil, [], .nil, rfl, fun i hi => by simp at hi⟩) { w with heap := w.heap.push (.map #[] 0) } rfl
        rw [hκ] at k1 k2 k3
        refine alSim ⟨rfl, _, _, _, .map (some w.heap.size), _, rfl, by simp, ?_, rfl, .map _ _ _ k3, k1, k2⟩ rfl
        unfold execOp; rw [ho]
        simp [Instr.makeMap, Result.andThen]
      | some r => exact absurd hk Bool.false_ne_true
    | _ => exact absurd hk Bool.false_ne_true
  | refuse => cases h
  | lenM p => cases h
  | _ => exact absurd hx Bool.false_ne_true
end
end Go.AM
namespace Go.AM
variable {X : Ctx}

theorem ksEq_eq {a b : KS} (h : ksEq a b = true) : a = b := by
  cases a <;> cases b <;> simp [ksEq] at h <;> first | rfl | (rw [h]) | (rw [h.1, h.2])
theorem ksIs_ok {P : Program} {keys : TypeId → Option KS} {t : TypeId} {ks : KS} (h : ksIs P keys t ks = true) : ∃ kt et, P.underlying t = some (.map kt et) ∧ keys kt = some ks := by
  unfold ksIs at h
  split at h
  · rename_i kt et hu
    split at h
    · rename_i ks' hk
      exact ⟨kt, et, hu, by rw [hk, ksEq_eq h]⟩
    · cases h
  · cases h
theorem isMap {P : Program} {t : TypeId} (h : (match P.underlying t with | some (.map _ _) => true | _ => false) = true) : ∃ kt et, P.underlying t = some (.map kt et) := by
  split at h
  · rename_i kt et hu; exact ⟨kt, et, hu⟩
  · cases h

section
variable {ι : Inj} {fr fr' : AFr} {a : Act} {nt : Nat} {st st' : St} {w : World} {o : Oper} {v : Value} {call : CallT}
theorem sim_ext {y : YOp} (hk : X.opOk o.op (.ext y) = true) (hf : FRel ι fr a nt) (hw : WRel X ι st w) (h : evOp call (.ext y) fr st = .ok v fr' st') :
    fr' = fr ∧ Sim3 X (.ext y) ι w v st st' (execOp a.eval o) := by
  generalize ho : o.op = op at hk
  have hk : yopOk X.P X.ng X.keys X.cntf X.eqs X.idxf X.mlg op y = true := hk
  have h : evY fr st y = .ok v fr' st' := h
  unfold yopOk at hk
  split at hk
  · simp only [Bool.and_eq_true] at hk
    obtain ⟨⟨⟨⟨h1, h2⟩, h3⟩, h4⟩, h5⟩ := hk
    obtain ⟨rfl, k1⟩ := opdIs_eq h1
    obtain ⟨rfl, k2⟩ := opdIs_eq h2
    have e3 := eq_of_beq h3
    subst e3
    obtain ⟨kt, et, hu, hK⟩ := ksIs_ok h4
    rw [hu] at h5
    simp only at h5
    split at h5
    · rename_i zv hzv
      rw [Bool.and_eq_true] at h5
      have e5 := veq_eq _ _ h5.1
      subst e5
      obtain ⟨i, hi, hz⟩ := zrT_eq hzv
      exact rdSim (sim_look k1 k2 ho hu hK hi hz h5.2 hf hw h) rfl
    · cases h5
  · simp only [Bool.and_eq_true] at hk
    obtain ⟨⟨⟨h1, h2⟩, h3⟩, h4⟩ := hk
    obtain ⟨rfl, k1⟩ := opdIs_eq h1
    obtain ⟨rfl, k2⟩ := opdIs_eq h2
    obtain ⟨rfl, k3⟩ := opdIs_eq h3
    obtain ⟨kt, et, hu, hK⟩ := ksIs_ok h4
    exact wrSim (sim_upd k1 k2 k3 (.inl ho) hu hK hf hw h) rfl rfl
  · simp only [Bool.and_eq_true] at hk
    obtain ⟨⟨⟨h1, h2⟩, h3⟩, h4⟩ := hk
    obtain ⟨rfl, k1⟩ := opdIs_eq h1
    obtain ⟨rfl, k2⟩ := opdIs_eq h2
    obtain ⟨rfl, k3⟩ := opdIs_eq h3
    obtain ⟨kt, et, hu, hK⟩ := ksIs_ok h4
    exact wrSim (sim_upd k1 k2 k3 (.inr ho) hu hK hf hw h) rfl rfl
  · simp only [Bool.and_eq_true] at hk
    obtain ⟨⟨h1, h2⟩, h4⟩ := hk
    obtain ⟨rfl, k1⟩ := opdIs_eq h1
    obtain ⟨rfl, k2⟩ := opdIs_eq h2
    obtain ⟨kt, et, hu, hK⟩ := ksIs_ok h4
    exact wrSim (sim_del k1 k2 ho hu hK hf hw h) rfl rfl
  · rw [Bool.and_eq_true] at hk
    obtain ⟨rfl, k1⟩ := opdIs_eq hk.1
    obtain ⟨kt, et, hu⟩ := isMap hk.2
    exact rdSim (sim_mlen k1 ho hu hf hw h) rfl
  · rw [Bool.and_eq_true] at hk
    obtain ⟨rfl, k1⟩ := opdIs_eq hk.1
    obtain ⟨kt, et, hu⟩ := isMap hk.2
    exact wrSim (sim_mrng k1 ho hu hf hw h) rfl rfl
  · obtain ⟨rfl, k1⟩ := opdIs_eq hk
    exact rdSim (sim_ment k1 ho hf hw h) rfl
  · cases h
  · simp only [Bool.and_eq_true, decide_eq_true_eq] at hk
    obtain ⟨⟨⟨h0, h1⟩, h2⟩, _⟩ := hk
    obtain ⟨rfl, k1⟩ := opdIs_eq h1
    obtain ⟨rfl, k2⟩ := opdIs_eq h2
    subst h0
    exact rdSim (sim_cmpu k1 k2 ho hf hw h) rfl
  · simp only [Bool.and_eq_true] at hk
    obtain ⟨⟨⟨h1, h2⟩, h3⟩, h4⟩ := hk
    obtain ⟨rfl, k1⟩ := opdIs_eq h1
    obtain ⟨rfl, k2⟩ := opdIs_eq h2
    have e := beqN h4
    subst e
    exact rdSim (sim_idxs k1 k2 h3 ho hf hw h) rfl
  · simp only [Bool.and_eq_true] at hk
    obtain ⟨⟨h1, h2⟩, h3⟩ := hk
    obtain ⟨rfl, k1⟩ := opdIs_eq h1
    obtain ⟨rfl, k2⟩ := opdIs_eq h2
    exact rdSim (sim_cnt k1 k2 h3 ho hf hw h) rfl
  · simp only [Bool.and_eq_true, decide_eq_true_eq] at hk
    obtain ⟨⟨⟨h0, h1⟩, h2⟩, h3⟩ := hk
    obtain ⟨rfl, k1⟩ := opdIs_eq h1
    obtain ⟨rfl, k2⟩ := opdIs_eq h2
    subst h0
    split at h3
    · rename_i n' hn
      have e := beqN h3
      subst e
      exact rdSim (sim_eqa k1 k2 hn ho hf hw h) rfl
    · cases h3
  · cases hk
end
end Go.AM
namespace Go.AM
variable {X : Ctx}

theorem inv_lenS {op : Op} {p : Operand} (hk : X.opOk op (.lenS p) = true) : ∃ q t, op = .call { callee := .builtin .len, args := #[q], argTypes := #[t] } ∧ (opdIs X.ng p q && (match X.P.underlying t with | some (.slice _) => true | _ => false)) = true := by
  cases op with
  | call c =>
    obtain ⟨callee, ⟨args⟩, ⟨ts⟩⟩ := c
    cases callee with
    | builtin b =>
      cases b with
      | len =>
        match args, ts, hk with
        | [q], [t], hk => exact ⟨q, t, rfl, hk⟩
        | [], _, hk => exact absurd hk Bool.false_ne_true
        | _ :: _ :: _, _, hk => exact absurd hk Bool.false_ne_true
        | [_], [], hk => exact absurd hk Bool.false_ne_true
        | [_], _ :: _ :: _, hk => exact absurd hk Bool.false_ne_true
      | _ => exact absurd hk Bool.false_ne_true
    | _ => exact absurd hk Bool.false_ne_true
  | _ => exact absurd hk Bool.false_ne_true

theorem inv_lenT {op : Op} {p : Operand} (hk : X.opOk op (.lenT p) = true) : ∃ q t, op = .call { callee := .builtin .len, args := #[q], argTypes := #[t] } ∧ (opdIs X.ng p q && (match X.P.underlying t with | some .string => true | _ => false)) = true := by
  cases op with
  | call c =>
    obtain ⟨callee, ⟨args⟩, ⟨ts⟩⟩ := c
    cases callee with
    | builtin b =>
      cases b with
      | len =>
        match args, ts, hk with
        | [q], [t], hk => exact ⟨q, t, rfl, hk⟩
        | [], _, hk => exact absurd hk Bool.false_ne_true
        | _ :: _ :: _, _, hk => exact absurd hk Bool.false_ne_true
        | [_], [], hk => exact absurd hk Bool.false_ne_true
        | [_], _ :: _ :: _, hk => exact absurd hk Bool.false_ne_true
      | _ => exact absurd hk Bool.false_ne_true
    | _ => exact absurd hk Bool.false_ne_true
  | _ => exact absurd hk Bool.false_ne_true

theorem inv_lenC {op : Op} {n : Nat} (hk : X.opOk op (.lenC n) = true) : ∃ q t, op = .call { callee := .builtin .len, args := #[q], argTypes := #[t] } ∧ (match X.P.underlying t with | some (.array m _) => Nat.beq n m | some (.pointer u) => (match X.P.underlying u with | some (.array m _) => Nat.beq n m | _ => false) | _ => false) = true := by
  cases op with
  | call c =>
    obtain ⟨callee, ⟨args⟩, ⟨ts⟩⟩ := c
    cases callee with
    | builtin b =>
      cases b with
      | len =>
        match args, ts, hk with
        | [q], [t], hk => exact ⟨q, t, rfl, hk⟩
        | [], _, hk => exact absurd hk Bool.false_ne_true
        | _ :: _ :: _, _, hk => exact absurd hk Bool.false_ne_true
        | [_], [], hk => exact absurd hk Bool.false_ne_true
        | [_], _ :: _ :: _, hk => exact absurd hk Bool.false_ne_true
      | _ => exact absurd hk Bool.false_ne_true
    | _ => exact absurd hk Bool.false_ne_true
  | _ => exact absurd hk Bool.false_ne_true

theorem inv_app {op : Op} {e sz bs : Nat} {s p : Operand} (hk : X.opOk op (.app e sz bs s p) = true) : ∃ s' q t u, op = .call { callee := .builtin .append, args := #[s', q], argTypes := #[t, u] } ∧
    (opdIs X.ng s s' && opdIs X.ng p q && (match X.P.underlying t, X.P.underlying u with
      | some (.slice el), some d => Nat.beq e el && (match d with | .int _ => false | _ => true) && (match X.P.info? el with
        | some i => Nat.beq sz i.size && Nat.beq bs i.bytes && (match i.zero with | some v => Nat.beq v.cells.size i.size | none => false)
        | none => false)
      | _, _ => false)) = true := by
  cases op with
  | call c =>
    obtain ⟨callee, ⟨args⟩, ⟨ts⟩⟩ := c
    cases callee with
    | builtin b =>
      cases b with
      | append =>
        match args, ts, hk with
        | [s', q], [t, u], hk => exact ⟨s', q, t, u, rfl, hk⟩
        | [], _, hk => exact absurd hk Bool.false_ne_true
        | [_], _, hk => exact absurd hk Bool.false_ne_true
        | _ :: _ :: _ :: _, _, hk => exact absurd hk Bool.false_ne_true
        | [_, _], [], hk => exact absurd hk Bool.false_ne_true
        | [_, _], [_], hk => exact absurd hk Bool.false_ne_true
        | [_, _], _ :: _ :: _ :: _, hk => exact absurd hk Bool.false_ne_true
      | _ => exact absurd hk Bool.false_ne_true
    | _ => exact absurd hk Bool.false_ne_true
  | _ => exact absurd hk Bool.false_ne_true

theorem inv_mx {op : Op} {p : Operand} {ps : List Operand} (hk : X.opOk op (.mx p ps) = true) : ∃ q qs ts, op = .call { callee := .builtin .max, args := (q :: qs).toArray, argTypes := ts } ∧ (opdIs X.ng p q && opdsIs X.ng ps qs) = true := by
  cases op with
  | call c =>
    obtain ⟨callee, ⟨args⟩, ts⟩ := c
    cases callee with
    | builtin b =>
      cases b with
      | max =>
        match args, hk with
        | q :: qs, hk => exact ⟨q, qs, ts, rfl, hk⟩
        | [], hk => exact absurd hk Bool.false_ne_true
      | _ => exact absurd hk Bool.false_ne_true
    | _ => exact absurd hk Bool.false_ne_true
  | _ => exact absurd hk Bool.false_ne_true

theorem inv_mn {op : Op} {p : Operand} {ps : List Operand} (hk : X.opOk op (.mn p ps) = true) : ∃ q qs ts, op = .call { callee := .builtin .min, args := (q :: qs).toArray, argTypes := ts } ∧ (opdIs X.ng p q && opdsIs X.ng ps qs) = true := by
  cases op with
  | call c =>
    obtain ⟨callee, ⟨args⟩, ts⟩ := c
    cases callee with
    | builtin b =>
      cases b with
      | min =>
        match args, hk with
        | q :: qs, hk => exact ⟨q, qs, ts, rfl, hk⟩
        | [], hk => exact absurd hk Bool.false_ne_true
      | _ => exact absurd hk Bool.false_ne_true
    | _ => exact absurd hk Bool.false_ne_true
  | _ => exact absurd hk Bool.false_ne_true

theorem inv_cpy {op : Op} {sz : Nat} {d s : Operand} (hk : X.opOk op (.cpy sz d s) = true) : ∃ d' s' t u, op = .call { callee := .builtin .copy, args := #[d', s'], argTypes := #[t, u] } ∧
    (opdIs X.ng d d' && opdIs X.ng s s' && (match X.P.underlying t with | some (.slice e) => (match szT X.P e with | some n => Nat.beq sz n | none => false) | _ => false)) = true := by
  cases op with
  | call c =>
    obtain ⟨callee, ⟨args⟩, ⟨ts⟩⟩ := c
    cases callee with
    | builtin b =>
      cases b with
      | copy =>
        match args, ts, hk with
        | [s', q], [t, u], hk => exact ⟨s', q, t, u, rfl, hk⟩
        | [], _, hk => exact absurd hk Bool.false_ne_true
        | [_], _, hk => exact absurd hk Bool.false_ne_true
        | _ :: _ :: _ :: _, _, hk => exact absurd hk Bool.false_ne_true
        | [_, _], [], hk => exact absurd hk Bool.false_ne_true
        | [_, _], [_], hk => exact absurd hk Bool.false_ne_true
        | [_, _], _ :: _ :: _ :: _, hk => exact absurd hk Bool.false_ne_true
      | _ => exact absurd hk Bool.false_ne_true
    | _ => exact absurd hk Bool.false_ne_true
  | _ => exact absurd hk Bool.false_ne_true

theorem inv_sdata {op : Op} {p : Operand} (hk : X.opOk op (.sdata p) = true) : ∃ q t, op = .call { callee := .builtin .unsafeSliceData, args := #[q], argTypes := #[t] } ∧ opdIs X.ng p q = true := by
  cases op with
  | call c =>
    obtain ⟨callee, ⟨args⟩, ⟨ts⟩⟩ := c
    cases callee with
    | builtin b =>
      cases b with
      | unsafeSliceData =>
        match args, ts, hk with
        | [q], [t], hk => exact ⟨q, t, rfl, hk⟩
        | [], _, hk => exact absurd hk Bool.false_ne_true
        | _ :: _ :: _, _, hk => exact absurd hk Bool.false_ne_true
        | [_], [], hk => exact absurd hk Bool.false_ne_true
        | [_], _ :: _ :: _, hk => exact absurd hk Bool.false_ne_true
      | _ => exact absurd hk Bool.false_ne_true
    | _ => exact absurd hk Bool.false_ne_true
  | _ => exact absurd hk Bool.false_ne_true

theorem inv_ustr {op : Op} {e : Nat} {p n : Operand} (hk : X.opOk op (.ustr e p n) = true) : ∃ q m t u, op = .call { callee := .builtin .unsafeString, args := #[q, m], argTypes := #[t, u] } ∧
    (opdIs X.ng p q && opdIs X.ng n m && (match X.P.underlying t with | some (.pointer e') => Nat.beq e e' && (match szT X.P e' with | some 1 => true | _ => false) | _ => false)) = true := by
  cases op with
  | call c =>
    obtain ⟨callee, ⟨args⟩, ⟨ts⟩⟩ := c
    cases callee with
    | builtin b =>
      cases b with
      | unsafeString =>
        match args, ts, hk with
        | [s', q], [t, u], hk => exact ⟨s', q, t, u, rfl, hk⟩
        | [], _, hk => exact absurd hk Bool.false_ne_true
        | [_], _, hk => exact absurd hk Bool.false_ne_true
        | _ :: _ :: _ :: _, _, hk => exact absurd hk Bool.false_ne_true
        | [_, _], [], hk => exact absurd hk Bool.false_ne_true
        | [_, _], [_], hk => exact absurd hk Bool.false_ne_true
        | [_, _], _ :: _ :: _ :: _, hk => exact absurd hk Bool.false_ne_true
      | _ => exact absurd hk Bool.false_ne_true
    | _ => exact absurd hk Bool.false_ne_true
  | _ => exact absurd hk Bool.false_ne_true

theorem inv_ibs {op : Op} {p c : Operand} (hk : X.opOk op (.ibs p c) = true) : ∃ f q d ts, op = .call { callee := .value (.func f), args := #[q, d], argTypes := ts } ∧ (opdIs X.ng p q && opdIs X.ng c d && X.ibs f) = true := by
  cases op with
  | call c =>
    obtain ⟨callee, ⟨args⟩, ts⟩ := c
    cases callee with
    | value g =>
      cases g with
      | func f =>
        match args, hk with
        | [q, d], hk => exact ⟨f, q, d, ts, rfl, hk⟩
        | [], hk => exact absurd hk Bool.false_ne_true
        | [_], hk => exact absurd hk Bool.false_ne_true
        | _ :: _ :: _ :: _, hk => exact absurd hk Bool.false_ne_true
      | _ => exact absurd hk Bool.false_ne_true
    | _ => exact absurd hk Bool.false_ne_true
  | _ => exact absurd hk Bool.false_ne_true

theorem inv_noesc {op : Op} {p : Operand} (hk : X.opOk op (.noesc p) = true) : ∃ f q ts, op = .call { callee := .value (.func f), args := #[q], argTypes := ts } ∧ (opdIs X.ng p q && X.noesc f) = true := by
  cases op with
  | call c =>
    obtain ⟨callee, ⟨args⟩, ts⟩ := c
    cases callee with
    | value g =>
      cases g with
      | func f =>
        match args, hk with
        | [q], hk => exact ⟨f, q, ts, rfl, hk⟩
        | [], hk => exact absurd hk Bool.false_ne_true
        | _ :: _ :: _, hk => exact absurd hk Bool.false_ne_true
      | _ => exact absurd hk Bool.false_ne_true
    | _ => exact absurd hk Bool.false_ne_true
  | _ => exact absurd hk Bool.false_ne_true

theorem inv_recov {op : Op} (hk : X.opOk op .recov = true) : ∃ ts, op = .call { callee := .builtin .recover, args := #[], argTypes := ts } := by
  cases op with
  | call c =>
    obtain ⟨callee, ⟨args⟩, ts⟩ := c
    cases callee with
    | builtin b =>
      cases b with
      | recover =>
        match args, hk with
        | [], _ => exact ⟨ts, rfl⟩
        | _ :: _, hk => exact absurd hk Bool.false_ne_true
      | _ => exact absurd hk Bool.false_ne_true
    | _ => exact absurd hk Bool.false_ne_true
  | _ => exact absurd hk Bool.false_ne_true

theorem inv_call {op : Op} {f : Operand} {ps : List Operand} (hk : X.opOk op (.call f ps) = true) : ∃ g args ts, op = .call { callee := .value g, args := args, argTypes := ts } ∧
    (opdIs X.ng f g && opdsIs X.ng ps args.toList && (match g with | .func k => ((X.P.funcs[k]?).map (fun fn => fn.body.isSome && !(fn.name == "runtime.NumGoroutine"))).getD false | _ => true)) = true := by
  cases op with
  | call c =>
    obtain ⟨callee, args, ts⟩ := c
    cases callee with
    | value g => exact ⟨g, args, ts, rfl, hk⟩
    | _ => exact absurd hk Bool.false_ne_true
  | _ => exact absurd hk Bool.false_ne_true

theorem inv_dfr {op : Op} {f : Operand} {ps : List Operand} (hk : X.opOk op (.dfr f ps) = true) : ∃ g args ts, op = .defer { callee := .value g, args := args, argTypes := ts } ∧ (opdIs X.ng f g && opdsIs X.ng ps args.toList) = true := by
  cases op with
  | defer c =>
    obtain ⟨callee, args, ts⟩ := c
    cases callee with
    | value g => exact ⟨g, args, ts, rfl, hk⟩
    | _ => exact absurd hk Bool.false_ne_true
  | _ => exact absurd hk Bool.false_ne_true

theorem inv_pnc {op : Op} {p : Operand} (hk : X.opOk op (.pnc p) = true) : ∃ q, op = .panic q ∧ opdIs X.ng p q = true := by
  cases op with
  | panic q => exact ⟨q, rfl, hk⟩
  | _ => exact absurd hk Bool.false_ne_true
end Go.AM
namespace Go.AM
variable {X : Ctx}
section
variable {ι : Inj} {fr fr' : AFr} {a : Act} {nt : Nat} {st st' : St} {w : World} {o : Oper} {v : Value} {call : CallT}

theorem opSim_b {x : XOp} (hk : X.opOk o.op x = true) (hf : FRel ι fr a nt) (hw : WRel X ι st w) (h : evOp call x fr st = .ok v fr' st') (hx : grpA x = false) (hp : x.inPlace = true) :
    fr' = fr ∧ Sim3 X x ι w v st st' (execOp a.eval o) := by
  generalize ho : o.op = op at hk
  cases x with
  | cint k p =>
    cases op with
    | convert s t q =>
      have hk : (opdIs X.ng p q && (match X.P.underlying s, X.P.underlying t with | some _, some (.int k') => decide (k = k') | _, _ => false)) = true := hk
      rw [Bool.and_eq_true] at hk
      obtain ⟨h1, h2⟩ := hk
      obtain ⟨rfl, k1⟩ := opdIs_eq h1
      split at h2
      · rename_i sd k' hs ht
        have e := of_decide_eq_true h2
        subst e
        exact rdSim (sim_cint (call := call) k1 ho hs ht hf hw h) rfl
      · cases h2
    | _ => exact absurd hk Bool.false_ne_true
  | cid p =>
    cases op with
    | convert s t q =>
      have hk : (opdIs X.ng p q && (match X.P.underlying s, X.P.underlying t with | some _, some .string => true | _, _ => false)) = true := hk
      rw [Bool.and_eq_true] at hk
      obtain ⟨h1, h2⟩ := hk
      obtain ⟨rfl, k1⟩ := opdIs_eq h1
      split at h2
      · rename_i sd hs ht
        exact rdSim (sim_cid (call := call) k1 ho hs ht hf hw h) rfl
      · cases h2
    | _ => exact absurd hk Bool.false_ne_true
  | cb2s p =>
    cases op with
    | convert s t q =>
      have hk : (opdIs X.ng p q && (match X.P.underlying s, X.P.underlying t with | some (.slice e), some .string => (match X.P.underlying e with | some (.int .u8) => true | _ => false) | _, _ => false)) = true := hk
      rw [Bool.and_eq_true] at hk
      obtain ⟨h1, h2⟩ := hk
      obtain ⟨rfl, k1⟩ := opdIs_eq h1
      split at h2
      · rename_i e hs ht
        split at h2
        · rename_i he
          exact rdSim (sim_cb2s (call := call) k1 ho hs ht he hf hw h) rfl
        · cases h2
      · cases h2
    | _ => exact absurd hk Bool.false_ne_true
  | cs2b e p =>
    cases op with
    | convert s t q =>
      have hk : (opdIs X.ng p q && (match X.P.underlying s, X.P.underlying t with | some .string, some (.slice e') => Nat.beq e e' && (match X.P.underlying e', szT X.P e' with | some (.int .u8), some 1 => true | _, _ => false) | _, _ => false)) = true := hk
      rw [Bool.and_eq_true] at hk
      obtain ⟨h1, h2⟩ := hk
      obtain ⟨rfl, k1⟩ := opdIs_eq h1
      split at h2
      · rename_i e' hs ht
        rw [Bool.and_eq_true] at h2
        have e1 := beqN h2.1
        subst e1
        have h3 := h2.2
        split at h3
        · rename_i he hz
          obtain ⟨i, hi, hz'⟩ := szT_eq hz
          exact alSim (sim_cs2b (call := call) k1 ho hs ht he hi hz' hf hw h) rfl
        · cases h3
      · cases h2
    | _ => exact absurd hk Bool.false_ne_true
  | mkif t p =>
    cases op with
    | makeInterface t' q =>
      have hk : (Nat.beq t t' && opdIs X.ng p q && (match X.P.underlying t' with | some (.interface _) => false | some _ => true | none => false)) = true := hk
      simp only [Bool.and_eq_true] at hk
      obtain ⟨⟨h1, h2⟩, h3⟩ := hk
      have e1 := beqN h1
      subst e1
      obtain ⟨rfl, k1⟩ := opdIs_eq h2
      split at h3
      · cases h3
      · rename_i d hne hd
        exact rdSim (sim_mkif (call := call) k1 ho hd (fun ms e => hne ms (by rw [e])) hf hw h) rfl
      · cases h3
    | _ => exact absurd hk Bool.false_ne_true
  | mkfn fn p c =>
    cases fn with
    | func f =>
      cases op with
      | makeFunc fn' q d =>
        cases fn' with
        | func g =>
          have hk : (Nat.beq f g && opdsIs X.ng p q.toList && opdsIs X.ng c d.toList) = true := hk
          simp only [Bool.and_eq_true] at hk
          obtain ⟨⟨h1, h2⟩, h3⟩ := hk
          have e1 := beqN h1
          subst e1
          obtain ⟨rfl, k1⟩ := opdsIs_eq h2
          obtain ⟨rfl, k2⟩ := opdsIs_eq h3
          exact rdSim (sim_mkfn (call := call) k1 k2 ho hf hw h) rfl
        | _ => exact absurd hk Bool.false_ne_true
      | _ => exact absurd hk Bool.false_ne_true
    | _ => cases op <;> exact absurd hk Bool.false_ne_true
  | mksl e bs z l c =>
    cases op with
    | makeSlice t l' c' =>
      have hk : (opdIs X.ng l l' && opdIs X.ng c c' && (match X.P.underlying t with
        | some (.slice el) => Nat.beq e el && (match X.P.info? el with
          | some i => Nat.beq bs i.bytes && !Nat.beq i.size 0 && (match i.zero with | some v => veqL z v.cells.toList && vpureL z && Nat.beq v.cells.toList.length i.size | none => false)
          | none => false)
        | _ => false)) = true := hk
      simp only [Bool.and_eq_true] at hk
      obtain ⟨⟨h1, h2⟩, h3⟩ := hk
      obtain ⟨rfl, k1⟩ := opdIs_eq h1
      obtain ⟨rfl, k2⟩ := opdIs_eq h2
      split at h3
      · rename_i el hu
        rw [Bool.and_eq_true] at h3
        obtain ⟨h4, h5⟩ := h3
        have e1 := beqN h4
        subst e1
        split at h5
        · rename_i i hi
          simp only [Bool.and_eq_true] at h5
          obtain ⟨⟨h6, h7⟩, h8⟩ := h5
          have e2 := beqN h6
          subst e2
          split at h8
          · rename_i zv hz
            simp only [Bool.and_eq_true] at h8
            obtain ⟨⟨h9, h10⟩, h11⟩ := h8
            have e3 := veqL_eq _ _ h9
            subst e3
            exact alSim (sim_mksl (call := call) k1 k2 ho hu hi hz (beqN h11) (nbeq0 h7) h10 hf hw h) rfl
          · cases h8
        · cases h5
      · cases h3
    | _ => exact absurd hk Bool.false_ne_true
  | slstr p lo hi =>
    cases op with
    | slice t q lo' hi' mx' =>
      cases mx' with
      | none =>
        have hk : (opdIs X.ng p q && opdIs? X.ng lo lo' && opdIs? X.ng hi hi' && (match X.P.underlying t with | some .string => true | _ => false)) = true := hk
        simp only [Bool.and_eq_true] at hk
        obtain ⟨⟨⟨h1, h2⟩, h3⟩, h4⟩ := hk
        obtain ⟨rfl, k1⟩ := opdIs_eq h1
        obtain ⟨rfl, k2⟩ := opdIs?_eq h2
        obtain ⟨rfl, k3⟩ := opdIs?_eq h3
        split at h4
        · rename_i hu
          exact rdSim (sim_slstr (call := call) k1 k2 k3 ho hu hf hw h) rfl
        · cases h4
      | some m => exact absurd hk Bool.false_ne_true
    | _ => exact absurd hk Bool.false_ne_true
  | slarr n s p lo hi mx =>
    cases op with
    | slice t q lo' hi' mx' =>
      have hk : (opdIs X.ng p q && opdIs? X.ng lo lo' && opdIs? X.ng hi hi' && opdIs? X.ng mx mx' && (mx'.isNone || hi'.isSome) &&
        (match X.P.underlying t with | some (.array n' e) => Nat.beq n n' && (match szT X.P e with | some s' => Nat.beq s s' | none => false) | _ => false)) = true := hk
      simp only [Bool.and_eq_true] at hk
      obtain ⟨⟨⟨⟨⟨h1, h2⟩, h3⟩, h4⟩, h5⟩, h6⟩ := hk
      obtain ⟨rfl, k1⟩ := opdIs_eq h1
      obtain ⟨rfl, k2⟩ := opdIs?_eq h2
      obtain ⟨rfl, k3⟩ := opdIs?_eq h3
      obtain ⟨rfl, k4⟩ := opdIs?_eq h4
      have hmh : mx ≠ none → hi ≠ none := by
        intro hm he; subst he; cases mx
        · exact hm rfl
        · simp at h5
      split at h6
      · rename_i n' e hu
        rw [Bool.and_eq_true] at h6
        obtain ⟨h7, h8⟩ := h6
        have e1 := beqN h7
        subst e1
        split at h8
        · rename_i s' hs
          obtain ⟨ie, hie, rfl⟩ := szT_eq hs
          have e2 := beqN h8
          subst e2
          exact rdSim (sim_slarr (call := call) k1 k2 k3 k4 hmh ho hu hie hf hw h) rfl
        · cases h8
      · cases h6
    | _ => exact absurd hk Bool.false_ne_true
  | slsl s p lo hi mx =>
    cases op with
    | slice t q lo' hi' mx' =>
      have hk : (opdIs X.ng p q && opdIs? X.ng lo lo' && opdIs? X.ng hi hi' && opdIs? X.ng mx mx' && (mx'.isNone || hi'.isSome) &&
        (match X.P.underlying t with | some (.slice e) => (match szT X.P e with | some s' => Nat.beq s s' | none => false) | _ => false)) = true := hk
      simp only [Bool.and_eq_true] at hk
      obtain ⟨⟨⟨⟨⟨h1, h2⟩, h3⟩, h4⟩, h5⟩, h6⟩ := hk
      obtain ⟨rfl, k1⟩ := opdIs_eq h1
      obtain ⟨rfl, k2⟩ := opdIs?_eq h2
      obtain ⟨rfl, k3⟩ := opdIs?_eq h3
      obtain ⟨rfl, k4⟩ := opdIs?_eq h4
      have hmh : mx ≠ none → hi ≠ none := by
        intro hm he; subst he; cases mx
        · exact hm rfl
        · simp at h5
      split at h6
      · rename_i e hu
        split at h6
        · rename_i s' hs
          obtain ⟨ie, hie, rfl⟩ := szT_eq hs
          have e2 := beqN h6
          subst e2
          exact rdSim (sim_slsl (call := call) k1 k2 k3 k4 hmh ho hu hie hf hw h) rfl
        · cases h6
      · cases h6
    | _ => exact absurd hk Bool.false_ne_true
  | faddr off p =>
    cases op with
    | fieldAddr t q f =>
      have hk : (opdIs X.ng p q && (match X.P.underlying t with
        | some (.struct fields) => (match fields[f]? with | some fd => Nat.beq off fd.offset && (match szT X.P fd.type with | some s => !Nat.beq s 0 | none => false) | none => false)
        | _ => false)) = true := hk
      rw [Bool.and_eq_true] at hk
      obtain ⟨h1, h2⟩ := hk
      obtain ⟨rfl, k1⟩ := opdIs_eq h1
      split at h2
      · rename_i fields hu
        split at h2
        · rename_i fd hfd
          rw [Bool.and_eq_true] at h2
          obtain ⟨h3, h4⟩ := h2
          have e1 := beqN h3
          subst e1
          split at h4
          · rename_i s hs
            obtain ⟨i, hi, rfl⟩ := szT_eq hs
            exact rdSim (sim_faddr (call := call) k1 ho hu hfd hi (nbeq0 h4) hf hw h) rfl
          · cases h4
        · cases h2
      · cases h2
    | _ => exact absurd hk Bool.false_ne_true
  | fld off sz ag p =>
    cases op with
    | field t q f =>
      have hk : (opdIs X.ng p q && (match X.P.underlying t with
        | some (.struct fields) => (match fields[f]? with | some fd => Nat.beq off fd.offset && (match szT X.P fd.type, agT X.P fd.type with | some s, some g => Nat.beq sz s && (ag == g) | _, _ => false) | none => false)
        | _ => false)) = true := hk
      rw [Bool.and_eq_true] at hk
      obtain ⟨h1, h2⟩ := hk
      obtain ⟨rfl, k1⟩ := opdIs_eq h1
      split at h2
      · rename_i fields hu
        split at h2
        · rename_i fd hfd
          rw [Bool.and_eq_true] at h2
          obtain ⟨h3, h4⟩ := h2
          have e1 := beqN h3
          subst e1
          split at h4
          · rename_i s g hs hg
            rw [Bool.and_eq_true] at h4
            obtain ⟨i, hi, rfl⟩ := szT_eq hs
            obtain ⟨d, hd, e⟩ := agT_eq hg
            have e2 := beqN h4.1
            subst e2
            have e3 : ag = aggD d := by rw [e]; simpa using h4.2
            subst e3
            exact rdSim (sim_fld (call := call) k1 ho hu hfd hd hi hf hw h) rfl
          · cases h4
        · cases h2
      · cases h2
    | _ => exact absurd hk Bool.false_ne_true
  | iaA n sz p i =>
    cases op with
    | indexAddr t q j =>
      have hk : (opdIs X.ng p q && opdIs X.ng i j && (match X.P.underlying t with | some (.array n' e) => Nat.beq n n' && (match szT X.P e with | some s => Nat.beq sz s | none => false) | _ => false)) = true := hk
      simp only [Bool.and_eq_true] at hk
      obtain ⟨⟨h1, h2⟩, h3⟩ := hk
      obtain ⟨rfl, k1⟩ := opdIs_eq h1
      obtain ⟨rfl, k2⟩ := opdIs_eq h2
      split at h3
      · rename_i n' e hu
        rw [Bool.and_eq_true] at h3
        obtain ⟨h4, h5⟩ := h3
        have e1 := beqN h4
        subst e1
        split at h5
        · rename_i s hs
          obtain ⟨ie, hie, rfl⟩ := szT_eq hs
          have e2 := beqN h5
          subst e2
          exact rdSim (sim_iaA (call := call) k1 k2 ho hu hie hf hw h) rfl
        · cases h5
      · cases h3
    | _ => exact absurd hk Bool.false_ne_true
  | iaS sz p i =>
    cases op with
    | indexAddr t q j =>
      have hk : (opdIs X.ng p q && opdIs X.ng i j && (match X.P.underlying t with | some (.slice e) => (match szT X.P e with | some s => Nat.beq sz s | none => false) | _ => false)) = true := hk
      simp only [Bool.and_eq_true] at hk
      obtain ⟨⟨h1, h2⟩, h3⟩ := hk
      obtain ⟨rfl, k1⟩ := opdIs_eq h1
      obtain ⟨rfl, k2⟩ := opdIs_eq h2
      split at h3
      · rename_i e hu
        split at h3
        · rename_i s hs
          obtain ⟨ie, hie, rfl⟩ := szT_eq hs
          have e2 := beqN h3
          subst e2
          exact rdSim (sim_iaS (call := call) k1 k2 ho hu hie hf hw h) rfl
        · cases h3
      · cases h3
    | _ => exact absurd hk Bool.false_ne_true
  | ixs p i =>
    cases op with
    | index t q j =>
      have hk : (opdIs X.ng p q && opdIs X.ng i j && (match X.P.underlying t with | some .string => true | _ => false)) = true := hk
      simp only [Bool.and_eq_true] at hk
      obtain ⟨⟨h1, h2⟩, h3⟩ := hk
      obtain ⟨rfl, k1⟩ := opdIs_eq h1
      obtain ⟨rfl, k2⟩ := opdIs_eq h2
      split at h3
      · rename_i hu
        exact rdSim (sim_ixs (call := call) k1 k2 ho hu hf hw h) rfl
      · cases h3
    | _ => exact absurd hk Bool.false_ne_true
  | ixa n sz ag p i =>
    cases op with
    | index t q j =>
      have hk : (opdIs X.ng p q && opdIs X.ng i j && (match X.P.underlying t with | some (.array n' e) => Nat.beq n n' && (match szT X.P e, agT X.P e with | some s, some g => Nat.beq sz s && (ag == g) | _, _ => false) | _ => false)) = true := hk
      simp only [Bool.and_eq_true] at hk
      obtain ⟨⟨h1, h2⟩, h3⟩ := hk
      obtain ⟨rfl, k1⟩ := opdIs_eq h1
      obtain ⟨rfl, k2⟩ := opdIs_eq h2
      split at h3
      · rename_i n' e hu
        rw [Bool.and_eq_true] at h3
        obtain ⟨h4, h5⟩ := h3
        have e1 := beqN h4
        subst e1
        split at h5
        · rename_i s g hs hg
          rw [Bool.and_eq_true] at h5
          obtain ⟨ie, hie, rfl⟩ := szT_eq hs
          obtain ⟨d, hd, e⟩ := agT_eq hg
          have e2 := beqN h5.1
          subst e2
          have e3 : ag = aggD d := by rw [e]; simpa using h5.2
          subst e3
          exact rdSim (sim_ixa (call := call) k1 k2 ho hu hd hie hf hw h) rfl
        · cases h5
      · cases h3
    | _ => exact absurd hk Bool.false_ne_true
  | tas t z ok p =>
    cases op with
    | typeAssert q xt t' ok' =>
      have hk : (opdIs X.ng p q && Nat.beq t t' && (ok == ok') && (match X.P.underlying t' with | some (.interface _) => false | some _ => true | none => false) && (match zrT X.P t' with | some v => veq z v && vpure z | none => false)) = true := hk
      simp only [Bool.and_eq_true] at hk
      obtain ⟨⟨⟨⟨h1, h2⟩, h3⟩, h4⟩, h5⟩ := hk
      obtain ⟨rfl, k1⟩ := opdIs_eq h1
      have e1 := beqN h2
      subst e1
      have e2 : ok = ok' := by simpa using h3
      subst e2
      split at h4
      · cases h4
      · rename_i d hne hd
        split at h5
        · rename_i zv hzv
          rw [Bool.and_eq_true] at h5
          have e3 := veq_eq _ _ h5.1
          subst e3
          obtain ⟨i, hi, hz⟩ := zrT_eq hzv
          exact rdSim (sim_tas (call := call) k1 ho hd (fun ms e => hne ms (by rw [e])) hi hz h5.2 hf hw h) rfl
        · cases h5
      · cases h4
    | _ => exact absurd hk Bool.false_ne_true
  | extr p i =>
    cases op with
    | extract q j =>
      have hk : (opdIs X.ng p q && Nat.beq i j) = true := hk
      rw [Bool.and_eq_true] at hk
      obtain ⟨rfl, k1⟩ := opdIs_eq hk.1
      have e1 := beqN hk.2
      subst e1
      exact rdSim (sim_extr (call := call) k1 ho hf hw h) rfl
    | _ => exact absurd hk Bool.false_ne_true
  | cpu p =>
    cases op with
    | convert s t q =>
      have hk : (opdIs X.ng p q && (match X.P.underlying s, X.P.underlying t with | some (.pointer e), some .unsafePointer => (match szT X.P e with | some n => !Nat.beq n 0 | none => false) | _, _ => false)) = true := hk
      rw [Bool.and_eq_true] at hk
      obtain ⟨h1, h2⟩ := hk
      obtain ⟨rfl, k1⟩ := opdIs_eq h1
      split at h2
      · rename_i e hs ht
        split at h2
        · rename_i n hn
          obtain ⟨i, hi, rfl⟩ := szT_eq hn
          exact rdSim (sim_cpu (call := call) k1 ho hs ht hi (nbeq0 h2) hf hw h) rfl
        · cases h2
      · cases h2
    | _ => exact absurd hk Bool.false_ne_true
  | cup e n p =>
    cases op with
    | convert s t q =>
      have hk : (opdIs X.ng p q && (match X.P.underlying s, X.P.underlying t with | some .unsafePointer, some (.pointer e') => Nat.beq e e' && (match szT X.P e' with | some m => Nat.beq n m && !Nat.beq m 0 | none => false) | _, _ => false)) = true := hk
      rw [Bool.and_eq_true] at hk
      obtain ⟨h1, h2⟩ := hk
      obtain ⟨rfl, k1⟩ := opdIs_eq h1
      split at h2
      · rename_i e' hs ht
        rw [Bool.and_eq_true] at h2
        obtain ⟨h3, h4⟩ := h2
        have e1 := beqN h3
        subst e1
        split at h4
        · rename_i m hm
          rw [Bool.and_eq_true] at h4
          obtain ⟨i, hi, rfl⟩ := szT_eq hm
          have e2 := beqN h4.1
          subst e2
          exact rdSim (sim_cup (call := call) k1 ho hs ht hi (nbeq0 h4.2) hf hw h) rfl
        · cases h4
      · cases h2
    | _ => exact absurd hk Bool.false_ne_true
  | call f as => exact absurd hp Bool.false_ne_true
  | recov => exact absurd hp Bool.false_ne_true
  | dfr f as => exact absurd hp Bool.false_ne_true
  | pnc p => exact absurd hp Bool.false_ne_true
  | lenS p =>
    obtain ⟨q, t, rfl, hj⟩ := inv_lenS hk
    rw [Bool.and_eq_true] at hj
    obtain ⟨rfl, k1⟩ := opdIs_eq hj.1
    have h2 := hj.2
    split at h2
    · rename_i e hu; exact rdSim (sim_lenS (call := call) k1 ho hu hf hw h) rfl
    · cases h2
  | lenT p =>
    obtain ⟨q, t, rfl, hj⟩ := inv_lenT hk
    rw [Bool.and_eq_true] at hj
    obtain ⟨rfl, k1⟩ := opdIs_eq hj.1
    have h2 := hj.2
    split at h2
    · rename_i hu; exact rdSim (sim_lenT (call := call) k1 ho hu hf hw h) rfl
    · cases h2
  | lenC n =>
    obtain ⟨q, t, rfl, hj⟩ := inv_lenC hk
    split at hj
    · rename_i m d hu
      have e := beqN hj
      subst e
      exact rdSim (sim_lenC (call := call) ho hu hw h) rfl
    · rename_i u hu
      split at hj
      · rename_i m d hu'
        have e := beqN hj
        subst e
        exact rdSim (sim_lenCp (call := call) ho hu hu' hw h) rfl
      · cases hj
    · cases hj
  | app e sz bs s p =>
    obtain ⟨s', q, t, u, rfl, hj⟩ := inv_app hk
    simp only [Bool.and_eq_true] at hj
    obtain ⟨⟨h1, h2⟩, h3⟩ := hj
    obtain ⟨rfl, k1⟩ := opdIs_eq h1
    obtain ⟨rfl, k2⟩ := opdIs_eq h2
    split at h3
    · rename_i el d hu hd
      simp only [Bool.and_eq_true] at h3
      obtain ⟨⟨h4, h5⟩, h6⟩ := h3
      have e1 := beqN h4
      subst e1
      split at h6
      · rename_i i hi
        simp only [Bool.and_eq_true] at h6
        obtain ⟨⟨h7, h8⟩, h9⟩ := h6
        have e2 := beqN h7
        have e3 := beqN h8
        subst e2 e3
        split at h9
        · rename_i zv hz
          exact wrSim (sim_app (call := call) k1 k2 ho hu hd (fun k e => by subst e; cases h5) hi hz (beqN h9) hf hw h) rfl rfl
        · cases h9
      · cases h6
    · cases h3
  | mx p ps =>
    obtain ⟨q, qs, ts, rfl, hj⟩ := inv_mx hk
    rw [Bool.and_eq_true] at hj
    obtain ⟨rfl, k1⟩ := opdIs_eq hj.1
    obtain ⟨rfl, k2⟩ := opdsIs_eq hj.2
    exact rdSim (sim_mx (call := call) (fun y hy => by rcases List.mem_cons.1 hy with rfl | hy; exact k1; exact k2 y hy) ho hf hw h) rfl
  | mn p ps =>
    obtain ⟨q, qs, ts, rfl, hj⟩ := inv_mn hk
    rw [Bool.and_eq_true] at hj
    obtain ⟨rfl, k1⟩ := opdIs_eq hj.1
    obtain ⟨rfl, k2⟩ := opdsIs_eq hj.2
    exact rdSim (sim_mn (call := call) (fun y hy => by rcases List.mem_cons.1 hy with rfl | hy; exact k1; exact k2 y hy) ho hf hw h) rfl
  | cpy sz d s =>
    obtain ⟨d', s', t, u, rfl, hj⟩ := inv_cpy hk
    simp only [Bool.and_eq_true] at hj
    obtain ⟨⟨h1, h2⟩, h3⟩ := hj
    obtain ⟨rfl, k1⟩ := opdIs_eq h1
    obtain ⟨rfl, k2⟩ := opdIs_eq h2
    split at h3
    · rename_i e hu
      split at h3
      · rename_i n hn
        obtain ⟨i, hi, rfl⟩ := szT_eq hn
        have e2 := beqN h3
        subst e2
        exact wrSim (sim_cpy (call := call) k1 k2 ho hu hi hf hw h) rfl rfl
      · cases h3
    · cases h3
  | sdata p =>
    obtain ⟨q, t, rfl, hj⟩ := inv_sdata hk
    obtain ⟨rfl, k1⟩ := opdIs_eq hj
    exact rdSim (sim_sdata (call := call) k1 ho hf hw h) rfl
  | ustr e p n =>
    obtain ⟨q, m, t, u, rfl, hj⟩ := inv_ustr hk
    simp only [Bool.and_eq_true] at hj
    obtain ⟨⟨h1, h2⟩, h3⟩ := hj
    obtain ⟨rfl, k1⟩ := opdIs_eq h1
    obtain ⟨rfl, k2⟩ := opdIs_eq h2
    split at h3
    · rename_i e' hu
      rw [Bool.and_eq_true] at h3
      obtain ⟨h4, h5⟩ := h3
      have e1 := beqN h4
      subst e1
      split at h5
      · rename_i hz
        obtain ⟨i, hi, hz'⟩ := szT_eq hz
        exact wrSim (sim_ustr (call := call) k1 k2 ho hu hi hz' hf hw h) rfl rfl
      · cases h5
    · cases h3
  | ibs p c =>
    obtain ⟨f, q, d, ts, rfl, hj⟩ := inv_ibs hk
    simp only [Bool.and_eq_true] at hj
    obtain ⟨⟨h1, h2⟩, h3⟩ := hj
    obtain ⟨rfl, k1⟩ := opdIs_eq h1
    obtain ⟨rfl, k2⟩ := opdIs_eq h2
    exact rdSim (sim_ibs (call := call) k1 k2 h3 ho hf hw h) rfl
  | noesc p =>
    obtain ⟨f, q, ts, rfl, hj⟩ := inv_noesc hk
    rw [Bool.and_eq_true] at hj
    obtain ⟨rfl, k1⟩ := opdIs_eq hj.1
    exact rdSim (sim_noesc (call := call) k1 hj.2 ho hf hw h) rfl
  | ext y => exact sim_ext (by rw [ho]; exact hk) hf hw h
  | _ => exact absurd hx.symm Bool.false_ne_true

/-- An operation that is done in place. -/
theorem opSim {x : XOp} (hk : X.opOk o.op x = true) (hf : FRel ι fr a nt) (hw : WRel X ι st w) (h : evOp call x fr st = .ok v fr' st') (hp : x.inPlace = true) :
    fr' = fr ∧ Sim3 X x ι w v st st' (execOp a.eval o) := by
  cases hx : grpA x
  · exact opSim_b hk hf hw h hx hp
  · exact opSim_a hk hf hw h hx
end
end Go.AM
namespace Go.AM

/-- What does not change of a frame while its code runs. -/
structure Base where
  fn : FuncId
  kind : CallKind
  rnd : Option Nat

def Base.at (b : Base) (a : Act) (todo : List Item) : Frame :=
  { fn := b.fn, tmps := a.tmps, todo := todo, defers := a.defers, mode := .run, kind := b.kind, roundOf := b.rnd }

theorem eval_at (b : Base) (a : Act) (todo : List Item) : (b.at a todo).eval = a.eval := by
  funext x; cases x <;> rfl

section
variable {P : Program} {b : Base} {a : Act} {k : List Item} {cs : List Frame} {w : World} {ops : Array Oper}

theorem st_skip : step P (lone (b.at a (.code .skip :: k)) cs w) = .next (lone (b.at a k) cs w) := step_lone_go (by simp [stepG, stepG.exec, Base.at])
theorem st_label {l : Nat} : step P (lone (b.at a (.code (.label l) :: k)) cs w) = .next (lone (b.at a k) cs w) := step_lone_go (by simp [stepG, stepG.exec, Base.at])
theorem st_inBlock {id : Nat} : step P (lone (b.at a (.inBlock id :: k)) cs w) = .next (lone (b.at a k) cs w) := step_lone_go (by simp [stepG, stepG.exec, Base.at])
theorem st_inScope {c : Code} : step P (lone (b.at a (.inScope c :: k)) cs w) = .next (lone (b.at a k) cs w) := step_lone_go (by simp [stepG, stepG.exec, Base.at])
theorem st_seq {x y : Code} : step P (lone (b.at a (.code (.seq x y) :: k)) cs w) = .next (lone (b.at a (.code x :: .code y :: k)) cs w) := step_lone_go (by simp [stepG, stepG.exec, Base.at])
theorem st_cond {c : Operand} {x y : Code} {t : Bool} (h : a.eval c = .bool t) :
    step P (lone (b.at a (.code (.cond c x y) :: k)) cs w) = .next (lone (b.at a (.code (if t then x else y) :: k)) cs w) :=
  step_lone_go (by
    have := eval_at b a (.code (.cond c x y) :: k)
    simp only [Base.at] at this
    simp [stepG, stepG.exec, Base.at, this, h])
theorem st_block {id : Nat} {c : Code} : step P (lone (b.at a (.code (.block id c) :: k)) cs w) = .next (lone (b.at a (.code c :: .inBlock id :: k)) cs w) := step_lone_go (by simp [stepG, stepG.exec, Base.at])
theorem st_loop {c : Code} : step P (lone (b.at a (.code (.loop c) :: k)) cs w) = .next (lone (b.at a (.code c :: .inLoop c :: k)) cs w) := step_lone_go (by simp [stepG, stepG.exec, Base.at])
theorem st_inLoop {c : Code} : step P (lone (b.at a (.inLoop c :: k)) cs w) = .next (lone (b.at a (.code c :: .inLoop c :: k)) cs w) := step_lone_go (by simp [stepG, stepG.exec, Base.at])
theorem st_scope {c : Code} : step P (lone (b.at a (.code (.scope c) :: k)) cs w) = .next (lone (b.at a (.code c :: .inScope c :: k)) cs w) := step_lone_go (by simp [stepG, stepG.exec, Base.at])
theorem st_exit {id : Nat} {k' : List Item} (h : exitTo id k = some k') : step P (lone (b.at a (.code (.exit id) :: k)) cs w) = .next (lone (b.at a k') cs w) := step_lone_go (by simp [stepG, stepG.exec, Base.at, h])
theorem st_region {id : Nat} : step P (lone (b.at a (.code (.region id ops false) :: k)) cs w) = .next (lone (b.at a (.inRegion ops (List.range ops.size) :: k)) cs w) := step_lone_go (by simp [stepG, stepG.exec, Base.at])
theorem st_region_draw {id : Nat} : step P (lone (b.at a (.code (.region id ops true) :: k)) cs w) =
    .next (lone (b.at a (.inRegion ops (Region.schedule (P.follows .mixedOrders) ops (w.tape w.drawn (.order b.fn id))) :: k)) cs { w with drawn := w.drawn + 1 }) :=
  step_lone_go (by simp [stepG, stepG.exec, Base.at, choose, Sem.run, Question.forced, Question.cut])
theorem st_region_end : step P (lone (b.at a (.inRegion ops [] :: k)) cs w) = .next (lone (b.at a k) cs w) := step_lone_go (by simp [stepG, stepG.exec, Base.at])

theorem finish_at (i : Nat) (rest : List Nat) (v : Value) {o : Oper} (ho : ops[i]? = some o) :
    (b.at a (.inRegion ops (i :: rest) :: k)).finish v = b.at (a.put o.dst v) (.inRegion ops rest :: k) := by
  cases h : o.dst <;> simp [Frame.finish, Base.at, Act.put, ho, h]

theorem st_op_skip {i : Nat} {rest : List Nat} {o : Oper} (ho : ops[i]? = some o) (h : Region.wanted o (yielded ops a.tmps) = false) :
    step P (lone (b.at a (.inRegion ops (i :: rest) :: k)) cs w) = .next (lone (b.at (a.put o.dst undef) (.inRegion ops rest :: k)) cs w) := by
  rw [← finish_at i rest undef ho]
  exact step_lone_go (by simp only [Base.at]; simp [stepG, stepG.exec, ho, h])

/-- How an operation that is wanted goes on. -/
theorem stepG_at {i : Nat} {rest : List Nat} {o : Oper} (ho : ops[i]? = some o) (hw : Region.wanted o (yielded ops a.tmps) = true) (hd : b.rnd = none ∨ ∀ c, o.op ≠ .defer c) :
    stepG P true { frame := b.at a (.inRegion ops (i :: rest) :: k), callers := cs, status := .running, dying := none } w =
      stepG.apply P true (b.at a (.inRegion ops (i :: rest) :: k)) cs none (execOp a.eval o) w := by
  have he := eval_at b a (.inRegion ops (i :: rest) :: k)
  simp only [Base.at] at he
  simp only [stepG, stepG.exec, Base.at, ho, Option.map_some, hw, Option.getD_some, if_true, stepG.oper, Frame.oper?]
  rcases hd with hd | hd
  · simp only [hd] at he ⊢
    rw [he]
  · cases hr : b.rnd with
    | none => simp only [hr] at he ⊢; rw [he]
    | some l =>
      rw [hr] at he
      cases hop : o.op <;> simp only [] <;> first | (exact absurd hop (hd _)) | (rw [he])

theorem st_op_value {i : Nat} {rest : List Nat} {o : Oper} {v : Value} {w' : World} (ho : ops[i]? = some o) (hw : Region.wanted o (yielded ops a.tmps) = true) (hd : b.rnd = none ∨ ∀ c, o.op ≠ .defer c)
    (hr : (execOp a.eval o).run P w = .ok (.value v) w') : step P (lone (b.at a (.inRegion ops (i :: rest) :: k)) cs w) = .next (lone (b.at (a.put o.dst v) (.inRegion ops rest :: k)) cs w') := by
  refine step_lone_go ?_
  rw [stepG_at ho hw hd, ← finish_at i rest v ho]
  simp [stepG.apply, hr]

theorem st_op_nothing {i : Nat} {rest : List Nat} {o : Oper} {w' : World} (ho : ops[i]? = some o) (hw : Region.wanted o (yielded ops a.tmps) = true) (hd : b.rnd = none ∨ ∀ c, o.op ≠ .defer c)
    (hr : (execOp a.eval o).run P w = .ok .skip w') : step P (lone (b.at a (.inRegion ops (i :: rest) :: k)) cs w) = .next (lone (b.at (a.put o.dst undef) (.inRegion ops rest :: k)) cs w') := by
  refine step_lone_go ?_
  rw [stepG_at ho hw hd, ← finish_at i rest undef ho]
  simp [stepG.apply, hr]

theorem st_op_defer {i : Nat} {rest : List Nat} {o : Oper} {d : Deferred} {w' : World} (ho : ops[i]? = some o) (hw : Region.wanted o (yielded ops a.tmps) = true) (hd : b.rnd = none)
    (hr : (execOp a.eval o).run P w = .ok (.defer d) w') : step P (lone (b.at a (.inRegion ops (i :: rest) :: k)) cs w) = .next (lone (b.at ({ a with defers := d :: a.defers }.put o.dst undef) (.inRegion ops rest :: k)) cs w') := by
  refine step_lone_go ?_
  rw [stepG_at ho hw (.inl hd)]
  have := finish_at (b := b) (a := { a with defers := d :: a.defers }) (k := k) i rest undef ho
  rw [← this]
  simp [stepG.apply, hr, Base.at]

theorem st_op_enter {i : Nat} {rest : List Nat} {o : Oper} {f : FuncId} {args : Array Value} {w' : World} (ho : ops[i]? = some o) (hw : Region.wanted o (yielded ops a.tmps) = true) (hd : b.rnd = none ∨ ∀ c, o.op ≠ .defer c)
    (hr : (execOp a.eval o).run P w = .ok (.enter f args) w') : step P (lone (b.at a (.inRegion ops (i :: rest) :: k)) cs w) = .next (lone (Frame.enter P f args .normal) (b.at a (.inRegion ops (i :: rest) :: k) :: cs) w') := by
  refine step_lone_go ?_
  rw [stepG_at ho hw hd]
  simp [stepG.apply, hr, Base.at]

theorem st_op_round {i : Nat} {rest : List Nat} {o : Oper} {l : Nat} {f : FuncId} {ts : Array Value} {asg body : Code} {w' : World} (ho : ops[i]? = some o) (hw : Region.wanted o (yielded ops a.tmps) = true) (hd : b.rnd = none ∨ ∀ c, o.op ≠ .defer c)
    (hr : (execOp a.eval o).run P w = .ok (.round l f ts asg body) w') : step P (lone (b.at a (.inRegion ops (i :: rest) :: k)) cs w) = .next (lone (Frame.round l f ts asg body .normal) (b.at a (.inRegion ops (i :: rest) :: k) :: cs) w') := by
  refine step_lone_go ?_
  rw [stepG_at ho hw hd]
  simp [stepG.apply, hr, Base.at]

theorem st_op_recover {i : Nat} {rest : List Nat} {o : Oper} {w' : World} (ho : ops[i]? = some o) (hw : Region.wanted o (yielded ops a.tmps) = true) (hd : b.rnd = none)
    (hr : (execOp a.eval o).run P w = .ok .recover w') :
    step P (lone (b.at a (.inRegion ops (i :: rest) :: k)) cs w) = match tryRecover (b.at a (.inRegion ops (i :: rest) :: k)) cs with
      | some (v, cs') => .next (lone (b.at (a.put o.dst v) (.inRegion ops rest :: k)) cs' w')
      | none => .next (lone (b.at (a.put o.dst .nilIface) (.inRegion ops rest :: k)) cs w') := by
  have hro : (b.at a (.inRegion ops (i :: rest) :: k)).roundOf = none := hd
  cases ht : tryRecover (b.at a (.inRegion ops (i :: rest) :: k)) cs with
  | none =>
    refine step_lone_go ?_
    rw [stepG_at ho hw (.inl hd), ← finish_at i rest _ ho]
    simp [stepG.apply, hr, hro, ht]
  | some p =>
    obtain ⟨v, cs'⟩ := p
    refine step_lone_go ?_
    rw [stepG_at ho hw (.inl hd), ← finish_at i rest _ ho]
    simp [stepG.apply, hr, hro, ht]

theorem st_op_panic {i : Nat} {rest : List Nat} {o : Oper} {v : Value} {w' : World} (ho : ops[i]? = some o) (hw : Region.wanted o (yielded ops a.tmps) = true) (hd : b.rnd = none ∨ ∀ c, o.op ≠ .defer c)
    (hr : (execOp a.eval o).run P w = .halt (.panic v) w') : step P (lone (b.at a (.inRegion ops (i :: rest) :: k)) cs w) = .next (lone { b.at a (.inRegion ops (i :: rest) :: k) with mode := .panicking [{ v, recovered := false }] } cs w') := by
  refine step_lone_go ?_
  rw [stepG_at ho hw hd]
  simp [stepG.apply, hr, Base.at, Frame.raise]
end
end Go.AM
namespace Go.AM

/-- How a call of a function value begins. -/
inductive Starts (P : Program) (fv : Value) (args : List Value) (w : World) : Frame → Prop
  | enter (f : FuncId) (as : Array Value) (h : ((do let d ← Deferred.ofValue fv args.toArray; invoke d.target d.args) : Sem Next).run P w = .ok (.enter f as) w) : Starts P fv args w (Frame.enter P f as .normal)
  | round (l : Nat) (f : FuncId) (ts : Array Value) (asg body : Code) (h : ((do let d ← Deferred.ofValue fv args.toArray; invoke d.target d.args) : Sem Next).run P w = .ok (.round l f ts asg body) w) : Starts P fv args w (Frame.round l f ts asg body .normal)

def OutRel (X : Ctx) (ι : Inj) (w : World) (fr0 c : Frame) (cs : List Frame) : FR → Prop
  | .ret v st' _ => ∃ κ v' w', VRel κ v v' ∧ WRel X κ st' w' ∧ Keeps ι κ w w' ∧ Steps X.P (lone fr0 (c :: cs) w) (lone (c.finish v') cs w')
  | .pan v st' _ => ∃ κ v' w', VRel κ v v' ∧ WRel X κ st' w' ∧ Keeps ι κ w w' ∧ Steps X.P (lone fr0 (c :: cs) w) (lone (c.raise [{ v := v', recovered := false }]) cs w')
  | .no => True

/-- Calls that are evaluated well stand for the model's. -/
def CallSim (X : Ctx) (call : CallT) : Prop :=
  ∀ ι fv args st fv' args' w, VRel ι fv fv' → VRels ι args args' → WRel X ι st w → call fv args none st ≠ .no →
    ∃ fr0, Starts X.P fv' args' w fr0 ∧ ∀ c cs, OutRel X ι w fr0 c cs (call fv args none st)

/-- What recover gives, by whether it was called. -/
def RecFam (b : Base) (pan : Option Value) (ι : Inj) (CS : Bool → List Frame) : Prop :=
  match pan with
  | none => ∀ (F : Frame) (tk : Bool), F.kind = b.kind → tryRecover F (CS tk) = none
  | some pv => ∃ pv', VRel ι pv pv' ∧ (∀ F : Frame, F.kind = b.kind → tryRecover F (CS false) = some (pv', CS true)) ∧ ∀ F : Frame, F.kind = b.kind → tryRecover F (CS true) = none
theorem RecFam.mono {b : Base} {pan : Option Value} {ι κ : Inj} {CS : Bool → List Frame} (hle : ι.le κ) (h : RecFam b pan ι CS) : RecFam b pan κ CS := by
  cases pan with
  | none => exact h
  | some pv => obtain ⟨pv', h1, h2, h3⟩ := h; exact ⟨pv', h1.mono hle, h2, h3⟩

def RndRel (ι : Inj) (x : Option Nat) (y : Option Nat) : Prop := (x = none ∧ y = none) ∨ ∃ l l', x = some l ∧ y = some l' ∧ ι l = some ⟨l', 0, 0, id⟩
theorem RndRel.mono {ι κ : Inj} (hle : ι.le κ) {x y : Option Nat} (h : RndRel ι x y) : RndRel κ x y := by
  rcases h with h | ⟨l, l', h1, h2, h3⟩
  · exact .inl h
  · exact .inr ⟨l, l', h1, h2, hle _ _ h3⟩

variable {X : Ctx}

/-- One operation of a region and its translation. -/
def operOk (X : Ctx) (nt : Nat) (ops : Array Oper) (x : XOper) (o : Oper) : Bool :=
  (match x.d, o.dst with
    | none, none => true
    | some a, some b => Nat.beq a b && Nat.ble (Nat.succ b) nt
    | _, _ => false) && X.opOk o.op x.o &&
  (match x.g, o.guard with
    | none, none => true
    | some (t, want), some (j, want') => (want == want') && (match (ops[j]?).bind (·.dst) with | some t' => Nat.beq t t' && Nat.ble (Nat.succ t) nt | none => false)
    | _, _ => false)

section
variable {nt : Nat} {ops : Array Oper} {x : XOper} {o : Oper}

theorem operOk_dst (h : operOk X nt ops x o = true) : x.d = o.dst ∧ ∀ t, x.d = some t → t < nt := by
  unfold operOk at h
  simp only [Bool.and_eq_true] at h
  have h1 := h.1.1
  split at h1
  · rename_i e1 e2; rw [e1, e2]; exact ⟨rfl, by simp⟩
  · rename_i a b e1 e2
    rw [Bool.and_eq_true] at h1
    have := beqN h1.1
    subst this
    rw [e1, e2]; exact ⟨rfl, fun t ht => by cases ht; exact ble_true.1 h1.2⟩
  · cases h1
theorem operOk_op (h : operOk X nt ops x o = true) : X.opOk o.op x.o = true := by
  unfold operOk at h; simp only [Bool.and_eq_true] at h; exact h.1.2

variable {ι : Inj} {fr fr' : AFr} {a : Act} {st st' : St} {w : World} {v : Value} {call : CallT} {b : Base} {CS : Bool → List Frame} {k : List Item} {i : Nat} {rest : List Nat}

/-- Whether an operation is wanted. -/
theorem want_sim {α : Type} {yes no_ z r : α} (h : operOk X nt ops x o = true) (hf : FRel ι fr a nt) (hk : wantK fr x.g yes no_ z = r) (hz : z ≠ r) :
    (yes = r ∧ Region.wanted o (yielded ops a.tmps) = true) ∨ (no_ = r ∧ Region.wanted o (yielded ops a.tmps) = false) := by
  unfold operOk at h
  simp only [Bool.and_eq_true] at h
  have h1 := h.2
  split at h1
  · rename_i e1 e2
    rw [e1] at hk
    exact .inl ⟨hk, by simp [Region.wanted, e2]⟩
  · rename_i t want j want' e1 e2
    rw [e1] at hk
    rw [Bool.and_eq_true] at h1
    obtain ⟨hw, h3⟩ := h1
    have hw' : want = want' := by simpa using hw
    subst hw'
    split at h3
    · rename_i t' ht'
      rw [Bool.and_eq_true] at h3
      have e3 := beqN h3.1
      subst e3
      have hlt : t < a.tmps.size := by rw [hf.size]; exact ble_true.1 h3.2
      have htm := hf.tmp t
      have hg : a.tmps[t]? = some (a.tmps.getD t undef) := by simp [Array.getD, hlt]
      have hy : yielded ops a.tmps j = match a.tmps.getD t undef with | .bool b => some b | _ => none := by
        unfold yielded
        rw [ht']
        simp only [Option.bind_some, hg]
        cases a.tmps.getD t undef <;> rfl
      have hwn : Region.wanted o (yielded ops a.tmps) = (yielded ops a.tmps j == some want) := by simp [Region.wanted, e2]
      have hk' : vBool (fr.tmp t) (fun b => cond b (cond want yes no_) (cond want no_ yes)) (vTuple (fr.tmp t) (fun _ => no_) z) = r := hk
      generalize hc : a.tmps.getD t undef = cv at htm hy
      generalize ht : fr.tmp t = tv at hk' htm
      cases tv with
      | bool bb =>
        cases htm
        have hk2 : cond bb (cond want yes no_) (cond want no_ yes) = r := hk'
        rw [hwn, hy]
        cases bb <;> cases want
        · exact .inl ⟨hk2, rfl⟩
        · exact .inr ⟨hk2, rfl⟩
        · exact .inr ⟨hk2, rfl⟩
        · exact .inl ⟨hk2, rfl⟩
      | tuple xs =>
        cases htm
        exact .inr ⟨hk', by rw [hwn, hy]; rfl⟩
      | _ => exact absurd hk' hz
    · cases h3
  · cases h1

theorem put_tmps (a : Act) (d : Option Tmp) (v : Value) {ds : List Deferred} : ({ a with defers := ds }.put d v).tmps = (a.put d v).tmps := by cases d <;> rfl

/-- One operation that comes to a value. -/
theorem oper_ok (hok : operOk X nt ops x o = true) (hcs : CallSim X call) (ho : ops[i]? = some o) (hwt : Region.wanted o (yielded ops a.tmps) = true) (hf : FRel ι fr a nt) (hw : WRel X ι st w) (hb : RndRel ι fr.rnd b.rnd)
    (hr : RecFam b fr.pan ι CS) (h : evOp call x.o fr st = .ok v fr' st') :
    ∃ κ a' w', Steps X.P (lone (b.at a (.inRegion ops (i :: rest) :: k)) (CS fr.took) w) (lone (b.at a' (.inRegion ops rest :: k)) (CS fr'.took) w') ∧ FRel κ (fr'.put x.d v) a' nt ∧ WRel X κ st' w' ∧ Keeps ι κ w w' ∧
      fr'.pan = fr.pan ∧ fr'.rnd = fr.rnd ∧ ∃ v', a'.tmps = (a.put o.dst v').tmps := by
  obtain ⟨hd1, hd2⟩ := operOk_dst hok
  have hop := operOk_op hok
  have hrn : ∀ {q : Prop}, (b.rnd = none → q) → (fr.rnd = none → q) := by
    intro q hq hn
    rcases hb with ⟨_, h2⟩ | ⟨l, l', h1, _, _⟩
    · exact hq h2
    · rw [hn] at h1; cases h1
  by_cases hp : x.o.inPlace = true
  · obtain ⟨rfl, ⟨κ, n, w', hrun, hn, hw', hk⟩, _⟩ := opSim hop hf hw h hp
    have hnd : b.rnd = none ∨ ∀ c, o.op ≠ .defer c := by
      right
      intro c hc
      rw [hc] at hop
      cases hx : x.o with
      | mkfn fn p q => rw [hx] at hop; cases fn <;> exact absurd hop Bool.false_ne_true
      | lenM p => rw [hx] at h; cases h
      | refuse => rw [hx] at h; cases h
      | dfr p q => rw [hx] at hp; exact absurd hp Bool.false_ne_true
      | ext y => rw [hx] at hop; cases y <;> exact absurd hop Bool.false_ne_true
      | _ => rw [hx] at hop; exact absurd hop Bool.false_ne_true
    rcases hn with ⟨v', rfl, hv⟩ | ⟨rfl, rfl⟩
    · refine ⟨κ, a.put o.dst v', w', .one (st_op_value ho hwt hnd hrun), ?_, hw', hk, rfl, rfl, _, rfl⟩
      rw [← hd1]; exact (hf.mono hk.le).put hd2 hv
    · refine ⟨κ, a.put o.dst undef, w', .one (st_op_nothing ho hwt hnd hrun), ?_, hw', hk, rfl, rfl, _, rfl⟩
      rw [← hd1]; exact (hf.mono hk.le).put hd2 (VRel.undef κ)
  · cases hx : x.o with
    | call f ps =>
      rw [hx] at h hop
      obtain ⟨g, args, ts, hoo, hj⟩ := inv_call hop
      simp only [Bool.and_eq_true] at hj
      obtain ⟨rfl, k1⟩ := opdIs_eq hj.1.1
      obtain ⟨rfl, k2⟩ := opdsIs_eq hj.1.2
      have h' : FR.rec (motive := fun _ => OR) (fun v st _ => .ok v fr st) (fun v st _ => .pan v st) .no (call (fr.ev f) (evs fr args.toList) none st) = OR.ok v fr' st' := h
      have hnd : b.rnd = none ∨ ∀ c, o.op ≠ .defer c := .inr (by rw [hoo]; simp)
      obtain ⟨fr0, hst, hout⟩ := hcs ι (fr.ev f) (evs fr args.toList) st (a.eval f) (args.toList.map a.eval) w (hf.ev hw k1) (evs_rel hf hw _ k2) hw (by intro e; rw [e] at h'; cases h')
      have hexec : (execOp a.eval o).run X.P w = ((do let d ← Deferred.ofValue (a.eval f) (args.toList.map a.eval).toArray; invoke d.target d.args) : Sem Next).run X.P w := by
        unfold execOp; rw [hoo]; simp [resolve, ← Array.toList_map]
      cases hc : call (fr.ev f) (evs fr args.toList) none st with
      | ret v1 st1 tk =>
        rw [hc] at h' hout
        have h'' : OR.ok v1 fr st1 = OR.ok v fr' st' := h'
        obtain ⟨e1, e2, e3⟩ := ok_inj h''
        subst e1 e2 e3
        obtain ⟨κ, v', w', hv, hw', hk, hsteps⟩ := hout (b.at a (.inRegion ops (i :: rest) :: k)) (CS fr.took)
        have hfin := finish_at (b := b) (a := a) (k := k) i rest v' ho
        rw [hfin] at hsteps
        refine ⟨κ, a.put o.dst v', w', ?_, ?_, hw', hk, rfl, rfl, _, rfl⟩
        · cases hst with
          | enter f' as hs => exact .head (st_op_enter ho hwt hnd (by rw [hexec]; exact hs)) hsteps
          | round l f' ts' asg body hs => exact .head (st_op_round ho hwt hnd (by rw [hexec]; exact hs)) hsteps
        · rw [← hd1]; exact (hf.mono hk.le).put hd2 hv
      | pan v1 st1 tk => rw [hc] at h'; cases h'
      | no => rw [hc] at h'; cases h'
    | recov =>
      rw [hx] at h hop
      obtain ⟨ts, hoo⟩ := inv_recov hop
      obtain ⟨hn, h1⟩ := oK_none (h : oK fr.rnd _ _ = _) (fun _ => by simp)
      have hbn : b.rnd = none := hrn id hn
      have hrun : (execOp a.eval o).run X.P w = .ok .recover w := by
        unfold execOp; rw [hoo]; simp [resolve, invoke, builtin]
      have hs := st_op_recover (b := b) (k := k) (cs := CS fr.took) ho hwt hbn hrun (rest := rest)
      cases hpan : fr.pan with
      | none =>
        rw [hpan] at h1 hr
        have h2 : OR.ok .nilIface fr st = OR.ok v fr' st' := h1
        obtain ⟨e1, e2, e3⟩ := ok_inj h2
        subst e1 e2 e3
        rw [hr _ _ rfl] at hs
        refine ⟨ι, _, w, .one hs, ?_, hw, .refl _ _, hpan, rfl, _, rfl⟩
        rw [← hd1]; exact hf.put hd2 .nilIface
      | some pv =>
        rw [hpan] at h1 hr
        obtain ⟨pv', hpv, hr1, hr2⟩ := hr
        have h2 : cond fr.took (OR.ok .nilIface fr st) (.ok pv ⟨fr.t, fr.df, fr.pan, true, fr.rnd⟩ st) = OR.ok v fr' st' := by rw [hpan]; exact h1
        cases htk : fr.took with
        | true =>
          rw [htk] at h2 hs
          obtain ⟨e1, e2, e3⟩ := ok_inj (h2 : OR.ok .nilIface fr st = OR.ok v fr' st')
          subst e1 e2 e3
          rw [hr2 _ rfl] at hs
          refine ⟨ι, _, w, by rw [htk]; exact .one hs, ?_, hw, .refl _ _, hpan, rfl, _, rfl⟩
          rw [← hd1]; exact hf.put hd2 .nilIface
        | false =>
          rw [htk] at h2 hs
          obtain ⟨e1, e2, e3⟩ := ok_inj (h2 : OR.ok pv ⟨fr.t, fr.df, fr.pan, true, fr.rnd⟩ st = OR.ok v fr' st')
          subst e1 e2 e3
          rw [hr1 _ rfl] at hs
          refine ⟨ι, _, w, .one hs, ?_, hw, .refl _ _, hpan, rfl, _, rfl⟩
          rw [← hd1]
          exact FRel.put (fr := ⟨fr.t, fr.df, fr.pan, true, fr.rnd⟩) ⟨hf.tmp, hf.size, hf.df⟩ hd2 hpv
    | dfr f ps =>
      rw [hx] at h hop
      obtain ⟨g, args, ts, hoo, hj⟩ := inv_dfr hop
      simp only [Bool.and_eq_true] at hj
      obtain ⟨rfl, k1⟩ := opdIs_eq hj.1
      obtain ⟨rfl, k2⟩ := opdsIs_eq hj.2
      obtain ⟨hn, h1⟩ := oK_none (h : oK fr.rnd _ _ = _) (fun _ => by simp)
      have hbn : b.rnd = none := hrn id hn
      obtain ⟨fn, first, capt, hfv, h2⟩ := vFunc_inv h1 (by simp)
      have hv := hf.ev hw k1
      rw [hfv] at hv
      cases fn with
      | func gg =>
        obtain ⟨e1, e2, e3⟩ := ok_inj (h2 : OR.ok undef ⟨fr.t, { target := .fn (.func gg) capt, args := ⟨appX first.toList (evs fr args.toList)⟩ } :: fr.df, fr.pan, fr.took, fr.rnd⟩ st = OR.ok v fr' st')
        subst e1 e2 e3
        generalize hav : a.eval f = av at hv
        cases hv with
        | func _ g' _ ys _ vs hfn a1 a2 a3 a4 =>
          have hev := evs_rel hf hw _ k2
          have hrun : (execOp a.eval o).run X.P w = .ok (.defer { target := .fn g' vs, args := ys ++ args.map a.eval }) w := by
            unfold execOp; rw [hoo]; simp [resolve, hav, Deferred.ofValue]
          have hs := st_op_defer (b := b) (k := k) (cs := CS fr.took) ho hwt hbn hrun (rest := rest)
          refine ⟨ι, _, w, .one hs, ?_, hw, .refl _ _, rfl, rfl, undef, put_tmps _ _ _⟩
          rw [← hd1]
          refine FRel.put (fr := ⟨fr.t, { target := .fn (.func gg) capt, args := ⟨appX first.toList (evs fr args.toList)⟩ } :: fr.df, fr.pan, fr.took, fr.rnd⟩) (a := { a with defers := { target := .fn g' vs, args := ys ++ args.map a.eval } :: a.defers }) ⟨hf.tmp, hf.size, ⟨⟨?_, hfn, VRels.of_arr a3 a4⟩, hf.df⟩⟩ hd2 (VRel.undef ι)
          have := (VRels.of_arr a1 a2).append hev
          simpa using this
      | _ => cases h2
    | pnc p =>
      rw [hx] at h
      obtain ⟨t, vv, _, h1⟩ := vIface_inv (h : vIface (fr.ev p) _ _ = _) (by simp)
      cases h1
    | _ => rw [hx] at hp; exact absurd rfl hp
end
end Go.AM
namespace Go.AM
variable {X : Ctx}
section
variable {nt : Nat} {ops : Array Oper} {x : XOper} {o : Oper} {ι : Inj} {fr fr' : AFr} {a : Act} {st st' : St} {w : World} {v : Value} {call : CallT} {b : Base} {CS : Bool → List Frame} {k : List Item} {i : Nat} {rest : List Nat}

/-- A frame that has just panicked. -/
def Base.panics (b : Base) (a : Act) (todo : List Item) (v : Value) : Frame := { b.at a todo with mode := .panicking [{ v, recovered := false }] }

theorem oper_pan {cs : List Frame} (hok : operOk X nt ops x o = true) (hcs : CallSim X call) (ho : ops[i]? = some o) (hwt : Region.wanted o (yielded ops a.tmps) = true) (hf : FRel ι fr a nt) (hw : WRel X ι st w)
    (hcp : x.o.canPan = true) (h : evOp call x.o fr st = .pan v st') :
    ∃ κ v' w', Steps X.P (lone (b.at a (.inRegion ops (i :: rest) :: k)) cs w) (lone (b.panics a (.inRegion ops (i :: rest) :: k) v') cs w') ∧ VRel κ v v' ∧ WRel X κ st' w' ∧ Keeps ι κ w w' := by
  have hop := operOk_op hok
  cases hx : x.o with
  | call f ps =>
    rw [hx] at h hop
    obtain ⟨g, args, ts, hoo, hj⟩ := inv_call hop
    simp only [Bool.and_eq_true] at hj
    obtain ⟨rfl, k1⟩ := opdIs_eq hj.1.1
    obtain ⟨rfl, k2⟩ := opdsIs_eq hj.1.2
    have h' : FR.rec (motive := fun _ => OR) (fun v st _ => .ok v fr st) (fun v st _ => .pan v st) .no (call (fr.ev f) (evs fr args.toList) none st) = OR.pan v st' := h
    have hnd : b.rnd = none ∨ ∀ c, o.op ≠ .defer c := .inr (by rw [hoo]; simp)
    obtain ⟨fr0, hst, hout⟩ := hcs ι (fr.ev f) (evs fr args.toList) st (a.eval f) (args.toList.map a.eval) w (hf.ev hw k1) (evs_rel hf hw _ k2) hw (by intro e; rw [e] at h'; cases h')
    have hexec : (execOp a.eval o).run X.P w = ((do let d ← Deferred.ofValue (a.eval f) (args.toList.map a.eval).toArray; invoke d.target d.args) : Sem Next).run X.P w := by
      unfold execOp; rw [hoo]; simp [resolve, ← Array.toList_map]
    cases hc : call (fr.ev f) (evs fr args.toList) none st with
    | pan v1 st1 tk =>
      rw [hc] at h' hout
      have h'' : OR.pan v1 st1 = OR.pan v st' := h'
      cases h''
      obtain ⟨κ, v', w', hv, hw', hk, hsteps⟩ := hout (b.at a (.inRegion ops (i :: rest) :: k)) cs
      have hrz : (b.at a (.inRegion ops (i :: rest) :: k)).raise [{ v := v', recovered := false }] = b.panics a (.inRegion ops (i :: rest) :: k) v' := rfl
      rw [hrz] at hsteps
      refine ⟨κ, v', w', ?_, hv, hw', hk⟩
      cases hst with
      | enter f' as hs => exact .head (st_op_enter ho hwt hnd (by rw [hexec]; exact hs)) hsteps
      | round l f' ts' asg body hs => exact .head (st_op_round ho hwt hnd (by rw [hexec]; exact hs)) hsteps
    | ret v1 st1 tk => rw [hc] at h'; cases h'
    | no => rw [hc] at h'; cases h'
  | pnc p =>
    rw [hx] at h hop
    obtain ⟨q, hoo, hj⟩ := inv_pnc hop
    obtain ⟨rfl, k1⟩ := opdIs_eq hj
    obtain ⟨t, vv, hp, h1⟩ := vIface_inv (h : vIface (fr.ev p) _ _ = _) (by simp)
    have h2 : OR.pan (.iface t vv) st = OR.pan v st' := h1
    cases h2
    have hv := hf.ev hw k1
    rw [hp] at hv
    generalize hav : a.eval p = av at hv
    cases hv with
    | iface _ _ vv' hvv =>
      refine ⟨ι, .iface t vv', w, .one (st_op_panic ho hwt (.inr (by rw [hoo]; simp)) ?_), .iface _ _ _ hvv, hw, .refl _ _⟩
      unfold execOp; rw [hoo]; simp [hav, Instr.panic, Result.andThen]
  | _ => rw [hx] at hcp; exact absurd hcp Bool.false_ne_true

/-- How code is left in the model. -/
def ExitAt (P : Program) (s : Machine) (b : Base) (a : Act) (k : List Item) (cs : List Frame) (w : World) (κ : Inj) : XExit → Prop
  | .norm => Steps P s (lone (b.at a k) cs w)
  | .exit id => ∃ td, exitTo id td = exitTo id k ∧ Steps P s (lone (b.at a (.code (.exit id) :: td)) cs w)
  | .ret => ∃ td, Steps P s (lone (b.at a (.code .ret :: td)) cs w)
  | .pan v => ∃ v' td, VRel κ v v' ∧ Steps P s (lone (b.panics a td v') cs w)

/-- Where code arrives. -/
def Arr (X : Ctx) (b : Base) (nt : Nat) (CS : Bool → List Frame) (s : Machine) (k : List Item) (fr : AFr) (ι : Inj) (w : World) : CR → Prop
  | .out e fr' st' => ∃ κ a' w', FRel κ fr' a' nt ∧ WRel X κ st' w' ∧ Keeps ι κ w w' ∧ fr'.pan = fr.pan ∧ fr'.rnd = fr.rnd ∧ ExitAt X.P s b a' k (CS fr'.took) w' κ e
  | .no => True

theorem ExitAt.head {P : Program} {s s' : Machine} {b : Base} {a : Act} {k : List Item} {cs : List Frame} {w : World} {κ : Inj} {e : XExit} (h : Steps P s s') (h' : ExitAt P s' b a k cs w κ e) : ExitAt P s b a k cs w κ e := by
  cases e with
  | norm => exact h.trans h'
  | exit id => obtain ⟨td, h1, h2⟩ := h'; exact ⟨td, h1, h.trans h2⟩
  | ret => obtain ⟨td, h2⟩ := h'; exact ⟨td, h.trans h2⟩
  | pan v => obtain ⟨v', td, h1, h2⟩ := h'; exact ⟨v', td, h1, h.trans h2⟩

theorem Arr.head {s s' : Machine} {κ : Inj} {w' : World} {r : CR} (h : Steps X.P s s') (hk : Keeps ι κ w w') (hp : fr'.pan = fr.pan) (hr : fr'.rnd = fr.rnd) (h' : Arr X b nt CS s' k fr' κ w' r) : Arr X b nt CS s k fr ι w r := by
  cases r with
  | no => trivial
  | out e fr'' st'' =>
    obtain ⟨μ, a', w'', h1, h2, h3, h4, h5, h6⟩ := h'
    exact ⟨μ, a', w'', h1, h2, hk.trans h3, h4.trans hp, h5.trans hr, h6.head h⟩

theorem evOps_cons (x : XOper) (xs : List XOper) (fr : AFr) (st : St) : evOps call (x :: xs) fr st =
    wantK fr x.g (OR.rec (motive := fun _ => CR) (fun v fr st => evOps call xs (fr.put x.d v) st) (fun v st => cond x.o.canPan (.out (.pan v) fr st) .no) .no (evOp call x.o fr st))
      (evOps call xs (fr.put x.d undef) st) .no := rfl

theorem put_pan (fr : AFr) (d : Option Tmp) (v : Value) : (fr.put d v).pan = fr.pan ∧ (fr.put d v).rnd = fr.rnd ∧ (fr.put d v).took = fr.took ∧ (fr.put d v).df = fr.df := by
  obtain ⟨h1, h2, h3, h4⟩ := put_fields fr d v
  exact ⟨h2, h4, h3, h1⟩

/-- Operations one after another. -/
theorem ops_sim (hcs : CallSim X call) : ∀ (xs : List XOper) (l : List Nat) (ι : Inj) (fr : AFr) (a : Act) (st : St) (w : World), xs.length = l.length →
    (∀ (j : Nat) (x : XOper) (i : Nat), xs[j]? = some x → l[j]? = some i → ∃ o, ops[i]? = some o ∧ operOk X nt ops x o = true) →
    FRel ι fr a nt → WRel X ι st w → RndRel ι fr.rnd b.rnd → RecFam b fr.pan ι CS →
    Arr X b nt CS (lone (b.at a (.inRegion ops l :: k)) (CS fr.took) w) k fr ι w (evOps call xs fr st)
  | [], [], ι, fr, a, st, w, _, _, hf, hw, _, _ => ⟨ι, a, w, hf, hw, .refl _ _, rfl, rfl, .one st_region_end⟩
  | [], _ :: _, _, _, _, _, _, h, _, _, _, _, _ => by simp at h
  | _ :: _, [], _, _, _, _, _, h, _, _, _, _, _ => by simp at h
  | x :: xs, i :: l, ι, fr, a, st, w, hl, hall, hf, hw, hb, hr => by
    obtain ⟨o, ho, hok⟩ := hall 0 x i rfl rfl
    have hall' : ∀ (j : Nat) (x : XOper) (i : Nat), xs[j]? = some x → l[j]? = some i → ∃ o, ops[i]? = some o ∧ operOk X nt ops x o = true := fun j x i h1 h2 => hall (j + 1) x i h1 h2
    have hl' : xs.length = l.length := by simpa using hl
    obtain ⟨hd1, hd2⟩ := operOk_dst hok
    rw [evOps_cons]
    generalize hg : wantK fr x.g _ _ _ = r
    by_cases hno : r = .no
    · rw [hno]; trivial
    rcases want_sim hok hf hg (fun e => hno e.symm) with ⟨e, hwt⟩ | ⟨e, hwt⟩
    · cases hev : evOp call x.o fr st with
      | ok v fr1 st1 =>
        rw [hev] at e
        have e' : evOps call xs (fr1.put x.d v) st1 = r := e
        obtain ⟨κ, a', w', hs, hf', hw', hk, hp, hrn, _⟩ := oper_ok (k := k) (rest := l) hok hcs ho hwt hf hw hb hr hev
        obtain ⟨q1, q2, q3, q4⟩ := put_pan fr1 x.d v
        have hrec := ops_sim hcs xs l κ (fr1.put x.d v) a' st1 w' hl' hall' hf' hw' (by rw [q2, hrn]; exact hb.mono hk.le) (by rw [q1, hp]; exact hr.mono hk.le)
        rw [← e']
        rw [q3] at hrec
        exact Arr.head hs hk (q1.trans hp) (q2.trans hrn) hrec
      | pan v st1 =>
        rw [hev] at e
        have e' : cond x.o.canPan (.out (.pan v) fr st1) .no = r := e
        obtain ⟨hcp, e2⟩ := cond_inv e' (fun e => hno e.symm)
        obtain ⟨κ, v', w', hs, hv, hw', hk⟩ := oper_pan (b := b) (k := k) (rest := l) (cs := CS fr.took) hok hcs ho hwt hf hw hcp hev
        rw [← e2]
        exact ⟨κ, a, w', hf.mono hk.le, hw', hk, rfl, rfl, v', _, hv, hs⟩
      | no => rw [hev] at e; exact absurd (e : CR.no = r).symm hno
    · obtain ⟨q1, q2, q3, q4⟩ := put_pan fr x.d undef
      have hrec := ops_sim hcs xs l ι (fr.put x.d undef) (a.put o.dst undef) st w hl' hall' (by rw [← hd1]; exact hf.put hd2 (VRel.undef ι)) hw (by rw [q2]; exact hb) (by rw [q1]; exact hr)
      rw [← e]
      rw [q3] at hrec
      exact Arr.head (.one (st_op_skip ho hwt)) (.refl _ _) q1 q2 hrec
end
end Go.AM
namespace Go.AM
variable {X : Ctx} {call : CallT}

/-- Whether a guard wants its operation. -/
def WantIs (fr : AFr) (g : Option (Tmp × Bool)) (b : Bool) : Prop := wantK fr g (some true) (some false) none = some b

theorem wantK_cases {α : Type} {fr : AFr} {g : Option (Tmp × Bool)} {yes no_ z r : α} (h : wantK fr g yes no_ z = r) (hz : z ≠ r) : (WantIs fr g true ∧ yes = r) ∨ (WantIs fr g false ∧ no_ = r) := by
  unfold WantIs
  cases g with
  | none => exact .inl ⟨rfl, h⟩
  | some p =>
    have h' : vBool (fr.tmp p.1) (fun b => cond b (cond p.2 yes no_) (cond p.2 no_ yes)) (vTuple (fr.tmp p.1) (fun _ => no_) z) = r := h
    show (vBool (fr.tmp p.1) (fun b => cond b (cond p.2 (some true) (some false)) (cond p.2 (some false) (some true))) (vTuple (fr.tmp p.1) (fun _ => some false) none) = some true ∧ _) ∨
      (vBool (fr.tmp p.1) (fun b => cond b (cond p.2 (some true) (some false)) (cond p.2 (some false) (some true))) (vTuple (fr.tmp p.1) (fun _ => some false) none) = some false ∧ _)
    generalize fr.tmp p.1 = tv at h'
    cases tv with
    | bool bb =>
      have h2 : cond bb (cond p.2 yes no_) (cond p.2 no_ yes) = r := h'
      show (cond bb (cond p.2 (some true) (some false)) (cond p.2 (some false) (some true)) = some true ∧ _) ∨ (cond bb (cond p.2 (some true) (some false)) (cond p.2 (some false) (some true)) = some false ∧ _)
      cases bb <;> cases hp : p.2 <;> rw [hp] at h2
      · exact .inl ⟨rfl, h2⟩
      · exact .inr ⟨rfl, h2⟩
      · exact .inr ⟨rfl, h2⟩
      · exact .inl ⟨rfl, h2⟩
    | tuple xs => exact .inr ⟨rfl, h'⟩
    | _ => exact absurd h' hz

noncomputable def onlyT (t : PM Value) (ts : List Tmp) : PM Value := onlyK t ts fun m => m
/-- The frame with these temporaries alone. -/
noncomputable def AFr.only (fr : AFr) (ts : List Tmp) : AFr := ⟨onlyT fr.t ts, [], none, false, none⟩

noncomputable def onlyR {β : Type} (t : PM Value) (ts : List Tmp) (k : PM Value → β) (m : PM Value) : β :=
  List.rec (motive := fun _ => PM Value → β) (fun m => k m) (fun x _ ih m => oK (t.get x) (fun v => PM.setK (Nat.succ x) m x v ih) (ih m)) ts m
theorem onlyR_eq {β : Type} (t : PM Value) (k : PM Value → β) : ∀ (ts : List Tmp) (m : PM Value), onlyR t ts k m = k (onlyR t ts (fun m => m) m)
  | [], _ => rfl
  | x :: ts, m => by
    show oK (t.get x) (fun v => PM.setK (Nat.succ x) m x v (onlyR t ts k)) (onlyR t ts k m) = k (oK (t.get x) (fun v => PM.setK (Nat.succ x) m x v (onlyR t ts fun m => m)) (onlyR t ts (fun m => m) m))
    cases t.get x with
    | none => exact onlyR_eq t k ts m
    | some v =>
      show PM.setK (Nat.succ x) m x v (onlyR t ts k) = k (PM.setK (Nat.succ x) m x v (onlyR t ts fun m => m))
      rw [PM.setK_eq, PM.setK_eq]
      exact onlyR_eq t k ts _
theorem onlyK_eq {β : Type} (t : PM Value) (ts : List Tmp) (k : PM Value → β) : onlyK t ts k = k (onlyT t ts) := onlyR_eq t k ts .nil
theorem onlyR_get (t : PM Value) : ∀ (ts : List Tmp) (m : PM Value) (j : Nat), (onlyR t ts (fun m => m) m).get j = if j ∈ ts ∧ (t.get j).isSome then t.get j else m.get j
  | [], m, j => by rw [if_neg (by simp)]; rfl
  | x :: ts, m, j => by
    show (oK (t.get x) (fun v => PM.setK (Nat.succ x) m x v (onlyR t ts fun m => m)) (onlyR t ts (fun m => m) m)).get j = _
    cases hx : t.get x with
    | none =>
      show (onlyR t ts (fun m => m) m).get j = _
      rw [onlyR_get t ts m j]
      by_cases hj : j = x
      · subst hj; simp [hx]
      · simp [List.mem_cons, hj]
    | some v =>
      show (PM.setK (Nat.succ x) m x v (onlyR t ts fun m => m)).get j = _
      rw [PM.setK_eq, onlyR_get t ts _ j, PM.get_set]
      by_cases hj : j = x
      · subst hj; simp [hx]
      · simp [List.mem_cons, hj]
theorem only_tmp (fr : AFr) (ts : List Tmp) (j : Nat) : (fr.only ts).tmp j = if j ∈ ts then fr.tmp j else poison := by
  have h := onlyR_get fr.t ts .nil j
  have e : (fr.only ts).t.get j = (onlyR fr.t ts (fun m => m) .nil).get j := rfl
  show Option.rec (motive := fun _ => Value) (.chan (some 0)) (fun v => v) ((fr.only ts).t.get j) = _
  rw [e, h]
  by_cases hj : j ∈ ts
  · rw [if_pos hj]
    cases hg : fr.t.get j with
    | none => rw [if_neg (by simp), PM.get_nil]; simp [AFr.tmp, hg]
    | some v => rw [if_pos ⟨hj, rfl⟩]; simp [AFr.tmp, hg]
  · rw [if_neg (fun h => hj h.1), if_neg hj, PM.get_nil]; rfl

theorem poisoned_spec : ∀ (ts : List Tmp) (fr : AFr), (∀ j, (poisoned fr ts).tmp j = if j ∈ ts then poison else fr.tmp j) ∧ (poisoned fr ts).pan = fr.pan ∧ (poisoned fr ts).rnd = fr.rnd ∧ (poisoned fr ts).took = fr.took ∧ (poisoned fr ts).df = fr.df
  | [], fr => ⟨fun j => by simp [poisoned], rfl, rfl, rfl, rfl⟩
  | t :: ts, fr => by
    obtain ⟨h1, h2, h3, h4, h5⟩ := poisoned_spec ts (fr.put (some t) poison)
    obtain ⟨q1, q2, q3, q4⟩ := put_pan fr (some t) poison
    refine ⟨fun j => ?_, h2.trans q1, h3.trans q2, h4.trans q3, h5.trans q4⟩
    show (poisoned (fr.put (some t) poison) ts).tmp j = _
    rw [h1 j, tmp_put]
    by_cases hj : j ∈ ts
    · rw [if_pos hj, if_pos (List.mem_cons_of_mem _ hj)]
    · rw [if_neg hj]
      by_cases e : t = j
      · subst e; simp
      · have : j ≠ t := fun h => e h.symm
        simp [e, hj, this]

theorem sameAt_spec {o : XOp} {fr : AFr} {v : Value} {nx : Nat} : ∀ (n : Nat) (hs : List (PM AObj)), sameAt call o fr v nx n hs = true → ∀ j, j < n → ∃ h fr' st', hs[j]? = some h ∧ evOp call o fr ⟨h, nx⟩ = .ok v fr' st'
  | 0, _, _, j, hj => by omega
  | n + 1, [], h, _, _ => by cases h
  | n + 1, h :: hs, hh, j, hj => by
    have hh' : OR.rec (motive := fun _ => Bool) (fun v' _ _ => cond (veq v v') (sameAt call o fr v nx n hs) false) (fun _ _ => false) false (evOp call o fr ⟨h, nx⟩) = true := hh
    cases he : evOp call o fr ⟨h, nx⟩ with
    | ok v' fr' st' =>
      rw [he] at hh'
      have h2 : cond (veq v v') (sameAt call o fr v nx n hs) false = true := hh'
      obtain ⟨h3, h4⟩ := cond_inv h2 (by simp)
      have := veq_eq _ _ h3
      subst this
      cases j with
      | zero => exact ⟨h, fr', st', rfl, he⟩
      | succ j =>
        obtain ⟨h', f', s', h5, h6⟩ := sameAt_spec n hs h4 j (by omega)
        exact ⟨h', f', s', by simpa using h5, h6⟩
    | pan _ _ => rw [he] at hh'; cases hh'
    | no => rw [he] at hh'; cases hh'

/-- One operation of such a region as it was evaluated. -/
def DStep (call : CallT) (x : XOper) (c : Cls) (fr : AFr) (st : St) (N : List (PM AObj)) (v : Value) (fr1 : AFr) (st1 : St) (N1 : List (PM AObj)) : Prop :=
  match c with
  | .eff => (WantIs fr x.g false ∧ v = undef ∧ fr1 = fr.put x.d undef ∧ st1 = st ∧ N1 = st.h :: N) ∨
      (WantIs fr x.g true ∧ ∃ fr', evOp call x.o fr st = .ok v fr' st1 ∧ st.nx ≤ st1.nx ∧ fr1 = AFr.put ⟨fr.t, fr'.df, fr'.pan, fr'.took, fr'.rnd⟩ x.d v ∧ N1 = st1.h :: N)
  | .al ts => fr1 = fr.put x.d v ∧ N1 = N ∧ ((WantIs (fr.only ts) x.g false ∧ v = undef ∧ st1 = st) ∨ (WantIs (fr.only ts) x.g true ∧ ∃ fr', evOp call x.o (fr.only ts) st = .ok v fr' st1))
  | .read back ts => fr1 = fr.put x.d v ∧ N1 = N ∧ st1 = st ∧ ((WantIs (fr.only ts) x.g false ∧ v = undef) ∨ (WantIs (fr.only ts) x.g true ∧ sameAt call x.o (fr.only ts) v st.nx (Nat.succ back) N = true))

theorem evD_step {x : XOper} {c : Cls} {L : List (XOper × Cls)} {N : List (PM AObj)} {fr : AFr} {st : St} {e : XExit} {fr' : AFr} {st' : St} (h : evD call ((x, c) :: L) N fr st = .out e fr' st') :
    ∃ v fr1 st1 N1, DStep call x c fr st N v fr1 st1 N1 ∧ evD call L N1 fr1 st1 = .out e fr' st' := by
  cases c with
  | eff =>
    have h' : wantK fr x.g (OR.rec (motive := fun _ => CR) (fun v fr' st' => leK st.nx st'.nx (evD call L (st'.h :: N) (AFr.put ⟨fr.t, fr'.df, fr'.pan, fr'.took, fr'.rnd⟩ x.d v) st') .no) (fun _ _ => .no) .no (evOp call x.o fr st))
      (evD call L (st.h :: N) (fr.put x.d undef) st) .no = .out e fr' st' := h
    rcases wantK_cases h' (by simp) with ⟨h1, h2⟩ | ⟨h1, h2⟩
    · cases he : evOp call x.o fr st with
      | ok v fr2 st2 =>
        rw [he] at h2
        obtain ⟨h3, h4⟩ := leK_inv (h2 : leK st.nx st2.nx _ _ = _) (by simp)
        exact ⟨v, AFr.put ⟨fr.t, fr2.df, fr2.pan, fr2.took, fr2.rnd⟩ x.d v, st2, st2.h :: N, .inr ⟨h1, fr2, he, h3, rfl, rfl⟩, h4⟩
      | pan _ _ => rw [he] at h2; cases h2
      | no => rw [he] at h2; cases h2
    · exact ⟨undef, fr.put x.d undef, st, st.h :: N, .inl ⟨h1, rfl, rfl, rfl, rfl⟩, h2⟩
  | al ts =>
    have h' : onlyK fr.t ts (fun t => wantK ⟨t, [], none, false, none⟩ x.g
          (OR.rec (motive := fun _ => CR) (fun v _ st' => evD call L N (fr.put x.d v) st') (fun _ _ => .no) .no (evOp call x.o ⟨t, [], none, false, none⟩ st))
          (evD call L N (fr.put x.d undef) st) .no) = .out e fr' st' := h
    rw [onlyK_eq] at h'
    have h'' : wantK (fr.only ts) x.g (OR.rec (motive := fun _ => CR) (fun v _ st' => evD call L N (fr.put x.d v) st') (fun _ _ => .no) .no (evOp call x.o (fr.only ts) st))
          (evD call L N (fr.put x.d undef) st) .no = .out e fr' st' := h'
    rcases wantK_cases h'' (by simp) with ⟨h1, h2⟩ | ⟨h1, h2⟩
    · cases he : evOp call x.o (fr.only ts) st with
      | ok v fr2 st2 =>
        rw [he] at h2
        exact ⟨v, fr.put x.d v, st2, N, ⟨rfl, rfl, .inr ⟨h1, fr2, he⟩⟩, h2⟩
      | pan _ _ => rw [he] at h2; cases h2
      | no => rw [he] at h2; cases h2
    · exact ⟨undef, fr.put x.d undef, st, N, ⟨rfl, rfl, .inl ⟨h1, rfl, rfl⟩⟩, h2⟩
  | read back ts =>
    have h' : onlyK fr.t ts (fun t => wantK ⟨t, [], none, false, none⟩ x.g
          (OR.rec (motive := fun _ => CR) (fun v _ _ => cond (sameAt call x.o ⟨t, [], none, false, none⟩ v st.nx (Nat.succ back) N) (evD call L N (fr.put x.d v) st) .no) (fun _ _ => .no) .no (evOp call x.o ⟨t, [], none, false, none⟩ st))
          (evD call L N (fr.put x.d undef) st) .no) = .out e fr' st' := h
    rw [onlyK_eq] at h'
    have h'' : wantK (fr.only ts) x.g (OR.rec (motive := fun _ => CR) (fun v _ _ => cond (sameAt call x.o (fr.only ts) v st.nx (Nat.succ back) N) (evD call L N (fr.put x.d v) st) .no) (fun _ _ => .no) .no (evOp call x.o (fr.only ts) st))
          (evD call L N (fr.put x.d undef) st) .no = .out e fr' st' := h'
    rcases wantK_cases h'' (by simp) with ⟨h1, h2⟩ | ⟨h1, h2⟩
    · cases he : evOp call x.o (fr.only ts) st with
      | ok v fr2 st2 =>
        rw [he] at h2
        obtain ⟨h3, h4⟩ := cond_inv (h2 : cond _ _ _ = _) (by simp)
        exact ⟨v, fr.put x.d v, st, N, ⟨rfl, rfl, rfl, .inr ⟨h1, h3⟩⟩, h4⟩
      | pan _ _ => rw [he] at h2; cases h2
      | no => rw [he] at h2; cases h2
    · exact ⟨undef, fr.put x.d undef, st, N, ⟨rfl, rfl, rfl, .inl ⟨h1, rfl⟩⟩, h2⟩

/-- The whole evaluation, place by place. -/
structure DTrace (call : CallT) (L : List (XOper × Cls)) (N0 : List (PM AObj)) (fr : AFr) (st : St) (fr' : AFr) (st' : St) (F : Nat → AFr) (T : Nat → St) (N : Nat → List (PM AObj)) (V : Nat → Value) : Prop where
  f0 : F 0 = fr
  t0 : T 0 = st
  n0 : N 0 = N0
  fn : F L.length = fr'
  tn : T L.length = st'
  step : ∀ p x c, L[p]? = some (x, c) → DStep call x c (F p) (T p) (N p) (V p) (F (p + 1)) (T (p + 1)) (N (p + 1))

theorem evD_trace : ∀ (L : List (XOper × Cls)) (N0 : List (PM AObj)) (fr : AFr) (st : St) (e : XExit) (fr' : AFr) (st' : St), evD call L N0 fr st = .out e fr' st' → e = .norm ∧ ∃ F T N V, DTrace call L N0 fr st fr' st' F T N V
  | [], N0, fr, st, e, fr', st', h => by
    have h' : CR.out .norm fr st = .out e fr' st' := h
    cases h'
    exact ⟨rfl, fun _ => fr, fun _ => st, fun _ => N0, fun _ => undef, rfl, rfl, rfl, rfl, rfl, fun p x c hp => by simp at hp⟩
  | (x, c) :: L, N0, fr, st, e, fr', st', h => by
    obtain ⟨v, fr1, st1, N1, hd, h1⟩ := evD_step h
    obtain ⟨he, F, T, N, V, ht⟩ := evD_trace L N1 fr1 st1 e fr' st' h1
    refine ⟨he, fun p => Nat.casesOn p fr F, fun p => Nat.casesOn p st T, fun p => Nat.casesOn p N0 N, fun p => Nat.casesOn p v V, rfl, rfl, rfl, ht.fn, ht.tn, fun p x' c' hp => ?_⟩
    cases p with
    | zero =>
      have : (x, c) = (x', c') := by simpa using hp
      cases this
      show DStep call x c fr st N0 v (F 0) (T 0) (N 0)
      rw [ht.f0, ht.t0, ht.n0]; exact hd
    | succ p => exact ht.step p x' c' (by simpa using hp)
end Go.AM
namespace Go.AM
variable {X : Ctx} {call : CallT}

theorem putsK_cps {α : Type} (l : List α) (n : Nat) (vs : List α) : (∃ out, ∀ (k : List α → OR) , putsK l n vs k .no = k out) ∨ (∀ k : List α → OR, putsK l n vs k .no = .no) := by
  by_cases h : n + vs.length ≤ l.length
  · exact .inl ⟨_, fun k => by rw [putsK_eq, if_pos h]⟩
  · by_cases h2 : vs = []
    · exact .inl ⟨l, fun k => by rw [putsK_eq, if_neg h, if_pos h2]⟩
    · exact .inr fun k => by rw [putsK_eq, if_neg h, if_neg h2]

theorem fillK_cps (fr : AFr) : ∀ (ps : List (Nat × Nat × Operand)) (cs : List Value), (∃ out, ∀ c, fillK fr ps cs c = c out) ∨ (∀ c, fillK fr ps cs c = .no)
  | [], cs => .inl ⟨cs, fun _ => rfl⟩
  | p :: ps, cs => by
    have hu : ∀ c, fillK fr (p :: ps) cs c = cond (isPoison (fr.ev p.2.2)) .no (eqK (lenX (cellsL (fr.ev p.2.2))) p.2.1 (leK (Nat.add p.1 p.2.1) (lenX cs) (putsK cs p.1 (cellsL (fr.ev p.2.2)) (fun cs' => fillK fr ps cs' c) .no) .no) .no) := fun _ => rfl
    simp only [hu]
    cases isPoison (fr.ev p.2.2) with
    | true => exact .inr fun _ => rfl
    | false =>
      simp only [cond_false, eqK_eq, leK_eq]
      split
      · split
        · rcases putsK_cps cs p.1 (cellsL (fr.ev p.2.2)) with ⟨out, ho⟩ | hn
          · rcases fillK_cps fr ps out with ⟨out', ho'⟩ | hn'
            · exact .inl ⟨out', fun c => by rw [ho]; exact ho' c⟩
            · exact .inr fun c => by rw [ho]; exact hn' c
          · exact .inr fun c => hn _
        · exact .inr fun _ => rfl
      · exact .inr fun _ => rfl

theorem al_heap {x : XOp} {fr fr' : AFr} {h0 : PM AObj} {nx : Nat} {v : Value} {st' : St} (hx : x.isAl = true) (h : evOp call x fr ⟨h0, nx⟩ = .ok v fr' st') :
    ∃ o, o ≠ .dead ∧ fr' = fr ∧ st' = ⟨h0.set nx o, nx + 1⟩ ∧ ∀ h', evOp call x fr ⟨h', nx⟩ = .ok v fr ⟨h'.set nx o, nx + 1⟩ := by
  cases x with
  | alloc z e =>
    have h : op_alloc z e call fr ⟨h0, nx⟩ = .ok v fr' st' := h
    unfold op_alloc at h
    rw [newK_eq] at h
    cases h
    exact ⟨_, by simp, rfl, rfl, fun h' => by show op_alloc z e call fr ⟨h', nx⟩ = _; unfold op_alloc; rw [newK_eq]⟩
  | box e p =>
    have h : op_box e p call fr ⟨h0, nx⟩ = .ok v fr' st' := h
    unfold op_box at h
    obtain ⟨h1, h2⟩ := ncond_inv h (by simp)
    rw [newK_eq] at h2
    cases h2
    exact ⟨_, by simp, rfl, rfl, fun h' => by show op_box e p call fr ⟨h', nx⟩ = _; unfold op_box; simp only [h1, cond_false]; rw [newK_eq]⟩
  | bslice e n z ps =>
    have h : op_bslice e n z ps call fr ⟨h0, nx⟩ = .ok v fr' st' := h
    unfold op_bslice at h
    rcases fillK_cps fr ps z with ⟨out, ho⟩ | hn
    · rw [ho, newK_eq] at h
      cases h
      exact ⟨_, by simp, rfl, rfl, fun h' => by show op_bslice e n z ps call fr ⟨h', nx⟩ = _; unfold op_bslice; rw [ho, newK_eq]⟩
    · rw [hn] at h; cases h
  | cs2b e p =>
    have h : op_cs2b e p call fr ⟨h0, nx⟩ = .ok v fr' st' := h
    unfold op_cs2b at h
    obtain ⟨s, hs, h1⟩ := vString_inv h (by simp)
    obtain ⟨hle, h2⟩ := leK_inv h1 (by simp)
    rw [newK_eq] at h2
    cases h2
    exact ⟨_, by simp, rfl, rfl, fun h' => by
      show op_cs2b e p call fr ⟨h', nx⟩ = _; unfold op_cs2b; rw [hs]
      show leK (lenX s.data.toList) (2 ^ 40) _ _ = _
      rw [leK_eq, if_pos hle, newK_eq]⟩
  | mksl e bs z l c =>
    have h : op_mksl e bs z l c call fr ⟨h0, nx⟩ = .ok v fr' st' := h
    unfold op_mksl at h
    obtain ⟨k1, l0, hl, h1⟩ := vInt_inv h (by simp)
    obtain ⟨k2, c0, hc, h2⟩ := vInt_inv h1 (by simp)
    obtain ⟨ln, hln, h3⟩ := natK_inv h2 (by simp)
    obtain ⟨cn, hcn, h4⟩ := natK_inv h3 (by simp)
    obtain ⟨hle, h5⟩ := leK_inv h4 (by simp)
    obtain ⟨hle2, h6⟩ := leK_inv h5 (by simp)
    rw [newK_eq] at h6
    cases h6
    exact ⟨_, by simp, rfl, rfl, fun h' => by
      show op_mksl e bs z l c call fr ⟨h', nx⟩ = _; unfold op_mksl; rw [hl, hc, hln, hcn]
      show leK ln cn (leK (Nat.mul cn (Nat.succ bs)) (2 ^ 40) _ _) _ = _
      rw [leK_eq, if_pos hle, leK_eq, if_pos hle2, newK_eq]⟩
  | mkmap =>
    have h : op_mkmap call fr ⟨h0, nx⟩ = .ok v fr' st' := h
    unfold op_mkmap at h
    rw [newK_eq] at h
    cases h
    exact ⟨_, by simp, rfl, rfl, fun h' => by show op_mkmap call fr ⟨h', nx⟩ = _; unfold op_mkmap; rw [newK_eq]⟩
  | _ => exact absurd hx Bool.false_ne_true
end Go.AM
