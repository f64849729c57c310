/- In every world in which the listed variables read as the claim says, the call of BoundsKnown returns true and changes nothing. -/
import Derived.Test.YtdidaplfdedcoaaGreatDoorRows
import Derived.Handed
import Derived.ProofKit
import Derived.OpenShut
import Derived.Shelf.Vars
import Derived.Lay
import Derived.LaidMore
import Derived.Test.YtdidaplfdedcoaaGreatDoorZ
import Derived.Test.YtdidaplfdedcoaaGreatDoorM4
namespace Go.Proofs.YtdidaplfdedcoaaGreatDoor
open Go.ChangeShapes Go.WideShapes Go.ChangeAt Go.RowKit Go.AM
set_option maxRecDepth 100000

theorem own : ownKnob Tryz.prog.godebug = none := by kernel_rfl
theorem sh {P : Program} {W : World} (h : W.ShapedOpen P) {g : Nat} {t : TypeId} (hg : g < P.globals.size) (h0 : (((begin P (fun _ _ => 0) default).world.heap[g]?).bind Obj.row?).map (·.2) = some t) : ∃ cs, W.heap[g]? = some (.cells cs t) := by
  obtain ⟨⟨z, t'⟩, e1, e2⟩ := Option.map_eq_some_iff.1 h0
  simp only at e2
  subst e2
  obtain ⟨cs, h1, _⟩ := h.1 g z t' hg e1
  exact ⟨cs, h1⟩
theorem gs11 : Tryz.prog.globals.size = 11 := by kernel_rfl
theorem plainLaid : (Rows.boundsKnownRow.laid.all fun x => x.2.handleName?.isNone) = true := by kernel_rfl
theorem gl1 {W : World} {ps : List MemPlace} (hl : DataW.LaidVars Tryz.prog W Rows.boundsKnownRow.laid ps) (hs : W.ShapedOpen Tryz.prog) : GlOk 11 W Xk.q1 :=
  gl_laid (n := 4) (t := 186) (name := "vernier/lang.after") (d := Rows.laid_vernier_lang_after) hl (by simp [Rows.boundsKnownRow]) (by kernel_rfl) (by kernel_rfl) (by kernel_rfl) (by decide) (by decide) (by kernel_rfl) (sh hs (by rw [gs11]; decide) (by kernel_rfl))
theorem gl2 {W : World} {ps : List MemPlace} (hl : DataW.LaidVars Tryz.prog W Rows.boundsKnownRow.laid ps) (hs : W.ShapedOpen Tryz.prog) : GlOk 11 W Xk.q2 :=
  gl_laid (n := 4) (t := 211) (name := "vernier/lang.shapes") (d := Rows.laid_vernier_lang_shapes) hl (by simp [Rows.boundsKnownRow]) (by kernel_rfl) (by kernel_rfl) (by kernel_rfl) (by decide) (by decide) (by kernel_rfl) (sh hs (by rw [gs11]; decide) (by kernel_rfl))
theorem gl6 {W : World} {ps : List MemPlace} (hl : DataW.LaidVars Tryz.prog W Rows.boundsKnownRow.laid ps) (hs : W.ShapedOpen Tryz.prog) : GlOk 11 W Xk.q6 :=
  gl_laid (n := 4) (t := 342) (name := "internal/strconv.uint64pow10") (d := Rows.laid_internal_strconv_uint64pow10) hl (by simp [Rows.boundsKnownRow]) (by kernel_rfl) (by kernel_rfl) (by kernel_rfl) (by decide) (by decide) (by kernel_rfl) (sh hs (by rw [gs11]; decide) (by kernel_rfl))
theorem gl7 {W : World} {ps : List MemPlace} (hl : DataW.LaidVars Tryz.prog W Rows.boundsKnownRow.laid ps) (hs : W.ShapedOpen Tryz.prog) : GlOk 11 W Xk.q7 :=
  gl_laid (n := 4) (t := 360) (name := "vernier/proofs.plain") (d := Rows.laid_vernier_proofs_plain) hl (by simp [Rows.boundsKnownRow]) (by kernel_rfl) (by kernel_rfl) (by kernel_rfl) (by decide) (by decide) (by kernel_rfl) (sh hs (by rw [gs11]; decide) (by kernel_rfl))
theorem gl3 {W : World} (hs : W.ShapedOpen Tryz.prog) : GlOk 11 W Xk.q3 := by
  have h0 : ((begin Tryz.prog (fun _ _ => 0) default).world.heap[3]?).bind Obj.row? = some (#[.int .i64 0], 3) := by kernel_rfl
  obtain ⟨cs, h1, h2, _⟩ := hs.1 3 _ 3 (by rw [gs11]; decide) h0
  obtain ⟨m, hm⟩ := cell_of_shapedOpen_int (k := .i64) hs (by rw [gs11]; decide) h0 rfl (by kernel_rfl) (by kernel_rfl) Tryz.underlying3
  have hc : cs = #[.int .i64 m] := by
    have h3 : cs[0]? = some (.int .i64 m) := by simpa [World.cell?, h1] using hm
    obtain ⟨l⟩ := cs
    match l, h2, h3 with
    | [x], _, h3 => simp at h3; rw [h3]
  refine ⟨by decide, [.chan (some 1)], 3, 1, cs, _, rfl, by decide, h1, ?_⟩
  rw [hc]
  exact .cons (.unk 1 m (.inl rfl)) (.nil _)
theorem gsz {W : World} (hs : W.ShapedOpen Tryz.prog) : 11 ≤ W.heap.size := by
  obtain ⟨cs, h⟩ := sh (g := 10) (t := 458) hs (by rw [gs11]; decide) (by kernel_rfl)
  have := (Array.getElem?_eq_some_iff.1 h).1
  omega

/-- THE RUN: whatever the world (its listed variables read as the claim says), the call returns true, and nothing that was there has changed. -/
theorem run {W : World} (hl : laidMetH Tryz.prog Rows.boundsKnownRow.laid W) (hs : W.ShapedOpen Tryz.prog) :
    Calls Tryz.prog 3 #[] W fun e W' => e = .returned (.bool true) ∧ W.keptBut W' (fun _ => False) := by
  rw [MakeChecks.laidMetH_plain _ _ _ plainLaid] at hl
  obtain ⟨ps, hl, _⟩ := hl
  have hw : WRel Xa.ctx (ini0 11) (Xk.r382.row 11).st W := wrel_ini (X := Xa.ctx) (gs := Xk.r382.gs) (gsz hs) fun p hp => by
    have hp : p ∈ [Xk.q1, Xk.q2, Xk.q3, Xk.q6, Xk.q7] := hp
    simp only [List.mem_cons, List.not_mem_nil, or_false] at hp
    rcases hp with rfl | rfl | rfl | rfl | rfl
    · exact gl1 hl hs
    · exact gl2 hl hs
    · exact gl3 hs
    · exact gl6 hl hs
    · exact gl7 hl hs
  refine (calls_of_row Xk.ar382 (as' := []) (.nil _) hw).mono fun e W' ⟨κ, v', he, hv, _, hk⟩ => ?_
  have hv : VRel κ (.bool true) v' := hv
  cases hv
  refine ⟨he, hk.so.1, hk.so.2, fun i hi => ?_⟩
  have hkept : W'.heap[i]? = W.heap[i]? := hk.kept i hi fun j l hl hg => by
    unfold ini0 at hl
    split at hl
    · cases hl; exact absurd rfl hg
    · cases hl
  rw [hkept]
  exact (World.keptBut_refl W (fun _ => False)).2.2 i hi

theorem met (os : Os) : laidMetH Tryz.prog Rows.boundsKnownRow.laid ((World.laidAll Tryz.prog os Rows.boundsKnownRow.laid).forCall (fun _ _ => 0) ⟨#[], #[], []⟩).memory := by
  rw [MakeChecks.laidMetH_plain _ _ _ plainLaid]
  exact laidMet_laidAll #[] (by kernel_rfl) (by kernel_rfl)
theorem params3 : Tryz.f3.params.toList = [] := by kernel_rfl
theorem results3 : Tryz.f3.resultTypes.toList = [4] := by kernel_rfl
theorem nres3 : Tryz.f3.resultTypes.size = 1 := by kernel_rfl

theorem lifted (os : Os) (started : os.Started) (H : Type) (enc : TypeId × Value → H) :
    ReturnsInHanded {} Tryz.checked os 3 .any (fun w args => (Rows.boundsKnownSpec.pre enc Tryz.prog Tryz.f3 [] false w args ∧ laidMetH Tryz.prog Rows.boundsKnownRow.laid w) ∧ sizedMet enc Tryz.prog Tryz.f3 (OpenSpec.ofChange Rows.boundsKnownSpec) false w args)
      (Rows.boundsKnownSpec.post enc Tryz.prog Tryz.f3 false true false false) := by
  refine returnsInHanded_of_calls (C := Tryz.checked) own started (by kernel_rfl)
    (ChangeSpec.witness_shaped (enc := enc) (C := Tryz.checked) (os := os) (X := fun w _ => laidMetH Tryz.prog Rows.boundsKnownRow.laid w) false (World.laidAll Tryz.prog os Rows.boundsKnownRow.laid) #[] 8 (World.laidAll_os _ _ _) (World.shaped_of_RefB (by kernel_rfl) (by kernel_rfl)) (by kernel_rfl) (by kernel_rfl) (by kernel_rfl) (met os)) ?_
  intro w tape i _ hsh _ _ hpre _
  obtain ⟨⟨⟨ds, gs, before, hw, hc⟩, hx⟩, _⟩ := hpre
  have hw' : DataW.Whole enc Tryz.prog Tryz.f3.params.toList Rows.boundsKnownSpec.vars false (w.forCall tape i) i.args.toList ds gs before := DataW.Whole.of_heap (w' := w.forCall tape i) (by rfl) hw
  have hl : laidMetH Tryz.prog Rows.boundsKnownRow.laid (w.forCall tape i) := hx.of_heap (by rfl)
  have hW := hw'
  obtain ⟨p, q, hA, hV, hb, _, _⟩ := hW
  rw [params3] at hA
  have ha : i.args.toList = [] ∧ ds = [] ∧ p = [] := by
    cases e1 : i.args.toList with
    | cons x xs => rw [e1] at hA; cases ds <;> exact hA.elim
    | nil =>
      rw [e1] at hA
      cases ds with
      | cons y ys => exact hA.elim
      | nil => exact ⟨rfl, rfl, hA⟩
  obtain ⟨ha1, rfl, rfl⟩ := ha
  have hv : gs = [] ∧ q = [] := by
    cases gs with
    | cons y ys => exact hV.elim
    | nil => exact ⟨rfl, hV⟩
  obtain ⟨rfl, rfl⟩ := hv
  have ha2 : i.args = #[] := by
    apply Array.toList_inj.1
    rw [ha1]
  rw [ha2]
  refine (run hl hsh).mono fun e W' ⟨he, hk⟩ => ?_
  subst he
  refine ChangeSpec.post_blind ⟨[], [], before, [], [], [], by rw [ha2] at hw'; exact hw', ?_, ?_, rfl, ?_, fun h => by cases h⟩
  · rw [results3, nres3]
    exact trodAll_mk1 (shut_bool Tryz.underlying4 _)
  · rw [params3]; rfl
  · exact World.keptBut_mono (fun _ h => h.elim) hk
end Go.Proofs.YtdidaplfdedcoaaGreatDoor
