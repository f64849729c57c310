/- An abstract machine, and that its evaluations stand for runs of the model (part 3); no condition. -/
import Derived.Orders
import Derived.Defers
import Derived.RangeFuncLeaves
import Derived.RangeFuncRecord
import Derived.KernelRfl
import Derived.Test.YtdidaplfdedcoaaGreatDoorM2
namespace Go.AM

def Cls.isEff : Cls → Bool
  | .eff => true
  | _ => false
def Cls.looks : Cls → List Tmp
  | .eff => []
  | .al ts => ts
  | .read _ ts => ts
def effAt (L : List (XOper × Cls)) (q : Nat) : Bool := ((L[q]?).map (·.2.isEff)).getD false

structure DrawOk (X : Ctx) (nt : Nat) (ops : Array Oper) (L : List (XOper × Cls)) (ix : List Nat) (pz : List Tmp) (ms : List Nat) : Prop where
  lenL : L.length = ops.size
  lenI : ix.length = ops.size
  op : ∀ (p i : Nat) x c, ix[p]? = some i → L[p]? = some (x, c) → ∃ o, ops[i]? = some o ∧ operOk X nt ops x o = true
  al : ∀ (p : Nat) x ts, L[p]? = some (x, .al ts) → x.o.isAl = true
  rd : ∀ (p : Nat) x n ts, L[p]? = some (x, .read n ts) → x.o.isRd = true
  inj : ∀ (p q i : Nat), ix[p]? = some i → ix[q]? = some i → p = q
  surj : ∀ i, i < ops.size → ∃ p : Nat, ix[p]? = some i
  edge : ∀ (p i : Nat) o, ix[p]? = some i → ops[i]? = some o → ∀ e ∈ o.after, Region.binds .any e = true → ∃ q, q < p ∧ ix[q]? = some e.on
  mask : ∀ (p i : Nat) o q, ix[p]? = some i → ops[i]? = some o → (ms.getD p 0).testBit q = true → ∃ e ∈ o.after, Region.binds .any e = true ∧ ∃ r, r < p ∧ ix[r]? = some e.on ∧ (q = r ∨ (ms.getD r 0).testBit q = true)
  eff : ∀ (p : Nat) x q, L[p]? = some (x, .eff) → q < p → (ms.getD p 0).testBit q = true
  back : ∀ (p : Nat) x n ts, L[p]? = some (x, .read n ts) → (List.range p).countP (fun q => effAt L q && !(ms.getD p 0).testBit q) ≤ n
  dst : ∀ (p q : Nat) x y c d t, L[p]? = some (x, c) → L[q]? = some (y, d) → x.d = some t → y.d = some t → p = q
  anti : ∀ (p q : Nat) x y c d t, L[p]? = some (x, c) → L[q]? = some (y, d) → p < q → y.d = some t → t ∉ pz → (c = .eff ∨ t ∈ c.looks) → (ms.getD q 0).testBit p = true
  dep : ∀ (p q : Nat) x y c d t, L[p]? = some (x, c) → L[q]? = some (y, d) → q < p → y.d = some t → t ∈ c.looks → (ms.getD p 0).testBit q = true

section
variable {X : Ctx} {nt : Nat} {ops : Array Oper} {L : List (XOper × Cls)} {ix : List Nat} {pz : List Tmp} {ms : List Nat} {call : CallT}

/-- All that an operation waits for is done. -/
def Ready (ops : Array Oper) (ix : List Nat) (E : Nat → Prop) (p : Nat) : Prop := ∀ i o, ix[p]? = some i → ops[i]? = some o → ∀ e ∈ o.after, Region.binds .any e = true → ∀ r : Nat, ix[r]? = some e.on → E r

theorem DrawOk.before (D : DrawOk X nt ops L ix pz ms) {E : Nat → Prop} (hE : ∀ p, E p → Ready ops ix E p) (p : Nat) : Ready ops ix E p → p < ops.size → ∀ q, (ms.getD p 0).testBit q = true → E q := by
  induction p using Nat.strongRecOn with
  | _ p ih =>
    intro hr hp q hq
    have hpi : p < ix.length := by rw [D.lenI]; exact hp
    have hi : ix[p]? = some ix[p] := List.getElem?_eq_getElem hpi
    obtain ⟨x, hx⟩ : ∃ x, L[p]? = some x := ⟨_, List.getElem?_eq_getElem (by rw [D.lenL]; exact hp)⟩
    obtain ⟨o, ho, _⟩ := D.op p _ x.1 x.2 hi hx
    obtain ⟨e, he, hb, r, hrp, hri, hor⟩ := D.mask p _ o q hi ho hq
    have hEr : E r := hr _ o hi ho e he hb r hri
    rcases hor with rfl | hor
    · exact hEr
    · exact ih r hrp (hE r hEr) (by omega) q hor

variable {N0 : List (PM AObj)} {fr fr' : AFr} {st st' : St} {F : Nat → AFr} {T : Nat → St} {N : Nat → List (PM AObj)} {V : Nat → Value}

theorem DTrace.nx_step (ht : DTrace call L N0 fr st fr' st' F T N V) (D : DrawOk X nt ops L ix pz ms) {p : Nat} (hp : p < L.length) : (T p).nx ≤ (T (p + 1)).nx := by
  obtain ⟨⟨x, c⟩, hx⟩ : ∃ x, L[p]? = some x := ⟨_, List.getElem?_eq_getElem hp⟩
  have hs := ht.step p x c hx
  cases c with
  | eff =>
    rcases hs with ⟨_, _, _, h, _⟩ | ⟨_, _, _, h, _⟩
    · rw [h]; exact Nat.le_refl _
    · exact h
  | al ts =>
    obtain ⟨_, _, h⟩ := hs
    rcases h with ⟨_, _, h⟩ | ⟨_, fr2, h⟩
    · rw [h]; exact Nat.le_refl _
    · have hx' := D.al p x ts hx
      obtain ⟨o, _, _, h2, _⟩ := al_heap (h0 := (T p).h) (nx := (T p).nx) hx' h
      rw [h2]; exact Nat.le_succ _
  | read n ts => obtain ⟨_, _, h, _⟩ := hs; rw [h]; exact Nat.le_refl _

theorem DTrace.nx_le (ht : DTrace call L N0 fr st fr' st' F T N V) (D : DrawOk X nt ops L ix pz ms) {p q : Nat} (h : p ≤ q) (hq : q ≤ L.length) : (T p).nx ≤ (T q).nx := by
  induction q with
  | zero => have : p = 0 := by omega
            subst this; exact Nat.le_refl _
  | succ q ih =>
    by_cases e : p = q + 1
    · subst e; exact Nat.le_refl _
    · exact Nat.le_trans (ih (by omega) (by omega)) (ht.nx_step D (by omega))

/-- Every step writes its own temporary alone. -/
theorem DTrace.tmp_step (ht : DTrace call L N0 fr st fr' st' F T N V) {p : Nat} {x : XOper} {c : Cls} (hx : L[p]? = some (x, c)) (t : Nat) : (F (p + 1)).tmp t = if x.d = some t then V p else (F p).tmp t := by
  have hs := ht.step p x c hx
  cases c with
  | eff =>
    rcases hs with ⟨_, h1, h, _⟩ | ⟨_, fr2, _, _, h, _⟩
    · rw [h, tmp_put, h1]
    · rw [h, tmp_put]; rfl
  | al ts => obtain ⟨h, _⟩ := hs; rw [h, tmp_put]
  | read n ts => obtain ⟨h, _⟩ := hs; rw [h, tmp_put]

theorem DTrace.tmp_old (ht : DTrace call L N0 fr st fr' st' F T N V) (t : Nat) : ∀ p, p ≤ L.length → (∀ (q : Nat) x c, q < p → L[q]? = some (x, c) → x.d ≠ some t) → (F p).tmp t = (F 0).tmp t
  | 0, _, _ => rfl
  | p + 1, hp, h => by
    obtain ⟨⟨x, c⟩, hx⟩ : ∃ x, L[p]? = some x := ⟨_, List.getElem?_eq_getElem (by omega)⟩
    rw [ht.tmp_step hx, if_neg (h p x c (by omega) hx)]
    exact ht.tmp_old t p (by omega) (fun q x c hq => h q x c (by omega))

theorem DTrace.tmp_new (ht : DTrace call L N0 fr st fr' st' F T N V) (D : DrawOk X nt ops L ix pz ms) {q : Nat} {y : XOper} {d : Cls} {t : Nat} (hy : L[q]? = some (y, d)) (hd : y.d = some t) : ∀ p, q < p → p ≤ L.length → (F p).tmp t = V q
  | 0, h, _ => by omega
  | p + 1, h, hp => by
    obtain ⟨⟨x, c⟩, hx⟩ : ∃ x, L[p]? = some x := ⟨_, List.getElem?_eq_getElem (by omega)⟩
    rw [ht.tmp_step hx]
    by_cases e : p = q
    · subst e
      rw [hx] at hy
      cases hy
      rw [if_pos hd]
    · rw [if_neg (fun h => e (D.dst p q x y c d t hx hy h hd))]
      exact ht.tmp_new D hy hd p (by omega) (by omega)

/-- What a floating operation leaves of the rest of the frame. -/
theorem DTrace.same (ht : DTrace call L N0 fr st fr' st' F T N V) {p : Nat} {x : XOper} {c : Cls} (hx : L[p]? = some (x, c)) (hc : c ≠ .eff) : (F (p + 1)).df = (F p).df ∧ (F (p + 1)).took = (F p).took ∧ (F (p + 1)).pan = (F p).pan ∧ (F (p + 1)).rnd = (F p).rnd := by
  have hs := ht.step p x c hx
  cases c with
  | eff => exact absurd rfl hc
  | al ts => obtain ⟨h, _⟩ := hs; obtain ⟨q1, q2, q3, q4⟩ := put_pan (F p) x.d (V p); rw [h]; exact ⟨q4, q3, q1, q2⟩
  | read n ts => obtain ⟨h, _⟩ := hs; obtain ⟨q1, q2, q3, q4⟩ := put_pan (F p) x.d (V p); rw [h]; exact ⟨q4, q3, q1, q2⟩

/-- The heaps that are remembered. -/
theorem DTrace.snap (ht : DTrace call L [st.h] fr st fr' st' F T N V) {c : Nat} (hc : c = 0 ∨ ∃ p x, c = p + 1 ∧ L[p]? = some (x, Cls.eff)) : ∀ p, c ≤ p → p ≤ L.length →
    (N p)[(List.range p).countP (fun q => decide (c ≤ q) && effAt L q)]? = some (T c).h
  | 0, h, _ => by
    have : c = 0 := by omega
    subst this
    simp [ht.n0, ht.t0]
  | p + 1, h, hp => by
    obtain ⟨⟨x, k⟩, hx⟩ : ∃ x, L[p]? = some x := ⟨_, List.getElem?_eq_getElem (by omega)⟩
    have hs := ht.step p x k hx
    by_cases e : c = p + 1
    · subst e
      have hz : (List.range (p + 1)).countP (fun q => decide (p + 1 ≤ q) && effAt L q) = 0 := by
        rw [List.countP_eq_zero]
        intro q hq
        have := List.mem_range.1 hq
        simp; omega
      rw [hz]
      rcases hc with hc | ⟨p', x', hc, hx'⟩
      · omega
      · have : p' = p := by omega
        subst this
        rw [hx] at hx'
        cases hx'
        rcases hs with ⟨_, _, _, h1, h2⟩ | ⟨_, _, _, _, _, h2⟩
        · rw [h2, h1]; rfl
        · rw [h2]; rfl
    · have ih := ht.snap hc p (by omega) (by omega)
      rw [List.range_succ, List.countP_append, List.countP_singleton]
      have hcp : decide (c ≤ p) = true := by simp; omega
      have hef : effAt L p = k.isEff := by simp [effAt, hx]
      simp only [hcp, Bool.true_and, hef]
      cases k with
      | eff =>
        have : ∃ h, N (p + 1) = h :: N p := by
          rcases hs with ⟨_, _, _, _, h2⟩ | ⟨_, _, _, _, _, h2⟩
          · exact ⟨_, h2⟩
          · exact ⟨_, h2⟩
        obtain ⟨h, hN⟩ := this
        rw [hN]
        simpa [Cls.isEff] using ih
      | al ts => obtain ⟨_, h2, _⟩ := hs; rw [h2]; simpa [Cls.isEff] using ih
      | read n ts => obtain ⟨_, h2, _⟩ := hs; rw [h2]; simpa [Cls.isEff] using ih
end
end Go.AM
namespace Go.AM
variable {X : Ctx}

def cutI (ι : Inj) (n : Nat) : Inj := fun id => if id < n then ι id else none
theorem cutI_some {ι : Inj} {n id : Nat} {l : Loc} : cutI ι n id = some l ↔ id < n ∧ ι id = some l := by
  unfold cutI; by_cases h : id < n <;> simp [h]
theorem cutI_le (ι : Inj) (n : Nat) : (cutI ι n).le ι := fun _ _ h => (cutI_some.1 h).2
theorem cutI_mono {ι κ : Inj} {m n : Nat} (h : ι.le κ) (hn : m ≤ n) : (cutI ι m).le (cutI κ n) := fun _ _ hl => cutI_some.2 ⟨Nat.lt_of_lt_of_le (cutI_some.1 hl).1 hn, h _ _ (cutI_some.1 hl).2⟩
theorem cutI_all {ι : Inj} {n : Nat} (h : ∀ id, n ≤ id → ι id = none) : cutI ι n = ι := by
  funext id; unfold cutI; by_cases hi : id < n
  · simp [hi]
  · simp [hi, h id (by omega)]

/-- More ids may be known than those of the state. -/
theorem WRel.look {ι κ : Inj} {h : PM AObj} {n m : Nat} {w : World} (hw : WRel X ι ⟨h, n⟩ w) (hle : ι.le κ) (hf : ∀ id, m ≤ id → κ id = none) (hn : n ≤ m) (hb : ∀ id l, κ id = some l → l.blk < w.heap.size) : WRel X κ ⟨h, m⟩ w := by
  refine ⟨fun id o ho hd => ?_, fun i j o p l m' hi hdi hj hdj hli hlj e => ?_, fun id hid => ⟨hf id hid, (hw.fresh id (Nat.le_trans hn hid)).2⟩, hb, fun g hg => hle _ _ (hw.glob g hg), Nat.le_trans hw.globs hn, fun i l o hl hs ho hd => ?_⟩
  · obtain ⟨l, hl, hm⟩ := hw.objs id o ho hd
    exact ⟨l, hle _ _ hl, OMatch.mono X hm hle rfl⟩
  · obtain ⟨l', hl', _⟩ := hw.objs i o hi hdi
    obtain ⟨l'', hl'', _⟩ := hw.objs j p hj hdj
    have e1 := (hle _ _ hl').symm.trans hli
    have e2 := (hle _ _ hl'').symm.trans hlj
    cases e1; cases e2
    exact hw.inj i j o p _ _ hi hdi hj hdj hl' hl'' e
  · obtain ⟨l', hl', _⟩ := hw.objs i o ho hd
    have e1 := (hle _ _ hl').symm.trans hl
    cases e1
    exact hw.prot i _ o hl' hs ho hd

/-- A block that is there already gets its id. -/
theorem WRel.adopt {ι : Inj} {st : St} {w : World} (hw : WRel X ι st w) {o : AObj} {l : Loc} (ho : OMatch X (extI ι st.nx l) w o l) (hb : l.blk < w.heap.size) (hsg : l.sg ≠ gsg) (hne : ∀ id l', ι id = some l' → l'.blk ≠ l.blk) :
    WRel X (extI ι st.nx l) ⟨st.h.set st.nx o, st.nx + 1⟩ w := by
  have hle : ι.le (extI ι st.nx l) := by
    intro id l' hl
    show (if id = st.nx then some l else ι id) = some l'
    rw [if_neg]; exact hl
    intro e; subst e; rw [(hw.fresh _ (Nat.le_refl _)).1] at hl; cases hl
  have hat : extI ι st.nx l st.nx = some l := if_pos rfl
  have hoth : ∀ id, id ≠ st.nx → extI ι st.nx l id = ι id := fun id h => if_neg h
  refine ⟨fun id p hp hd => ?_, fun i j p q l1 l2 hi hdi hj hdj hli hlj e => ?_, fun id hid => ?_, fun id l' hl' => ?_, fun g hg => hle _ _ (hw.glob g hg), Nat.le_succ_of_le hw.globs, fun i l1 p hl1 hs hp hd => ?_⟩
  · rw [PM.get_set] at hp
    by_cases e : id = st.nx
    · rw [if_pos e] at hp; cases hp; subst e; exact ⟨l, hat, ho⟩
    · rw [if_neg e] at hp
      obtain ⟨l', hl', hm⟩ := hw.objs id p hp hd
      exact ⟨l', hle _ _ hl', OMatch.mono X hm hle rfl⟩
  · rw [PM.get_set] at hi hj
    by_cases e1 : i = st.nx
    · by_cases e2 : j = st.nx
      · rw [e1, e2]
      · subst e1
        rw [hat] at hli; cases hli
        rw [hoth j e2] at hlj
        exact absurd e.symm (hne _ _ hlj)
    · by_cases e2 : j = st.nx
      · subst e2
        rw [hat] at hlj; cases hlj
        rw [hoth i e1] at hli
        exact absurd e (hne _ _ hli)
      · rw [if_neg e1] at hi; rw [if_neg e2] at hj
        rw [hoth i e1] at hli; rw [hoth j e2] at hlj
        exact hw.inj i j p q l1 l2 hi hdi hj hdj hli hlj e
  · have hid' : st.nx + 1 ≤ id := hid
    refine ⟨?_, ?_⟩
    · rw [hoth id (by omega)]; exact (hw.fresh id (by omega)).1
    · show (st.h.set st.nx o).get id = none
      rw [PM.get_set, if_neg (by omega)]; exact (hw.fresh id (by omega)).2
  · by_cases e : id = st.nx
    · subst e; rw [hat] at hl'; cases hl'; exact hb
    · rw [hoth id e] at hl'; exact hw.bnd id l' hl'
  · rw [PM.get_set] at hp
    by_cases e : i = st.nx
    · subst e; rw [hat] at hl1; cases hl1; exact absurd hs hsg
    · rw [if_neg e] at hp; rw [hoth i e] at hl1; exact hw.prot i l1 p hl1 hs hp hd

def AlAt (L : List (XOper × Cls)) (F : Nat → AFr) (p : Nat) : Prop := ∃ x ts, L[p]? = some (x, Cls.al ts) ∧ WantIs ((F p).only ts) x.g true

structure DInv (X : Ctx) (nt : Nat) (L : List (XOper × Cls)) (F : Nat → AFr) (T : Nat → St) (V : Nat → Value) (ι0 : Inj) (w0 : World) (E : Nat → Prop) (c : Nat) (ι : Inj) (a : Act) (w : World) : Prop where
  low : ∀ p, p < c → E p
  cle : c ≤ L.length
  start : c = 0 ∨ ∃ p x, c = p + 1 ∧ L[p]? = some (x, Cls.eff)
  noeff : ∀ (p : Nat) x, c ≤ p → E p → L[p]? ≠ some (x, Cls.eff)
  wr : WRel X (cutI ι (T c).nx) (T c) w
  dom : ∀ id l, ι id = some l → id < (T c).nx ∨ ∃ p, c ≤ p ∧ p < L.length ∧ E p ∧ AlAt L F p ∧ id = (T p).nx
  pend : ∀ p, c ≤ p → E p → AlAt L F p → ∃ o l, T (p + 1) = ⟨(T p).h.set (T p).nx o, (T p).nx + 1⟩ ∧ ι (T p).nx = some l ∧ OMatch X (cutI ι ((T p).nx + 1)) w o l ∧
    l.sg ≠ gsg ∧ ∀ id l', ι id = some l' → id ≠ (T p).nx → l'.blk ≠ l.blk
  bnd : ∀ id l, ι id = some l → l.blk < w.heap.size
  keeps : Keeps ι0 ι w0 w
  size : a.tmps.size = nt
  df : DRels (cutI ι (T c).nx) (F c).df a.defers
  tmpE : ∀ (p : Nat) x cl t, L[p]? = some (x, cl) → x.d = some t → E p → VRel (cutI ι (max (T (p + 1)).nx (T c).nx)) (V p) (a.tmps.getD t undef)
  tmpN : ∀ t, (∀ (p : Nat) x cl, L[p]? = some (x, cl) → x.d = some t → ¬ E p) → VRel ι0 ((F 0).tmp t) (a.tmps.getD t undef)

section
variable {nt : Nat} {ops : Array Oper} {L : List (XOper × Cls)} {ix : List Nat} {pz : List Tmp} {ms : List Nat} {call : CallT}
variable {fr fr' : AFr} {st st' : St} {F : Nat → AFr} {T : Nat → St} {N : Nat → List (PM AObj)} {V : Nat → Value} {ι0 : Inj} {w0 : World} {E : Nat → Prop} {c : Nat} {ι : Inj} {a : Act} {w : World}

/-- The temporaries that an operation looks at. -/
theorem DInv.look (hI : DInv X nt L F T V ι0 w0 E c ι a w) (ht : DTrace call L [st.h] fr st fr' st' F T N V) (D : DrawOk X nt ops L ix pz ms) (h0 : ∀ id, st.nx ≤ id → ι0 id = none) (hz : ∀ t ∈ pz, (F 0).tmp t = poison)
    (hE : ∀ p, E p → Ready ops ix E p) {p : Nat} {x : XOper} {cl : Cls} (hx : L[p]? = some (x, cl)) (hr : Ready ops ix E p) (hn : ¬ E p) {t : Nat} (hl : cl = .eff ∨ t ∈ cl.looks) :
    VRel (cutI ι (T p).nx) ((F p).tmp t) (a.tmps.getD t undef) := by
  have hpl : p < L.length := (List.getElem?_eq_some_iff.1 hx).1
  have hcp : c ≤ p := by
    rcases Nat.lt_or_ge p c with h | h
    · exact absurd (hI.low p h) hn
    · exact h
  have hps : p < ops.size := by rw [← D.lenL]; exact hpl
  have h00 : ι0.le (cutI ι (T p).nx) := by
    intro id l hl
    refine cutI_some.2 ⟨?_, hI.keeps.le _ _ hl⟩
    rcases Nat.lt_or_ge id st.nx with h | h
    · have := ht.nx_le D (Nat.zero_le p) (by omega)
      rw [ht.t0] at this; omega
    · rw [h0 id h] at hl; cases hl
  by_cases hw : ∃ (q : Nat) (y : XOper) (d : Cls), L[q]? = some (y, d) ∧ y.d = some t
  · obtain ⟨q, y, d, hy, hd⟩ := hw
    rcases Nat.lt_or_ge q p with hqp | hqp
    · have hb : (ms.getD p 0).testBit q = true := by
        rcases hl with rfl | hl
        · exact D.eff p x q hx hqp
        · exact D.dep p q x y cl d t hx hy hqp hd hl
      have hEq := D.before hE p hr hps q hb
      rw [ht.tmp_new D hy hd p hqp (by omega)]
      refine (hI.tmpE q y d t hy hd hEq).mono (cutI_mono (.refl ι) ?_)
      have h1 := ht.nx_le D (p := q + 1) (q := p) hqp (by omega)
      have h2 := ht.nx_le D hcp (by omega)
      omega
    · have hold : (F p).tmp t = (F 0).tmp t := ht.tmp_old t p (by omega) fun q' x' c' hq' hx' hd' => by
        have := D.dst q' q x' y c' d t hx' hy hd' hd
        omega
      rw [hold]
      by_cases htz : t ∈ pz
      · rw [hz t htz]; exact .top _
      · refine (hI.tmpN t fun q' x' c' hx' hd' hEq' => ?_).mono h00
        have hqq := D.dst q' q x' y c' d t hx' hy hd' hd
        subst hqq
        by_cases e : q' = p
        · subst e; exact hn hEq'
        · have hb := D.anti p q' x y cl d t hx hy (by omega) hd htz hl
          exact hn (D.before hE q' (hE q' hEq') (by rw [← D.lenL]; exact (List.getElem?_eq_some_iff.1 hy).1) p hb)
  · have hno : ∀ (q : Nat) x' c', L[q]? = some (x', c') → x'.d ≠ some t := fun q x' c' hx' hd' => hw ⟨q, x', c', hx', hd'⟩
    rw [ht.tmp_old t p (by omega) fun q x' c' _ hx' => hno q x' c' hx']
    exact (hI.tmpN t fun q x' c' hx' hd' => absurd hd' (hno q x' c' hx')).mono h00

/-- What was done ahead is taken up in its turn. -/
theorem DInv.upto (hI : DInv X nt L F T V ι0 w0 E c ι a w) (ht : DTrace call L [st.h] fr st fr' st' F T N V) (_D : DrawOk X nt ops L ix pz ms) : ∀ q, c ≤ q → q ≤ L.length → (∀ r, c ≤ r → r < q → E r) →
    WRel X (cutI ι (T q).nx) (T q) w ∧ (F q).df = (F c).df ∧ (F q).took = (F c).took ∧ (F q).pan = (F c).pan ∧ (F q).rnd = (F c).rnd := by
  intro q hcq
  induction q with
  | zero =>
    intro _ _
    have : c = 0 := by omega
    subst this
    exact ⟨hI.wr, rfl, rfl, rfl, rfl⟩
  | succ q ih =>
    intro hq hall
    by_cases e : c = q + 1
    · subst e; exact ⟨hI.wr, rfl, rfl, rfl, rfl⟩
    obtain ⟨i1, i2, i3, i4, i5⟩ := ih (by omega) (by omega) (fun r h1 h2 => hall r h1 (by omega))
    obtain ⟨⟨x, cl⟩, hx⟩ : ∃ x, L[q]? = some x := ⟨_, List.getElem?_eq_getElem (by omega)⟩
    have hEq := hall q (by omega) (by omega)
    have hne : cl ≠ .eff := fun h => hI.noeff q x (by omega) hEq (by rw [hx, h])
    obtain ⟨s1, s2, s3, s4⟩ := ht.same hx hne
    refine ⟨?_, s1.trans i2, s2.trans i3, s3.trans i4, s4.trans i5⟩
    have hs := ht.step q x cl hx
    cases cl with
    | eff => exact absurd rfl hne
    | read n ts => obtain ⟨_, _, h, _⟩ := hs; rw [h]; exact i1
    | al ts =>
      obtain ⟨_, _, h⟩ := hs
      rcases h with ⟨_, _, h⟩ | ⟨hwt, _⟩
      · rw [h]; exact i1
      · obtain ⟨o, l, h1, h2, h3, h0, h4⟩ := hI.pend q (by omega) hEq ⟨x, ts, hx, hwt⟩
        have hcut : cutI ι ((T q).nx + 1) = extI (cutI ι (T q).nx) (T q).nx l := by
          funext id
          unfold cutI extI
          by_cases e1 : id = (T q).nx
          · subst e1; simp [h2]
          · by_cases e2 : id < (T q).nx
            · simp [e1, e2]; omega
            · simp [e1, e2]; omega
        rw [h1]
        show WRel X (cutI ι ((T q).nx + 1)) _ w
        rw [hcut] at h3 ⊢
        refine i1.adopt h3 (hI.bnd _ _ h2) h0 fun id l' hl' => ?_
        obtain ⟨g1, g2⟩ := cutI_some.1 hl'
        exact h4 id l' g2 (by omega)
end
end Go.AM
namespace Go.AM
variable {X : Ctx}

def addE (E : Nat → Prop) (p : Nat) : Nat → Prop := fun q => E q ∨ q = p

theorem getD_put (a : Act) (d : Option Tmp) (v : Value) (t : Nat) : (a.put d v).tmps.getD t undef = if d = some t ∧ t < a.tmps.size then v else a.tmps.getD t undef := by
  cases d with
  | none => simp [Act.put]
  | some d =>
    by_cases e : d = t
    · subst e
      by_cases h : d < a.tmps.size
      · simp [Act.put, h]
      · simp [Act.put, h]
    · simp only [Option.some.injEq, e, false_and, if_false]
      simp [Act.put, Array.getElem?_setIfInBounds_ne e]

section
variable {nt : Nat} {ops : Array Oper} {L : List (XOper × Cls)} {ix : List Nat} {pz : List Tmp} {ms : List Nat} {call : CallT}
variable {fr fr' : AFr} {st st' : St} {F : Nat → AFr} {T : Nat → St} {N : Nat → List (PM AObj)} {V : Nat → Value} {ι0 : Inj} {w0 : World} {E : Nat → Prop} {c : Nat} {ι : Inj} {a : Act} {w : World}

/-- A floating operation that leaves the world alone. -/
theorem DInv.float (hI : DInv X nt L F T V ι0 w0 E c ι a w) (D : DrawOk X nt ops L ix pz ms) {p : Nat} {x : XOper} {cl : Cls} (hx : L[p]? = some (x, cl)) (hc : cl ≠ .eff) (hcp : c ≤ p) (hal : ¬ AlAt L F p) {v' : Value}
    (hd : ∀ t, x.d = some t → t < nt) (hv : VRel (cutI ι (T (p + 1)).nx) (V p) v') : DInv X nt L F T V ι0 w0 (addE E p) c ι (a.put x.d v') w := by
  have hsz : (a.put x.d v').tmps.size = nt := by rw [← hI.size]; cases x.d <;> simp [Act.put]
  refine ⟨fun q hq => .inl (hI.low q hq), hI.cle, hI.start, fun q y hq hEq => ?_, hI.wr, fun id l hl => ?_, fun q hq hEq hA => ?_, hI.bnd, hI.keeps, hsz, ?_, fun q y k t hy hyd hEq => ?_, fun t hno => ?_⟩
  · rcases hEq with hEq | rfl
    · exact hI.noeff q y hq hEq
    · intro h; rw [hx] at h; cases h; exact hc rfl
  · rcases hI.dom id l hl with h | ⟨q, h1, h2, h3, h4⟩
    · exact .inl h
    · exact .inr ⟨q, h1, h2, .inl h3, h4⟩
  · rcases hEq with hEq | rfl
    · exact hI.pend q hq hEq hA
    · exact absurd hA hal
  · have : (a.put x.d v').defers = a.defers := by cases x.d <;> rfl
    rw [this]; exact hI.df
  · rw [getD_put]
    by_cases e : q = p
    · subst e
      rw [hx] at hy; cases hy
      rw [if_pos ⟨hyd, by rw [hI.size]; exact hd t hyd⟩]
      exact hv.mono (cutI_mono (.refl ι) (Nat.le_max_left _ _))
    · rw [if_neg (fun h => e (D.dst q p y x k cl t hy hx hyd h.1))]
      rcases hEq with hEq | h
      · exact hI.tmpE q y k t hy hyd hEq
      · exact absurd h e
  · rw [getD_put, if_neg (fun h => hno p x cl hx h.1 (.inr rfl))]
    exact hI.tmpN t fun q y k hy hyd hEq => hno q y k hy hyd (.inl hEq)

/-- A new block ahead of its turn. -/
theorem DInv.floatA (hI : DInv X nt L F T V ι0 w0 E c ι a w) (ht : DTrace call L [st.h] fr st fr' st' F T N V) (D : DrawOk X nt ops L ix pz ms) {p : Nat} {x : XOper} {ts : List Tmp} (hx : L[p]? = some (x, .al ts)) (hcp : c ≤ p) (hnp : ¬ E p)
    {v' : Value} {o : AObj} {O : Obj} {l : Loc} {w' : World} (hd : ∀ t, x.d = some t → t < nt) (hT : T (p + 1) = ⟨(T p).h.set (T p).nx o, (T p).nx + 1⟩) (hl : l.blk = w.heap.size) (hlsg : l.sg ≠ gsg) (hh : w'.heap = w.heap.push O) (so : SameOut w w')
    (hv : VRel (extI (cutI ι (T p).nx) (T p).nx l) (V p) v') (ho : OMatch X (extI (cutI ι (T p).nx) (T p).nx l) w' o l) : DInv X nt L F T V ι0 w0 (addE E p) c (extI ι (T p).nx l) (a.put x.d v') w' := by
  have hpl : p < L.length := (List.getElem?_eq_some_iff.1 hx).1
  have hnone : ι (T p).nx = none := by
    cases hn : ι (T p).nx with
    | none => rfl
    | some m =>
      rcases hI.dom _ _ hn with h | ⟨q, h1, h2, h3, h4, h5⟩
      · have := ht.nx_le D hcp (by omega); omega
      · obtain ⟨o', l', h6, _⟩ := hI.pend q h1 h3 h4
        have h7 : (T (q + 1)).nx = (T q).nx + 1 := by rw [h6]
        have hTp : (T (p + 1)).nx = (T p).nx + 1 := by rw [hT]
        rcases Nat.lt_trichotomy q p with h | h | h
        · have := ht.nx_le D (p := q + 1) (q := p) h (by omega); omega
        · subst h; exact absurd h3 hnp
        · have := ht.nx_le D (p := p + 1) (q := q) h (by omega); omega
  have hle : ι.le (extI ι (T p).nx l) := by
    intro id l' hl'
    show (if id = (T p).nx then some l else ι id) = some l'
    rw [if_neg]; exact hl'
    intro e; subst e; rw [hnone] at hl'; cases hl'
  have hat : extI ι (T p).nx l (T p).nx = some l := if_pos rfl
  have hoth : ∀ id, id ≠ (T p).nx → extI ι (T p).nx l id = ι id := fun id h => if_neg h
  have hcut : ∀ n, (T p).nx < n → (extI (cutI ι (T p).nx) (T p).nx l).le (cutI (extI ι (T p).nx l) n) := by
    intro n hn id l' hl'
    unfold extI at hl'
    by_cases e : id = (T p).nx
    · rw [if_pos e] at hl'; cases hl'; subst e; exact cutI_some.2 ⟨hn, hat⟩
    · rw [if_neg e] at hl'
      obtain ⟨h1, h2⟩ := cutI_some.1 hl'
      exact cutI_some.2 ⟨by omega, by rw [hoth id e]; exact h2⟩
  have hold : ∀ b, b < w.heap.size → w'.heap[b]? = w.heap[b]? := fun b hb => by rw [hh, Array.getElem?_push, if_neg (by omega)]
  have hsz' : w'.heap.size = w.heap.size + 1 := by rw [hh]; simp
  have hsz : (a.put x.d v').tmps.size = nt := by rw [← hI.size]; cases x.d <;> simp [Act.put]
  have hnc := ht.nx_le D hcp (by omega)
  have hTc : cutI (extI ι (T p).nx l) (T c).nx = cutI ι (T c).nx := by
    funext id
    unfold cutI
    by_cases h : id < (T c).nx
    · rw [if_pos h, if_pos h, hoth id (by omega)]
    · rw [if_neg h, if_neg h]
  have hTp : (T (p + 1)).nx = (T p).nx + 1 := by rw [hT]
  refine ⟨fun q hq => .inl (hI.low q hq), hI.cle, hI.start, fun q y hq hEq => ?_, ?_, fun id l' hl' => ?_, fun q hq hEq hA => ?_, fun id l' hl' => ?_, ?_, hsz, ?_, fun q y k t hy hyd hEq => ?_, fun t hno => ?_⟩
  · rcases hEq with hEq | rfl
    · exact hI.noeff q y hq hEq
    · intro h; rw [hx] at h; cases h
  · rw [hTc]
    refine ⟨fun id o' ho' hd' => ?_, hI.wr.inj, hI.wr.fresh, fun id l' hl' => ?_, hI.wr.glob, hI.wr.globs, hI.wr.prot⟩
    · obtain ⟨l', h1, h2⟩ := hI.wr.objs id o' ho' hd'
      exact ⟨l', h1, OMatch.mono X h2 (.refl _) (hold _ (hI.wr.bnd id l' h1))⟩
    · have := hI.wr.bnd id l' hl'; omega
  · by_cases e : id = (T p).nx
    · by_cases hA : AlAt L F p
      · exact .inr ⟨p, hcp, hpl, .inr rfl, hA, e⟩
      · exfalso
        have hs := ht.step p x (.al ts) hx
        obtain ⟨_, _, h⟩ := hs
        rcases h with ⟨_, _, h⟩ | ⟨h, _⟩
        · rw [h] at hTp; omega
        · exact hA ⟨x, ts, hx, h⟩
    · rw [hoth id e] at hl'
      rcases hI.dom id l' hl' with h | ⟨q, h1, h2, h3, h4⟩
      · exact .inl h
      · exact .inr ⟨q, h1, h2, .inl h3, h4⟩
  · by_cases e : q = p
    · subst e
      refine ⟨o, l, hT, hat, OMatch.mono X ho (hcut _ (Nat.lt_succ_self _)) rfl, hlsg, fun id l' hl' hne => ?_⟩
      rw [hoth id hne] at hl'
      have := hI.bnd id l' hl'; omega
    · rcases hEq with hEq | h
      · obtain ⟨o', l', h1, h2, h3, h0, h4⟩ := hI.pend q hq hEq hA
        refine ⟨o', l', h1, hle _ _ h2, OMatch.mono X h3 (cutI_mono hle (Nat.le_refl _)) (hold _ (hI.bnd _ _ h2)), h0, fun id m hm hne => ?_⟩
        by_cases e' : id = (T p).nx
        · subst e'; rw [hat] at hm; cases hm
          have := hI.bnd _ _ h2; omega
        · rw [hoth id e'] at hm; exact h4 id m hm hne
      · exact absurd h e
  · by_cases e : id = (T p).nx
    · subst e; rw [hat] at hl'; cases hl'; omega
    · rw [hoth id e] at hl'; have := hI.bnd id l' hl'; omega
  · refine hI.keeps.trans ⟨hle, by omega, fun b hb _ => hold b hb, fun id l' hl' => ?_, so⟩
    by_cases e : id = (T p).nx
    · subst e; rw [hat] at hl'; cases hl'; exact .inr (.inl (by omega))
    · rw [hoth id e] at hl'; exact .inl hl'
  · have : (a.put x.d v').defers = a.defers := by cases x.d <;> rfl
    rw [this, hTc]; exact hI.df
  · rw [getD_put]
    by_cases e : q = p
    · subst e
      rw [hx] at hy; cases hy
      rw [if_pos ⟨hyd, by rw [hI.size]; exact hd t hyd⟩]
      exact hv.mono (hcut _ (by omega))
    · rw [if_neg (fun h => e (D.dst q p y x k _ t hy hx hyd h.1))]
      rcases hEq with hEq | h
      · exact (hI.tmpE q y k t hy hyd hEq).mono (cutI_mono hle (Nat.le_refl _))
      · exact absurd h e
  · rw [getD_put, if_neg (fun h => hno p x _ hx h.1 (.inr rfl))]
    exact hI.tmpN t fun q y k hy hyd hEq => hno q y k hy hyd (.inl hEq)

/-- An effect in its turn. -/
theorem DInv.effect (hI : DInv X nt L F T V ι0 w0 E c ι a w) (ht : DTrace call L [st.h] fr st fr' st' F T N V) (D : DrawOk X nt ops L ix pz ms) {p : Nat} {x : XOper} (hx : L[p]? = some (x, .eff)) (hcp : c ≤ p) (hbelow : ∀ q, q < p → E q)
    {κ : Inj} {a' : Act} {w' : World} {v' : Value} (hd : ∀ t, x.d = some t → t < nt) (hw : WRel X κ (T (p + 1)) w') (hk : Keeps (cutI ι (T p).nx) κ w w') (ha : a'.tmps = (a.put x.d v').tmps) (hv : VRel κ (V p) v' ∨ x.d = none) (hdf : DRels κ (F (p + 1)).df a'.defers) :
    ∃ ι', DInv X nt L F T V ι0 w0 (addE E p) (p + 1) ι' a' w' := by
  have hpl : p < L.length := (List.getElem?_eq_some_iff.1 hx).1
  have hn1 := ht.nx_step D hpl
  have hnc := ht.nx_le D hcp (by omega)
  have hnoal : ¬ AlAt L F p := fun ⟨y, ts, hy, _⟩ => by rw [hx] at hy; cases hy
  -- an id of something done ahead is below or above
  have hside : ∀ q, c ≤ q → q < L.length → E q → AlAt L F q → (q < p ∧ (T q).nx < (T p).nx) ∨ (p < q ∧ (T (p + 1)).nx ≤ (T q).nx) := by
    intro q h1 h2 h3 h4
    obtain ⟨o', l', h6, _⟩ := hI.pend q h1 h3 h4
    have h7 : (T (q + 1)).nx = (T q).nx + 1 := by rw [h6]
    rcases Nat.lt_trichotomy q p with h | h | h
    · left; have := ht.nx_le D (p := q + 1) (q := p) h (by omega); exact ⟨h, by omega⟩
    · subst h; exact absurd h4 hnoal
    · right; exact ⟨h, ht.nx_le D (p := p + 1) (q := q) h (by omega)⟩
  let ι' : Inj := fun id => if id < (T (p + 1)).nx then κ id else ι id
  have hlow : ∀ id, id < (T (p + 1)).nx → ι' id = κ id := fun id h => if_pos h
  have hhigh : ∀ id, (T (p + 1)).nx ≤ id → ι' id = ι id := fun id h => if_neg (by omega)
  have hle : ι.le ι' := by
    intro id l hl
    rcases Nat.lt_or_ge id (T (p + 1)).nx with h | h
    · rw [hlow id h]
      apply hk.le
      refine cutI_some.2 ⟨?_, hl⟩
      rcases hI.dom id l hl with h1 | ⟨q, h1, h2, h3, h4, h5⟩
      · omega
      · rcases hside q h1 h2 h3 h4 with ⟨_, h6⟩ | ⟨_, h6⟩ <;> omega
    · rw [hhigh id h]; exact hl
  have hcut : cutI ι' (T (p + 1)).nx = κ := by
    funext id
    unfold cutI
    by_cases h : id < (T (p + 1)).nx
    · rw [if_pos h, hlow id h]
    · rw [if_neg h, (hw.fresh id (by omega)).1]
  have hκ' : ∀ n, (T (p + 1)).nx ≤ n → κ.le (cutI ι' n) := by
    intro n hn; rw [← hcut]; exact cutI_mono (.refl _) hn
  have hkk : Keeps ι ι' w w' := by
    refine ⟨hle, hk.size, fun b hb hi => hk.kept b hb fun id l hl hs => hi id l (cutI_some.1 hl).2 hs, fun id l hl => ?_, hk.so⟩
    rcases Nat.lt_or_ge id (T (p + 1)).nx with h | h
    · rw [hlow id h] at hl
      rcases hk.new id l hl with h1 | h1 | ⟨j, m, h1, h2, h3⟩
      · exact .inl (cutI_some.1 h1).2
      · exact .inr (.inl h1)
      · exact .inr (.inr ⟨j, m, (cutI_some.1 h1).2, h2, h3⟩)
    · rw [hhigh id h] at hl; exact .inl hl
  have hsz : a'.tmps.size = nt := by rw [ha, ← hI.size]; cases x.d <;> simp [Act.put]
  refine ⟨ι', fun q hq => ?_, hpl, .inr ⟨p, x, rfl, hx⟩, fun q y hq hEq => ?_, by rw [hcut]; exact hw, fun id l hl => ?_, fun q hq hEq hA => ?_, fun id l hl => ?_, hI.keeps.trans hkk, hsz, by rw [hcut]; exact hdf, fun q y k t hy hyd hEq => ?_, fun t hno => ?_⟩
  · by_cases e : q = p
    · exact .inr e
    · exact .inl (hbelow q (by omega))
  · rcases hEq with hEq | h
    · exact hI.noeff q y (by omega) hEq
    · omega
  · rcases Nat.lt_or_ge id (T (p + 1)).nx with h | h
    · exact .inl h
    · rw [hhigh id h] at hl
      rcases hI.dom id l hl with h1 | ⟨q, h1, h2, h3, h4, h5⟩
      · omega
      · rcases hside q h1 h2 h3 h4 with ⟨_, h6⟩ | ⟨h6, _⟩
        · omega
        · exact .inr ⟨q, h6, h2, .inl h3, h4, h5⟩
  · rcases hEq with hEq | h
    · have hqA := hA
      obtain ⟨o', l', h1, h2, h3, h0, h4⟩ := hI.pend q (by omega) hEq hA
      have hql : q < L.length := by obtain ⟨y, ts, hy, _⟩ := hqA; exact (List.getElem?_eq_some_iff.1 hy).1
      have hq' : (T (p + 1)).nx ≤ (T q).nx := ht.nx_le D hq (by omega)
      refine ⟨o', l', h1, hle _ _ h2, OMatch.mono X h3 (cutI_mono hle (Nat.le_refl _)) ?_, h0, fun id m hm hne => ?_⟩
      · exact hk.kept l'.blk (hI.bnd _ _ h2) fun id m hm _ => h4 id m (cutI_some.1 hm).2 (by have := (cutI_some.1 hm).1; omega)
      · rcases Nat.lt_or_ge id (T (p + 1)).nx with h | h
        · rw [hlow id h] at hm
          rcases hk.new id m hm with g1 | g1 | ⟨j, m', g1, _, g2⟩
          · exact h4 id m (cutI_some.1 g1).2 hne
          · have := hI.bnd _ _ h2; omega
          · have := h4 j m' (cutI_some.1 g1).2 (by have := (cutI_some.1 g1).1; omega)
            omega
        · rw [hhigh id h] at hm; exact h4 id m hm hne
    · omega
  · rcases Nat.lt_or_ge id (T (p + 1)).nx with h | h
    · rw [hlow id h] at hl; exact hw.bnd id l hl
    · rw [hhigh id h] at hl; exact Nat.lt_of_lt_of_le (hI.bnd id l hl) hk.size
  · rw [ha, getD_put]
    by_cases e : q = p
    · subst e
      rw [hx] at hy; cases hy
      rw [if_pos ⟨hyd, by rw [hI.size]; exact hd t hyd⟩]
      rcases hv with hv | hv
      · exact hv.mono (hκ' _ (Nat.le_max_left _ _))
      · rw [hyd] at hv; cases hv
    · rw [if_neg (fun h => e (D.dst q p y x k _ t hy hx hyd h.1))]
      rcases hEq with hEq | h
      · refine (hI.tmpE q y k t hy hyd hEq).mono (cutI_mono hle ?_)
        omega
      · exact absurd h e
  · rw [ha, getD_put, if_neg (fun h => hno p x _ hx h.1 (.inr rfl))]
    exact hI.tmpN t fun q y k hy hyd hEq => hno q y k hy hyd (.inl hEq)
end
end Go.AM
namespace Go.AM
variable {X : Ctx} {call : CallT}

theorem rd_inPlace {x : XOp} (h : x.isRd = true) : x.inPlace = true := by cases x <;> first | rfl | exact absurd h Bool.false_ne_true
theorem al_inPlace {x : XOp} (h : x.isAl = true) : x.inPlace = true := by cases x <;> first | rfl | exact absurd h Bool.false_ne_true

theorem not_defer {op : Op} {x : XOp} (hop : X.opOk op x = true) (hx : x.isRd = true ∨ x.isAl = true) (c : Call) : op ≠ .defer c := by
  intro hc
  rw [hc] at hop
  cases hxx : x with
  | mkfn fn p q => rw [hxx] at hop; cases fn <;> exact absurd hop Bool.false_ne_true
  | lenM p => rw [hxx] at hx; rcases hx with h | h <;> exact absurd h Bool.false_ne_true
  | refuse => rw [hxx] at hx; rcases hx with h | h <;> exact absurd h Bool.false_ne_true
  | dfr p q => rw [hxx] at hx; rcases hx with h | h <;> exact absurd h Bool.false_ne_true
  | ext y => rw [hxx] at hop; cases y <;> exact absurd hop Bool.false_ne_true
  | _ => rw [hxx] at hop; exact absurd hop Bool.false_ne_true

section
variable {nt : Nat} {ops : Array Oper} {L : List (XOper × Cls)} {ix : List Nat} {pz : List Tmp} {ms : List Nat}
variable {fr fr' : AFr} {st st' : St} {F : Nat → AFr} {T : Nat → St} {N : Nat → List (PM AObj)} {V : Nat → Value} {ι0 : Inj} {w0 : World} {E : Nat → Prop} {c : Nat} {ι : Inj} {a : Act} {w : World}
variable {b : Base} {CS : Bool → List Frame} {k : List Item} {i : Nat} {rest : List Nat}

theorem want_is {x : XOper} {o : Oper} {t : Bool} (h : operOk X nt ops x o = true) (hf : FRel ι fr a nt) (hk : WantIs fr x.g t) : Region.wanted o (yielded ops a.tmps) = t := by
  rcases want_sim h hf hk (by simp) with ⟨e, hw⟩ | ⟨e, hw⟩
  · cases e; exact hw
  · cases e; exact hw

/-- A floating operation, seen by itself. -/
theorem DInv.see (hI : DInv X nt L F T V ι0 w0 E c ι a w) (ht : DTrace call L [st.h] fr st fr' st' F T N V) (D : DrawOk X nt ops L ix pz ms) (h0 : ∀ id, st.nx ≤ id → ι0 id = none) (hz : ∀ t ∈ pz, (F 0).tmp t = poison)
    (hE : ∀ p, E p → Ready ops ix E p) {p : Nat} {x : XOper} {cl : Cls} (hx : L[p]? = some (x, cl)) (hr : Ready ops ix E p) (hn : ¬ E p) (hcp : c ≤ p) :
    FRel (cutI ι (T p).nx) ((F p).only cl.looks) ⟨a.tmps, []⟩ nt ∧ WRel X (cutI ι (T p).nx) ⟨(T c).h, (T p).nx⟩ w := by
  have hpl : p < L.length := (List.getElem?_eq_some_iff.1 hx).1
  refine ⟨⟨fun t => ?_, hI.size, trivial⟩, ?_⟩
  · rw [only_tmp]
    by_cases h : t ∈ cl.looks
    · rw [if_pos h]; exact hI.look ht D h0 hz hE hx hr hn (.inr h)
    · rw [if_neg h]; exact .top _
  · have hnc := ht.nx_le D hcp (by omega)
    refine WRel.look (n := (T c).nx) (ι := cutI ι (T c).nx) hI.wr (cutI_mono (.refl ι) hnc) (fun id hid => ?_) hnc (fun id l hl => hI.bnd id l (cutI_some.1 hl).2)
    show (if id < (T p).nx then ι id else none) = none
    rw [if_neg (by omega)]

theorem draw_step (hcs : CallSim X call) (hI : DInv X nt L F T V ι0 w0 E c ι a w) (ht : DTrace call L [st.h] fr st fr' st' F T N V) (D : DrawOk X nt ops L ix pz ms) (h0 : ∀ id, st.nx ≤ id → ι0 id = none) (hz : ∀ t ∈ pz, (F 0).tmp t = poison)
    (hE : ∀ p, E p → Ready ops ix E p) {p : Nat} (hp : p < L.length) (hi : ix[p]? = some i) (hr : Ready ops ix E p) (hn : ¬ E p) (hb : RndRel ι0 (F 0).rnd b.rnd) (hrec : RecFam b (F 0).pan ι0 CS) (hpan : (F c).pan = (F 0).pan) (hrnd : (F c).rnd = (F 0).rnd) :
    ∃ c' ι' a' w', Steps X.P (lone (b.at a (.inRegion ops (i :: rest) :: k)) (CS (F c).took) w) (lone (b.at a' (.inRegion ops rest :: k)) (CS (F c').took) w') ∧ DInv X nt L F T V ι0 w0 (addE E p) c' ι' a' w' ∧
      (F c').pan = (F 0).pan ∧ (F c').rnd = (F 0).rnd := by
  obtain ⟨⟨x, cl⟩, hx⟩ : ∃ x, L[p]? = some x := ⟨_, List.getElem?_eq_getElem hp⟩
  obtain ⟨o, ho, hok⟩ := D.op p i x cl hi hx
  obtain ⟨hd1, hd2⟩ := operOk_dst hok
  have hps : p < ops.size := by rw [← D.lenL]; exact hp
  have hcp : c ≤ p := by
    rcases Nat.lt_or_ge p c with h | h
    · exact absurd (hI.low p h) hn
    · exact h
  have hs := ht.step p x cl hx
  have hnx := ht.nx_le D (Nat.zero_le p) (by omega)
  rw [ht.t0] at hnx
  have h00 : ι0.le (cutI ι (T p).nx) := by
    intro id l hl
    refine cutI_some.2 ⟨?_, hI.keeps.le _ _ hl⟩
    rcases Nat.lt_or_ge id st.nx with h | h
    · omega
    · rw [h0 id h] at hl; cases hl
  cases cl with
  | eff =>
    have hbelow : ∀ q, q < p → E q := fun q hq => D.before hE p hr hps q (D.eff p x q hx hq)
    obtain ⟨u1, u2, u3, u4, u5⟩ := hI.upto ht D p hcp (by omega) (fun r _ h => hbelow r h)
    have hf : FRel (cutI ι (T p).nx) (F p) a nt := ⟨fun t => hI.look ht D h0 hz hE hx hr hn (.inl rfl), hI.size, by rw [u2]; exact hI.df.mono (cutI_mono (.refl ι) (ht.nx_le D hcp (by omega)))⟩
    rcases hs with ⟨hwt, hv, hF, hT, _⟩ | ⟨hwt, fr1, hev, _, hF, _⟩
    · have hwn := want_is hok hf hwt
      have hst := st_op_skip (P := X.P) (b := b) (k := k) (cs := CS (F c).took) (w := w) (rest := rest) ho hwn
      obtain ⟨q1, q2, q3, q4⟩ := put_pan (F p) x.d undef
      obtain ⟨ι', hI'⟩ := hI.effect ht D hx hcp hbelow (κ := cutI ι (T p).nx) (a' := a.put x.d undef) (w' := w) (v' := undef) hd2 (by rw [hT]; exact u1) (.refl _ _) rfl (.inl (by rw [hv]; exact VRel.undef _)) (by
        rw [hF, q4]
        have : (a.put x.d undef).defers = a.defers := by cases x.d <;> rfl
        rw [this]; exact hf.df)
      refine ⟨p + 1, ι', _, w, ?_, hI', ?_, ?_⟩
      · rw [hF, q3, u3, hd1]; exact .one hst
      · rw [hF, q1, u4, hpan]
      · rw [hF, q2, u5, hrnd]
    · have hwn := want_is hok hf hwt
      obtain ⟨κ, a', w', hst, hf', hw', hk, hpp, hrr, v', ha'⟩ := oper_ok (b := b) (CS := CS) (k := k) (rest := rest) hok hcs ho hwn hf u1 (by rw [u5, hrnd]; exact hb.mono h00) (by rw [u4, hpan]; exact hrec.mono h00) hev
      have hput := put_pan ⟨(F p).t, fr1.df, fr1.pan, fr1.took, fr1.rnd⟩ x.d (V p)
      have hv : VRel κ (V p) v' ∨ x.d = none := by
        cases hxd : x.d with
        | none => exact .inr rfl
        | some t =>
          left
          have := hf'.tmp t
          rw [tmp_put, if_pos hxd, ha', ← hd1, getD_put, if_pos ⟨hxd, by rw [hI.size]; exact hd2 t hxd⟩] at this
          exact this
      obtain ⟨ι', hI'⟩ := hI.effect ht D hx hcp hbelow (κ := κ) (a' := a') (w' := w') (v' := v') hd2 hw' hk (by rw [ha', hd1]) hv (by
        rw [hF, hput.2.2.2]
        have := hf'.df
        rw [(put_pan fr1 x.d (V p)).2.2.2] at this
        exact this)
      refine ⟨p + 1, ι', a', w', ?_, hI', ?_, ?_⟩
      · rw [hF, hput.2.2.1, ← u3]; exact hst
      · rw [hF, hput.1]; exact hpp.trans (u4.trans hpan)
      · rw [hF, hput.2.1]; exact hrr.trans (u5.trans hrnd)
  | read n ts =>
    obtain ⟨g1, g2⟩ := hI.see ht D h0 hz hE hx hr hn hcp
    have hnal : ¬ AlAt L F p := fun ⟨y, ts', hy, _⟩ => by rw [hx] at hy; cases hy
    obtain ⟨_, _, hT, hs2⟩ := hs
    rcases hs2 with ⟨hwt, hv⟩ | ⟨hwt, hsame⟩
    · have hwn := want_is hok g1 hwt
      have hst := st_op_skip (P := X.P) (b := b) (a := a) (k := k) (cs := CS (F c).took) (w := w) (rest := rest) ho hwn
      exact ⟨c, ι, _, w, .one hst, by rw [← hd1]; exact hI.float D hx (by simp) hcp hnal hd2 (by rw [hv]; exact VRel.undef _), hpan, hrnd⟩
    · have hwn := want_is hok g1 hwt
      have hcount : (List.range p).countP (fun q => decide (c ≤ q) && effAt L q) < n + 1 := by
        refine Nat.lt_succ_of_le (Nat.le_trans (List.countP_mono_left fun q hq hh => ?_) (D.back p x n ts hx))
        simp only [Bool.and_eq_true, decide_eq_true_eq] at hh ⊢
        refine ⟨hh.2, ?_⟩
        cases htb : (ms.getD p 0).testBit q with
        | false => rfl
        | true =>
          exfalso
          have hEq := D.before hE p hr hps q htb
          have he := hh.2
          unfold effAt at he
          cases hy : L[q]? with
          | none => rw [hy] at he; cases he
          | some y =>
            obtain ⟨y1, y2⟩ := y
            rw [hy] at he
            cases y2 with
            | eff => exact hI.noeff q y1 hh.1 hEq hy
            | al _ => cases he
            | read _ _ => cases he
      obtain ⟨hh, fr2, st2, e1, e2⟩ := sameAt_spec _ _ hsame _ hcount
      have e3 := ht.snap hI.start p hcp (by omega)
      rw [e3] at e1
      cases e1
      have hop := operOk_op hok
      have hrd := D.rd p x n ts hx
      obtain ⟨_, _, hR, _⟩ := opSim hop g1 g2 e2 (rd_inPlace hrd)
      obtain ⟨_, _, v', hrun, hv⟩ := hR hrd
      have hrun' : (execOp a.eval o).run X.P w = .ok (.value v') w := hrun
      have hst := st_op_value (b := b) (a := a) (k := k) (cs := CS (F c).took) (rest := rest) ho hwn (.inr (not_defer hop (.inl hrd))) hrun'
      exact ⟨c, ι, _, w, .one hst, by rw [← hd1]; exact hI.float D hx (by simp) hcp hnal hd2 (by rw [hT]; exact hv), hpan, hrnd⟩
  | al ts =>
    obtain ⟨g1, g2⟩ := hI.see ht D h0 hz hE hx hr hn hcp
    obtain ⟨_, _, hs2⟩ := hs
    rcases hs2 with ⟨hwt, hv, hT⟩ | ⟨hwt, fr1, hev⟩
    · have hwn := want_is hok g1 hwt
      have hst := st_op_skip (P := X.P) (b := b) (a := a) (k := k) (cs := CS (F c).took) (w := w) (rest := rest) ho hwn
      have hnal : ¬ AlAt L F p := fun ⟨y, ts', hy, hw'⟩ => by
        rw [hx] at hy; cases hy
        have h1 : wantK ((F p).only ts) x.g (some true) (some false) none = some false := hwt
        have h2 : wantK ((F p).only ts) x.g (some true) (some false) none = some true := hw'
        rw [h1] at h2; cases h2
      exact ⟨c, ι, _, w, .one hst, by rw [← hd1]; exact hI.float D hx (by simp) hcp hnal hd2 (by rw [hv]; exact VRel.undef _), hpan, hrnd⟩
    · have hwn := want_is hok g1 hwt
      have hal := D.al p x ts hx
      have hop := operOk_op hok
      obtain ⟨oo, hod, _, hT, hall⟩ := al_heap (h0 := (T p).h) (nx := (T p).nx) hal hev
      obtain ⟨_, _, _, hA⟩ := opSim hop g1 g2 (hall (T c).h) (al_inPlace hal)
      obtain ⟨o2, O, ex, v', w', e1, e2, hrun, hheap, hv, hw', hk⟩ := hA hal
      have hoo : (some oo : Option AObj) = some o2 := by
        have := congrArg (fun s : St => s.h.get (T p).nx) e1
        simp only [PM.get_set, if_true] at this
        exact this
      cases hoo
      have hobj : OMatch X (extI (cutI ι (T p).nx) (T p).nx ⟨w.heap.size, 0, ex, id⟩) w' oo ⟨w.heap.size, 0, ex, id⟩ := by
        obtain ⟨l, hl, hm⟩ := hw'.objs (T p).nx oo (by show ((T c).h.set (T p).nx oo).get (T p).nx = _; rw [PM.get_set, if_pos rfl]) hod
        have : extI (cutI ι (T p).nx) (T p).nx ⟨w.heap.size, 0, ex, id⟩ (T p).nx = some ⟨w.heap.size, 0, ex, id⟩ := if_pos rfl
        have e := this.symm.trans hl
        cases e
        exact hm
      have hrun' : (execOp a.eval o).run X.P w = .ok (.value v') w' := hrun
      have hst := st_op_value (b := b) (a := a) (k := k) (cs := CS (F c).took) (rest := rest) ho hwn (.inr (not_defer hop (.inr hal))) hrun'
      exact ⟨c, _, _, w', .one hst, by rw [← hd1]; exact hI.floatA ht D hx hcp hn hd2 hT (by rfl) (by exact id_gsg) hheap hk.so hv hobj, hpan, hrnd⟩
end
end Go.AM
namespace Go.AM
variable {X : Ctx} {call : CallT}

theorem countP_lt {α : Type} {p q : α → Bool} : ∀ {l : List α}, (∀ x ∈ l, p x = true → q x = true) → (∃ x ∈ l, q x = true ∧ p x = false) → l.countP p < l.countP q
  | [], _, ⟨x, hx, _⟩ => by cases hx
  | y :: l, h, ⟨x, hx, h1, h2⟩ => by
    have hle : l.countP p ≤ l.countP q := List.countP_mono_left fun z hz => h z (List.mem_cons_of_mem _ hz)
    rw [List.countP_cons, List.countP_cons]
    rcases List.mem_cons.1 hx with rfl | hx
    · simp only [h1, h2, if_true]; simp; omega
    · have := countP_lt (fun z hz => h z (List.mem_cons_of_mem _ hz)) ⟨x, hx, h1, h2⟩
      have hy := h y List.mem_cons_self
      cases hp : p y with
      | false => simp; split <;> omega
      | true => simp [hy hp]; omega

section
variable {nt : Nat} {ops : Array Oper} {L : List (XOper × Cls)} {ix : List Nat} {pz : List Tmp} {ms : List Nat}
variable {fr fr' : AFr} {st st' : St} {F : Nat → AFr} {T : Nat → St} {N : Nat → List (PM AObj)} {V : Nat → Value} {ι0 : Inj} {w0 : World}
variable {b : Base} {CS : Bool → List Frame} {k : List Item}

/-- What is done, by place. -/
def Done (ix : List Nat) (listed : Array Bool) : Nat → Prop := fun p => ∃ i, ix[p]? = some i ∧ listed.getD i false = true

theorem getD_tf {listed : Array Bool} {i : Nat} : listed.getD i false = true → listed.getD i true = true := by
  intro h
  rcases Nat.lt_or_ge i listed.size with hi | hi
  · simpa [hi] using h
  · simp [hi] at h
theorem getD_ft {listed : Array Bool} {i : Nat} (hi : i < listed.size) (h : listed.getD i false ≠ true) : listed.getD i true = false := by
  simpa [hi] using h

theorem DrawOk.all_done (D : DrawOk X nt ops L ix pz ms) {listed : Array Bool} (hsz : listed.size = ops.size) (h : Region.ready .any ops listed = []) : ∀ p, p < L.length → Done ix listed p := by
  intro p
  induction p using Nat.strongRecOn with
  | _ p ih =>
    intro hp
    have hps : p < ops.size := by rw [← D.lenL]; exact hp
    have hi : ix[p]? = some (ix[p]'(by rw [D.lenI]; exact hps)) := List.getElem?_eq_getElem _
    obtain ⟨⟨x, cl⟩, hx⟩ : ∃ x, L[p]? = some x := ⟨_, List.getElem?_eq_getElem hp⟩
    obtain ⟨o, ho, _⟩ := D.op p _ x cl hi hx
    refine ⟨_, hi, ?_⟩
    by_cases hl : listed.getD (ix[p]'(by rw [D.lenI]; exact hps)) false = true
    · exact hl
    · exfalso
      have hlt := (Array.getElem?_eq_some_iff.1 ho).1
      have hmem : (ix[p]'(by rw [D.lenI]; exact hps)) ∈ Region.ready .any ops listed := by
        rw [mem_ready]
        refine ⟨getD_ft (by rw [hsz]; exact hlt) hl, o, ho, fun e he hb => ?_⟩
        obtain ⟨q, hq, hqi⟩ := D.edge p _ o hi ho e he hb
        obtain ⟨j, hj, hjl⟩ := ih q hq (by omega)
        rw [hqi] at hj; cases hj; exact hjl
      rw [h] at hmem; cases hmem

theorem draw_go (hcs : CallSim X call) (ht : DTrace call L [st.h] fr st fr' st' F T N V) (D : DrawOk X nt ops L ix pz ms) (h0 : ∀ id, st.nx ≤ id → ι0 id = none) (hz : ∀ t ∈ pz, (F 0).tmp t = poison)
    (hb : RndRel ι0 (F 0).rnd b.rnd) (hrec : RecFam b (F 0).pan ι0 CS) : ∀ (fuel t : Nat) (listed : Array Bool) (c : Nat) (ι : Inj) (a : Act) (w : World), listed.size = ops.size → (List.range ops.size).countP (fun i => !listed.getD i true) ≤ fuel →
    (∀ p, Done ix listed p → Ready ops ix (Done ix listed) p) → DInv X nt L F T V ι0 w0 (Done ix listed) c ι a w → (F c).pan = (F 0).pan → (F c).rnd = (F 0).rnd →
    ∃ E' c' ι' a' w', Steps X.P (lone (b.at a (.inRegion ops (Region.linearise.go .any ops fuel t listed []) :: k)) (CS (F c).took) w) (lone (b.at a' (.inRegion ops [] :: k)) (CS (F c').took) w') ∧
      (∀ p, p < L.length → E' p) ∧ DInv X nt L F T V ι0 w0 E' c' ι' a' w' ∧ (F c').pan = (F 0).pan ∧ (F c').rnd = (F 0).rnd := by
  intro fuel
  induction fuel with
  | zero =>
    intro t listed c ι a w hsz hcnt hcl hI hpan hrnd
    refine ⟨Done ix listed, c, ι, a, w, .refl _ _, fun p hp => ?_, hI, hpan, hrnd⟩
    have hps : p < ops.size := by rw [← D.lenL]; exact hp
    have hi : ix[p]? = some (ix[p]'(by rw [D.lenI]; exact hps)) := List.getElem?_eq_getElem _
    obtain ⟨⟨x, cl⟩, hx⟩ : ∃ x, L[p]? = some x := ⟨_, List.getElem?_eq_getElem hp⟩
    obtain ⟨o, ho, _⟩ := D.op p _ x cl hi hx
    have hlt := (Array.getElem?_eq_some_iff.1 ho).1
    refine ⟨_, hi, ?_⟩
    have h1 := List.countP_eq_zero.1 (Nat.le_zero.1 hcnt) _ (List.mem_range.2 hlt)
    by_cases hl : listed.getD (ix[p]'(by rw [D.lenI]; exact hps)) false = true
    · exact hl
    · rw [getD_ft (by rw [hsz]; exact hlt) hl] at h1
      simp at h1
  | succ fuel ih =>
    intro t listed c ι a w hsz hcnt hcl hI hpan hrnd
    simp only [Region.linearise.go]
    change ∃ E' c' ι' a' w', Steps X.P (lone (b.at a (.inRegion ops (match (Region.ready .any ops listed)[t % (Region.ready .any ops listed).length]? with
      | some i => Region.linearise.go .any ops fuel (t / (Region.ready .any ops listed).length) (listed.setIfInBounds i true) [i]
      | none => [].reverse) :: k)) (CS (F c).took) w) _ ∧ _
    cases hir : (Region.ready .any ops listed)[t % (Region.ready .any ops listed).length]? with
    | none =>
      have hnil : Region.ready .any ops listed = [] := by
        cases hrd : Region.ready .any ops listed with
        | nil => rfl
        | cons x xs =>
          rw [hrd] at hir
          have hlt : t % (x :: xs).length < (x :: xs).length := Nat.mod_lt _ (by simp)
          simp at hir
          simp at hlt
          omega
      exact ⟨Done ix listed, c, ι, a, w, .refl _ _, D.all_done hsz hnil, hI, hpan, hrnd⟩
    | some i =>
      simp only []
      rw [linearise_go_acc, List.reverse_singleton, List.singleton_append]
      obtain ⟨hun, o, ho, hall⟩ := mem_ready.1 (List.mem_of_getElem? hir)
      have hlt := (Array.getElem?_eq_some_iff.1 ho).1
      obtain ⟨p, hp⟩ := D.surj i hlt
      have hpL : p < L.length := by rw [D.lenL, ← D.lenI]; exact (List.getElem?_eq_some_iff.1 hp).1
      have hn : ¬ Done ix listed p := by
        rintro ⟨j, hj, hjl⟩
        rw [hp] at hj; cases hj
        rw [getD_tf hjl] at hun; cases hun
      have hr : Ready ops ix (Done ix listed) p := by
        intro i' o' hi' ho' e he hbd r hre
        rw [hp] at hi'; cases hi'
        rw [ho] at ho'; cases ho'
        exact ⟨_, hre, hall e he hbd⟩
      obtain ⟨c', ι', a', w', hs, hI', hpan', hrnd'⟩ := draw_step (b := b) (CS := CS) (k := k) (rest := Region.linearise.go .any ops fuel (t / (Region.ready .any ops listed).length) (listed.setIfInBounds i true) []) hcs hI ht D h0 hz hcl hpL hp hr hn hb hrec hpan hrnd
      have hE : addE (Done ix listed) p = Done ix (listed.setIfInBounds i true) := by
        funext q
        apply propext
        constructor
        · rintro (⟨j, hj, hjl⟩ | rfl)
          · exact ⟨j, hj, getD_set_true hjl⟩
          · exact ⟨i, hp, by simp [hsz, hlt]⟩
        · rintro ⟨j, hj, hjl⟩
          by_cases e : j = i
          · subst e; exact .inr (D.inj q p j hj hp)
          · left
            refine ⟨j, hj, ?_⟩
            rw [getD_set_ne false (Ne.symm e)] at hjl
            exact hjl
      rw [hE] at hI'
      have hcl' : ∀ p, Done ix (listed.setIfInBounds i true) p → Ready ops ix (Done ix (listed.setIfInBounds i true)) p := by
        rw [← hE]
        rintro q (hq | rfl) i' o' hi' ho' e he hbd r hre
        · exact .inl (hcl q hq i' o' hi' ho' e he hbd r hre)
        · exact .inl (hr i' o' hi' ho' e he hbd r hre)
      have hcnt' : (List.range ops.size).countP (fun j => !(listed.setIfInBounds i true).getD j true) ≤ fuel := by
        refine Nat.le_of_lt_succ (Nat.lt_of_lt_of_le (countP_lt (fun j _ hj => ?_) ⟨i, List.mem_range.2 hlt, ?_, ?_⟩) hcnt)
        · by_cases e : j = i
          · subst e; simp [hsz, hlt] at hj
          · rw [getD_set_ne true (Ne.symm e)] at hj; exact hj
        · rw [hun]; rfl
        · simp [hsz, hlt]
      obtain ⟨E', c'', ι'', a'', w'', hs', hall', hI'', hp'', hr''⟩ := ih (t / (Region.ready .any ops listed).length) (listed.setIfInBounds i true) c' ι' a' w' (by simp [hsz]) hcnt' hcl' hI' hpan' hrnd'
      exact ⟨E', c'', ι'', a'', w'', hs.trans hs', hall', hI'', hp'', hr''⟩

/-- A region that draws its order. -/
theorem draw_sim {ι : Inj} {a : Act} {w : World} {id : Nat} (hm : X.P.follows .mixedOrders = true) (hcs : CallSim X call) (D : DrawOk X nt ops L ix pz ms) (hf : FRel ι fr a nt) (hw : WRel X ι st w) (hb : RndRel ι fr.rnd b.rnd) (hr : RecFam b fr.pan ι CS) :
    Arr X b nt CS (lone (b.at a (.code (.region id ops true) :: k)) (CS fr.took) w) k fr ι w (evD call L [st.h] (poisoned fr pz) st) := by
  cases hev : evD call L [st.h] (poisoned fr pz) st with
  | no => trivial
  | out e fr' st' =>
    obtain ⟨rfl, F, T, N, V, ht⟩ := evD_trace _ _ _ _ _ _ _ hev
    obtain ⟨z1, z2, z3, z4, z5⟩ := poisoned_spec pz fr
    let w1 : World := { w with drawn := w.drawn + 1 }
    have hw1 : WRel X ι st w1 := hw.same_heap X rfl
    have hF0 : F 0 = poisoned fr pz := ht.f0
    have hfree : ∀ id, st.nx ≤ id → ι id = none := fun id h => (hw.fresh id h).1
    have hc0 : cutI ι (T 0).nx = ι := by rw [ht.t0]; exact cutI_all hfree
    have hnone : ∀ p, ¬ Done ix (Array.replicate ops.size false) p := by
      rintro p ⟨i, _, hi⟩
      by_cases h : i < ops.size <;> simp [h] at hi
    have hI : DInv X nt L F T V ι w1 (Done ix (Array.replicate ops.size false)) 0 ι a w1 := by
      refine ⟨fun p hp => by omega, Nat.zero_le _, .inl rfl, fun p x _ h => absurd h (hnone p), by rw [hc0, ht.t0]; exact hw1, fun id l hl => .inl ?_, fun p _ h => absurd h (hnone p), hw1.bnd, .refl _ _, hf.size, by rw [hc0, hF0, z5]; exact hf.df, fun p x cl t _ _ h => absurd h (hnone p), fun t _ => ?_⟩
      · rw [ht.t0]
        rcases Nat.lt_or_ge id st.nx with h | h
        · exact h
        · rw [hfree id h] at hl; cases hl
      · rw [hF0, z1]
        by_cases h : t ∈ pz
        · rw [if_pos h]; exact .top _
        · rw [if_neg h]; exact hf.tmp t
    have hstep := st_region_draw (P := X.P) (b := b) (a := a) (k := k) (cs := CS fr.took) (w := w) (ops := ops) (id := id)
    obtain ⟨E', c', ι', a', w', hs, hall, hI', hp', hr'⟩ := draw_go (b := b) (CS := CS) (k := k) hcs ht D hfree (fun t h => by rw [hF0, z1, if_pos h]) (by rw [hF0, z3]; exact hb) (by rw [hF0, z2]; exact hr) ops.size (w.tape w.drawn (.order b.fn id)) (Array.replicate ops.size false) 0 ι a w1 (by simp) (by
      refine Nat.le_trans List.countP_le_length ?_
      simp) (fun p h => absurd h (hnone p)) hI rfl rfl
    obtain ⟨u1, u2, u3, u4, u5⟩ := hI'.upto ht D L.length hI'.cle (Nat.le_refl _) (fun r _ h => hall r h)
    have htop : cutI ι' (T L.length).nx = ι' := by
      refine cutI_all fun id hid => ?_
      cases hl : ι' id with
      | none => rfl
      | some l =>
        exfalso
        rcases hI'.dom id l hl with h | ⟨p, h1, h2, h3, h4, h5⟩
        · have := ht.nx_le D hI'.cle (Nat.le_refl _); omega
        · obtain ⟨o, l', h6, _⟩ := hI'.pend p h1 h3 h4
          have h7 : (T (p + 1)).nx = (T p).nx + 1 := by rw [h6]
          have := ht.nx_le D (p := p + 1) (q := L.length) h2 (Nat.le_refl _); omega
    rw [htop, ht.tn] at u1
    rw [ht.fn] at u2 u3 u4 u5
    have hf' : FRel ι' fr' a' nt := by
      refine ⟨fun t => ?_, hI'.size, by rw [u2]; exact hI'.df.mono (cutI_le _ _)⟩
      rw [← ht.fn]
      by_cases hwr : ∃ (q : Nat) (y : XOper) (d : Cls), L[q]? = some (y, d) ∧ y.d = some t
      · obtain ⟨q, y, d, hy, hd⟩ := hwr
        have hq := (List.getElem?_eq_some_iff.1 hy).1
        rw [ht.tmp_new D hy hd L.length hq (Nat.le_refl _)]
        exact (hI'.tmpE q y d t hy hd (hall q hq)).mono (cutI_le _ _)
      · have hno : ∀ (q : Nat) x' c', L[q]? = some (x', c') → x'.d ≠ some t := fun q x' c' hx' hd' => hwr ⟨q, x', c', hx', hd'⟩
        rw [ht.tmp_old t L.length (Nat.le_refl _) fun q x' c' _ hx' => hno q x' c' hx']
        exact (hI'.tmpN t fun q x' c' hx' hd' => absurd hd' (hno q x' c' hx')).mono hI'.keeps.le
    refine ⟨ι', a', w', hf', u1, Keeps.trans (w' := w1) (Keeps.same_heap ι rfl) hI'.keeps, ?_, ?_, ?_⟩
    · rw [u4, hp', hF0, z2]
    · rw [u5, hr', hF0, z3]
    · have hsch : Region.schedule (X.P.follows .mixedOrders) ops (w.tape w.drawn (.order b.fn id)) = Region.linearise.go .any ops ops.size (w.tape w.drawn (.order b.fn id)) (Array.replicate ops.size false) [] := by
        simp only [Region.schedule, hm, Bool.true_or, if_true]; rfl
      rw [hsch] at hstep
      have htk : CS (F 0).took = CS fr.took := by rw [hF0, z4]
      rw [htk] at hs
      rw [← u3] at hs
      exact (Steps.head hstep hs).trans (.one st_region_end)
end
end Go.AM
namespace Go.AM
variable {X : Ctx}

abbrev DRow := Nat × (XOper × Cls) × Nat × Nat

def rowsFrom : Nat → List (XOper × Cls) → List Nat → List Nat → List DRow
  | p, a :: L, i :: ix, m :: ms => (p, a, i, m) :: rowsFrom (p + 1) L ix ms
  | _, _, _, _ => []

theorem rowsFrom_mem : ∀ (L : List (XOper × Cls)) (ix ms : List Nat) (p0 p : Nat) {a : XOper × Cls} {i m : Nat}, L[p]? = some a → ix[p]? = some i → ms[p]? = some m → (p0 + p, a, i, m) ∈ rowsFrom p0 L ix ms
  | [], _, _, _, p, _, _, _, h, _, _ => by simp at h
  | _ :: _, [], _, _, p, _, _, _, _, h, _ => by simp at h
  | _ :: _, _ :: _, [], _, p, _, _, _, _, _, h => by simp at h
  | a' :: L, i' :: ix, m' :: ms, p0, p, a, i, m, h1, h2, h3 => by
    cases p with
    | zero =>
      simp at h1 h2 h3
      subst h1 h2 h3
      exact List.mem_cons_self
    | succ p =>
      have := rowsFrom_mem L ix ms (p0 + 1) p (a := a) (i := i) (m := m) (by simpa using h1) (by simpa using h2) (by simpa using h3)
      rw [show p0 + (p + 1) = p0 + 1 + p by omega]
      exact List.mem_cons_of_mem _ this
theorem rowsFrom_get : ∀ (L : List (XOper × Cls)) (ix ms : List Nat) (p0 : Nat) {r : DRow}, r ∈ rowsFrom p0 L ix ms → ∃ p : Nat, r.1 = p0 + p ∧ L[p]? = some r.2.1 ∧ ix[p]? = some r.2.2.1 ∧ ms[p]? = some r.2.2.2
  | [], _, _, _, _, h => by simp [rowsFrom] at h
  | _ :: _, [], _, _, _, h => by simp [rowsFrom] at h
  | _ :: _, _ :: _, [], _, _, h => by simp [rowsFrom] at h
  | a' :: L, i' :: ix, m' :: ms, p0, r, h => by
    simp only [rowsFrom] at h
    rcases List.mem_cons.1 h with rfl | h
    · exact ⟨0, rfl, rfl, rfl, rfl⟩
    · obtain ⟨p, h1, h2, h3, h4⟩ := rowsFrom_get L ix ms (p0 + 1) h
      exact ⟨p + 1, by omega, h2, h3, h4⟩

/-- The places that come before, by the edges. -/
def maskOf (rows : List DRow) (p : Nat) : List Edge → Option Nat
  | [] => some 0
  | e :: es => if Region.binds .any e then
      match rows.find? (fun r => Nat.beq r.2.2.1 e.on), maskOf rows p es with
      | some r, some m => if Nat.ble (Nat.succ r.1) p then some (m ||| ((1 <<< r.1) ||| r.2.2.2)) else none
      | _, _ => none
    else maskOf rows p es

theorem maskOf_spec {rows : List DRow} {p : Nat} : ∀ (es : List Edge) (m : Nat), maskOf rows p es = some m →
    (∀ e ∈ es, Region.binds .any e = true → ∃ r ∈ rows, r.2.2.1 = e.on ∧ r.1 < p) ∧
    (∀ q, m.testBit q = true → ∃ e ∈ es, Region.binds .any e = true ∧ ∃ r ∈ rows, r.2.2.1 = e.on ∧ r.1 < p ∧ (q = r.1 ∨ r.2.2.2.testBit q = true))
  | [], m, h => by
    simp only [maskOf, Option.some.injEq] at h
    subst h
    exact ⟨fun e he => by simp at he, fun q hq => by simp at hq⟩
  | e :: es, m, h => by
    simp only [maskOf] at h
    by_cases hb : Region.binds .any e = true
    · rw [if_pos hb] at h
      split at h
      · rename_i r m' hr hm'
        split at h
        · rename_i hlt
          cases h
          obtain ⟨i1, i2⟩ := maskOf_spec es m' hm'
          have hrm := List.mem_of_find?_eq_some hr
          have hri : r.2.2.1 = e.on := by
            have := List.find?_some hr
            exact Nat.eq_of_beq_eq_true this
          have hrp : r.1 < p := ble_true.1 hlt
          refine ⟨fun e' he' hb' => ?_, fun q hq => ?_⟩
          · rcases List.mem_cons.1 he' with rfl | he'
            · exact ⟨r, hrm, hri, hrp⟩
            · exact i1 e' he' hb'
          · rw [Nat.testBit_or, Nat.testBit_or, Bool.or_eq_true, Bool.or_eq_true] at hq
            rcases hq with hq | hq | hq
            · obtain ⟨e', he', h1, h2⟩ := i2 q hq
              exact ⟨e', List.mem_cons_of_mem _ he', h1, h2⟩
            · rw [Nat.one_shiftLeft, Nat.testBit_two_pow] at hq
              exact ⟨e, List.mem_cons_self, hb, r, hrm, hri, hrp, .inl (of_decide_eq_true hq).symm⟩
            · exact ⟨e, List.mem_cons_self, hb, r, hrm, hri, hrp, .inr hq⟩
        · cases h
      · cases h
    · rw [if_neg hb] at h
      obtain ⟨i1, i2⟩ := maskOf_spec es m h
      refine ⟨fun e' he' hb' => ?_, fun q hq => ?_⟩
      · rcases List.mem_cons.1 he' with rfl | he'
        · exact absurd hb' hb
        · exact i1 e' he' hb'
      · obtain ⟨e', he', h1, h2⟩ := i2 q hq
        exact ⟨e', List.mem_cons_of_mem _ he', h1, h2⟩

def dstIs (d : Option Tmp) (t : Tmp) : Bool := match d with | some u => Nat.beq u t | none => false
def hasT (ts : List Tmp) (t : Tmp) : Bool := ts.any (Nat.beq t)
theorem hasT_iff {ts : List Tmp} {t : Tmp} : hasT ts t = true ↔ t ∈ ts := by
  unfold hasT
  rw [List.any_eq_true]
  constructor
  · rintro ⟨u, hu, h⟩; rw [beqN h]; exact hu
  · intro h; exact ⟨t, h, Nat.beq_refl t⟩

def rowOk (X : Ctx) (nt : Nat) (ops : Array Oper) (L : List (XOper × Cls)) (rows : List DRow) (r : DRow) : Bool :=
  (match ops[r.2.2.1]? with
    | some o => operOk X nt ops r.2.1.1 o && (match maskOf rows r.1 o.after.toList with | some m => Nat.beq m r.2.2.2 | none => false)
    | none => false) &&
  (match r.2.1.2 with
    | .eff => Nat.beq r.2.2.2 (2 ^ r.1 - 1)
    | .al _ => r.2.1.1.o.isAl
    | .read n _ => r.2.1.1.o.isRd && Nat.ble ((List.range r.1).countP (fun q => effAt L q && !r.2.2.2.testBit q)) n)

def pairOk (pz : List Tmp) (r s : DRow) : Bool :=
  (!Nat.beq r.2.2.1 s.2.2.1 || Nat.beq r.1 s.1) &&
  (match s.2.1.1.d with
    | none => true
    | some t =>
      (!dstIs r.2.1.1.d t || Nat.beq r.1 s.1) &&
      (!Nat.ble (Nat.succ r.1) s.1 || hasT pz t || !(r.2.1.2.isEff || hasT r.2.1.2.looks t) || s.2.2.2.testBit r.1) &&
      (!Nat.ble (Nat.succ s.1) r.1 || !hasT r.2.1.2.looks t || r.2.2.2.testBit s.1))

def drawB (X : Ctx) (nt : Nat) (ops : Array Oper) (L : List (XOper × Cls)) (ix : List Nat) (pz : List Tmp) (ms : List Nat) : Bool :=
  (fun rows => Nat.beq L.length ops.size && Nat.beq ix.length ops.size && Nat.beq ms.length ops.size && (List.range ops.size).all (fun i => hasT ix i) && rows.all (rowOk X nt ops L rows) && rows.all (fun r => rows.all (pairOk pz r))) (rowsFrom 0 L ix ms)

theorem drawB_ok {nt : Nat} {ops : Array Oper} {L : List (XOper × Cls)} {ix : List Nat} {pz : List Tmp} {ms : List Nat} (h : drawB X nt ops L ix pz ms = true) : DrawOk X nt ops L ix pz ms := by
  unfold drawB at h
  simp only [Bool.and_eq_true] at h
  obtain ⟨⟨⟨⟨⟨h1, h2⟩, h3⟩, h4⟩, h5⟩, h6⟩ := h
  have e1 := beqN h1
  have e2 := beqN h2
  have e3 := beqN h3
  rw [List.all_eq_true] at h4 h5 h6
  have hrow : ∀ (p : Nat) a i, L[p]? = some a → ix[p]? = some i → (p, a, i, ms.getD p 0) ∈ rowsFrom 0 L ix ms := by
    intro p a i ha hi
    have hp := (List.getElem?_eq_some_iff.1 ha).1
    have hm : ms[p]? = some (ms.getD p 0) := by
      have : p < ms.length := by omega
      simp [this]
    have := rowsFrom_mem L ix ms 0 p ha hi hm
    rwa [Nat.zero_add] at this
  have hix : ∀ p : Nat, p < L.length → ∃ i, ix[p]? = some i := fun p hp => ⟨_, List.getElem?_eq_getElem (by omega)⟩
  have hL : ∀ p i : Nat, ix[p]? = some i → ∃ a, L[p]? = some a := fun p i hi => ⟨_, List.getElem?_eq_getElem (by have := (List.getElem?_eq_some_iff.1 hi).1; omega)⟩
  have hok : ∀ (p : Nat) a i, L[p]? = some a → ix[p]? = some i → rowOk X nt ops L (rowsFrom 0 L ix ms) (p, a, i, ms.getD p 0) = true := fun p a i ha hi => h5 _ (hrow p a i ha hi)
  have hpair : ∀ (p : Nat) a i (q : Nat) b j, L[p]? = some a → ix[p]? = some i → L[q]? = some b → ix[q]? = some j → pairOk pz (p, a, i, ms.getD p 0) (q, b, j, ms.getD q 0) = true := by
    intro p a i q b j ha hi hb hj
    have := h6 _ (hrow p a i ha hi)
    rw [List.all_eq_true] at this
    exact this _ (hrow q b j hb hj)
  have hmask : ∀ (p i : Nat) a o, L[p]? = some a → ix[p]? = some i → ops[i]? = some o → operOk X nt ops a.1 o = true ∧ ∃ m, maskOf (rowsFrom 0 L ix ms) p o.after.toList = some m ∧ m = ms.getD p 0 := by
    intro p i a o ha hi ho
    have := hok p a i ha hi
    unfold rowOk at this
    simp only [ho, Bool.and_eq_true] at this
    refine ⟨this.1.1, ?_⟩
    have h7 := this.1.2
    split at h7
    · rename_i m hm; exact ⟨m, hm, beqN h7⟩
    · cases h7
  have hback : ∀ {r : DRow} {p : Nat}, r ∈ rowsFrom 0 L ix ms → ∃ q : Nat, r.1 = q ∧ ix[q]? = some r.2.2.1 ∧ ms.getD q 0 = r.2.2.2 := by
    intro r p hr
    obtain ⟨q, g1, g2, g3, g4⟩ := rowsFrom_get L ix ms 0 hr
    exact ⟨q, by omega, g3, by simp [List.getD, g4]⟩
  have hcls : ∀ (p i : Nat) a, L[p]? = some a → ix[p]? = some i → (match a.2 with | .eff => Nat.beq (ms.getD p 0) (2 ^ p - 1) | .al _ => a.1.o.isAl | .read n _ => a.1.o.isRd && Nat.ble ((List.range p).countP (fun q => effAt L q && !(ms.getD p 0).testBit q)) n) = true := by
    intro p i a ha hi
    have := hok p a i ha hi
    unfold rowOk at this
    rw [Bool.and_eq_true] at this
    exact this.2
  refine ⟨e1, e2, fun p i x c hi hx => ?_, fun p x ts hx => ?_, fun p x n ts hx => ?_, fun p q i hp hq => ?_, fun i hi => ?_, fun p i o hi ho e he hb => ?_, fun p i o q hi ho hq => ?_, fun p x q hx hq => ?_, fun p x n ts hx => ?_, fun p q x y c d t hx hy hxd hyd => ?_, fun p q x y c d t hx hy hpq hyd htz hl => ?_, fun p q x y c d t hx hy hqp hyd hl => ?_⟩
  · have := hok p (x, c) i hx hi
    unfold rowOk at this
    rw [Bool.and_eq_true] at this
    have h7 := this.1
    split at h7
    · rename_i o ho
      rw [Bool.and_eq_true] at h7
      exact ⟨o, ho, h7.1⟩
    · cases h7
  · obtain ⟨i, hi⟩ := hix p (List.getElem?_eq_some_iff.1 hx).1
    exact hcls p i _ hx hi
  · obtain ⟨i, hi⟩ := hix p (List.getElem?_eq_some_iff.1 hx).1
    have := hcls p i _ hx hi
    simp only [Bool.and_eq_true] at this
    exact this.1
  · obtain ⟨a, ha⟩ := hL p i hp
    obtain ⟨b, hb⟩ := hL q i hq
    have := hpair p a i q b i ha hp hb hq
    unfold pairOk at this
    simp only [Bool.and_eq_true, Bool.or_eq_true] at this
    rcases this.1 with h | h
    · simp at h
    · exact beqN h
  · have := h4 i (List.mem_range.2 hi)
    have hm := hasT_iff.1 this
    obtain ⟨p, hp, he⟩ := List.mem_iff_getElem.1 hm
    exact ⟨p, by rw [List.getElem?_eq_getElem hp, he]⟩
  · obtain ⟨a, ha⟩ := hL p i hi
    obtain ⟨_, m, hm, _⟩ := hmask p i a o ha hi ho
    obtain ⟨r, hr, h7, h8⟩ := (maskOf_spec _ _ hm).1 e (by simpa using he) hb
    obtain ⟨q, g1, g2, _⟩ := hback (p := 0) hr
    exact ⟨q, by omega, by rw [g2, h7]⟩
  · obtain ⟨a, ha⟩ := hL p i hi
    obtain ⟨_, m, hm, rfl⟩ := hmask p i a o ha hi ho
    obtain ⟨e, he, hb, r, hr, h7, h8, h9⟩ := (maskOf_spec _ _ hm).2 q hq
    obtain ⟨q', g1, g2, g3⟩ := hback (p := 0) hr
    exact ⟨e, by simpa using he, hb, q', by omega, by rw [g2, h7], by rw [g3, ← g1]; exact h9⟩
  · obtain ⟨i, hi⟩ := hix p (List.getElem?_eq_some_iff.1 hx).1
    have := beqN (hcls p i _ hx hi)
    rw [this, Nat.testBit_two_pow_sub_one]
    simpa using hq
  · obtain ⟨i, hi⟩ := hix p (List.getElem?_eq_some_iff.1 hx).1
    have := hcls p i _ hx hi
    simp only [Bool.and_eq_true] at this
    exact ble_true.1 this.2
  · obtain ⟨i, hi⟩ := hix p (List.getElem?_eq_some_iff.1 hx).1
    obtain ⟨j, hj⟩ := hix q (List.getElem?_eq_some_iff.1 hy).1
    have := hpair p _ i q _ j hx hi hy hj
    unfold pairOk at this
    simp only [hyd, Bool.and_eq_true] at this
    have h7 := this.2.1.1
    simp [dstIs, hxd] at h7
    exact h7
  · obtain ⟨i, hi⟩ := hix p (List.getElem?_eq_some_iff.1 hx).1
    obtain ⟨j, hj⟩ := hix q (List.getElem?_eq_some_iff.1 hy).1
    have := hpair p _ i q _ j hx hi hy hj
    unfold pairOk at this
    simp only [hyd, Bool.and_eq_true] at this
    have h7 := this.2.1.2
    have g1 : Nat.ble (Nat.succ p) q = true := ble_true.2 hpq
    have g2 : hasT pz t = false := by rw [Bool.eq_false_iff]; intro h; exact htz (hasT_iff.1 h)
    have g3 : (c.isEff || hasT c.looks t) = true := by
      rcases hl with rfl | hl
      · rfl
      · rw [Bool.or_eq_true]; exact .inr (hasT_iff.2 hl)
    rw [g1, g2, g3] at h7
    simpa using h7
  · obtain ⟨i, hi⟩ := hix p (List.getElem?_eq_some_iff.1 hx).1
    obtain ⟨j, hj⟩ := hix q (List.getElem?_eq_some_iff.1 hy).1
    have := hpair p _ i q _ j hx hi hy hj
    unfold pairOk at this
    simp only [hyd, Bool.and_eq_true] at this
    have h7 := this.2.2
    have g1 : Nat.ble (Nat.succ q) p = true := ble_true.2 hqp
    have g2 : hasT c.looks t = true := hasT_iff.2 hl
    rw [g1, g2] at h7
    simpa using h7
end Go.AM
namespace Go.AM
variable {X : Ctx} {call : CallT}

def regOk (X : Ctx) (nt : Nat) (ops : Array Oper) : List XOper → List Oper → Bool
  | [], [] => true
  | x :: xs, o :: os => operOk X nt ops x o && regOk X nt ops xs os
  | _, _ => false
theorem regOk_spec {nt : Nat} {ops : Array Oper} : ∀ {xs : List XOper} {os : List Oper}, regOk X nt ops xs os = true → xs.length = os.length ∧ ∀ (j : Nat) x o, xs[j]? = some x → os[j]? = some o → operOk X nt ops x o = true
  | [], [], _ => ⟨rfl, fun j x o h => by simp at h⟩
  | x :: xs, o :: os, h => by
    simp only [regOk, Bool.and_eq_true] at h
    obtain ⟨h1, h2⟩ := regOk_spec h.2
    refine ⟨by simp [h1], fun j x' o' hx ho => ?_⟩
    cases j with
    | zero => simp at hx ho; subst hx ho; exact h.1
    | succ j => exact h2 j x' o' (by simpa using hx) (by simpa using ho)
  | [], _ :: _, h => by simp [regOk] at h
  | _ :: _, [], h => by simp [regOk] at h

def natsEq : List Nat → List Nat → Bool
  | [], [] => true
  | a :: as, b :: bs => Nat.beq a b && natsEq as bs
  | _, _ => false
theorem natsEq_eq : ∀ {as bs : List Nat}, natsEq as bs = true → as = bs
  | [], [], _ => rfl
  | a :: as, b :: bs, h => by
    simp only [natsEq, Bool.and_eq_true] at h
    rw [beqN h.1, natsEq_eq h.2]
  | [], _ :: _, h => by simp [natsEq] at h
  | _ :: _, [], h => by simp [natsEq] at h

/-- Code and its translation. -/
def codeOk (X : Ctx) (nt : Nat) : XCode → Code → Bool
  | .skip, .skip => true
  | .skip, .label _ => true
  | .reg xs, .region _ ops false => regOk X nt ops xs ops.toList
  | .dreg L ix pz ms, .region _ ops true => drawB X nt ops L ix pz ms
  | .seq a b, .seq c d => codeOk X nt a c && codeOk X nt b d
  | .cond x a b, .cond y c d => opdIs X.ng x y && codeOk X nt a c && codeOk X nt b d
  | .block i a, .block j c => Nat.beq i j && codeOk X nt a c
  | .loop a, .loop c => codeOk X nt a c
  | .rng f ps asg body, .rangeFunc g qs asg' body' => opdIs X.ng f g && natsEq ps qs.toList && ps.all (fun t => Nat.ble (Nat.succ t) nt) && codeOk X nt asg asg' && codeOk X nt body body'
  | .exit i, .exit j => Nat.beq i j
  | .scope a, .scope c => codeOk X nt a c
  | .ret, .ret => true
  | .refuse, _ => true
  | _, _ => false

def Good (X : Ctx) : Prop := X.P.follows .mixedOrders = true ∧ ∀ fn c xc, X.ok fn c xc ↔ ∃ F, X.P.funcs[fn]? = some F ∧ codeOk X F.ntmps xc c = true

section
variable {b : Base} {nt : Nat} {CS : Bool → List Frame}

def RngSim (X : Ctx) (call : CallT) (b : Base) (nt : Nat) (CS : Bool → List Frame) : Prop :=
  ∀ (f : Operand) (ps : Array Tmp) (asg body : XCode) (asg' body' : Code) (ι : Inj) (fr : AFr) (a : Act) (st : St) (w : World) (k : List Item), opdOk X.ng f = true → (∀ t ∈ ps.toList, t < nt) → (∃ F, X.P.funcs[b.fn]? = some F ∧ F.ntmps = nt) → X.ok b.fn asg' asg → X.ok b.fn body' body →
    FRel ι fr a nt → WRel X ι st w → RndRel ι fr.rnd b.rnd → RecFam b fr.pan ι CS →
    Arr X b nt CS (lone (b.at a (.code (.rangeFunc f ps asg' body') :: k)) (CS fr.took) w) k fr ι w (evRng call b.fn f ps.toList asg body fr st)

/-- What follows code. -/
theorem Arr.thenK {s : Machine} {k k' : List Item} {fr : AFr} {ι : Inj} {w : World} {r : CR} {g : AFr → St → CR} (hex : ∀ id, exitTo id k = exitTo id k') (h : Arr X b nt CS s k fr ι w r)
    (hg : ∀ κ a' w' fr' st', FRel κ fr' a' nt → WRel X κ st' w' → Keeps ι κ w w' → fr'.pan = fr.pan → fr'.rnd = fr.rnd → Arr X b nt CS (lone (b.at a' k) (CS fr'.took) w') k' fr' κ w' (g fr' st')) : Arr X b nt CS s k' fr ι w (thenK r g) := by
  cases r with
  | no => trivial
  | out e fr' st' =>
    obtain ⟨κ, a', w', h1, h2, h3, h4, h5, h6⟩ := h
    cases e with
    | norm => exact Arr.head h6 h3 h4 h5 (hg κ a' w' fr' st' h1 h2 h3 h4 h5)
    | exit id =>
      obtain ⟨td, h7, h8⟩ := h6
      exact ⟨κ, a', w', h1, h2, h3, h4, h5, td, h7.trans (hex id), h8⟩
    | ret => exact ⟨κ, a', w', h1, h2, h3, h4, h5, h6⟩
    | pan v => exact ⟨κ, a', w', h1, h2, h3, h4, h5, h6⟩

theorem thenK_norm (r : CR) : thenK r (fun fr st => .out .norm fr st) = r := by
  cases r with
  | no => rfl
  | out e fr st => cases e <;> rfl

theorem code_sim (hG : Good X) (hcs : CallSim X call) (hrng : RngSim X call b nt CS) (hfn : ∃ F, X.P.funcs[b.fn]? = some F ∧ F.ntmps = nt) (lf : Nat) : ∀ (xc : XCode) (c : Code) (ι : Inj) (fr : AFr) (a : Act) (st : St) (w : World) (k : List Item), codeOk X nt xc c = true →
    FRel ι fr a nt → WRel X ι st w → RndRel ι fr.rnd b.rnd → RecFam b fr.pan ι CS →
    Arr X b nt CS (lone (b.at a (.code c :: k)) (CS fr.took) w) k fr ι w (evCode call lf b.fn xc fr st) := by
  obtain ⟨Fn, hF, hFn⟩ := hfn
  intro xc
  induction xc with
  | skip =>
    intro c ι fr a st w k hc hf hw hb hr
    cases c with
    | skip => exact ⟨ι, a, w, hf, hw, .refl _ _, rfl, rfl, .one st_skip⟩
    | label l => exact ⟨ι, a, w, hf, hw, .refl _ _, rfl, rfl, .one st_label⟩
    | _ => exact absurd hc Bool.false_ne_true
  | reg xs =>
    intro c ι fr a st w k hc hf hw hb hr
    cases c with
    | region id ops draw =>
      cases draw with
      | true => exact absurd hc Bool.false_ne_true
      | false =>
        obtain ⟨h1, h2⟩ := regOk_spec (hc : regOk X nt ops xs ops.toList = true)
        have := ops_sim (b := b) (CS := CS) (k := k) (ops := ops) (nt := nt) hcs xs (List.range ops.size) ι fr a st w (by simpa using h1) (fun j x i hx hi => by
          have hij : i = j := by
            obtain ⟨hj, he⟩ := List.getElem?_eq_some_iff.1 hi
            simpa using he.symm
          subst hij
          have hlt : i < ops.size := by simpa using (List.getElem?_eq_some_iff.1 hi).1
          exact ⟨ops[i], Array.getElem?_eq_getElem hlt, h2 i x _ hx (by simp [hlt])⟩) hf hw hb hr
        exact Arr.head (.one st_region) (.refl _ _) rfl rfl this
    | _ => exact absurd hc Bool.false_ne_true
  | dreg L ix pz ms =>
    intro c ι fr a st w k hc hf hw hb hr
    cases c with
    | region id ops draw =>
      cases draw with
      | false => exact absurd hc Bool.false_ne_true
      | true => exact draw_sim hG.1 hcs (drawB_ok (hc : drawB X nt ops L ix pz ms = true)) hf hw hb hr
    | _ => exact absurd hc Bool.false_ne_true
  | seq x y ihx ihy =>
    intro c ι fr a st w k hc hf hw hb hr
    cases c with
    | seq c d =>
      have hc : (codeOk X nt x c && codeOk X nt y d) = true := hc
      rw [Bool.and_eq_true] at hc
      have h1 := ihx c ι fr a st w (.code d :: k) hc.1 hf hw hb hr
      refine Arr.head (.one st_seq) (.refl _ _) rfl rfl (Arr.thenK (k := .code d :: k) (k' := k) (fun id => rfl) h1 fun κ a' w' fr' st' hf' hw' hk hp hn => ?_)
      exact ihy d κ fr' a' st' w' k hc.2 hf' hw' (by rw [hn]; exact hb.mono hk.le) (by rw [hp]; exact hr.mono hk.le)
    | _ => exact absurd hc Bool.false_ne_true
  | cond x y z ihy ihz =>
    intro c ι fr a st w k hc hf hw hb hr
    cases c with
    | cond o c d =>
      have hc : (opdIs X.ng x o && codeOk X nt y c && codeOk X nt z d) = true := hc
      simp only [Bool.and_eq_true] at hc
      obtain ⟨rfl, ho⟩ := opdIs_eq hc.1.1
      show Arr X b nt CS _ k fr ι w (vBool (fr.ev x) (fun t => _root_.cond t (evCode call lf b.fn y fr st) (evCode call lf b.fn z fr st)) .no)
      have hv := hf.ev hw ho
      generalize hav : a.eval x = av at hv
      generalize fr.ev x = v at hv
      cases v with
      | bool t =>
        cases hv
        cases t with
        | true => exact Arr.head (.one (st_cond hav)) (.refl _ _) rfl rfl (ihy c ι fr a st w k hc.1.2 hf hw hb hr)
        | false => exact Arr.head (.one (st_cond hav)) (.refl _ _) rfl rfl (ihz d ι fr a st w k hc.2 hf hw hb hr)
      | _ => trivial
    | _ => exact absurd hc Bool.false_ne_true
  | block i x ih =>
    intro c ι fr a st w k hc hf hw hb hr
    cases c with
    | block j c =>
      have hc : (Nat.beq i j && codeOk X nt x c) = true := hc
      rw [Bool.and_eq_true] at hc
      have e := beqN hc.1
      subst e
      have h1 := ih c ι fr a st w (.inBlock i :: k) hc.2 hf hw hb hr
      refine Arr.head (.one st_block) (.refl _ _) rfl rfl ?_
      show Arr X b nt CS _ k fr ι w (blockK i (evCode call lf b.fn x fr st))
      generalize evCode call lf b.fn x fr st = r at h1
      cases r with
      | no => trivial
      | out e fr' st' =>
        obtain ⟨κ, a', w', h2, h3, h4, h5, h6, h7⟩ := h1
        cases e with
        | norm => exact ⟨κ, a', w', h2, h3, h4, h5, h6, Steps.trans h7 (.one st_inBlock)⟩
        | exit id =>
          obtain ⟨td, h8, h9⟩ := h7
          show Arr X b nt CS _ k fr ι w (eqK id i (.out .norm fr' st') (.out (.exit id) fr' st'))
          rw [eqK_eq]
          by_cases e : id = i
          · subst e
            rw [if_pos rfl]
            have h10 : exitTo id td = some k := by rw [h8]; simp [exitTo]
            exact ⟨κ, a', w', h2, h3, h4, h5, h6, Steps.trans h9 (.one (st_exit h10))⟩
          · rw [if_neg e]
            refine ⟨κ, a', w', h2, h3, h4, h5, h6, td, ?_, h9⟩
            rw [h8]
            have : ¬ i = id := fun h => e h.symm
            simp [exitTo, this]
        | ret => exact ⟨κ, a', w', h2, h3, h4, h5, h6, h7⟩
        | pan v => exact ⟨κ, a', w', h2, h3, h4, h5, h6, h7⟩
    | _ => exact absurd hc Bool.false_ne_true
  | loop x ih =>
    intro c ι fr a st w k hc hf hw hb hr
    cases c with
    | loop c =>
      have hc : codeOk X nt x c = true := hc
      have key : ∀ (n : Nat) (ι : Inj) (fr : AFr) (a : Act) (st : St) (w : World), FRel ι fr a nt → WRel X ι st w → RndRel ι fr.rnd b.rnd → RecFam b fr.pan ι CS →
          Arr X b nt CS (lone (b.at a (.code c :: .inLoop c :: k)) (CS fr.took) w) k fr ι w (Nat.rec (motive := fun _ => AFr → St → CR) (fun _ _ => .no) (fun _ ih' fr st => Go.AM.thenK (evCode call lf b.fn x fr st) ih') n fr st) := by
        intro n
        induction n with
        | zero => intros; trivial
        | succ n ihn =>
          intro ι fr a st w hf hw hb hr
          refine Arr.thenK (k := .inLoop c :: k) (fun id => rfl) (ih c ι fr a st w (.inLoop c :: k) hc hf hw hb hr) fun κ a' w' fr' st' hf' hw' hk hp hn => ?_
          exact Arr.head (.one st_inLoop) (.refl _ _) rfl rfl (ihn κ fr' a' st' w' hf' hw' (by rw [hn]; exact hb.mono hk.le) (by rw [hp]; exact hr.mono hk.le))
      exact Arr.head (.one st_loop) (.refl _ _) rfl rfl (key lf ι fr a st w hf hw hb hr)
    | _ => exact absurd hc Bool.false_ne_true
  | rng f ps asg body _ _ =>
    intro c ι fr a st w k hc hf hw hb hr
    cases c with
    | rangeFunc g qs asg' body' =>
      have hc : (opdIs X.ng f g && natsEq ps qs.toList && ps.all (fun t => Nat.ble (Nat.succ t) nt) && codeOk X nt asg asg' && codeOk X nt body body') = true := hc
      simp only [Bool.and_eq_true] at hc
      obtain ⟨⟨⟨⟨h1, h2⟩, h5⟩, h3⟩, h4⟩ := hc
      rw [List.all_eq_true] at h5
      obtain ⟨rfl, ho⟩ := opdIs_eq h1
      have e := natsEq_eq h2
      subst e
      exact hrng f qs asg body asg' body' ι fr a st w k ho (fun t ht => ble_true.1 (h5 t ht)) ⟨Fn, hF, hFn⟩ ((hG.2 _ _ _).2 ⟨Fn, hF, by rw [hFn]; exact h3⟩) ((hG.2 _ _ _).2 ⟨Fn, hF, by rw [hFn]; exact h4⟩) hf hw hb hr
    | _ => exact absurd hc Bool.false_ne_true
  | exit i =>
    intro c ι fr a st w k hc hf hw hb hr
    cases c with
    | exit j =>
      have e := beqN (hc : Nat.beq i j = true)
      subst e
      exact ⟨ι, a, w, hf, hw, .refl _ _, rfl, rfl, k, rfl, .refl _ _⟩
    | _ => exact absurd hc Bool.false_ne_true
  | scope x ih =>
    intro c ι fr a st w k hc hf hw hb hr
    cases c with
    | scope c =>
      have h1 := ih c ι fr a st w (.inScope c :: k) hc hf hw hb hr
      refine Arr.head (.one st_scope) (.refl _ _) rfl rfl ?_
      show Arr X b nt CS _ k fr ι w (evCode call lf b.fn x fr st)
      rw [← thenK_norm (evCode call lf b.fn x fr st)]
      exact Arr.thenK (k := .inScope c :: k) (fun id => rfl) h1 fun κ a' w' fr' st' hf' hw' _ _ _ => ⟨κ, a', w', hf', hw', .refl _ _, rfl, rfl, .one st_inScope⟩
    | _ => exact absurd hc Bool.false_ne_true
  | ret =>
    intro c ι fr a st w k hc hf hw hb hr
    cases c with
    | ret => exact ⟨ι, a, w, hf, hw, .refl _ _, rfl, rfl, k, .refl _ _⟩
    | _ => exact absurd hc Bool.false_ne_true
  | refuse => intros; trivial
end
end Go.AM
namespace Go.AM
variable {X : Ctx} {call : CallT}

def resOk1 (X : Ctx) : XRes → ResultVar → Bool
  | .tmp t, .tmp u => Nat.beq t u
  | .cell a g n, .cell b t => Nat.beq a b && (match agT X.P t, szT X.P t with
      | some g', some s => (g == g') && (!g || Nat.beq n s) && (g || Nat.beq n 1)
      | _, _ => false)
  | _, _ => false
def resOk (X : Ctx) : List XRes → List ResultVar → Bool
  | [], [] => true
  | x :: xs, r :: rs => resOk1 X x r && resOk X xs rs
  | _, _ => false

/-- One result variable, read. -/
def readRes (tmps : Array Value) : ResultVar → Sem Value
  | .tmp t => pure (tmps.getD t undef)
  | .cell a t => do loadVar t (← asAddr (tmps.getD a undef))

section
variable {ι : Inj} {fr : AFr} {a : Act} {nt : Nat} {st : St} {w : World}

theorem load_of {α : Type} {a : Addr} {n : Nat} {k : List Value → α} {z r : α} (h : st.load a n k z = r) (hz : z ≠ r) : ∃ vs, k vs = r ∧ ∀ {γ : Type} (k' : List Value → γ) (z' : γ), st.load a n k' z' = k' vs := by
  obtain ⟨h1, cs, el, fz, gr, h2, h3, h4⟩ := load_inv h hz
  refine ⟨_, h4, fun k' z' => ?_⟩
  unfold St.load St.cellsAt
  rw [h1, h2]
  show cutK cs a.off n k' z' = _
  unfold cutK
  rw [dropX_eq, takeX_eq, if_pos h3]
  rfl

theorem loadVar_of {t : TypeId} {x : Operand} {ad : Addr} {v : Value} (hx : a.eval x = .pointer (some ad)) (h : (execOp a.eval { (default : Oper) with op := .load t x }).run X.P w = .ok (.value v) w) : (loadVar t ad).run X.P w = .ok v w := by
  unfold execOp at h
  simp only [hx, Instr.loadAt, Instr.sureAddr, Sem.run_bind, Sem.run_pure, Result.andThen] at h
  generalize (loadVar t ad).run X.P w = r at h
  cases r with
  | ok y w' => simp only [Result.ok.injEq, Next.value.injEq] at h; obtain ⟨rfl, rfl⟩ := h; rfl
  | halt e w' => cases h

theorem res1_sim {x : XRes} {r : ResultVar} (hok : resOk1 X x r = true) (hf : FRel ι fr a nt) (hw : WRel X ι st w) {vs out : List Value}
    (h : XRes.rec (motive := fun _ => Option (List Value)) (fun t => some (fr.tmp t :: vs))
        (fun a agg n => vPointer (fr.tmp a) (fun p => oK p (fun ad => st.load ad n (fun cs => cond agg (some (.agg ⟨cs⟩ :: vs)) (one cs (fun v => some (v :: vs)) none)) none) none) none) x = some out) :
    ∃ v v', out = v :: vs ∧ VRel ι v v' ∧ (readRes a.tmps r).run X.P w = .ok v' w := by
  cases x with
  | tmp t =>
    cases r with
    | tmp u =>
      have e := beqN (hok : Nat.beq t u = true)
      subst e
      have h' : some (fr.tmp t :: vs) = some out := h
      cases h'
      exact ⟨_, _, rfl, hf.tmp t, rfl⟩
    | cell b t => exact absurd hok Bool.false_ne_true
  | cell b g n =>
    cases r with
    | tmp u => exact absurd hok Bool.false_ne_true
    | cell b' t =>
      have hok : (Nat.beq b b' && (match agT X.P t, szT X.P t with
        | some g', some s => (g == g') && (!g || Nat.beq n s) && (g || Nat.beq n 1)
        | _, _ => false)) = true := hok
      rw [Bool.and_eq_true] at hok
      have e := beqN hok.1
      subst e
      have h2 := hok.2
      split at h2
      · rename_i g' s hg hs
        simp only [Bool.and_eq_true] at h2
        obtain ⟨⟨h3, h4⟩, h5⟩ := h2
        have hgg : g = g' := by simpa using h3
        subst hgg
        obtain ⟨d, hd, hda⟩ := agT_eq hg
        obtain ⟨i, hi, rfl⟩ := szT_eq hs
        have h' : vPointer (fr.tmp b) (fun p => oK p (fun ad => st.load ad n (fun cs => cond g (some (.agg ⟨cs⟩ :: vs)) (one cs (fun v => some (v :: vs)) none)) none) none) none = some out := h
        obtain ⟨p, hp, h6⟩ := vPointer_inv h' (by simp)
        obtain ⟨ad, rfl, h7⟩ := oK_inv h6 (by simp)
        have hev : fr.ev (.tmp b) = .pointer (some ad) := hp
        have hrel := hf.tmp b
        rw [hp] at hrel
        have haa : a.eval (.tmp b) = a.tmps.getD b undef := rfl
        generalize hav : a.tmps.getD b undef = av at hrel
        have fin : ∀ v v' l', a.tmps.getD b undef = .pointer (some l') → out = v :: vs → VRel ι v v' → (execOp a.eval { (default : Oper) with op := .load t (.tmp b) }).run X.P w = .ok (.value v') w → ∃ v v', out = v :: vs ∧ VRel ι v v' ∧ (readRes a.tmps (.cell b t)).run X.P w = .ok v' w := by
          intro v v' l' hl' ho hv hrun
          refine ⟨v, v', ho, hv, ?_⟩
          have hh : (loadVar t l').run X.P w = .ok v' w := loadVar_of (a := a) (x := .tmp b) (by rw [haa, hl']) hrun
          simp only [readRes, hl', asAddr, Sem.run_bind, Sem.run_pure, Result.andThen]
          exact hh
        cases g with
        | true =>
          have hn : n = i.size := by simpa using h4
          subst hn
          obtain ⟨cs, h8, h9⟩ := load_of h7 (by simp)
          have h8' : some (.agg ⟨cs⟩ :: vs) = some out := h8
          cases h8'
          have hop : op_loadn i.size (.tmp b) (fun _ _ _ _ => .no) fr st = .ok (.agg ⟨cs⟩) fr st := by
            unfold op_loadn
            rw [hev]
            exact h9 (fun vs => OR.ok (.agg ⟨vs⟩) fr st) .no
          obtain ⟨_, _, _, v', hrun, hv⟩ := sim_loadn (o := { (default : Oper) with op := .load t (.tmp b) }) rfl rfl hd hda hi hf hw hop
          cases hrel with
          | ptr _ l hl hs' => exact fin _ v' _ hav rfl hv hrun
        | false =>
          have hn : n = 1 := by simpa using h5
          subst hn
          obtain ⟨cs, h8, h9⟩ := load_of h7 (by simp)
          obtain ⟨v, rfl, h10⟩ := one_inv (h8 : one cs (fun v => some (v :: vs)) none = some out) (by simp)
          cases h10
          have hop : op_load1 (.tmp b) (fun _ _ _ _ => .no) fr st = .ok v fr st := by
            unfold op_load1
            rw [hev]
            exact h9 (fun vs => one vs (fun v => OR.ok v fr st) .no) .no
          obtain ⟨_, _, _, v', hrun, hv⟩ := sim_load1 (o := { (default : Oper) with op := .load t (.tmp b) }) rfl rfl hd hda hf hw hop
          cases hrel with
          | ptr _ l hl hs' => exact fin _ v' _ hav rfl hv hrun
      · cases h2

theorem res_sim (hf : FRel ι fr a nt) (hw : WRel X ι st w) : ∀ (xs : List XRes) (rs : List ResultVar) (out : List Value), resOk X xs rs = true → evRes fr st xs = some out →
    ∃ vs', VRels ι out vs' ∧ (rs.mapM (readRes a.tmps)).run X.P w = .ok vs' w
  | [], [], out, _, h => by
    have h' : some [] = some out := h
    cases h'
    exact ⟨[], VRels.nil ι, rfl⟩
  | x :: xs, r :: rs, out, hok, h => by
    simp only [resOk, Bool.and_eq_true] at hok
    have h' : oK (evRes fr st xs) (fun vs => XRes.rec (motive := fun _ => Option (List Value)) (fun t => some (fr.tmp t :: vs))
        (fun a agg n => vPointer (fr.tmp a) (fun p => oK p (fun ad => st.load ad n (fun cs => cond agg (some (.agg ⟨cs⟩ :: vs)) (one cs (fun v => some (v :: vs)) none)) none) none) none) x) none = some out := h
    obtain ⟨vs, hvs, h1⟩ := oK_inv h' (by simp)
    obtain ⟨v, v', rfl, hv, hrun⟩ := res1_sim hok.1 hf hw h1
    obtain ⟨vs', hvs', hrun'⟩ := res_sim hf hw xs rs vs hok.2 hvs
    refine ⟨v' :: vs', VRels.cons hv hvs', ?_⟩
    rw [List.mapM_cons]
    simp only [Sem.run_bind, hrun, Result.andThen, hrun', Sem.run_pure]
  | [], _ :: _, _, hok, _ => by simp [resOk] at hok
  | _ :: _, [], _, hok, _ => by simp [resOk] at hok

theorem results_sim {F : Func} {xs : List XRes} (hok : resOk X xs F.results.toList = true) (hf : FRel ι fr a nt) (hw : WRel X ι st w) {out : List Value} (h : evRes fr st xs = some out) :
    ∃ v', VRel ι (one out (fun v => v) (.tuple ⟨out⟩)) v' ∧ (results F a.tmps).run X.P w = .ok v' w := by
  obtain ⟨vs', hv, hrun⟩ := res_sim hf hw xs F.results.toList out hok h
  have hr : (results F a.tmps) = (do let vs ← F.results.mapM (readRes a.tmps); pure (if h : vs.size = 1 then vs[0] else .tuple vs)) := by
    unfold results
    congr 2
  rw [hr]
  have hm : (F.results.mapM (readRes a.tmps)).run X.P w = .ok vs'.toArray w := by
    rw [Array.mapM_eq_mapM_toList]
    rw [Sem.run_map, hrun]
    rfl
  simp only [Sem.run_bind, hm, Result.andThen, Sem.run_pure]
  refine ⟨_, ?_, rfl⟩
  cases out with
  | nil => rw [hv.nil_inv]; exact VRel.of_tuple (VRels.nil ι)
  | cons v vs =>
    obtain ⟨y, ys, rfl, h1, h2⟩ := hv.cons_inv
    cases vs with
    | nil => rw [h2.nil_inv]; exact h1
    | cons v2 vs2 =>
      obtain ⟨y2, ys2, rfl, h3, h4⟩ := h2.cons_inv
      rw [dif_neg (by simp)]
      exact VRel.of_tuple (xs := ⟨v :: v2 :: vs2⟩) (VRels.cons h1 (VRels.cons h3 h4))
end
end Go.AM
namespace Go.AM
variable {X : Ctx} {call : CallT}

/-- What a frame comes to in the end. -/
def FinishTo (X : Ctx) (ι : Inj) (w : World) (b : Base) (CS : Bool → List Frame) (s : Machine) : FR → Prop
  | .ret v st' tk => ∃ κ v' w' F, VRel κ v v' ∧ WRel X κ st' w' ∧ Keeps ι κ w w' ∧ F.kind = b.kind ∧ F.fn = b.fn ∧ Frame.going X.P F w' (.returned v') ∧ Steps X.P s (lone F (CS tk) w')
  | .pan v st' tk => ∃ κ v' w' F, VRel κ v v' ∧ WRel X κ st' w' ∧ Keeps ι κ w w' ∧ F.kind = b.kind ∧ F.fn = b.fn ∧ Frame.going X.P F w' (.panicked [{ v := v', recovered := false }]) ∧ Steps X.P s (lone F (CS tk) w')
  | .no => True

theorem FinishTo.head {ι κ : Inj} {w w' : World} {b : Base} {CS : Bool → List Frame} {s s' : Machine} {r : FR} (h : Steps X.P s s') (hk : Keeps ι κ w w') (h' : FinishTo X κ w' b CS s' r) : FinishTo X ι w b CS s r := by
  cases r with
  | no => trivial
  | ret v st tk => obtain ⟨μ, v', w'', F, h1, h2, h3, h4, h5, h6, h7⟩ := h'; exact ⟨μ, v', w'', F, h1, h2, hk.trans h3, h4, h5, h6, h.trans h7⟩
  | pan v st tk => obtain ⟨μ, v', w'', F, h1, h2, h3, h4, h5, h6, h7⟩ := h'; exact ⟨μ, v', w'', F, h1, h2, hk.trans h3, h4, h5, h6, h.trans h7⟩

/-- Calls of functions that are evaluated well stand for the model's, however they are called. -/
def FnSim (X : Ctx) (call : CallT) : Prop :=
  ∀ (ι : Inj) (f : FuncId) (first capt : Array Value) (args : List Value) (pan : Option Value) (st : St) (first' capt' : Array Value) (args' : List Value) (w : World),
    VRels ι first.toList first'.toList → VRels ι args args' → VRels ι capt.toList capt'.toList → WRel X ι st w → call (.func (.func f) first capt) args pan st ≠ .no →
    (∀ as w, (callFunc f as).run X.P w = .ok (.enter f as) w) ∧
    ∀ (K : CallKind) (CS : Bool → List Frame), RecFam ⟨f, K, none⟩ pan ι CS → FinishTo X ι w ⟨f, K, none⟩ CS (lone (Frame.enter X.P f (first' ++ args'.toArray ++ capt') K) (CS false) w) (call (.func (.func f) first capt) args pan st)

def ModeRel (κ : Inj) : Option Value → FrameMode → Prop
  | none, m => m = .returning
  | some v, m => ∃ v', VRel κ v v' ∧ m = .panicking [{ v := v', recovered := false }]
theorem ModeRel.mono {ι κ : Inj} (hle : ι.le κ) {m : Option Value} {md : FrameMode} (h : ModeRel ι m md) : ModeRel κ m md := by
  cases m with
  | none => exact h
  | some v => obtain ⟨v', h1, h2⟩ := h; exact ⟨v', h1.mono hle, h2⟩
theorem ModeRel.not_run {ι : Inj} {m : Option Value} {md : FrameMode} (h : ModeRel ι m md) : md ≠ .run := by
  cases m with
  | none => rw [show md = .returning from h]; simp
  | some v => obtain ⟨v', _, h2⟩ := h; rw [h2]; simp

theorem unwind_sim (hfn : FnSim X call) : ∀ (ds : List Deferred) (m : Option Value) (st : St) (r : Option Value × St), unwindX call ds m st = some r → ∀ (ι : Inj) (w : World) (F : Frame) (cs : List Frame), DRels ι ds F.defers → ModeRel ι m F.mode → WRel X ι st w →
    ∃ κ w' md, Steps X.P (lone F cs w) (lone { F with defers := [], mode := md } cs w') ∧ ModeRel κ r.1 md ∧ WRel X κ r.2 w' ∧ Keeps ι κ w w'
  | [], m, st, r, h, ι, w, F, cs, hd, hm, hw => by
    have h' : some (m, st) = some r := h
    cases h'
    have hF : F.defers = [] := by
      cases hdf : F.defers with
      | nil => rfl
      | cons d ds => rw [hdf] at hd; exact hd.elim
    refine ⟨ι, w, F.mode, ?_, hm, hw, .refl _ _⟩
    have : ({ F with defers := [], mode := F.mode } : Frame) = F := by cases F; simp only at hF; subst hF; rfl
    rw [this]; exact .refl _ _
  | ⟨t, args⟩ :: ds, m, st, r, h, ι, w, F, cs, hd, hm, hw => by
    cases hdf : F.defers with
    | nil => rw [hdf] at hd; exact hd.elim
    | cons e es =>
      rw [hdf] at hd
      obtain ⟨⟨hargs, htar⟩, hds⟩ := hd
      cases t with
      | collected rr =>
        cases het : e.target with
        | collected bb =>
          rw [het] at htar
          simp only [unwindX] at h
          split at h
          · rename_i hget
            rw [setO_eq] at h
            obtain ⟨l, hl, _, _, hmm⟩ := hw.objs _ _ hget (by simp)
            have e1 := htar.symm.trans hl
            cases e1
            rcases hmm with ⟨_, hheap⟩ | ⟨hc, _⟩
            · have hlt : bb < w.heap.size := hw.bnd _ _ hl
              have htake : (Instr.takeDeferred bb).run X.P w = .ok [] (w.putObj bb (.deferred none)) := run_takeDeferred hheap
              have hstep := step_collected (P := X.P) (cs := cs) hm.not_run hdf het htake
              obtain ⟨hw', hk'⟩ := hw.turn X hget (by simp) (fun hf => hf) hl (.defd none) (.deferred none) (w.putObj bb (.deferred none)) rfl (fun _ ht => ⟨rfl, rfl, .inr ⟨rfl, ht⟩⟩)
              obtain ⟨κ, w', md, hs, g1, g2, g3⟩ := unwind_sim hfn ds m _ r h ι _ { F with defers := [] ++ es } cs (by simpa using hds) hm hw'
              exact ⟨κ, w', md, .head hstep hs, g1, g2, hk'.trans g3⟩
            · cases hc
          · cases h
        | _ => rw [het] at htar; exact htar.elim
      | fn fv capt =>
        cases het : e.target with
        | fn gv capt' =>
          rw [het] at htar
          obtain ⟨hfv, hcap⟩ := htar
          cases fv with
          | func g =>
            rcases hfv with ⟨rfl, _⟩ | ⟨l, b, h1, _⟩
            · have hne : call (.func (.func g) #[] capt) args.toList m st ≠ .no := by
                intro hno
                simp only [unwindX, hno] at h
                cases h
              obtain ⟨hcall, hfin⟩ := hfn ι g #[] capt args.toList m st #[] capt' e.args.toList w (VRels.nil ι) hargs hcap hw hne
              have hinv : (invoke e.target e.args).run X.P w = .ok (.enter g (e.args ++ capt')) w := by
                rw [het]; exact hcall _ _
              have hstep := step_defer (cs := cs) hm.not_run hdf het hinv
              have hargs' : (#[] ++ e.args.toList.toArray ++ capt' : Array Value) = e.args ++ capt' := by simp
              rw [hargs'] at hfin
              -- the callers, before and after recover
              cases m with
              | none =>
                have hmode : F.mode = .returning := hm
                have hfin' := hfin .deferred (fun _ => { F with defers := es } :: cs) (fun G tk hG => by
                  show tryRecover G ({ F with defers := es } :: cs) = none
                  have hG' : G.kind = .deferred := hG
                  rw [tryRecover_deferred hG']
                  simp [recoverD, hmode])
                cases hc : call (.func (.func g) #[] capt) args.toList none st with
                | no => exact absurd hc hne
                | ret v st1 tk =>
                  rw [hc] at hfin'
                  have h' : unwindX call ds none st1 = some r := by
                    simp only [unwindX, hc] at h
                    exact h
                  obtain ⟨κ, v', w', G, _, hw', hk, hkind, _, hgo, hs⟩ := hfin'
                  have hst2 := step_going_returned (P := X.P) (c := { F with defers := es }) (cs := cs) hkind hgo
                  have hset : settle ({ F with defers := es } : Frame).mode = .returning := by
                    show settle F.mode = _
                    rw [hmode]; rfl
                  rw [hset] at hst2
                  obtain ⟨κ', w'', md, hs', g1, g2, g3⟩ := unwind_sim hfn ds none st1 r h' κ w' { { F with defers := es } with mode := .returning } cs (hds.mono hk.le) (show ModeRel κ none .returning from rfl) hw'
                  exact ⟨κ', w'', md, (Steps.head hstep hs).trans (.head hst2 hs'), g1, g2, hk.trans g3⟩
                | pan v st1 tk =>
                  rw [hc] at hfin'
                  have h' : unwindX call ds (some v) st1 = some r := by
                    simp only [unwindX, hc] at h
                    exact h
                  obtain ⟨κ, v', w', G, hv, hw', hk, hkind, _, hgo, hs⟩ := hfin'
                  have hst2 := step_going_panicked (P := X.P) (c := { F with defers := es }) (cs := cs) hgo
                  have hset : raised ({ F with defers := es } : Frame).mode [{ v := v', recovered := false }] = .panicking [{ v := v', recovered := false }] := by
                    show raised F.mode _ = _
                    rw [hmode]; rfl
                  rw [hset] at hst2
                  obtain ⟨κ', w'', md, hs', g1, g2, g3⟩ := unwind_sim hfn ds (some v) st1 r h' κ w' { { F with defers := es } with mode := .panicking [{ v := v', recovered := false }] } cs (hds.mono hk.le) ⟨v', hv, rfl⟩ hw'
                  exact ⟨κ', w'', md, (Steps.head hstep hs).trans (.head hst2 hs'), g1, g2, hk.trans g3⟩
              | some pv =>
                obtain ⟨pv', hpv, hmode⟩ := hm
                have hfin' := hfin .deferred (fun tk => { F with defers := es, mode := .panicking [{ v := pv', recovered := tk }] } :: cs) ⟨pv', hpv, fun G hG => by
                  have hG' : G.kind = .deferred := hG
                  rw [tryRecover_deferred hG']
                  simp [recoverD], fun G hG => by
                  have hG' : G.kind = .deferred := hG
                  rw [tryRecover_deferred hG']
                  simp [recoverD]⟩
                have hF0 : ({ F with defers := es, mode := .panicking [{ v := pv', recovered := false }] } : Frame) = { F with defers := es } := by rw [← hmode]
                rw [hF0] at hfin'
                cases hc : call (.func (.func g) #[] capt) args.toList (some pv) st with
                | no => exact absurd hc hne
                | ret v st1 tk =>
                  rw [hc] at hfin'
                  obtain ⟨κ, v', w', G, _, hw', hk, hkind, _, hgo, hs⟩ := hfin'
                  have hst2 := step_going_returned (P := X.P) (c := { F with defers := es, mode := .panicking [{ v := pv', recovered := tk }] }) (cs := cs) hkind hgo
                  cases tk with
                  | true =>
                    have h' : unwindX call ds none st1 = some r := by
                      simp only [unwindX, hc] at h
                      exact h
                    have hset : settle ({ F with defers := es, mode := .panicking [{ v := pv', recovered := true }] } : Frame).mode = .returning := rfl
                    rw [hset] at hst2
                    obtain ⟨κ', w'', md, hs', g1, g2, g3⟩ := unwind_sim hfn ds none st1 r h' κ w' { { F with defers := es } with mode := .returning } cs (hds.mono hk.le) (show ModeRel κ none .returning from rfl) hw'
                    exact ⟨κ', w'', md, (Steps.head hstep hs).trans (.head hst2 hs'), g1, g2, hk.trans g3⟩
                  | false =>
                    have h' : unwindX call ds (some pv) st1 = some r := by
                      simp only [unwindX, hc] at h
                      exact h
                    have hset : settle ({ F with defers := es, mode := .panicking [{ v := pv', recovered := false }] } : Frame).mode = .panicking [{ v := pv', recovered := false }] := rfl
                    rw [hset] at hst2
                    obtain ⟨κ', w'', md, hs', g1, g2, g3⟩ := unwind_sim hfn ds (some pv) st1 r h' κ w' { { F with defers := es } with mode := .panicking [{ v := pv', recovered := false }] } cs (hds.mono hk.le) ⟨pv', hpv.mono hk.le, rfl⟩ hw'
                    exact ⟨κ', w'', md, (Steps.head hstep hs).trans (.head hst2 hs'), g1, g2, hk.trans g3⟩
                | pan v st1 tk =>
                  exfalso
                  simp only [unwindX, hc] at h
                  cases h
            · cases h1
          | _ => simp [unwindX] at h
        | _ => rw [het] at htar; exact htar.elim
      | _ => simp [unwindX] at h
end Go.AM
namespace Go.AM
variable {X : Ctx} {call : CallT}

section
variable {P : Program} {b : Base} {a : Act} {k : List Item} {cs : List Frame} {w : World}
def Base.returns (b : Base) (a : Act) (td : List Item) : Frame := { b.at a td with mode := .returning }
theorem st_end (hb : b.rnd = none) : step P (lone (b.at a []) cs w) = .next (lone (b.returns a []) cs w) := step_lone_go (by simp [stepG, stepG.exec, Base.at, Base.returns, hb])
theorem st_ret (hb : b.rnd = none) : step P (lone (b.at a (.code .ret :: k)) cs w) = .next (lone (b.returns a (.code .ret :: k)) cs w) := step_lone_go (by simp [stepG, stepG.exec, Base.at, Base.returns, hb])
end

theorem args0_get : ∀ (vs : List Value) (i : Nat) (t : PM Value) (j : Nat), (args0 vs i t).get j = if i ≤ j ∧ j < i + vs.length then vs[j - i]? else t.get j
  | [], i, t, j => by rw [if_neg (by simp)]; rfl
  | v :: vs, i, t, j => by
    show (PM.setK (Nat.succ i) t i v fun t => args0 vs (Nat.succ i) t).get j = _
    rw [PM.setK_eq, args0_get vs (Nat.succ i) _ j, PM.get_set]
    by_cases e : j = i
    · subst e
      rw [if_neg (by omega), if_pos rfl, if_pos (by simp)]; simp
    · by_cases h : Nat.succ i ≤ j ∧ j < Nat.succ i + vs.length
      · rw [if_pos h, if_pos (by simp only [List.length_cons]; omega)]
        obtain ⟨h1, _⟩ := h
        have : j - i = (j - Nat.succ i) + 1 := by omega
        rw [this]; simp
      · rw [if_neg h, if_neg e, if_neg (by simp only [List.length_cons]; omega)]

theorem enter_rel {ι : Inj} {as as' : List Value} {nt : Nat} {pan : Option Value} {tk : Bool} {rnd : Option Nat} (h : VRels ι as as') (hn : as.length ≤ nt) :
    FRel ι ⟨args0 as 0 .nil, [], pan, tk, rnd⟩ ⟨as'.toArray ++ Array.replicate (nt - as'.toArray.size) undef, []⟩ nt := by
  refine ⟨fun t => ?_, by simp [← h.1]; omega, trivial⟩
  show VRel ι (Option.rec (motive := fun _ => Value) (.chan (some 0)) (fun v => v) ((args0 as 0 .nil).get t)) _
  rw [args0_get]
  by_cases ht : t < as.length
  · rw [if_pos ⟨Nat.zero_le _, by omega⟩]
    have ht' : t < as'.length := by rw [← h.1]; exact ht
    have := h.2 t ht ht'
    simp only [Nat.sub_zero, List.getElem?_eq_getElem ht]
    have hg : (as'.toArray ++ Array.replicate (nt - as'.toArray.size) undef).getD t undef = as'[t] := by
      simp [Array.getElem?_append, ht']
    rw [hg]
    exact this
  · rw [if_neg (by omega)]
    exact .top _

section
variable {b : Base} {CS : Bool → List Frame} {ι : Inj} {fr : AFr} {a : Act} {nt : Nat} {st : St} {w : World}

/-- The end of a call. -/
theorem finish_sim (hfn : FnSim X call) {Fn : Func} {res : List XRes} {m : Option Value} {F : Frame} (hF : X.P.funcs[b.fn]? = some Fn) (hres : resOk X res Fn.results.toList = true) (hf : FRel ι fr a nt) (hw : WRel X ι st w)
    (h1 : F.tmps = a.tmps) (h2 : F.defers = a.defers) (h3 : F.kind = b.kind) (h4 : F.fn = b.fn) (hm : ModeRel ι m F.mode) : FinishTo X ι w b CS (lone F (CS fr.took) w) (finishX call res m fr st) := by
  unfold finishX
  cases hu : unwindX call fr.df m st with
  | none => trivial
  | some p =>
    obtain ⟨m', st'⟩ := p
    obtain ⟨κ, w', md, hs, g1, g2, g3⟩ := unwind_sim hfn fr.df m st (m', st') hu ι w F (CS fr.took) (by rw [h2]; exact hf.df) hm hw
    cases m' with
    | some v =>
      obtain ⟨v', hv, hmd⟩ := g1
      exact ⟨κ, v', w', { F with defers := [], mode := md }, hv, g2, g3, h3, h4, ⟨hmd, rfl, Fn, by show X.P.funcs[F.fn]? = _; rw [h4]; exact hF⟩, hs⟩
    | none =>
      have hmd : md = .returning := g1
      show FinishTo X ι w b CS _ (oK (evRes fr st' res) (fun vs => one vs (fun v => .ret v st' fr.took) (.ret (.tuple ⟨vs⟩) st' fr.took)) .no)
      cases he : evRes fr st' res with
      | none => trivial
      | some out =>
        have hf' : FRel κ ⟨fr.t, [], fr.pan, fr.took, fr.rnd⟩ ⟨a.tmps, []⟩ nt := ⟨fun t => (hf.tmp t).mono g3.le, hf.size, trivial⟩
        obtain ⟨v', hv, hrun⟩ := results_sim (F := Fn) hres hf' g2 (show evRes ⟨fr.t, [], fr.pan, fr.took, fr.rnd⟩ st' res = some out from he)
        have hone : oK (some out) (fun vs => one vs (fun v => FR.ret v st' fr.took) (.ret (.tuple ⟨vs⟩) st' fr.took)) .no = .ret (one out (fun v => v) (.tuple ⟨out⟩)) st' fr.took := by
          cases out with
          | nil => rfl
          | cons x xs => cases xs <;> rfl
        rw [hone]
        refine ⟨κ, v', w', { F with defers := [], mode := md }, hv, g2, g3, h3, h4, ⟨hmd, rfl, Fn, by show X.P.funcs[F.fn]? = _; rw [h4]; exact hF, ?_⟩, hs⟩
        show (results Fn F.tmps).run X.P w' = _
        rw [h1]; exact hrun

/-- A function's translation. -/
structure FnOk (X : Ctx) (f : FuncId) (xf : XFn) (Fn : Func) (c : Code) : Prop where
  fn : X.P.funcs[f]? = some Fn
  body : Fn.body = some c
  nt : Fn.ntmps = xf.nt
  code : codeOk X xf.nt xf.body c = true
  res : resOk X xf.res Fn.results.toList = true
  name : (Fn.name == "runtime.NumGoroutine") = false

theorem FnOk.enters {f : FuncId} {xf : XFn} {Fn : Func} {body : Code} (h : FnOk X f xf Fn body) (as : Array Value) (w : World) : (callFunc f as).run X.P w = .ok (.enter f as) w := by
  have hn := h.name
  simp only [callFunc, program, Sem.run_bind]
  simp [Sem.run, h.fn, h.body, hn, Result.andThen]

theorem body_sim (hG : Good X) (hcs : CallSim X call) (hfn : FnSim X call) (hrng : ∀ b nt CS, b.rnd = none → RngSim X call b nt CS) {f : FuncId} {xf : XFn} {Fn : Func} {body : Code} (ok : FnOk X f xf Fn body) (n : Nat) {K : CallKind} {as as' : List Value} {pan : Option Value}
    (has : VRels ι as as') (hw : WRel X ι st w) (hr : RecFam ⟨f, K, none⟩ pan ι CS) : FinishTo X ι w ⟨f, K, none⟩ CS (lone (Frame.enter X.P f as'.toArray K) (CS false) w) (bodyX call n f xf as pan st) := by
  unfold bodyX
  rw [leK_eq]
  split
  · rename_i hlen
    rw [lenX_eq] at hlen
    let b : Base := ⟨f, K, none⟩
    have hen : Frame.enter X.P f as'.toArray K = b.at ⟨as'.toArray ++ Array.replicate (xf.nt - as'.toArray.size) undef, []⟩ [.code body] := by
      simp [Frame.enter, Base.at, ok.fn, ok.body, ok.nt, b]
    rw [hen]
    have hsim := code_sim (b := b) (CS := CS) hG hcs (hrng b xf.nt CS rfl) ⟨Fn, ok.fn, ok.nt⟩ n xf.body body ι ⟨args0 as 0 .nil, [], pan, false, none⟩ ⟨as'.toArray ++ Array.replicate (xf.nt - as'.toArray.size) undef, []⟩ st w [] ok.code (enter_rel has hlen) hw (.inl ⟨rfl, rfl⟩) hr
    cases hev : evCode call n f xf.body ⟨args0 as 0 .nil, [], pan, false, none⟩ st with
    | no => trivial
    | out e fr' st' =>
      have hev' : evCode call n b.fn xf.body ⟨args0 as 0 .nil, [], pan, false, none⟩ st = .out e fr' st' := hev
      rw [hev'] at hsim
      obtain ⟨κ, a', w', h1, h2, h3, _, _, h6⟩ := hsim
      cases e with
      | norm =>
        refine FinishTo.head (Steps.trans h6 (.one (st_end rfl))) h3 ?_
        exact finish_sim (b := b) (a := a') (F := b.returns a' []) (nt := xf.nt) hfn ok.fn ok.res h1 h2 rfl rfl rfl rfl (show ModeRel κ none .returning from rfl)
      | exit id => trivial
      | ret =>
        obtain ⟨td, h7⟩ := h6
        refine FinishTo.head (Steps.trans h7 (.one (st_ret rfl))) h3 ?_
        exact finish_sim (b := b) (a := a') (F := b.returns a' (.code .ret :: td)) (nt := xf.nt) hfn ok.fn ok.res h1 h2 rfl rfl rfl rfl (show ModeRel κ none .returning from rfl)
      | pan v =>
        obtain ⟨v', td, hv, h7⟩ := h6
        refine FinishTo.head h7 h3 ?_
        exact finish_sim (b := b) (a := a') (F := b.panics a' td v') (nt := xf.nt) hfn ok.fn ok.res h1 h2 rfl rfl rfl rfl ⟨v', hv, rfl⟩
  · trivial
end
end Go.AM
namespace Go.AM
variable {X : Ctx} {call : CallT}

theorem loopK_inv {β : Type} {o : Option AObj} {k : LoopState → Option XExit → FuncId → PM Value → List Tmp → XCode → XCode → Nat → β} {z r : β} (h : loopK o k z = r) (hz : z ≠ r) :
    ∃ s pend fn t ps a b d, o = some (.loop s pend fn t ps a b d) ∧ k s pend fn t ps a b d = r := by
  unfold loopK at h
  obtain ⟨ob, ho, h1⟩ := oK_inv h hz
  cases ob <;> first | exact absurd h1 hz | exact ⟨_, _, _, _, _, _, _, _, ho, h1⟩

section
variable {P : Program} {b : Base} {a : Act} {k : List Item} {c : Frame} {cs : List Frame} {w w' : World} {l : Nat}
theorem st_beginRound (hb : b.rnd = some l) (h : (Instr.beginRound l).run P w = .ok () w') : step P (lone (b.at a (.beginRound :: k)) cs w) = .next (lone (b.at a k) cs w') :=
  step_lone_go (by simp [stepG, stepG.exec, stepG.apply, Base.at, hb, h, Result.andThen, Frame.finish])
theorem st_round_end {v : Value} (hb : b.rnd = some l) (hk : b.kind = .normal) (h : (Instr.endRound l none).run P w = .ok v w') : step P (lone (b.at a []) (c :: cs) w) = .next (lone (c.finish v) cs w') :=
  step_lone_go (by simp [stepG, stepG.exec, Base.at, hb, hk, h, doReturn])
theorem st_round_ret {v : Value} (hb : b.rnd = some l) (hk : b.kind = .normal) (h : (Instr.endRound l (some .ret)).run P w = .ok v w') : step P (lone (b.at a (.code .ret :: k)) (c :: cs) w) = .next (lone (c.finish v) cs w') :=
  step_lone_go (by simp [stepG, stepG.exec, Base.at, hb, hk, h, doReturn])
theorem st_round_exit {v : Value} {i : Nat} (hb : b.rnd = some l) (hk : b.kind = .normal) (hx : exitTo i k = none) (h : (Instr.endRound l (some (.exit i))).run P w = .ok v w') : step P (lone (b.at a (.code (.exit i) :: k)) (c :: cs) w) = .next (lone (c.finish v) cs w') :=
  step_lone_go (by simp [stepG, stepG.exec, Base.at, hb, hk, hx, h, doReturn])
end

theorem params_rel {ι : Inj} : ∀ (ps : List Tmp) (vs vs' : List Value) (m : PM Value) (arr : Array Value), (∀ n, VRel ι (tmpOf m n) (arr.getD n undef)) → VRels ι vs vs' → vs.length = ps.length → (∀ t ∈ ps, t < arr.size) →
    (∀ n, VRel ι (tmpOf (putParams ps vs m) n) (((ps.zip vs').foldl (fun tmps (p : Tmp × Value) => tmps.setIfInBounds p.1 p.2) arr).getD n undef)) ∧ ((ps.zip vs').foldl (fun tmps (p : Tmp × Value) => tmps.setIfInBounds p.1 p.2) arr).size = arr.size
  | [], _, _, m, arr, h, _, _, _ => ⟨h, rfl⟩
  | t :: ps, [], _, _, _, _, _, hl, _ => by simp at hl
  | t :: ps, v :: vs, vs', m, arr, h, hv, hl, hlt => by
    obtain ⟨y, ys, rfl, h1, h2⟩ := hv.cons_inv
    have ht : t < arr.size := hlt t List.mem_cons_self
    have hstep : ∀ n, VRel ι (tmpOf (m.set t v) n) ((arr.setIfInBounds t y).getD n undef) := by
      intro n
      have hn := h n
      unfold tmpOf at hn ⊢
      rw [PM.get_set]
      by_cases e : n = t
      · subst e
        rw [if_pos rfl]
        have : (arr.setIfInBounds n y).getD n undef = y := by simp [ht]
        rw [this]; exact h1
      · rw [if_neg e]
        have : (arr.setIfInBounds t y).getD n undef = arr.getD n undef := by
          simp [Array.getElem?_setIfInBounds_ne (Ne.symm e)]
        rw [this]; exact hn
    obtain ⟨g1, g2⟩ := params_rel ps vs ys (m.set t v) (arr.setIfInBounds t y) hstep h2 (by simpa using hl) (fun u hu => by simpa using hlt u (List.mem_cons_of_mem _ hu))
    have hp : putParams (t :: ps) (v :: vs) m = putParams ps vs (m.set t v) := by
      show PM.setK (Nat.succ t) m t v (fun m => putParams ps vs m) = _
      rw [PM.setK_eq]
    rw [hp]
    refine ⟨g1, ?_⟩
    rw [List.zip_cons_cons, List.foldl_cons, g2]
    simp

/-- What a loop's record says. -/
theorem WRel.loop {ι : Inj} {st : St} {w : World} (hw : WRel X ι st w) {l l' : Nat} {s : LoopState} {pend : Option XExit} {fn : FuncId} {t : PM Value} {ps : List Tmp} {asg body : XCode} {d : Nat} (h : st.h.get l = some (.loop s pend fn t ps asg body d)) (hl : ι l = some ⟨l', 0, 0, id⟩) :
    ∃ L : Loop, w.heap[l']? = some (.loop L) ∧ L.state = s ∧ JumpRel pend L.pending ∧ L.fn = fn ∧ (∀ n, VRel ι (tmpOf t n) (L.tmps.getD n undef)) ∧ L.params.toList = ps ∧ X.ok fn L.assign asg ∧ X.ok fn L.body body ∧ ι d = some ⟨L.defers, 0, 0, id⟩ ∧
      (∃ F, X.P.funcs[fn]? = some F ∧ L.tmps.size = F.ntmps) ∧ ∀ t ∈ ps, t < L.tmps.size := by
  obtain ⟨m, hm, _, _, L, hL⟩ := hw.objs _ _ h (by simp)
  have e := hl.symm.trans hm
  cases e
  exact ⟨L, hL⟩

/-- A loop's record gets another state. -/
theorem WRel.loop_set {ι : Inj} {st : St} {w : World} (hw : WRel X ι st w) {l l' : Nat} {s : LoopState} {pend : Option XExit} {fn : FuncId} {t : PM Value} {ps : List Tmp} {asg body : XCode} {d : Nat} (h : st.h.get l = some (.loop s pend fn t ps asg body d)) (hl : ι l = some ⟨l', 0, 0, id⟩)
    {L : Loop} (hL : w.heap[l']? = some (.loop L)) (s' : LoopState) (pend' : Option XExit) (jump : Option Code) (hj : JumpRel pend' jump) :
    WRel X ι ⟨st.h.set l (.loop s' pend' fn t ps asg body d), st.nx⟩ (w.putObj l' (.loop { L with state := s', pending := jump })) ∧ Keeps ι ι w (w.putObj l' (.loop { L with state := s', pending := jump })) := by
  obtain ⟨L0, h0, h1, h2, h3, h4, h5, h6, h7, h8, h9, h10⟩ := hw.loop h hl
  rw [hL] at h0
  cases h0
  exact hw.turn X h (by simp) (fun hf => hf) hl _ (.loop { L with state := s', pending := jump }) _ rfl fun _ ht => ⟨rfl, rfl, { L with state := s', pending := jump }, ht, rfl, hj, h3, h4, h5, h6, h7, h8, h9, h10⟩

section
variable {ι : Inj} {st : St} {w : World}

/-- The end of a round, for whoever called. -/
theorem round_end {b : Base} {nt l l' : Nat} {Fn : Func} {c : Frame} {cs : List Frame} {s : Machine} {fr1 : AFr} {κ : Inj} {w1 : World} {r : CR} (hFn : X.P.funcs[b.fn]? = some Fn) (hbr : b.rnd = some l') (hbk : b.kind = .normal) (hl : κ l = some ⟨l', 0, 0, id⟩)
    (h : Arr X b nt (fun _ => c :: cs) s [] fr1 κ w1 r) :
    match roundEnd l r with
    | .ret v st' _ => ∃ μ v' w', VRel μ v v' ∧ WRel X μ st' w' ∧ Keeps κ μ w1 w' ∧ Steps X.P s (lone (c.finish v') cs w')
    | .pan v st' _ => ∃ μ v' w', VRel μ v v' ∧ WRel X μ st' w' ∧ Keeps κ μ w1 w' ∧ Steps X.P s (lone (c.raise [{ v := v', recovered := false }]) cs w')
    | .no => True := by
  cases r with
  | no => trivial
  | out e fr st =>
    obtain ⟨μ, a, w, hf, hw, hk, _, _, hx⟩ := h
    have hl1 := hk.le _ _ hl
    cases hdf : fr.df with
    | cons d ds =>
      have : roundEnd l (.out e fr st) = .no := by show List.rec (motive := fun _ => FR) _ _ fr.df = _; rw [hdf]
      rw [this]; trivial
    | nil =>
      have had : a.defers = [] := by
        have := hf.df
        rw [hdf] at this
        cases ha : a.defers with
        | nil => rfl
        | cons d ds => rw [ha] at this; exact this.elim
      have key : ∀ (s' : LoopState) (pend : Option XExit) (jump : Option Code) (v : Value), JumpRel pend jump →
          (∀ L, w.heap[l']? = some (.loop L) → ∃ w', w' = w.putObj l' (.loop { L with state := s', pending := jump }) ∧ Steps X.P s (lone (c.finish v) cs w')) → VRel μ v v →
          match loopK (st.h.get l) (fun _ _ fn t ps a b d => st.setO l (.loop s' pend fn t ps a b d) fun st => FR.ret v st false) .no with
          | .ret v st' _ => ∃ μ v' w', VRel μ v v' ∧ WRel X μ st' w' ∧ Keeps κ μ w1 w' ∧ Steps X.P s (lone (c.finish v') cs w')
          | .pan v st' _ => ∃ μ v' w', VRel μ v v' ∧ WRel X μ st' w' ∧ Keeps κ μ w1 w' ∧ Steps X.P s (lone (c.raise [{ v := v', recovered := false }]) cs w')
          | .no => True := by
        intro s' pend jump v hj hst hv
        by_cases hno : loopK (st.h.get l) (fun _ _ fn t ps a b d => st.setO l (.loop s' pend fn t ps a b d) fun st => FR.ret v st false) .no = .no
        · rw [hno]; trivial
        · obtain ⟨s0, p0, fn0, t0, ps0, a0, b0, d0, hget, h1⟩ := loopK_inv rfl (fun e => hno e.symm)
          rw [← h1, setO_eq]
          obtain ⟨L, hL, _⟩ := hw.loop hget hl1
          obtain ⟨w', hw', hs'⟩ := hst L hL
          obtain ⟨g1, g2⟩ := hw.loop_set hget hl1 hL s' pend jump hj
          exact ⟨μ, v, w', hv, by rw [hw']; exact g1, by rw [hw']; exact hk.trans g2, hs'⟩
      cases e with
      | norm =>
        have : roundEnd l (.out .norm fr st) = loopK (st.h.get l) (fun _ _ fn t ps a b d => st.setO l (.loop .ready none fn t ps a b d) fun st => FR.ret (.bool true) st false) .no := by
          show List.rec (motive := fun _ => FR) _ _ fr.df = _; rw [hdf]
        rw [this]
        exact key .ready none none (.bool true) trivial (fun L hL => ⟨_, rfl, Steps.trans hx (.one (st_round_end hbr hbk (run_endRound none hL)))⟩) (.bool true)
      | exit i =>
        have : roundEnd l (.out (.exit i) fr st) = loopK (st.h.get l) (fun _ _ fn t ps a b d => st.setO l (.loop .done (some (.exit i)) fn t ps a b d) fun st => FR.ret (.bool false) st false) .no := by
          show List.rec (motive := fun _ => FR) _ _ fr.df = _; rw [hdf]
        rw [this]
        obtain ⟨td, htd, hx'⟩ := hx
        exact key .done (some (.exit i)) (some (.exit i)) (.bool false) rfl (fun L hL => ⟨_, rfl, Steps.trans hx' (.one (st_round_exit hbr hbk (by rw [htd]; rfl) (run_endRound (some (.exit i)) hL)))⟩) (.bool false)
      | ret =>
        have : roundEnd l (.out .ret fr st) = loopK (st.h.get l) (fun _ _ fn t ps a b d => st.setO l (.loop .done (some .ret) fn t ps a b d) fun st => FR.ret (.bool false) st false) .no := by
          show List.rec (motive := fun _ => FR) _ _ fr.df = _; rw [hdf]
        rw [this]
        obtain ⟨td, hx'⟩ := hx
        exact key .done (some .ret) (some .ret) (.bool false) trivial (fun L hL => ⟨_, rfl, Steps.trans hx' (.one (st_round_ret hbr hbk (run_endRound (some .ret) hL)))⟩) (.bool false)
      | pan v =>
        have : roundEnd l (.out (.pan v) fr st) = .pan v st false := by
          show List.rec (motive := fun _ => FR) _ _ fr.df = _; rw [hdf]
        rw [this]
        obtain ⟨v', td, hv, hx'⟩ := hx
        refine ⟨μ, v', w, hv, hw, hk, Steps.trans hx' (.one (step_leave_panicked (fr := b.panics a td v') ⟨rfl, had, Fn, hFn⟩))⟩

theorem yield_sim (hG : Good X) (hcs : CallSim X call) (hrng : ∀ b nt CS, RngSim X call b nt CS) {n l l' : Nat} {args args' : List Value} (hl : ι l = some ⟨l', 0, 0, id⟩) (ha : VRels ι args args') (hw : WRel X ι st w) (hne : yieldX call n l args st ≠ .no) :
    ∃ fn ts asg body, (Instr.yield l' args'.toArray).run X.P w = .ok (.round l' fn ts asg body) w ∧ ∀ c cs, OutRel X ι w (Frame.round l' fn ts asg body .normal) c cs (yieldX call n l args st) := by
  unfold yieldX at hne ⊢
  obtain ⟨s, pend, fn, t, ps, asg, body, d, hget, h1⟩ := loopK_inv rfl (fun e => hne e.symm)
  rw [← h1] at hne ⊢
  obtain ⟨hlen, h2⟩ := eqK_inv rfl (fun e => hne e.symm)
  rw [← h2] at hne ⊢
  rw [lenX_eq, lenX_eq] at hlen
  obtain ⟨L, hL, hs, hj, hfn, htm, hps, hasg, hbody, hd, ⟨Fn, hFn, hsz⟩, hlt⟩ := hw.loop hget hl
  have hsize : args'.toArray.size = L.params.size := by
    have : L.params.size = ps.length := by rw [← hps]; simp
    rw [this, ← hlen]; simpa using ha.1.symm
  refine ⟨L.fn, _, L.assign, L.body, run_yield hL hsize, fun c cs => ?_⟩
  subst hfn
  obtain ⟨p1, p2⟩ := params_rel ps args args' t L.tmps htm ha hlen hlt
  have htmps : (L.params.zip args'.toArray).foldl (fun tmps (x : Tmp × Value) => tmps.setIfInBounds x.1 x.2) L.tmps = (ps.zip args').foldl (fun tmps (p : Tmp × Value) => tmps.setIfInBounds p.1 p.2) L.tmps := by
    rw [← Array.foldl_toList, Array.toList_zip, hps]
  let b : Base := ⟨L.fn, .normal, some l'⟩
  let tms := (L.params.zip args'.toArray).foldl (fun tmps (x : Tmp × Value) => tmps.setIfInBounds x.1 x.2) L.tmps
  have hround : Frame.round l' L.fn tms L.assign L.body .normal = b.at ⟨tms, []⟩ [.code L.assign, .beginRound, .code L.body] := rfl
  obtain ⟨F1, hF1, hok1⟩ := (hG.2 _ _ _).1 hasg
  obtain ⟨F2, hF2, hok2⟩ := (hG.2 _ _ _).1 hbody
  rw [hFn] at hF1 hF2
  cases hF1; cases hF2
  have hf : FRel ι ⟨putParams ps args t, [], none, false, some l⟩ ⟨tms, []⟩ Fn.ntmps := by
    refine ⟨fun u => ?_, ?_, trivial⟩
    · have := p1 u
      rw [← htmps] at this
      exact this
    · show tms.size = _
      rw [← hsz, ← p2, ← htmps]
  have hrf : ∀ pan : Option Value, pan = none → ∀ κ, RecFam b pan κ (fun _ => c :: cs) := by
    rintro _ rfl κ F tk hF
    have hF' : F.kind = .normal := hF
    simp [tryRecover, hF']
  have hsim := code_sim (b := b) (CS := fun _ => c :: cs) hG hcs (hrng b Fn.ntmps _) ⟨Fn, hFn, rfl⟩ n asg L.assign ι ⟨putParams ps args t, [], none, false, some l⟩ ⟨tms, []⟩ st w [.beginRound, .code L.body] hok1 hf hw (.inr ⟨l, l', rfl, rfl, hl⟩) (hrf _ rfl ι)
  have hsim' : Arr X b Fn.ntmps (fun _ => c :: cs) (lone (Frame.round l' L.fn tms L.assign L.body .normal) (c :: cs) w) [.beginRound, .code L.body] ⟨putParams ps args t, [], none, false, some l⟩ ι w (evCode call n L.fn asg ⟨putParams ps args t, [], none, false, some l⟩ st) := hsim
  generalize evCode call n L.fn asg ⟨putParams ps args t, [], none, false, some l⟩ st = r1 at hsim' hne ⊢
  cases r1 with
  | no => exact absurd rfl hne
  | out e fr1 st1 =>
    obtain ⟨κ, a1, w1, hf1, hw1, hk1, hp1, hr1, hx1⟩ := hsim'
    cases e with
    | exit _ => exact absurd rfl hne
    | ret => exact absurd rfl hne
    | pan _ => exact absurd rfl hne
    | norm =>
      have hne' : roundX call n l L.fn body fr1 st1 ≠ .no := hne
      show OutRel X ι w _ c cs (roundX call n l L.fn body fr1 st1)
      unfold roundX at hne' ⊢
      obtain ⟨s1, pend1, fn1, t1, ps1, asg1, body1, d1, hget1, h3⟩ := loopK_inv rfl (fun e => hne' e.symm)
      rw [← h3] at hne' ⊢
      cases s1 with
      | busy => exact absurd rfl hne'
      | done => exact absurd rfl hne'
      | exhausted => exact absurd rfl hne'
      | ready =>
        have hl1 := hk1.le _ _ hl
        obtain ⟨L1, hL1, hs1, hj1, hfn1, _⟩ := hw1.loop hget1 hl1
        have hb1 : (Instr.beginRound l').run X.P w1 = .ok () (w1.putObj l' (.loop { L1 with state := .busy })) := run_beginRound hL1 hs1
        have hst1 := st_beginRound (P := X.P) (b := b) (a := a1) (k := [.code L.body]) (cs := c :: cs) rfl hb1
        obtain ⟨hw2, hk2⟩ := hw1.loop_set hget1 hl1 hL1 .busy pend1 L1.pending hj1
        have hsim2 := code_sim (b := b) (CS := fun _ => c :: cs) hG hcs (hrng b Fn.ntmps _) ⟨Fn, hFn, rfl⟩ n body L.body κ fr1 a1 ⟨st1.h.set l (.loop .busy pend1 fn1 t1 ps1 asg1 body1 d1), st1.nx⟩ (w1.putObj l' (.loop { L1 with state := .busy })) [] hok2 hf1 hw2 (by rw [hr1]; exact .inr ⟨l, l', rfl, rfl, hl1⟩) (hrf _ hp1 κ)
        have hpre : Steps X.P (lone (Frame.round l' L.fn tms L.assign L.body .normal) (c :: cs) w) (lone (b.at a1 [.code L.body]) (c :: cs) (w1.putObj l' (.loop { L1 with state := .busy }))) := Steps.trans hx1 (.one hst1)
        have hkk := hk1.trans hk2
        have hre := round_end (b := b) (l := l) hFn rfl rfl hl1 hsim2
        show OutRel X ι w _ c cs (st1.setO l (.loop .busy pend1 fn1 t1 ps1 asg1 body1 d1) fun st => roundEnd l (evCode call n L.fn body fr1 st))
        rw [setO_eq]
        have hb' : evCode call n b.fn body fr1 ⟨st1.h.set l (.loop .busy pend1 fn1 t1 ps1 asg1 body1 d1), st1.nx⟩ = evCode call n L.fn body fr1 ⟨st1.h.set l (.loop .busy pend1 fn1 t1 ps1 asg1 body1 d1), st1.nx⟩ := rfl
        rw [hb'] at hre
        generalize roundEnd l (evCode call n L.fn body fr1 ⟨st1.h.set l (.loop .busy pend1 fn1 t1 ps1 asg1 body1 d1), st1.nx⟩) = rr at hre ⊢
        cases rr with
        | no => trivial
        | ret v st' tk => obtain ⟨μ, v', w', g1, g2, g3, g4⟩ := hre; exact ⟨μ, v', w', g1, g2, hkk.trans g3, hpre.trans g4⟩
        | pan v st' tk => obtain ⟨μ, v', w', g1, g2, g3, g4⟩ := hre; exact ⟨μ, v', w', g1, g2, hkk.trans g3, hpre.trans g4⟩
end
end Go.AM
namespace Go.AM
variable {X : Ctx} {call : CallT}

section
variable {P : Program} {b : Base} {a : Act} {k : List Item} {cs : List Frame} {w w1 : World} {f : Operand} {ps : Array Tmp} {asg body : Code} {l : Nat} {mark : List Deferred}

theorem rng_eval (_hb : b.rnd = none) : (Frame.eval { fn := b.fn, tmps := a.tmps, todo := .inRangeFunc l :: k, defers := mark ++ a.defers, mode := .run, kind := b.kind, roundOf := none }) f = a.eval f := by cases f <;> rfl
theorem rng_const {a : Act} {v : Value} : a.eval (.const v) = v := rfl

theorem st_rng_enter (hb : b.rnd = none) (h : (Instr.enterLoop b.fn a.tmps ps asg body none).run P w = .ok (l, mark) w1) {g : FuncId} {as : Array Value}
    (hr : ((do let d ← Deferred.ofValue (a.eval f) #[.func (.yield l) #[] #[]]; invoke d.target d.args) : Sem Next).run P w1 = .ok (.enter g as) w1) :
    step P (lone (b.at a (.code (.rangeFunc f ps asg body) :: k)) cs w) = .next (lone (Frame.enter P g as .normal) (b.at { a with defers := mark ++ a.defers } (.inRangeFunc l :: k) :: cs) w1) := by
  refine step_lone_go ?_
  have hr' := hr
  simp only [Sem.run_bind] at hr'
  simp [stepG, stepG.exec, stepG.apply, Base.at, hb, h, resolve, rng_eval hb, rng_const, hr']
theorem st_rng_round (hb : b.rnd = none) (h : (Instr.enterLoop b.fn a.tmps ps asg body none).run P w = .ok (l, mark) w1) {l2 : Nat} {g : FuncId} {ts : Array Value} {asg2 body2 : Code}
    (hr : ((do let d ← Deferred.ofValue (a.eval f) #[.func (.yield l) #[] #[]]; invoke d.target d.args) : Sem Next).run P w1 = .ok (.round l2 g ts asg2 body2) w1) :
    step P (lone (b.at a (.code (.rangeFunc f ps asg body) :: k)) cs w) = .next (lone (Frame.round l2 g ts asg2 body2 .normal) (b.at { a with defers := mark ++ a.defers } (.inRangeFunc l :: k) :: cs) w1) := by
  refine step_lone_go ?_
  have hr' := hr
  simp only [Sem.run_bind] at hr'
  simp [stepG, stepG.exec, stepG.apply, Base.at, hb, h, resolve, rng_eval hb, rng_const, hr']
theorem st_endLoop {jump : Option Code} (h : (Instr.endLoop l).run P w = .ok jump w1) : step P (lone (b.at a (.endRangeFunc l :: k)) cs w) = .next (lone (b.at a ((jump.map Item.code).toList ++ k)) cs w1) :=
  step_lone_go (by simp [stepG, stepG.exec, Base.at, h])
end

theorem rng_sim (hcs : CallSim X call) (b : Base) (nt : Nat) (CS : Bool → List Frame) : RngSim X call b nt CS := by
  intro f ps asg body asg' body' ι fr a st w k hfo hlt hFn hasg hbody hf hw hb hr
  unfold evRng
  cases hrn : fr.rnd with
  | some _ => trivial
  | none =>
    have hbn : b.rnd = none := by
      rcases hb with ⟨_, h⟩ | ⟨l, l', h, _⟩
      · exact h
      · rw [hrn] at h; cases h
    obtain ⟨Fn, hFn, hnt⟩ := hFn
    have hen := run_enterLoop_outer (P := X.P) (w := w) b.fn a.tmps ps asg' body'
    obtain ⟨κ1, hw1, hk1, h1, _⟩ := WRel.alloc X hw (.defd (some [])) (.deferred (some [])) 0 (fun κ w' _ _ ht => ⟨rfl, rfl, .inl ⟨rfl, ht⟩⟩) (w.alloc (.deferred (some []))) rfl
    have hsz1 : (w.alloc (.deferred (some []))).heap.size = w.heap.size + 1 := World.size_alloc _ _
    let L : Loop := { state := .ready, pending := none, fn := b.fn, tmps := a.tmps, params := ps, assign := asg', body := body', defers := w.heap.size }
    obtain ⟨κ2, hw2, hk2, h2, _⟩ := WRel.alloc X hw1 (.loop .ready none b.fn fr.t ps.toList asg body st.nx) (.loop L) 0 (fun κ w' hle _ ht => ⟨rfl, rfl, L, ht, rfl, trivial, rfl, fun n => (hf.tmp n).mono (hk1.le.trans hle), rfl, hasg, hbody, hle _ _ h1, ⟨Fn, hFn, by rw [hnt]; exact hf.size⟩, fun t ht => by show t < a.tmps.size; rw [hf.size]; exact hlt t ht⟩)
      ((w.alloc (.deferred (some []))).alloc (.loop L)) rfl
    show Arr X b nt CS _ k fr ι w (st.newK (.defd (some [])) fun r st => st.newK (.loop .ready none b.fn fr.t ps.toList asg body r) fun l st => rngEnd l ⟨fr.t, { target := .collected r, args := #[] } :: fr.df, fr.pan, fr.took, none⟩ (call (fr.ev f) [.func (.yield l) #[] #[]] none st))
    rw [newK_eq, newK_eq]
    have hkk := hk1.trans hk2
    rw [hsz1] at h2
    let st2 : St := ⟨(st.h.set st.nx (.defd (some []))).set (st.nx + 1) (.loop .ready none b.fn fr.t ps.toList asg body st.nx), st.nx + 1 + 1⟩
    let fr' : AFr := ⟨fr.t, { target := .collected st.nx, args := #[] } :: fr.df, fr.pan, fr.took, none⟩
    let a' : Act := { a with defers := [{ target := .collected w.heap.size, args := #[] }] ++ a.defers }
    have hf' : FRel κ2 fr' a' nt := ⟨fun t => (hf.tmp t).mono hkk.le, hf.size, ⟨⟨VRels.nil _, hk2.le _ _ h1⟩, hf.df.mono hkk.le⟩⟩
    have hw2' : WRel X κ2 st2 ((w.alloc (.deferred (some []))).alloc (.loop L)) := hw2
    have hyv : VRel κ2 (.func (.yield (st.nx + 1)) #[] #[]) (.func (.yield (w.heap.size + 1)) #[] #[]) := VRel.of_func (.inr ⟨_, _, rfl, rfl, h2⟩) (VRels.nil _) (VRels.nil _)
    show Arr X b nt CS _ k fr ι w (rngEnd (st.nx + 1) fr' (call (fr.ev f) [.func (.yield (st.nx + 1)) #[] #[]] none st2))
    by_cases hno : call (fr.ev f) [.func (.yield (st.nx + 1)) #[] #[]] none st2 = .no
    · rw [hno]; trivial
    obtain ⟨fr0, hst, hout⟩ := hcs κ2 (fr.ev f) [.func (.yield (st.nx + 1)) #[] #[]] st2 (a.eval f) [.func (.yield (w.heap.size + 1)) #[] #[]] _ ((hf.ev hw hfo).mono hkk.le) (VRels.cons hyv (VRels.nil _)) hw2' hno
    have hpre : step X.P (lone (b.at a (.code (.rangeFunc f ps asg' body') :: k)) (CS fr.took) w) = .next (lone fr0 (b.at a' (.inRangeFunc (w.heap.size + 1) :: k) :: CS fr.took) ((w.alloc (.deferred (some []))).alloc (.loop L))) := by
      cases hst with
      | enter g as hs => exact st_rng_enter hbn hen hs
      | round l2 g ts asg2 body2 hs => exact st_rng_round hbn hen hs
    have ho := hout (b.at a' (.inRangeFunc (w.heap.size + 1) :: k)) (CS fr.took)
    have hpan : fr'.pan = fr.pan := rfl
    have hrnd : fr'.rnd = fr.rnd := hrn.symm
    cases hc : call (fr.ev f) [.func (.yield (st.nx + 1)) #[] #[]] none st2 with
    | no => exact absurd hc hno
    | pan v st3 tk =>
      rw [hc] at ho
      obtain ⟨κ, v', w', hv, hw', hk, hs⟩ := ho
      exact ⟨κ, a', w', hf'.mono hk.le, hw', hkk.trans hk, hpan, hrnd, v', _, hv, Steps.head hpre hs⟩
    | ret v st3 tk =>
      rw [hc] at ho
      obtain ⟨κ, v', w', hv, hw', hk, hs⟩ := ho
      have hfin : (b.at a' (.inRangeFunc (w.heap.size + 1) :: k)).finish v' = b.at a' (.endRangeFunc (w.heap.size + 1) :: k) := rfl
      rw [hfin] at hs
      have hl := hk.le _ _ h2
      show Arr X b nt CS _ k fr ι w (loopK (st3.h.get (st.nx + 1)) (fun s pend fn' t ps a b d =>
        LoopState.rec (motive := fun _ => CR)
        (st3.setO (st.nx + 1) (.loop .exhausted pend fn' t ps a b d) fun st => oK pend (fun e => .out e fr' st) (.out .norm fr' st))
        .no
        (st3.setO (st.nx + 1) (.loop .exhausted pend fn' t ps a b d) fun st => oK pend (fun e => .out e fr' st) (.out .norm fr' st))
        .no s) .no)
      generalize hres : loopK _ _ _ = res
      by_cases hn : res = .no
      · rw [hn]; trivial
      obtain ⟨s0, p0, fn0, t0, ps0, a0, b0, d0, hget, h3⟩ := loopK_inv hres (fun e => hn e.symm)
      obtain ⟨L1, hL1, hs1, hj1, _⟩ := hw'.loop hget hl
      have key : s0 ≠ .busy → (st3.setO (st.nx + 1) (.loop .exhausted p0 fn0 t0 ps0 a0 b0 d0) fun st => oK p0 (fun e => CR.out e fr' st) (.out .norm fr' st)) = res → Arr X b nt CS (lone (b.at a (.code (.rangeFunc f ps asg' body') :: k)) (CS fr.took) w) k fr ι w res := by
        intro hnb he
        rw [setO_eq] at he
        have hend : (Instr.endLoop (w.heap.size + 1)).run X.P w' = .ok L1.pending (w'.putObj (w.heap.size + 1) (.loop { L1 with state := .exhausted })) := run_endLoop hL1 (by rw [hs1]; exact hnb)
        obtain ⟨g1, g2⟩ := hw'.loop_set hget hl hL1 .exhausted p0 L1.pending hj1
        have hst2 := st_endLoop (P := X.P) (b := b) (a := a') (k := k) (cs := CS fr.took) hend
        have hall := (Steps.head hpre hs).trans (.one hst2)
        have hkall := (hkk.trans hk).trans g2
        have hf2 := hf'.mono hk.le
        cases p0 with
        | none =>
          have he' : CR.out .norm fr' ⟨st3.h.set (st.nx + 1) (.loop .exhausted none fn0 t0 ps0 a0 b0 d0), st3.nx⟩ = res := he
          cases hp : L1.pending with
          | some _ => rw [hp] at hj1; exact hj1.elim
          | none =>
            rw [← he']
            rw [hp] at hall g1 hkall
            exact ⟨κ, a', _, hf2, g1, hkall, hpan, hrnd, hall⟩
        | some e =>
          have he' : CR.out e fr' ⟨st3.h.set (st.nx + 1) (.loop .exhausted (some e) fn0 t0 ps0 a0 b0 d0), st3.nx⟩ = res := he
          rw [← he']
          cases hp : L1.pending with
          | none => rw [hp] at hj1; cases e <;> exact hj1.elim
          | some jc =>
            rw [hp] at hj1 hall g1 hkall
            cases e with
            | norm => cases jc <;> exact hj1.elim
            | pan v => cases jc <;> exact hj1.elim
            | exit i =>
              cases jc with
              | exit j =>
                have e : i = j := hj1
                subst e
                exact ⟨κ, a', _, hf2, g1, hkall, hpan, hrnd, k, rfl, hall⟩
              | _ => exact hj1.elim
            | ret =>
              cases jc with
              | ret => exact ⟨κ, a', _, hf2, g1, hkall, hpan, hrnd, k, hall⟩
              | _ => exact hj1.elim
      cases s0 with
      | ready => exact key (by simp) h3
      | busy => exact absurd (h3 : CR.no = res).symm hn
      | done => exact key (by simp) h3
      | exhausted => exact absurd (h3 : CR.no = res).symm hn
end Go.AM
namespace Go.AM
variable {X : Ctx}

/-- Every function of a table is a translation. -/
def XpOk (X : Ctx) (xp : PM XFn) : Prop := ∀ f xf, xp.get f = some xf → ∃ Fn c, FnOk X f xf Fn c

/-- Contracts that hold. -/
def OrcOk (X : Ctx) (orc : Orc) : Prop :=
  ∀ (f : FuncId) (as : List Value) (st : St) (r : FR), orc f as st = some r → ∀ (ι : Inj) (as' : List Value) (w : World), VRels ι as as' → WRel X ι st w → r ≠ .no →
    (∀ as w, (callFunc f as).run X.P w = .ok (.enter f as) w) ∧
    ∀ (K : CallKind) (CS : Bool → List Frame), RecFam ⟨f, K, none⟩ none ι CS → FinishTo X ι w ⟨f, K, none⟩ CS (lone (Frame.enter X.P f as'.toArray K) (CS false) w) r

theorem callX_fn (xp : PM XFn) (orc : Orc) (n : Nat) (f : FuncId) (first capt : Array Value) (args : List Value) (pan : Option Value) (st : St) :
    callX xp orc (n + 1) (.func (.func f) first capt) args pan st =
      oK pan (fun _ => oK (xp.get f) (fun xf => bodyX (callX xp orc n) n f xf (appX first.toList (appX args capt.toList)) pan st) .no)
        (oK (orc f (appX first.toList (appX args capt.toList)) st) (fun r => r) (oK (xp.get f) (fun xf => bodyX (callX xp orc n) n f xf (appX first.toList (appX args capt.toList)) pan st) .no)) := rfl

theorem fn_step {xp : PM XFn} {orc : Orc} (hG : Good X) (hxp : XpOk X xp) (horc : OrcOk X orc) {n : Nat} (ih1 : FnSim X (callX xp orc n)) (ih2 : CallSim X (callX xp orc n)) : FnSim X (callX xp orc (n + 1)) := by
  intro ι f first capt args pan st first' capt' args' w h1 h2 h3 hw hne
  rw [callX_fn] at hne ⊢
  simp only [appX_eq] at hne ⊢
  have has : VRels ι (first.toList ++ (args ++ capt.toList)) (first'.toList ++ (args' ++ capt'.toList)) := h1.append (h2.append h3)
  have harr : (first'.toList ++ (args' ++ capt'.toList)).toArray = first' ++ args'.toArray ++ capt' := by
    apply Array.ext'; simp
  have hbody : ∀ {K : CallKind} {CS : Bool → List Frame} (xf : XFn), xp.get f = some xf → RecFam ⟨f, K, none⟩ pan ι CS →
      FinishTo X ι w ⟨f, K, none⟩ CS (lone (Frame.enter X.P f (first' ++ args'.toArray ++ capt') K) (CS false) w) (bodyX (callX xp orc n) n f xf (first.toList ++ (args ++ capt.toList)) pan st) := by
    intro K CS xf hx hr
    obtain ⟨Fn, c, ok⟩ := hxp f xf hx
    have := body_sim hG ih2 ih1 (fun b nt CS _ => rng_sim ih2 b nt CS) ok n (K := K) (CS := CS) has hw hr
    rw [harr] at this
    exact this
  have hen : ∀ xf, xp.get f = some xf → ∀ as w, (callFunc f as).run X.P w = .ok (.enter f as) w := by
    intro xf hx as w
    obtain ⟨Fn, c, ok⟩ := hxp f xf hx
    exact ok.enters as w
  cases pan with
  | some pv =>
    cases hx : xp.get f with
    | none => rw [hx] at hne; exact absurd rfl hne
    | some xf => exact ⟨hen xf hx, fun K CS hr => hbody xf hx hr⟩
  | none =>
    cases ho : orc f (first.toList ++ (args ++ capt.toList)) st with
    | some r =>
      rw [ho] at hne
      obtain ⟨g1, g2⟩ := horc f _ st r ho ι _ w has hw hne
      refine ⟨g1, fun K CS hr => ?_⟩
      have := g2 K CS hr
      rw [harr] at this
      exact this
    | none =>
      cases hx : xp.get f with
      | none => rw [ho, hx] at hne; exact absurd rfl hne
      | some xf => exact ⟨hen xf hx, fun K CS hr => hbody xf hx hr⟩

theorem FinishTo.out {ι : Inj} {w : World} {f : FuncId} {c : Frame} {cs : List Frame} {fr0 : Frame} {r : FR} (h : FinishTo X ι w ⟨f, .normal, none⟩ (fun _ => c :: cs) (lone fr0 (c :: cs) w) r) : OutRel X ι w fr0 c cs r := by
  cases r with
  | no => trivial
  | ret v st tk =>
    obtain ⟨κ, v', w', F, h1, h2, h3, h4, h5, h6, h7⟩ := h
    obtain ⟨g1, g2, fn, g3, g4⟩ := h6
    exact ⟨κ, v', w', h1, h2, h3, Steps.trans h7 (.one (step_leave_returned ⟨g1, g2, h4, fn, g3, g4⟩))⟩
  | pan v st tk =>
    obtain ⟨κ, v', w', F, h1, h2, h3, h4, h5, h6, h7⟩ := h
    exact ⟨κ, v', w', h1, h2, h3, Steps.trans h7 (.one (step_leave_panicked h6))⟩

theorem call_step {xp : PM XFn} {orc : Orc} (hG : Good X) {n : Nat} (ih1 : FnSim X (callX xp orc (n + 1))) (ih2 : CallSim X (callX xp orc n)) : CallSim X (callX xp orc (n + 1)) := by
  intro ι fv args st fv' args' w hfv ha hw hne
  have hne0 := hne
  obtain ⟨fn, first, capt, rfl, _⟩ := vFunc_inv (v := fv) (r := callX xp orc (n + 1) fv args none st) (z := FR.no) rfl (fun e => hne e.symm)
  cases hfv with
  | func _ gv _ ys _ vs hfn a1 a2 a3 a4 =>
    cases fn with
    | func f =>
      rcases hfn with ⟨rfl, _⟩ | ⟨l, b, h1, _⟩
      · obtain ⟨hen, hfin⟩ := ih1 ι f first capt args none st ys vs args' w (VRels.of_arr a1 a2) ha (VRels.of_arr a3 a4) hw hne
        refine ⟨Frame.enter X.P f (ys ++ args'.toArray ++ vs) .normal, .enter f _ ?_, fun c cs => FinishTo.out (hfin .normal (fun _ => c :: cs) (fun F tk hF => ?_))⟩
        · simp only [Deferred.ofValue, Sem.run_bind, Sem.run_pure, Result.andThen, invoke]
          exact hen _ _
        · have hF' : F.kind = .normal := hF
          simp [tryRecover, hF']
      · cases h1
    | yield l =>
      have hf0 : first.toList = [] := by
        cases hl : first.toList with
        | nil => rfl
        | cons x xs =>
          exfalso; apply hne0
          show List.rec (motive := fun _ => FR) _ _ first.toList = _
          rw [hl]
      have hc0 : capt.toList = [] := by
        cases hl : capt.toList with
        | nil => rfl
        | cons x xs =>
          exfalso; apply hne0
          show List.rec (motive := fun _ => FR) (List.rec (motive := fun _ => FR) _ _ capt.toList) _ first.toList = _
          rw [hf0, hl]
      have hev : callX xp orc (n + 1) (.func (.yield l) first capt) args none st = yieldX (callX xp orc n) n l args st := by
        show List.rec (motive := fun _ => FR) (List.rec (motive := fun _ => FR) _ _ capt.toList) _ first.toList = _
        rw [hf0, hc0]
        rfl
      rcases hfn with ⟨_, hno⟩ | ⟨l0, b, h1, h2, h3⟩
      · exact absurd rfl (hno l)
      · cases h1
        subst h2
        rw [hev] at hne ⊢
        obtain ⟨fn, ts, asg, body, hy, hout⟩ := yield_sim hG ih2 (fun b nt CS => rng_sim ih2 b nt CS) h3 ha hw hne
        refine ⟨_, .round b fn ts asg body ?_, hout⟩
        have hys : ys = #[] := by
          have := (VRels.of_arr a1 a2).1
          rw [hf0] at this
          have h0 : ys.size = 0 := by simpa using this.symm
          exact Array.eq_empty_of_size_eq_zero h0
        simp only [Deferred.ofValue, Sem.run_bind, Sem.run_pure, Result.andThen, invoke, hys]
        simpa using hy
    | _ => exact absurd rfl hne0

theorem callX_sim {xp : PM XFn} {orc : Orc} (hG : Good X) (hxp : XpOk X xp) (horc : OrcOk X orc) : ∀ n, FnSim X (callX xp orc n) ∧ CallSim X (callX xp orc n)
  | 0 => ⟨fun ι f first capt args pan st first' capt' args' w _ _ _ _ hne => absurd rfl hne, fun ι fv args st fv' args' w _ _ _ hne => absurd rfl hne⟩
  | n + 1 => by
    obtain ⟨h1, h2⟩ := callX_sim hG hxp horc n
    have h3 := fn_step hG hxp horc h1 h2
    exact ⟨h3, call_step hG h3 h2⟩
end Go.AM
namespace Go.AM
variable {X : Ctx}

theorem calls_of_ret {xp : PM XFn} {orc : Orc} (hG : Good X) (hxp : XpOk X xp) (horc : OrcOk X orc) {n : Nat} {f : FuncId} {as as' : List Value} {st st' : St} {v : Value} {tk : Bool} {ι : Inj} {w : World}
    (ha : VRels ι as as') (hw : WRel X ι st w) (h : callX xp orc n (.func (.func f) #[] #[]) as none st = .ret v st' tk) :
    Calls X.P f as'.toArray w (fun e w' => ∃ κ v', e = .returned v' ∧ VRel κ v v' ∧ WRel X κ st' w' ∧ Keeps ι κ w w') := by
  intro cs
  have hs := (callX_sim hG hxp horc n).1 ι f #[] #[] as none st #[] #[] as' w (VRels.nil ι) ha (VRels.nil ι) hw (by rw [h]; intro e; cases e)
  have hf := hs.2 .normal (fun _ => cs) (fun F tk hF => by
    have hF' : F.kind = .normal := hF
    simp [tryRecover, hF'])
  rw [h] at hf
  obtain ⟨κ, v', w', F, h1, h2, h3, h4, h5, h6, h7⟩ := hf
  obtain ⟨g1, g2, fn, g3, g4⟩ := h6
  refine ⟨.returned v', w', F, ⟨κ, v', rfl, h1, h2, h3⟩, ?_, h5, g1, g2, h4, fn, g3, g4⟩
  have e : (#[] ++ as'.toArray ++ #[] : Array Value) = as'.toArray := by simp
  rw [e] at h7
  exact h7
end Go.AM
namespace Go.AM

/-! Parts of states. -/
def PM.sub {α : Type} (eq : α → α → Bool) : PM α → PM α → Bool
  | .nil, _ => true
  | .node l v r, .nil => v.isNone && PM.sub eq l .nil && PM.sub eq r .nil
  | .node l v r, .node l' v' r' => (match v, v' with | none, _ => true | some x, some y => eq x y | some _, none => false) && PM.sub eq l l' && PM.sub eq r r'

theorem PM.sub_get {α : Type} {eq : α → α → Bool} (he : ∀ x y, eq x y = true → x = y) : ∀ (a b : PM α), PM.sub eq a b = true → ∀ n x, a.get n = some x → b.get n = some x
  | .nil, _, _, n, x, h => by simp at h
  | .node l v r, .nil, hs, n, x, h => by
    simp only [PM.sub, Bool.and_eq_true] at hs
    exfalso
    cases n with
    | zero => rw [PM.get_node0] at h; rw [h] at hs; simp at hs
    | succ m =>
      rw [PM.get_nodeS] at h
      split at h
      · have := PM.sub_get he l .nil hs.1.2 _ x h; simp at this
      · have := PM.sub_get he r .nil hs.2 _ x h; simp at this
  | .node l v r, .node l' v' r', hs, n, x, h => by
    simp only [PM.sub, Bool.and_eq_true] at hs
    cases n with
    | zero =>
      rw [PM.get_node0] at h ⊢
      subst h
      cases v' with
      | none => simp at hs
      | some y => rw [he x y hs.1.1]
    | succ m =>
      rw [PM.get_nodeS] at h ⊢
      split at h
      · rw [if_pos (by assumption)]; exact PM.sub_get he l l' hs.1.2 _ x h
      · rw [if_neg (by assumption)]; exact PM.sub_get he r r' hs.2 _ x h

def entEq : List MapEntry → List MapEntry → Bool
  | [], [] => true
  | e :: es, f :: fs => veq e.key f.key && veq e.val f.val && Nat.beq e.born f.born && entEq es fs
  | _, _ => false
theorem entEq_eq : ∀ (es fs : List MapEntry), entEq es fs = true → es = fs
  | [], [], _ => rfl
  | e :: es, f :: fs, h => by
    simp only [entEq, Bool.and_eq_true] at h
    obtain ⟨⟨⟨h1, h2⟩, h3⟩, h4⟩ := h
    cases e; cases f
    rw [entEq_eq es fs h4]
    simp only at h1 h2 h3
    rw [veq_eq _ _ h1, veq_eq _ _ h2, Nat.eq_of_beq_eq_true h3]
  | [], _ :: _, h => by simp [entEq] at h
  | _ :: _, [], h => by simp [entEq] at h
def aobjEq : AObj → AObj → Bool
  | .map es c, .map es' c' => Nat.beq c c' && entEq es es'
  | .cells cs e fz gr, .cells cs' e' fz' gr' => Nat.beq e e' && Nat.beq fz.1 fz'.1 && Nat.beq fz.2 fz'.2 && (gr == gr') && veqL cs cs'
  | .defd none, .defd none => true
  | .defd (some []), .defd (some []) => true
  | .dead, .dead => true
  | _, _ => false
theorem aobjEq_eq (x y : AObj) (h : aobjEq x y = true) : x = y := by
  unfold aobjEq at h
  split at h
  · rw [Bool.and_eq_true] at h
    rw [Nat.eq_of_beq_eq_true h.1, entEq_eq _ _ h.2]
  · simp only [Bool.and_eq_true] at h
    obtain ⟨⟨⟨⟨h1, h2⟩, h3⟩, h4⟩, h5⟩ := h
    rename_i fz _ _ _ fz' _
    have e1 : fz = fz' := Prod.ext (Nat.eq_of_beq_eq_true h2) (Nat.eq_of_beq_eq_true h3)
    rw [Nat.eq_of_beq_eq_true h1, e1, veqL_eq _ _ h5, eq_of_beq h4]
  · rfl
  · rfl
  · rfl
  · cases h

/-- A state that says no more than another one. -/
def St.le (s t : St) : Prop := s.nx = t.nx ∧ ∀ n o, s.h.get n = some o → t.h.get n = some o
def St.leB (s t : St) : Bool := Nat.beq s.nx t.nx && PM.sub aobjEq s.h t.h
theorem St.leB_le {s t : St} (h : St.leB s t = true) : St.le s t := by
  unfold St.leB at h
  rw [Bool.and_eq_true] at h
  exact ⟨Nat.eq_of_beq_eq_true h.1, PM.sub_get aobjEq_eq _ _ h.2⟩

theorem WRel.less {X : Ctx} {ι : Inj} {s t : St} {w : World} (hl : St.le s t) (h : WRel X ι t w) : WRel X ι s w := by
  refine ⟨fun id o ho hd => h.objs id o (hl.2 _ _ ho) hd, fun i j o p l m hi hdi hj hdj => h.inj i j o p l m (hl.2 _ _ hi) hdi (hl.2 _ _ hj) hdj, fun id hid => ?_, h.bnd, h.glob, ?_, fun i l o hl' hs ho hd => h.prot i l o hl' hs (hl.2 _ _ ho) hd⟩
  · have := h.fresh id (by rw [← hl.1]; exact hid)
    refine ⟨this.1, ?_⟩
    cases e : s.h.get id with
    | none => rfl
    | some o => rw [hl.2 _ _ e] at this; cases this.2
  · rw [hl.1]; exact h.globs

/-- A call that was evaluated. -/
structure Row where
  as : List Value
  st : St
  v : Value
  st' : St

/-- Is a call this one? -/
def Row.hit (r : Row) (as : List Value) (st : St) : Bool := Nat.beq r.st.nx st.nx && veqL r.as as && PM.sub aobjEq r.st.h st.h

def findRow (as : List Value) (st : St) : List Row → Option FR
  | [] => none
  | r :: rs => if Nat.beq r.st.nx st.nx then (if r.hit as st then some (.ret r.v r.st' false) else none) else findRow as st rs

noncomputable def orcT (t : PM (List Row)) (base : Orc) : Orc := fun f as st => oK (t.get f) (fun rs => findRow as st rs) (base f as st)

variable {X : Ctx}
/-- A row that holds. -/
def RowOk (X : Ctx) (f : FuncId) (r : Row) : Prop :=
  ∀ (ι : Inj) (as' : List Value) (w : World), VRels ι r.as as' → WRel X ι r.st w →
    (∀ as w, (callFunc f as).run X.P w = .ok (.enter f as) w) ∧
    ∀ (K : CallKind) (CS : Bool → List Frame), RecFam ⟨f, K, none⟩ none ι CS → FinishTo X ι w ⟨f, K, none⟩ CS (lone (Frame.enter X.P f as'.toArray K) (CS false) w) (.ret r.v r.st' false)

theorem findRow_mem {as : List Value} {st : St} : ∀ {rs : List Row} {fr : FR}, findRow as st rs = some fr → ∃ r ∈ rs, r.hit as st = true ∧ fr = .ret r.v r.st' false
  | [], fr, h => by simp [findRow] at h
  | r :: rs, fr, h => by
    unfold findRow at h
    split at h
    · split at h
      · cases h; exact ⟨r, by simp, by assumption, rfl⟩
      · cases h
    · obtain ⟨r', h1, h2, h3⟩ := findRow_mem h
      exact ⟨r', List.mem_cons_of_mem _ h1, h2, h3⟩

theorem orcT_ok {t : PM (List Row)} {base : Orc} (hb : OrcOk X base) (ht : ∀ f rs, t.get f = some rs → ∀ r ∈ rs, RowOk X f r) : OrcOk X (orcT t base) := by
  intro f as st r hr ι as' w ha hw hne
  unfold orcT at hr
  cases hg : t.get f with
  | none => rw [hg] at hr; exact hb f as st r hr ι as' w ha hw hne
  | some rs =>
    rw [hg] at hr
    obtain ⟨row, hm, hh, rfl⟩ := findRow_mem hr
    unfold Row.hit at hh
    simp only [Bool.and_eq_true] at hh
    have hle : St.le row.st st := ⟨Nat.eq_of_beq_eq_true hh.1.1, PM.sub_get aobjEq_eq _ _ hh.2⟩
    have he : row.as = as := veqL_eq _ _ hh.1.2
    exact ht f rs hg row hm ι as' w (by rw [he]; exact ha) (WRel.less hle hw)

/-- The check of a row. -/
noncomputable def chk (r : FR) (v : Value) (st' : St) : Bool :=
  FR.rec (motive := fun _ => Bool) (fun v1 st1 tk => cond tk false (cond (veq v v1) (St.leB st' st1) false)) (fun _ _ _ => false) false r

theorem FinishTo.less {ι : Inj} {w : World} {b : Base} {CS : Bool → List Frame} {s : Machine} {v : Value} {st st' : St} {tk : Bool} (hl : St.le st' st) (h : FinishTo X ι w b CS s (.ret v st tk)) : FinishTo X ι w b CS s (.ret v st' tk) := by
  obtain ⟨κ, v', w', F, h1, h2, h3, h4, h5, h6, h7⟩ := h
  exact ⟨κ, v', w', F, h1, WRel.less hl h2, h3, h4, h5, h6, h7⟩

theorem chk_eq {r : FR} {v : Value} {st' : St} (h : chk r v st' = true) : ∃ st1, r = .ret v st1 false ∧ St.le st' st1 := by
  cases r with
  | no => cases h
  | pan a b c => cases h
  | ret v1 st1 tk =>
    cases tk with
    | true => cases h
    | false =>
      have h' : cond (veq v v1) (St.leB st' st1) false = true := h
      cases hv : veq v v1 with
      | false => rw [hv] at h'; cases h'
      | true =>
        rw [hv] at h'
        exact ⟨st1, by rw [veq_eq _ _ hv], St.leB_le h'⟩

theorem row_ok {xp : PM XFn} {orc : Orc} (hG : Good X) (hxp : XpOk X xp) (horc : OrcOk X orc) {n : Nat} {f : FuncId} {r : Row}
    (h : chk (callX xp orc n (.func (.func f) #[] #[]) r.as none r.st) r.v r.st' = true) : RowOk X f r := by
  obtain ⟨st1, he, hl⟩ := chk_eq h
  intro ι as' w ha hw
  have hs := (callX_sim hG hxp horc n).1 ι f #[] #[] r.as none r.st #[] #[] as' w (VRels.nil ι) ha (VRels.nil ι) hw (by rw [he]; intro e; cases e)
  refine ⟨hs.1, fun K CS hr => ?_⟩
  have hf := hs.2 K CS hr
  rw [he] at hf
  have e : (#[] ++ as'.toArray ++ #[] : Array Value) = as'.toArray := by simp
  rw [e] at hf
  exact FinishTo.less hl hf
end Go.AM
namespace Go.AM
variable {X : Ctx}

/-- The choices of the next entry. -/
noncomputable def pickL (fr : AFr) (st : St) (it id since : Nat) (seen : List Nat) (left : List MapEntry) : List OR :=
  match left with
  | [] => [.ok (.tuple #[.bool false]) fr st]
  | left => left.map fun e => .ok (.tuple #[.bool true, e.key, e.val]) fr ⟨st.h.set it (.miter (some id) since (seen ++ [e.born]) since), st.nx⟩
noncomputable def nextL (fr : AFr) (st : St) (it : Operand) : List OR :=
  vPointer (fr.ev it) (fun p => oK p (fun a => oK a.spot (fun _ => [.no]) (eqK a.off 0 (iterK (st.h.get a.block) (fun m since seen stepped =>
    oK m (fun id => mapK (st.h.get id) (fun es clock => eqK since clock (eqK stepped clock (cond (seen.all (fun s => Nat.ble (Nat.succ s) clock))
      (pickL fr st a.block id since seen (es.filter (fun e => !seen.any (Nat.beq e.born)))) [.no]) [.no]) [.no]) [.no]) [.ok (.tuple #[.bool false]) fr st]) [.no]) [.no])) [.no]) [.no]

section
variable {ι : Inj} {fr fr' : AFr} {a : Act} {nt : Nat} {st st' : St} {w : World} {o : Oper} {v : Value} {call : CallT}

theorem choose_lt (P : Program) (w : World) (n : Nat) (hn : 0 < n) : ∃ c w', (choose (.mapNext n)).run P w = .ok c w' ∧ c < n ∧ w'.heap = w.heap ∧ SameOut w w' := by
  rw [run_choose]
  by_cases h : (Question.mapNext n).forced = true
  · rw [if_pos h]; exact ⟨0, w, rfl, hn, rfl, ⟨rfl, rfl⟩⟩
  · rw [if_neg h]; exact ⟨_, _, rfl, Nat.mod_lt _ hn, rfl, ⟨rfl, rfl⟩⟩

/-- The candidates. -/
def candsOf (left : Array MapEntry) : Array (Option MapEntry) := (if left.isEmpty then #[none] else #[]) ++ (left ++ #[]).map some
theorem cands_pos (left : Array MapEntry) : 0 < (candsOf left).size ∧ ∀ q ∈ candsOf left, (q = none ∧ left = #[]) ∨ ∃ e ∈ left, q = some e := by
  unfold candsOf
  by_cases hz : left = #[]
  · subst hz
    refine ⟨by simp, fun q hq => ?_⟩
    simp at hq
    exact .inl ⟨hq, rfl⟩
  · have hne : left.isEmpty = false := by simpa using hz
    have hpos : 0 < left.size := Array.size_pos_iff.2 hz
    rw [hne]
    refine ⟨by simpa using hpos, fun q hq => ?_⟩
    simp at hq
    obtain ⟨e, he, hqe⟩ := hq
    exact .inr ⟨e, he, hqe.symm⟩

theorem sim_next {it : Operand} (hi : opdOk X.ng it = true) (ho : o.op = .next it false) (hf : FRel ι fr a nt) (hw : WRel X ι st w) (h : ∀ r ∈ nextL fr st it, r ≠ .no) :
    ∃ v st' v' w', OR.ok v fr st' ∈ nextL fr st it ∧ (execOp a.eval o).run X.P w = .ok (.value v') w' ∧ VRel ι v v' ∧ WRel X ι st' w' ∧ Keeps ι ι w w' := by
  have hne : [OR.no] ≠ nextL fr st it := fun e => h .no (by rw [← e]; simp) rfl
  obtain ⟨p, hp, g1⟩ := vPointer_inv (r := nextL fr st it) rfl hne
  obtain ⟨ad, hpa, g2⟩ := oK_inv g1 hne
  obtain ⟨hs, g3⟩ := oK_none g2 (fun _ => hne)
  obtain ⟨h0, g4⟩ := eqK_inv g3 hne
  obtain ⟨m, since, seen, stepped, hg, g5⟩ := iterK_inv g4 hne
  have hir := hf.ev hw hi
  rw [hp, hpa] at hir
  generalize hiv : a.eval it = iv at hir
  obtain ⟨l, hl, l0, l1, m', since', seen', last', hI, hcase⟩ := hw.objs _ _ hg (by simp)
  cases hir with
  | ptr _ l' hl' hs' =>
    rw [hl] at hl'; cases hl'
    have hoff : l.sh + ad.off = 0 := by rw [l0, h0]
    cases m with
    | none =>
      rcases hcase with ⟨_, rfl⟩ | ⟨r, b, sg, e1, _⟩
      · have g6 : [OR.ok (.tuple #[.bool false]) fr st] = nextL fr st it := g5
        refine ⟨.tuple #[.bool false], st, .tuple #[.bool false], w, by rw [← g6]; simp, ?_, VRel.of_tuple (VRels.cons (.bool _) (VRels.nil ι)), hw, .refl ι w⟩
        unfold execOp; rw [ho]
        simp only [hiv, hoff, Instr.next, Sem.run_bind, run_getObj_iter hI, Result.andThen, Sem.run_pure]
      · cases e1
    | some id =>
      have g6 : mapK (st.h.get id) (fun es clock => eqK since clock (eqK stepped clock (cond (seen.all (fun s => Nat.ble (Nat.succ s) clock)) (pickL fr st ad.block id since seen (es.filter (fun e => !seen.any (Nat.beq e.born)))) [.no]) [.no]) [.no]) [.no] = nextL fr st it := g5
      obtain ⟨es, clock, hg2, g7⟩ := mapK_inv g6 hne
      obtain ⟨e1, g8⟩ := eqK_inv g7 hne
      obtain ⟨e2, g9⟩ := eqK_inv g8 hne
      obtain ⟨e3, g10⟩ := cond_inv g9 hne
      rcases hcase with ⟨hh, _⟩ | ⟨r, b, sg, d1, d2, d3, d4, d5, d6⟩
      · cases hh
      cases d1
      subst d2 e1 e2
      obtain ⟨lm, hlm, m0, m1, C, c', hC, hR⟩ := hw.objs _ _ hg2 (by simp)
      rw [hlm] at d3
      cases d3
      have hC : w.heap[b]? = some (.map C c') := hC
      have hR : MapRel ι sg es stepped C.toList c' := hR
      have hc1 : c' = since' := by rw [hR.clk, d4]
      have hc2 : c' = last' := by rw [hR.clk, d6]
      subst hc1 hc2
      obtain ⟨L, hp', hlen, hL⟩ := hR.same
      have hborn : ∀ x ∈ C.toList, x.born < c' := by
        intro x hx
        obtain ⟨i, hi', rfl⟩ := List.getElem_of_mem hx
        have hi2 : i < L.length := by omega
        rw [(hL i hi2 hi').2.2, hR.clk]
        exact hR.sgs.lt _ (hR.born _ (hp'.mem_iff.1 (List.getElem_mem hi2)))
      have hseen : ∀ s ∈ seen, s < stepped := by
        intro s hs
        have := List.all_eq_true.1 e3 s hs
        exact ble_true.1 this
      -- what is left
      have hcont : ∀ e ∈ es, seen'.contains (sg e.born) = seen.any (Nat.beq e.born) := by
        intro e he
        rw [Bool.eq_iff_iff, List.any_eq_true]
        constructor
        · intro hc
          have : sg e.born ∈ seen'.toList := by simpa using hc
          rw [d5] at this
          obtain ⟨s, hs, hse⟩ := List.mem_map.1 this
          exact ⟨s, hs, by rw [hR.sgs.inj _ _ (hseen s hs) (hR.born e he) hse]; exact Nat.beq_refl _⟩
        · rintro ⟨s, hs, hb⟩
          have e' := Nat.eq_of_beq_eq_true hb
          have : sg e.born ∈ seen'.toList := by rw [d5, e']; exact List.mem_map.2 ⟨s, hs, rfl⟩
          simpa using this
      obtain ⟨left, hleft⟩ : ∃ left, left = C.filter (fun e => !seen'.contains e.born) := ⟨_, rfl⟩
      have hold : left.filter (fun e => decide (e.born < c')) = left := by
        rw [Array.filter_eq_self]
        intro x hx
        rw [hleft] at hx
        have := (Array.mem_filter.1 hx).1
        simpa using hborn x (by simpa using this)
      have hnew : left.filter (fun e => decide (e.born ≥ c')) = #[] := by
        rw [Array.filter_eq_empty_iff]
        intro x hx
        rw [hleft] at hx
        have := (Array.mem_filter.1 hx).1
        have := hborn x (by simpa using this)
        simp; omega
      have hchk : (!seen'.isEmpty && !C.isEmpty && C.all (fun e => decide (e.born ≥ c'))) = false := by
        cases hz : C.toList with
        | nil => have : C = #[] := by simpa using hz
                 subst this; simp
        | cons x xs =>
          have hx := hborn x (by rw [hz]; simp)
          have : C.all (fun e => decide (e.born ≥ c')) = false := by
            rw [Array.all_eq_false']
            exact ⟨x, by have : x ∈ C.toList := by rw [hz]; simp
                         simpa using this, by simpa using hx⟩
          rw [this, Bool.and_false]
      obtain ⟨hpos, hcs⟩ := cands_pos left
      generalize hcd : candsOf left = cands at hpos hcs
      obtain ⟨ch, w1, hch, hlt, hh1, so1⟩ := choose_lt X.P w cands.size hpos
      have hI1 : w1.heap[l.blk]? = some (.mapIter (some b) c' seen' c') := by rw [hh1]; exact hI
      have hrun0 : (execOp a.eval o).run X.P w = (match cands[ch]? with
          | some (some e) => .ok (.value (.tuple #[.bool true, e.key, e.val])) { w1 with heap := w1.heap.setIfInBounds l.blk (.mapIter (some b) c' (seen'.push e.born) c') }
          | some none => .ok (.value (.tuple #[.bool false])) w1
          | none => .halt (.stuck "Next: no such candidate") w1) := by
        unfold execOp; rw [ho]
        simp only [hiv, hoff, Instr.next, Sem.run_bind, run_getObj_iter hI, Result.andThen, MapKept.run_getObj_map hC, hchk, Bool.false_eq_true, if_false]
        rw [← hleft, hold, hnew]
        have hcd' : (if left.isEmpty then #[none] else #[]) ++ (left ++ #[]).map some = cands := hcd
        simp only [hcd', hch]
        cases hq : cands[ch]? with
        | none => simp [stuck]
        | some q =>
          cases q with
          | none => simp
          | some e => simp [run_setObj_iter _ hI1]
      have hget : cands[ch]? = some cands[ch] := Array.getElem?_eq_getElem hlt
      rw [hget] at hrun0
      have hmemc : cands[ch] ∈ cands := Array.getElem_mem hlt
      cases hq : cands[ch] with
      | none =>
        rw [hq] at hrun0 hmemc
        have hz : left = #[] := by
          rcases hcs none hmemc with ⟨_, h⟩ | ⟨e, _, h⟩
          · exact h
          · cases h
        have hfil : es.filter (fun e => !seen.any (Nat.beq e.born)) = [] := by
          rw [List.filter_eq_nil_iff]
          intro e he
          obtain ⟨i, hi', hie⟩ := List.getElem_of_mem (hp'.mem_iff.2 he)
          have hi2 : i < C.toList.length := by omega
          have hCi : C.toList[i] ∈ C.toList := List.getElem_mem hi2
          have hnot : C.toList[i] ∉ left.toList := by
            rw [hz]; simp
          have hb := (hL i hi' hi2).2.2
          rw [hie] at hb
          have : seen'.contains (C.toList[i].born) = true := by
            by_cases hc : seen'.contains (C.toList[i].born) = true
            · exact hc
            · exfalso; apply hnot
              have : C.toList[i] ∈ left := hleft ▸ Array.mem_filter.2 ⟨by simp, by simpa using hc⟩
              simpa using this
          rw [hb, hcont e he] at this
          simp [this]
        rw [hfil] at g10
        have g11 : [OR.ok (.tuple #[.bool false]) fr st] = nextL fr st it := g10
        exact ⟨.tuple #[.bool false], st, .tuple #[.bool false], w1, by rw [← g11]; simp, hrun0, VRel.of_tuple (VRels.cons (.bool _) (VRels.nil ι)), hw.same_heap X hh1, .same_heap ι hh1 so1⟩
      | some e =>
        rw [hq] at hrun0 hmemc
        have hel : e ∈ left := by
          rcases hcs (some e) hmemc with ⟨h, _⟩ | ⟨e', he', h⟩
          · cases h
          · cases h; exact he'
        obtain ⟨hm1, hm2⟩ := Array.mem_filter.1 (hleft ▸ hel)
        obtain ⟨i, hi', hie⟩ := List.getElem_of_mem (show e ∈ C.toList by simpa using hm1)
        have hi2 : i < L.length := by omega
        have hrel := hL i hi2 hi'
        rw [hie] at hrel
        have hLes : L[i] ∈ es := hp'.mem_iff.1 (List.getElem_mem hi2)
        have hin : L[i] ∈ es.filter (fun e => !seen.any (Nat.beq e.born)) := by
          rw [List.mem_filter]
          refine ⟨hLes, ?_⟩
          rw [← hcont _ hLes, ← hrel.2.2]
          exact hm2
        have g11 : (es.filter (fun e => !seen.any (Nat.beq e.born))).map (fun e => OR.ok (.tuple #[.bool true, e.key, e.val]) fr ⟨st.h.set ad.block (.miter (some id) stepped (seen ++ [e.born]) stepped), st.nx⟩) = nextL fr st it := by
          rw [← g10]
          unfold pickL
          cases hz : es.filter (fun e => !seen.any (Nat.beq e.born)) with
          | nil => rw [hz] at hin; cases hin
          | cons x xs => rfl
        have hw1 := hw.same_heap X hh1
        obtain ⟨k1, k2⟩ := WRel.turn X hw1 hg (by simp) (fun hf => hf) hl (.miter (some id) stepped (seen ++ [L[i].born]) stepped) (.mapIter (some b) c' (seen'.push e.born) c')
          { w1 with heap := w1.heap.setIfInBounds l.blk (.mapIter (some b) c' (seen'.push e.born) c') } rfl
          (fun _ ht => ⟨l0, l1, _, _, _, _, ht, .inr ⟨id, b, sg, rfl, rfl, hlm, d4, by simp [d5, hrel.2.2], d6⟩⟩)
        refine ⟨.tuple #[.bool true, L[i].key, L[i].val], _, .tuple #[.bool true, e.key, e.val], _, ?_, hrun0, VRel.of_tuple (VRels.cons (.bool _) (VRels.cons hrel.1 (VRels.cons hrel.2.1 (VRels.nil ι)))), k1, (Keeps.same_heap ι hh1 so1).trans k2⟩
        rw [← g11]
        exact List.mem_map.2 ⟨L[i], hin, rfl⟩
end
end Go.AM
namespace Go.AM
variable {X : Ctx}

noncomputable def thenL (k : AFr → St → List CR) (r : CR) : List CR :=
  CR.rec (motive := fun _ => List CR) (fun e fr st => XExit.rec (motive := fun _ => List CR) (k fr st) (fun i => [.out (.exit i) fr st]) [.out .ret fr st] (fun v => [.out (.pan v) fr st]) e) [.no] r
noncomputable def loopL (e : AFr → St → List CR) : Nat → AFr → St → List CR
  | 0, _, _ => [.no]
  | n + 1, fr, st => (e fr st).flatMap (thenL (loopL e n))
noncomputable def afterL (call : CallT) (d : Option Tmp) (ops : List XOper) (r : OR) : CR :=
  OR.rec (motive := fun _ => CR) (fun v fr st => evOps call ops (fr.put d v) st) (fun _ _ => .no) .no r

noncomputable def evL (call : CallT) (lf : Nat) (fn : FuncId) : XCode → AFr → St → List CR
  | .reg (⟨d, .ext (.nxt it), none⟩ :: ops), fr, st => (nextL fr st it).map (afterL call d ops)
  | .seq a b, fr, st => (evL call lf fn a fr st).flatMap (thenL (evL call lf fn b))
  | .cond c a b, fr, st => vBool (fr.ev c) (fun t => cond t (evL call lf fn a fr st) (evL call lf fn b fr st)) [.no]
  | .block i a, fr, st => (evL call lf fn a fr st).map (blockK i)
  | .loop a, fr, st => loopL (evL call lf fn a) lf fr st
  | .scope a, fr, st => evL call lf fn a fr st
  | c, fr, st => [evCode call lf fn c fr st]

section
variable {nt : Nat} {ι : Inj} {fr fr' : AFr} {a : Act} {st st' : St} {w : World} {v : Value} {call : CallT} {b : Base} {CS : Bool → List Frame}

/-- Some outcome of a list is what the model comes to. -/
def ArrL (X : Ctx) (b : Base) (nt : Nat) (CS : Bool → List Frame) (s : Machine) (k : List Item) (fr : AFr) (ι : Inj) (w : World) (L : List CR) : Prop :=
  (∀ r ∈ L, r ≠ .no) → ∃ r ∈ L, Arr X b nt CS s k fr ι w r

theorem ArrL.head {s s' : Machine} {k : List Item} {κ : Inj} {w' : World} {L : List CR} (h : Steps X.P s s') (hk : Keeps ι κ w w') (hp : fr'.pan = fr.pan) (hr : fr'.rnd = fr.rnd) (h' : ArrL X b nt CS s' k fr' κ w' L) : ArrL X b nt CS s k fr ι w L := by
  intro hn
  obtain ⟨r, hr1, hr2⟩ := h' hn
  exact ⟨r, hr1, Arr.head h hk hp hr hr2⟩
theorem ArrL.one {s : Machine} {k : List Item} {r : CR} (h : Arr X b nt CS s k fr ι w r) : ArrL X b nt CS s k fr ι w [r] := fun _ => ⟨r, by simp, h⟩

theorem ArrL.then {s : Machine} {k k' : List Item} {L : List CR} {g : AFr → St → List CR} (hex : ∀ id, exitTo id k = exitTo id k') (h : ArrL X b nt CS s k fr ι w L)
    (hg : ∀ κ a' w' fr' st', FRel κ fr' a' nt → WRel X κ st' w' → Keeps ι κ w w' → fr'.pan = fr.pan → fr'.rnd = fr.rnd → ArrL X b nt CS (lone (b.at a' k) (CS fr'.took) w') k' fr' κ w' (g fr' st')) : ArrL X b nt CS s k' fr ι w (L.flatMap (thenL g)) := by
  intro hn
  have hL : ∀ r ∈ L, r ≠ .no := by
    intro r hr e
    subst e
    exact hn .no (List.mem_flatMap.2 ⟨.no, hr, by simp [thenL]⟩) rfl
  obtain ⟨r, hr1, hr2⟩ := h hL
  cases r with
  | no => exact absurd rfl (hL _ hr1)
  | out e fr' st' =>
    obtain ⟨κ, a', w', h1, h2, h3, h4, h5, h6⟩ := hr2
    cases e with
    | norm =>
      obtain ⟨q, hq1, hq2⟩ := hg κ a' w' fr' st' h1 h2 h3 h4 h5 (fun r hr => hn r (List.mem_flatMap.2 ⟨_, hr1, hr⟩))
      exact ⟨q, List.mem_flatMap.2 ⟨_, hr1, hq1⟩, Arr.head h6 h3 h4 h5 hq2⟩
    | exit id =>
      obtain ⟨td, h7, h8⟩ := h6
      exact ⟨.out (.exit id) fr' st', List.mem_flatMap.2 ⟨_, hr1, by simp [thenL]⟩, κ, a', w', h1, h2, h3, h4, h5, td, h7.trans (hex id), h8⟩
    | ret => exact ⟨.out .ret fr' st', List.mem_flatMap.2 ⟨_, hr1, by simp [thenL]⟩, κ, a', w', h1, h2, h3, h4, h5, h6⟩
    | pan v => exact ⟨.out (.pan v) fr' st', List.mem_flatMap.2 ⟨_, hr1, by simp [thenL]⟩, κ, a', w', h1, h2, h3, h4, h5, h6⟩

theorem thenL_norm (L : List CR) : L.flatMap (thenL fun fr st => [.out .norm fr st]) = L := by
  induction L with
  | nil => rfl
  | cons r L ih =>
    rw [List.flatMap_cons, ih]
    cases r with
    | no => rfl
    | out e fr st => cases e <;> rfl

theorem region_next (hcs : CallSim X call) {ops : Array Oper} {d : Option Tmp} {it : Operand} {xs : List XOper} {k : List Item} (hlen : xs.length + 1 = ops.size) (hall : ∀ (j : Nat) (x : XOper) (o : Oper), (⟨d, .ext (.nxt it), none⟩ :: xs : List XOper)[j]? = some x → ops[j]? = some o → operOk X nt ops x o = true)
    (hf : FRel ι fr a nt) (hw : WRel X ι st w) (hb : RndRel ι fr.rnd b.rnd) (hr : RecFam b fr.pan ι CS) :
    ArrL X b nt CS (lone (b.at a (.inRegion ops (List.range ops.size) :: k)) (CS fr.took) w) k fr ι w ((nextL fr st it).map (afterL call d xs)) := by
  intro hn
  have hlt : 0 < ops.size := by omega
  have ho : ops[0]? = some ops[0] := Array.getElem?_eq_getElem hlt
  have hok := hall 0 _ ops[0] rfl ho
  have hop := operOk_op hok
  have hg : ops[0].guard = none := by
    unfold operOk at hok
    simp only [Bool.and_eq_true] at hok
    have := hok.2
    split at this
    · rename_i h; exact h
    · rename_i h _; cases h
    · cases this
  have hwt : Region.wanted ops[0] (yielded ops a.tmps) = true := by
    unfold Region.wanted; rw [hg]
  have hnx : ∃ it', ops[0].op = .next it' false ∧ opdIs X.ng it it' = true := by
    have hk : yopOk X.P X.ng X.keys X.cntf X.eqs X.idxf X.mlg ops[0].op (.nxt it) = true := hop
    generalize ops[0].op = op at hk
    unfold yopOk at hk
    split at hk <;> rename_i e1 <;> first | (cases e1; done) | skip
    · cases e1
      exact ⟨_, rfl, hk⟩
    · cases hk
  obtain ⟨it', hop', hit⟩ := hnx
  obtain ⟨rfl, hi⟩ := opdIs_eq hit
  obtain ⟨v, st', v', w', hmem, hrun, hv, hw', hk⟩ := sim_next hi hop' hf hw (fun r hr e => by
    subst e
    exact hn (afterL call d xs .no) (List.mem_map.2 ⟨_, hr, rfl⟩) rfl)
  obtain ⟨hd1, hd2⟩ := operOk_dst hok
  have hrange : List.range ops.size = 0 :: (List.range xs.length).map (· + 1) := by
    rw [← hlen, List.range_succ_eq_map]
  have hnd : b.rnd = none ∨ ∀ c, ops[0].op ≠ .defer c := .inr (by rw [hop']; simp)
  have hst := st_op_value (P := X.P) (b := b) (k := k) (cs := CS fr.took) (rest := (List.range xs.length).map (· + 1)) ho hwt hnd hrun
  refine ⟨_, List.mem_map.2 ⟨_, hmem, rfl⟩, ?_⟩
  show Arr X b nt CS _ k fr ι w (evOps call xs (fr.put d v) st')
  rw [hrange]
  obtain ⟨q1, q2, q3, q4⟩ := put_pan fr d v
  have hrec := ops_sim (b := b) (CS := CS) (k := k) (ops := ops) (nt := nt) hcs xs ((List.range xs.length).map (· + 1)) ι (fr.put d v) (a.put ops[0].dst v') st' w' (by simp) (fun j x i hx hi => by
      have hjl : j < xs.length := (List.getElem?_eq_some_iff.1 hx).1
      have e : i = j + 1 := by
        rw [List.getElem?_map, List.getElem?_range hjl] at hi
        simpa using hi.symm
      subst e
      have hlt' : j + 1 < ops.size := by omega
      exact ⟨ops[j + 1], Array.getElem?_eq_getElem hlt', hall (j + 1) x _ (by simpa using hx) (Array.getElem?_eq_getElem hlt')⟩)
    (by have := hf.put hd2 hv; rw [← hd1]; exact this) hw' (by rw [q2]; exact hb) (by rw [q1]; exact hr)
  rw [q3] at hrec
  exact Arr.head (.one hst) hk q1 q2 hrec

theorem codeL_sim (hG : Good X) (hcs : CallSim X call) (hrng : RngSim X call b nt CS) (hfn : ∃ F, X.P.funcs[b.fn]? = some F ∧ F.ntmps = nt) (lf : Nat) : ∀ (xc : XCode) (c : Code) (ι : Inj) (fr : AFr) (a : Act) (st : St) (w : World) (k : List Item), codeOk X nt xc c = true →
    FRel ι fr a nt → WRel X ι st w → RndRel ι fr.rnd b.rnd → RecFam b fr.pan ι CS →
    ArrL X b nt CS (lone (b.at a (.code c :: k)) (CS fr.took) w) k fr ι w (evL call lf b.fn xc fr st) := by
  intro xc
  have hdef : ∀ (c : Code) (ι : Inj) (fr : AFr) (a : Act) (st : St) (w : World) (k : List Item) (xc : XCode), codeOk X nt xc c = true → FRel ι fr a nt → WRel X ι st w → RndRel ι fr.rnd b.rnd → RecFam b fr.pan ι CS →
      ArrL X b nt CS (lone (b.at a (.code c :: k)) (CS fr.took) w) k fr ι w [evCode call lf b.fn xc fr st] :=
    fun c ι fr a st w k xc hc hf hw hb hr => ArrL.one (code_sim hG hcs hrng hfn lf xc c ι fr a st w k hc hf hw hb hr)
  induction xc with
  | skip => intro c ι fr a st w k hc hf hw hb hr; exact hdef c ι fr a st w k .skip hc hf hw hb hr
  | reg xs =>
    intro c ι fr a st w k hc hf hw hb hr
    unfold evL
    split
    · rename_i d it ops' heq
      cases heq
      cases c with
      | region id ops draw =>
        cases draw with
        | true => exact absurd hc Bool.false_ne_true
        | false =>
          obtain ⟨h1, h2⟩ := regOk_spec (hc : regOk X nt ops _ ops.toList = true)
          refine ArrL.head (.one st_region) (.refl _ _) rfl rfl (region_next hcs (by simpa using h1) (fun j x o hx ho => h2 j x o hx (by simpa using ho)) hf hw hb hr)
      | _ => exact absurd hc Bool.false_ne_true
    all_goals first
      | exact hdef c ι _ a _ w k _ hc hf hw hb hr
      | (rename_i heq; cases heq)
  | dreg L ix pz ms => intro c ι fr a st w k hc hf hw hb hr; exact hdef c ι fr a st w k (.dreg L ix pz ms) hc hf hw hb hr
  | seq x y ihx ihy =>
    intro c ι fr a st w k hc hf hw hb hr
    cases c with
    | seq c d =>
      have hc : (codeOk X nt x c && codeOk X nt y d) = true := hc
      rw [Bool.and_eq_true] at hc
      have h1 := ihx c ι fr a st w (.code d :: k) hc.1 hf hw hb hr
      refine ArrL.head (.one st_seq) (.refl _ _) rfl rfl (ArrL.then (k := .code d :: k) (k' := k) (fun id => rfl) h1 fun κ a' w' fr' st' hf' hw' hk hp hn => ?_)
      exact ihy d κ fr' a' st' w' k hc.2 hf' hw' (by rw [hn]; exact hb.mono hk.le) (by rw [hp]; exact hr.mono hk.le)
    | _ => exact absurd hc Bool.false_ne_true
  | cond x y z ihy ihz =>
    intro c ι fr a st w k hc hf hw hb hr
    cases c with
    | cond o c d =>
      have hc : (opdIs X.ng x o && codeOk X nt y c && codeOk X nt z d) = true := hc
      simp only [Bool.and_eq_true] at hc
      obtain ⟨rfl, ho⟩ := opdIs_eq hc.1.1
      show ArrL X b nt CS _ k fr ι w (vBool (fr.ev x) (fun t => _root_.cond t (evL call lf b.fn y fr st) (evL call lf b.fn z fr st)) [.no])
      have hv := hf.ev hw ho
      generalize hav : a.eval x = av at hv
      generalize fr.ev x = v at hv
      cases v with
      | bool t =>
        cases hv
        cases t with
        | true => exact ArrL.head (.one (st_cond hav)) (.refl _ _) rfl rfl (ihy c ι fr a st w k hc.1.2 hf hw hb hr)
        | false => exact ArrL.head (.one (st_cond hav)) (.refl _ _) rfl rfl (ihz d ι fr a st w k hc.2 hf hw hb hr)
      | _ => exact fun hn => absurd rfl (hn .no (by simp [vBool]))
    | _ => exact absurd hc Bool.false_ne_true
  | block i x ih =>
    intro c ι fr a st w k hc hf hw hb hr
    cases c with
    | block j c =>
      have hc : (Nat.beq i j && codeOk X nt x c) = true := hc
      rw [Bool.and_eq_true] at hc
      have e := beqN hc.1
      subst e
      have h1 := ih c ι fr a st w (.inBlock i :: k) hc.2 hf hw hb hr
      refine ArrL.head (.one st_block) (.refl _ _) rfl rfl ?_
      show ArrL X b nt CS _ k fr ι w ((evL call lf b.fn x fr st).map (blockK i))
      intro hn
      obtain ⟨r, hr1, h1⟩ := h1 (fun r hr e => by subst e; exact hn (blockK i .no) (List.mem_map.2 ⟨_, hr, rfl⟩) rfl)
      refine ⟨blockK i r, List.mem_map.2 ⟨_, hr1, rfl⟩, ?_⟩
      cases r with
      | no => trivial
      | out e fr' st' =>
        obtain ⟨κ, a', w', h2, h3, h4, h5, h6, h7⟩ := h1
        cases e with
        | norm => exact ⟨κ, a', w', h2, h3, h4, h5, h6, Steps.trans h7 (.one st_inBlock)⟩
        | exit id =>
          obtain ⟨td, h8, h9⟩ := h7
          show Arr X b nt CS _ k fr ι w (eqK id i (.out .norm fr' st') (.out (.exit id) fr' st'))
          rw [eqK_eq]
          by_cases e : id = i
          · subst e
            rw [if_pos rfl]
            have h10 : exitTo id td = some k := by rw [h8]; simp [exitTo]
            exact ⟨κ, a', w', h2, h3, h4, h5, h6, Steps.trans h9 (.one (st_exit h10))⟩
          · rw [if_neg e]
            refine ⟨κ, a', w', h2, h3, h4, h5, h6, td, ?_, h9⟩
            rw [h8]
            have : ¬ i = id := fun h => e h.symm
            simp [exitTo, this]
        | ret => exact ⟨κ, a', w', h2, h3, h4, h5, h6, h7⟩
        | pan v => exact ⟨κ, a', w', h2, h3, h4, h5, h6, h7⟩
    | _ => exact absurd hc Bool.false_ne_true
  | loop x ih =>
    intro c ι fr a st w k hc hf hw hb hr
    cases c with
    | loop c =>
      have hc : codeOk X nt x c = true := hc
      have key : ∀ (n : Nat) (ι : Inj) (fr : AFr) (a : Act) (st : St) (w : World), FRel ι fr a nt → WRel X ι st w → RndRel ι fr.rnd b.rnd → RecFam b fr.pan ι CS →
          ArrL X b nt CS (lone (b.at a (.code c :: .inLoop c :: k)) (CS fr.took) w) k fr ι w (loopL (evL call lf b.fn x) n fr st) := by
        intro n
        induction n with
        | zero => intros; exact fun hn => absurd rfl (hn .no (by simp [loopL]))
        | succ n ihn =>
          intro ι fr a st w hf hw hb hr
          refine ArrL.then (k := .inLoop c :: k) (fun id => rfl) (ih c ι fr a st w (.inLoop c :: k) hc hf hw hb hr) fun κ a' w' fr' st' hf' hw' hk hp hn => ?_
          exact ArrL.head (.one st_inLoop) (.refl _ _) rfl rfl (ihn κ fr' a' st' w' hf' hw' (by rw [hn]; exact hb.mono hk.le) (by rw [hp]; exact hr.mono hk.le))
      exact ArrL.head (.one st_loop) (.refl _ _) rfl rfl (key lf ι fr a st w hf hw hb hr)
    | _ => exact absurd hc Bool.false_ne_true
  | rng f ps asg body _ _ => intro c ι fr a st w k hc hf hw hb hr; exact hdef c ι fr a st w k (.rng f ps asg body) hc hf hw hb hr
  | exit i => intro c ι fr a st w k hc hf hw hb hr; exact hdef c ι fr a st w k (.exit i) hc hf hw hb hr
  | scope x ih =>
    intro c ι fr a st w k hc hf hw hb hr
    cases c with
    | scope c =>
      have h1 := ih c ι fr a st w (.inScope c :: k) hc hf hw hb hr
      refine ArrL.head (.one st_scope) (.refl _ _) rfl rfl ?_
      show ArrL X b nt CS _ k fr ι w (evL call lf b.fn x fr st)
      rw [← thenL_norm (evL call lf b.fn x fr st)]
      exact ArrL.then (k := .inScope c :: k) (fun id => rfl) h1 fun κ a' w' fr' st' hf' hw' _ _ _ => ArrL.one ⟨κ, a', w', hf', hw', .refl _ _, rfl, rfl, .one st_inScope⟩
    | _ => exact absurd hc Bool.false_ne_true
  | ret => intro c ι fr a st w k hc hf hw hb hr; exact hdef c ι fr a st w k .ret hc hf hw hb hr
  | refuse => intro c ι fr a st w k hc hf hw hb hr; exact hdef c ι fr a st w k .refuse hc hf hw hb hr
end
end Go.AM
namespace Go.AM
variable {X : Ctx}

section
variable (rho : Nat → Option Nat)
def adrR (a b : Addr) : Bool := (rho a.block == some b.block) && Nat.beq a.off b.off && a.spot.isNone && b.spot.isNone
mutual
/-- Values that are one, but for names. -/
def relV : Value → Value → Bool
  | .bool a, .bool b => a == b
  | .int k a, .int k' b => decide (k = k') && a == b
  | .float k a, .float k' b => decide (k = k') && a == b
  | .string a, .string b => a.data.toList == b.data.toList
  | .pointer none, .pointer none => true
  | .pointer (some a), .pointer (some b) => adrR rho a b
  | .slice none l c, .slice none l' c' => l == l' && c == c'
  | .slice (some a) l c, .slice (some b) l' c' => adrR rho a b && l == l' && c == c'
  | .map none, .map none => true
  | .map (some a), .map (some b) => rho a == some b
  | .chan (some (c + 1)), .chan (some (d + 1)) => Nat.beq c d
  | .func (.func f) x y, .func (.func g) u v => f == g && relA x u && relA y v
  | .nilFunc, .nilFunc => true
  | .iface t v, .iface u w => t == u && relV v w
  | .nilIface, .nilIface => true
  | .agg a, .agg b => relA a b
  | .tuple a, .tuple b => relA a b
  | _, _ => false
def relA : Array Value → Array Value → Bool
  | ⟨a⟩, ⟨b⟩ => relL a b
def relL : List Value → List Value → Bool
  | [], [] => true
  | a :: as, b :: bs => relV a b && relL as bs
  | _, _ => false
end

theorem relL_get : ∀ (xs ys : List Value), relL rho xs ys = true → xs.length = ys.length ∧ ∀ (i : Nat) (h : i < xs.length) (h' : i < ys.length), relV rho xs[i] ys[i] = true
  | [], [], _ => ⟨rfl, fun i h => by simp at h⟩
  | x :: xs, y :: ys, h => by
    simp only [relL, Bool.and_eq_true] at h
    obtain ⟨h1, h2⟩ := relL_get xs ys h.2
    refine ⟨by simp [h1], fun i a b => ?_⟩
    cases i with
    | zero => exact h.1
    | succ i => exact h2 i (by simpa using a) (by simpa using b)
  | [], _ :: _, h => by simp [relL] at h
  | _ :: _, [], h => by simp [relL] at h
theorem relA_get (xs ys : Array Value) (h : relA rho xs ys = true) : xs.size = ys.size ∧ ∀ (i : Nat) (h : i < xs.size) (h' : i < ys.size), relV rho xs[i] ys[i] = true := by
  obtain ⟨xs⟩ := xs
  obtain ⟨ys⟩ := ys
  simp only [relA] at h
  obtain ⟨h1, h2⟩ := relL_get rho xs ys h
  exact ⟨by simpa using h1, fun i a b => by simpa using h2 i (by simpa using a) (by simpa using b)⟩
end

/-- Names for names. -/
def Ren (rho : Nat → Option Nat) (κ μ : Inj) : Prop := ∀ i j l, rho i = some j → μ j = some l → ∃ sg, κ i = some { l with sg := sg }

theorem adrR_ok {rho : Nat → Option Nat} {a b : Addr} (h : adrR rho a b = true) : rho a.block = some b.block ∧ a.off = b.off ∧ a.spot = none ∧ b.spot = none := by
  unfold adrR at h
  simp only [Bool.and_eq_true] at h
  exact ⟨eq_of_beq h.1.1.1, Nat.eq_of_beq_eq_true h.1.1.2, by simpa using h.1.2, by simpa using h.2⟩

theorem relV_ok {rho : Nat → Option Nat} {κ μ : Inj} (hR : Ren rho κ μ) {u c : Value} (h : VRel μ u c) : ∀ v, relV rho v u = true → VRel κ v c := by
  induction h with
  | bool b => intro v hv; cases v <;> simp [relV] at hv; rw [hv]; exact .bool _
  | int k n => intro v hv; cases v <;> simp [relV] at hv; rw [hv.1, hv.2]; exact .int _ _
  | float k n => intro v hv; cases v <;> simp [relV] at hv; rw [hv.1, hv.2]; exact .float _ _
  | string s =>
    intro v hv
    cases v <;> simp [relV] at hv
    rename_i s'
    have : s' = s := by cases s; cases s'; simp_all
    rw [this]; exact .string _
  | ptrNil =>
    intro v hv
    cases v <;> first | (simp [relV] at hv; done) | skip
    rename_i p
    cases p <;> simp [relV] at hv
    exact .ptrNil
  | ptr a l h hs =>
    intro v hv
    cases v <;> first | (simp [relV] at hv; done) | skip
    rename_i p
    cases p <;> simp [relV] at hv
    rename_i a'
    obtain ⟨h1, h2, h3, h4⟩ := adrR_ok hv
    obtain ⟨sg, hk⟩ := hR _ _ _ h1 h
    have := VRel.ptr (ι := κ) a' _ hk h3
    rw [h2] at this
    exact this
  | slcNil n c =>
    intro v hv
    cases v <;> first | (simp [relV] at hv; done) | skip
    rename_i p _ _
    cases p <;> simp [relV] at hv
    rw [hv.1, hv.2]; exact .slcNil _ _
  | slc a l o n c h hs ho =>
    intro v hv
    cases v <;> first | (simp [relV] at hv; done) | skip
    rename_i p _ _
    cases p <;> simp [relV] at hv
    rename_i a'
    obtain ⟨⟨h0, e1⟩, e2⟩ := hv
    obtain ⟨h1, h2, h3, h4⟩ := adrR_ok h0
    obtain ⟨sg, hk⟩ := hR _ _ _ h1 h
    subst e1 e2
    exact VRel.slc (ι := κ) a' { l with sg := sg } o _ _ hk h3 (by rw [h2]; exact ho)
  | mapNil =>
    intro v hv
    cases v <;> first | (simp [relV] at hv; done) | skip
    rename_i p
    cases p <;> simp [relV] at hv
    exact .mapNil
  | map r b sg h =>
    intro v hv
    cases v <;> first | (simp [relV] at hv; done) | skip
    rename_i p
    cases p <;> simp [relV] at hv
    obtain ⟨sg', hk⟩ := hR _ _ _ hv h
    exact .map _ b sg' hk
  | func f g xs ys us vs hf h1 _ h3 _ ih2 ih4 =>
    intro v hv
    cases v <;> first | (simp [relV] at hv; done) | skip
    rename_i f' x' y'
    cases f' <;> cases f <;> simp [relV] at hv
    rename_i f1 f2
    obtain ⟨⟨e, hx⟩, hy⟩ := hv
    subst e
    obtain ⟨a1, a2⟩ := relA_get rho _ _ hx
    obtain ⟨b1, b2⟩ := relA_get rho _ _ hy
    refine .func _ _ _ _ _ _ ?_ (a1.trans h1) (fun i p q => ih2 i (by omega) q _ (a2 i p (by omega))) (b1.trans h3) (fun i p q => ih4 i (by omega) q _ (b2 i p (by omega)))
    rcases hf with ⟨rfl, h⟩ | ⟨l, b, h, _⟩
    · exact .inl ⟨rfl, fun l e => by cases e⟩
    · cases h
  | nilFunc => intro v hv; cases v <;> simp [relV] at hv; exact .nilFunc
  | iface t v w _ ih =>
    intro v' hv
    cases v' <;> simp [relV] at hv
    rw [hv.1]; exact .iface _ _ _ (ih _ hv.2)
  | nilIface => intro v hv; cases v <;> simp [relV] at hv; exact .nilIface
  | agg xs ys h1 _ ih =>
    intro v hv
    cases v <;> simp [relV] at hv
    obtain ⟨a1, a2⟩ := relA_get rho _ _ hv
    exact .agg _ _ (a1.trans h1) (fun i p q => ih i (by omega) q _ (a2 i p (by omega)))
  | tuple xs ys h1 _ ih =>
    intro v hv
    cases v <;> simp [relV] at hv
    obtain ⟨a1, a2⟩ := relA_get rho _ _ hv
    exact .tuple _ _ (a1.trans h1) (fun i p q => ih i (by omega) q _ (a2 i p (by omega)))
  | unk c m h =>
    intro v hv
    have hc : c ≠ 0 := by intro e; subst e; rcases h with h | ⟨k, h, _⟩ | ⟨k, h, _⟩ <;> omega
    obtain ⟨c, rfl⟩ : ∃ d, c = d + 1 := ⟨c - 1, by omega⟩
    cases v <;> first | (simp [relV] at hv; done) | skip
    rename_i x
    cases x with
    | none => simp [relV] at hv
    | some x =>
      cases x with
      | zero => simp [relV] at hv
      | succ d =>
        simp only [relV] at hv
        rw [Nat.eq_of_beq_eq_true hv]; exact .unk _ _ h
  | top c => intro v hv; cases v <;> simp [relV, poison] at hv
end Go.AM
namespace Go.AM
variable {X : Ctx}

/-- The entries of a new map, by keys; its stamps are the places. -/
def mapR (rho : Nat → Option Nat) (es : List MapEntry) (c : Nat) (es' : List MapEntry) : Bool :=
  Nat.beq c es.length && (es.zipIdx.all fun p => Nat.beq p.1.born p.2) && (es'.all fun e => (mapFind e.key es).isSome) &&
  (es.all fun e => (match mapFind e.key es' with | some e' => relV rho e.key e'.key && relV rho e.val e'.val | none => false)) &&
  (es.zipIdx.all fun p => es.zipIdx.all fun q => Nat.beq p.2 q.2 || !veq p.1.key q.1.key)

noncomputable def stampOf (es es' : List MapEntry) (s : Nat) : Nat := ((es[s]?).bind fun e => (mapFind e.key es').map (·.born)).getD 0
noncomputable def newSg (sg : Nat → Nat) (es : List MapEntry) (c : Nat) (es' : List MapEntry) (c' : Nat) : Nat → Nat := fun s => if s < c then sg (stampOf es es' s) else sg c' + (s - c)

theorem uniqB {es : List MapEntry} (h : es.Pairwise (fun a b => a.born ≠ b.born)) {a b : MapEntry} (ha : a ∈ es) (hb : b ∈ es) (e : a.born = b.born) : a = b := by
  induction es with
  | nil => cases ha
  | cons x xs ih =>
    rw [List.pairwise_cons] at h
    rcases List.mem_cons.1 ha with rfl | ha' <;> rcases List.mem_cons.1 hb with rfl | hb'
    · rfl
    · exact absurd e (h.1 b hb')
    · exact absurd e.symm (h.1 a ha')
    · exact ih h.2 ha' hb'

theorem mapFind_of {k : Value} {es : List MapEntry} (h : es.Pairwise (fun a b => a.key ≠ b.key)) {e : MapEntry} (he : e ∈ es) (hk : e.key = k) : mapFind k es = some e := by
  cases hf : mapFind k es with
  | none => exact absurd hk (mapFind_none hf e he)
  | some e' =>
    obtain ⟨h1, h2⟩ := mapFind_some hf
    rw [uniq h h1 he (h2.trans hk.symm)]

theorem nodup_keys {es : List MapEntry} (h : es.Pairwise (fun a b => a.key ≠ b.key)) : es.Nodup :=
  h.imp (fun {a b} hab e => hab (by rw [e]))

theorem mapR_ok {rho : Nat → Option Nat} {κ μ : Inj} (hR : Ren rho κ μ) {es es' : List MapEntry} {c c' : Nat} {sg : Nat → Nat} {C : List MapEntry} {clk : Nat} (hb : mapR rho es c es' = true) (h : MapRel μ sg es' c' C clk) :
    MapRel κ (newSg sg es c es' c') es c C clk := by
  unfold mapR at hb
  simp only [Bool.and_eq_true, List.all_eq_true] at hb
  obtain ⟨⟨⟨⟨h1, h2⟩, h3⟩, h4⟩, h5⟩ := hb
  have hc : c = es.length := Nat.eq_of_beq_eq_true h1
  have hidx : ∀ (i : Nat) (hi : i < es.length), es[i].born = i := by
    intro i hi
    have := h2 (es[i], i) (by rw [List.mem_zipIdx_iff_getElem?]; simp [hi])
    exact Nat.eq_of_beq_eq_true this
  have hkeys : es.Pairwise (fun a b => a.key ≠ b.key) := by
    rw [List.pairwise_iff_getElem]
    intro i j hi hj hij e
    have := h5 (es[i], i) (by rw [List.mem_zipIdx_iff_getElem?]; simp [hi]) (es[j], j) (by rw [List.mem_zipIdx_iff_getElem?]; simp [hj])
    rw [Bool.or_eq_true] at this
    rcases this with hh | hh
    · have := Nat.eq_of_beq_eq_true hh
      simp at this; omega
    · simp only [e, veq_refl] at hh
      cases hh
  have hmatch : ∀ e ∈ es, ∃ e', e' ∈ es' ∧ e'.key = e.key ∧ mapFind e.key es' = some e' ∧ relV rho e.key e'.key = true ∧ relV rho e.val e'.val = true := by
    intro e he
    have := h4 e he
    split at this
    · rename_i e' hf
      rw [Bool.and_eq_true] at this
      obtain ⟨m1, m2⟩ := mapFind_some hf
      exact ⟨e', m1, m2, hf, this.1, this.2⟩
    · cases this
  have hstamp : ∀ (s : Nat) (hs : s < es.length), ∃ e', e' ∈ es' ∧ e'.key = es[s].key ∧ stampOf es es' s = e'.born := by
    intro s hs
    obtain ⟨e', m1, m2, m3, _⟩ := hmatch es[s] (List.getElem_mem hs)
    refine ⟨e', m1, m2, ?_⟩
    unfold stampOf
    rw [List.getElem?_eq_getElem hs]
    simp [m3]
  have hlt : ∀ s, s < c → stampOf es es' s < c' := by
    intro s hs
    obtain ⟨e', m1, _, m3⟩ := hstamp s (by omega)
    rw [m3]; exact h.born e' m1
  have hpos : ∀ s, s < c → newSg sg es c es' c' s = sg (stampOf es es' s) := fun s hs => if_pos hs
  have hup : ∀ s, c ≤ s → newSg sg es c es' c' s = sg c' + (s - c) := fun s hs => if_neg (by omega)
  obtain ⟨L, hp, hlen, hL⟩ := h.same
  have hback : ∀ e' ∈ es', ∃ e, e ∈ es ∧ e.key = e'.key ∧ mapFind e'.key es = some e := by
    intro e' he'
    have := h3 e' he'
    obtain ⟨e, he⟩ := Option.isSome_iff_exists.1 this
    obtain ⟨m1, m2⟩ := mapFind_some he
    exact ⟨e, m1, m2, he⟩
  let g : MapEntry → MapEntry := fun e' => (mapFind e'.key es).getD e'
  have hg : ∀ e' ∈ es', g e' ∈ es ∧ (g e').key = e'.key := by
    intro e' he'
    obtain ⟨e, m1, m2, m3⟩ := hback e' he'
    have : g e' = e := by show (mapFind e'.key es).getD e' = e; rw [m3]; rfl
    rw [this]; exact ⟨m1, m2⟩
  refine ⟨?_, ⟨fun s t hs ht e => ?_, fun s hs => ?_, fun j => ?_⟩, fun e he => ?_, hkeys, ?_, L.map g, ?_, by simp [hlen], ?_⟩
  · rw [hup c (Nat.le_refl _), Nat.sub_self, Nat.add_zero]; exact h.clk
  · rw [hpos s hs, hpos t ht] at e
    have e2 := h.sgs.inj _ _ (hlt s hs) (hlt t ht) e
    obtain ⟨a', a1, a2, a3⟩ := hstamp s (by omega)
    obtain ⟨b', b1, b2, b3⟩ := hstamp t (by omega)
    rw [a3, b3] at e2
    have e3 := uniqB h.borns a1 b1 e2
    subst e3
    have e4 : es[s] = es[t] := uniq hkeys (List.getElem_mem _) (List.getElem_mem _) (by rw [← a2, ← b2])
    rw [← hidx s (by omega), ← hidx t (by omega), e4]
  · rw [hpos s hs, hup c (Nat.le_refl _)]
    have := h.sgs.lt _ (hlt s hs); omega
  · rw [hup (c + j) (by omega), hup c (Nat.le_refl _)]; omega
  · obtain ⟨i, hi, rfl⟩ := List.getElem_of_mem he
    rw [hidx i hi]; omega
  · rw [List.pairwise_iff_getElem]
    intro i j hi hj hij
    rw [hidx i hi, hidx j hj]; omega
  · have hp2 : (L.map g).Perm (es'.map g) := hp.map g
    refine hp2.trans ?_
    have hnd : (es'.map g).Nodup := by
      have : (es'.map g).Pairwise (fun a b => a.key ≠ b.key) := by
        rw [List.pairwise_map]
        rw [List.pairwise_iff_getElem]
        intro i j hi hj hij e
        rw [(hg _ (List.getElem_mem hi)).2, (hg _ (List.getElem_mem hj)).2] at e
        exact List.pairwise_iff_getElem.1 h.keys i j hi hj hij e
      exact nodup_keys this
    rw [List.perm_ext_iff_of_nodup hnd (nodup_keys hkeys)]
    intro x
    constructor
    · intro hx
      obtain ⟨e', he', rfl⟩ := List.mem_map.1 hx
      exact (hg e' he').1
    · intro hx
      obtain ⟨e', m1, m2, _⟩ := hmatch x hx
      refine List.mem_map.2 ⟨e', m1, ?_⟩
      exact uniq hkeys (hg e' m1).1 hx (by rw [(hg e' m1).2, m2])
  · intro i a b
    have a' : i < L.length := by simpa using a
    rw [List.getElem_map]
    have hrel := hL i a' b
    have hLm : L[i] ∈ es' := hp.mem_iff.1 (List.getElem_mem a')
    obtain ⟨g1, g2⟩ := hg L[i] hLm
    obtain ⟨e', m1, m2, m3, m4, m5⟩ := hmatch (g L[i]) g1
    have e1 : e' = L[i] := uniq h.keys m1 hLm (by rw [m2, g2])
    subst e1
    refine ⟨relV_ok hR hrel.1 _ m4, relV_ok hR hrel.2.1 _ m5, ?_⟩
    obtain ⟨s, hs, hse⟩ := List.getElem_of_mem g1
    rw [hrel.2.2, ← hse, hidx s hs, hpos s (by omega)]
    obtain ⟨e'', q1, q2, q3⟩ := hstamp s hs
    rw [q3]
    have : e'' = L[i] := uniq h.keys q1 hLm (by rw [q2, hse, g2])
    rw [this]

/-- An old map: entry by entry. -/
def mapS (rho : Nat → Option Nat) : List MapEntry → List MapEntry → Bool
  | [], [] => true
  | e :: es, f :: fs => veq e.key f.key && relV rho e.key f.key && relV rho e.val f.val && Nat.beq e.born f.born && mapS rho es fs
  | _, _ => false
theorem mapS_get {rho : Nat → Option Nat} : ∀ (es fs : List MapEntry), mapS rho es fs = true → es.length = fs.length ∧ ∀ (i : Nat) (h : i < es.length) (h' : i < fs.length), es[i].key = fs[i].key ∧ relV rho es[i].key fs[i].key = true ∧ relV rho es[i].val fs[i].val = true ∧ es[i].born = fs[i].born
  | [], [], _ => ⟨rfl, fun i h => by simp at h⟩
  | e :: es, f :: fs, h => by
    simp only [mapS, Bool.and_eq_true] at h
    obtain ⟨⟨⟨⟨h1, h2⟩, h3⟩, h4⟩, h5⟩ := h
    obtain ⟨k1, k2⟩ := mapS_get es fs h5
    refine ⟨by simp [k1], fun i a b => ?_⟩
    cases i with
    | zero => exact ⟨veq_eq _ _ h1, h2, h3, Nat.eq_of_beq_eq_true h4⟩
    | succ i => exact k2 i (by simpa using a) (by simpa using b)
  | [], _ :: _, h => by simp [mapS] at h
  | _ :: _, [], h => by simp [mapS] at h

theorem mapS_ok {rho : Nat → Option Nat} {κ μ : Inj} (hR : Ren rho κ μ) {es es' : List MapEntry} {c : Nat} {sg : Nat → Nat} {C : List MapEntry} {clk : Nat} (hb : mapS rho es es' = true) (h : MapRel μ sg es' c C clk) : MapRel κ sg es c C clk := by
  obtain ⟨k1, k2⟩ := mapS_get es es' hb
  obtain ⟨L, hp, hlen, hL⟩ := h.same
  let g : MapEntry → MapEntry := fun e' => (mapFind e'.key es).getD e'
  have hkeys : es.Pairwise (fun a b => a.key ≠ b.key) := by
    rw [List.pairwise_iff_getElem]
    intro i j hi hj hij
    rw [(k2 i hi (by omega)).1, (k2 j hj (by omega)).1]
    exact List.pairwise_iff_getElem.1 h.keys i j (by omega) (by omega) hij
  have hg : ∀ (i : Nat) (hi : i < es'.length) (hi' : i < es.length), g es'[i] = es[i] := by
    intro i hi hi'
    show (mapFind es'[i].key es).getD es'[i] = es[i]
    rw [mapFind_of hkeys (List.getElem_mem hi') (k2 i hi' hi).1]; rfl
  have hmap : es'.map g = es := by
    apply List.ext_getElem
    · simp [k1]
    · intro i a b
      rw [List.getElem_map]; exact hg i (by simpa using a) b
  refine ⟨h.clk, h.sgs, fun e he => ?_, hkeys, ?_, L.map g, by rw [← hmap]; exact hp.map g, by simp [hlen], ?_⟩
  · obtain ⟨i, hi, rfl⟩ := List.getElem_of_mem he
    rw [(k2 i hi (by omega)).2.2.2]
    exact h.born _ (List.getElem_mem _)
  · rw [List.pairwise_iff_getElem]
    intro i j hi hj hij
    rw [(k2 i hi (by omega)).2.2.2, (k2 j hj (by omega)).2.2.2]
    exact List.pairwise_iff_getElem.1 h.borns i j (by omega) (by omega) hij
  · intro i a b
    have a' : i < L.length := by simpa using a
    rw [List.getElem_map]
    have hrel := hL i a' b
    obtain ⟨s, hs, hse⟩ := List.getElem_of_mem (hp.mem_iff.1 (List.getElem_mem a'))
    have hs' : s < es.length := by omega
    have e1 : g L[i] = es[s] := by rw [← hse]; exact hg s hs hs'
    obtain ⟨q1, q2, q3, q4⟩ := k2 s hs' hs
    rw [hse] at q1 q2 q3 q4
    rw [e1]
    exact ⟨relV_ok hR hrel.1 _ q2, relV_ok hR hrel.2.1 _ q3, by rw [hrel.2.2, q4]⟩
end Go.AM
namespace Go.AM
variable {X : Ctx}

def rhoOf (nx : Nat) (l : List (Nat × Nat)) (i : Nat) : Option Nat := if i < nx then some i else (l.find? (fun p => Nat.beq p.1 i)).map (·.2)

def objR (old : Bool) (rho : Nat → Option Nat) : AObj → AObj → Bool
  | .cells cs e fz gr, .cells cs' e' fz' gr' => Nat.beq e e' && Nat.beq fz.1 fz'.1 && Nat.beq fz.2 fz'.2 && (gr == gr') && relL rho cs cs'
  | .map es c, .map es' c' => if old then Nat.beq c c' && mapS rho es es' else mapR rho es c es'
  | _, _ => false

def PM.allB {α : Type} (q : Nat → α → Bool) : PM α → (Nat → Nat) → Bool
  | .nil, _ => true
  | .node l v r, g => (match v with | some x => q (g 0) x | none => true) && PM.allB q l (fun n => g (2 * n + 1)) && PM.allB q r (fun n => g (2 * n + 2))
theorem PM.allB_get {α : Type} {q : Nat → α → Bool} : ∀ (t : PM α) (g : Nat → Nat), PM.allB q t g = true → ∀ n x, t.get n = some x → q (g n) x = true
  | .nil, _, _, n, x, h => by simp at h
  | .node l v r, g, ha, n, x, h => by
    simp only [PM.allB, Bool.and_eq_true] at ha
    obtain ⟨⟨h1, h2⟩, h3⟩ := ha
    cases n with
    | zero => rw [PM.get_node0] at h; subst h; exact h1
    | succ m =>
      rw [PM.get_nodeS] at h
      split at h
      · have := PM.allB_get l _ h2 _ x h
        have e : 2 * (m / 2) + 1 = m + 1 := by omega
        simp only [e] at this; exact this
      · have := PM.allB_get r _ h3 _ x h
        have e : 2 * (m / 2) + 2 = m + 1 := by omega
        simp only [e] at this; exact this

noncomputable def canB (nx : Nat) (l : List (Nat × Nat)) (v : Value) (st : St) (v2 : Value) (st2 : St) : Bool :=
  relV (rhoOf nx l) v v2 && Nat.ble nx st.nx && (l.all fun p => Nat.ble nx p.1 && Nat.ble (Nat.succ p.1) st.nx && Nat.ble nx p.2) && (l.all fun p => l.all fun q => !Nat.beq p.2 q.2 || Nat.beq p.1 q.1) &&
  PM.allB (fun i o => match rhoOf nx l i with
    | some j => (match st2.h.get j with | some o2 => objR (decide (i < nx)) (rhoOf nx l) o o2 | none => false)
    | none => false) st.h id

section
variable (nx : Nat) (l : List (Nat × Nat)) (st st2 : St) (μ : Inj)
noncomputable def sgFor (i j : Nat) (lc : Loc) : Nat → Nat :=
  match st.h.get i, st2.h.get j with
  | some (.map es c), some (.map es' c') => newSg lc.sg es c es' c'
  | _, _ => lc.sg
noncomputable def renI : Inj := fun i =>
  if i < nx then μ i else ((l.find? (fun p => Nat.beq p.1 i)).map (·.2)).bind fun j => (μ j).map fun lc => { lc with sg := sgFor st st2 i j lc }
end

theorem renI_ren (nx : Nat) (l : List (Nat × Nat)) (st st2 : St) (μ : Inj) : Ren (rhoOf nx l) (renI nx l st st2 μ) μ := by
  intro i j lc hr hm
  unfold rhoOf at hr
  unfold renI
  split at hr
  · rename_i h
    cases hr
    rw [if_pos h]
    exact ⟨lc.sg, hm⟩
  · rename_i h
    rw [if_neg h, hr]
    simp [hm]

theorem WRel.can {μ : Inj} {nx : Nat} {l : List (Nat × Nat)} {v v2 : Value} {st st2 : St} {w : World} (hc : canB nx l v st v2 st2 = true) (hng : X.ng ≤ nx) (h : WRel X μ st2 w) : WRel X (renI nx l st st2 μ) st w := by
  have hren := renI_ren nx l st st2 μ
  unfold canB at hc
  simp only [Bool.and_eq_true] at hc
  obtain ⟨⟨⟨⟨_, hnx⟩, hl1⟩, hl2⟩, hob⟩ := hc
  have hnx := ble_true.1 hnx
  have hl : ∀ p ∈ l, nx ≤ p.1 ∧ p.1 < st.nx ∧ nx ≤ p.2 := by
    intro p hp
    have := List.all_eq_true.1 hl1 p hp
    simp only [Bool.and_eq_true] at this
    exact ⟨ble_true.1 this.1.1, ble_true.1 this.1.2, ble_true.1 this.2⟩
  have hl2' : ∀ p ∈ l, ∀ q ∈ l, p.2 = q.2 → p.1 = q.1 := by
    intro p hp q hq e
    have := List.all_eq_true.1 (List.all_eq_true.1 hl2 p hp) q hq
    rw [Bool.or_eq_true] at this
    rcases this with hh | hh
    · rw [e] at hh; simp at hh
    · exact Nat.eq_of_beq_eq_true hh
  have hfind : ∀ i j, ¬ i < nx → (l.find? (fun p => Nat.beq p.1 i)).map (·.2) = some j → (i, j) ∈ l := by
    intro i j _ hf
    obtain ⟨p, hp, rfl⟩ := Option.map_eq_some_iff.1 hf
    have h1 := List.mem_of_find?_eq_some hp
    have h2 := List.find?_some hp
    have h3 := Nat.eq_of_beq_eq_true h2
    subst h3
    exact h1
  have hobj : ∀ i o, st.h.get i = some o → ∃ j o2, rhoOf nx l i = some j ∧ st2.h.get j = some o2 ∧ objR (decide (i < nx)) (rhoOf nx l) o o2 = true := by
    intro i o ho
    have := PM.allB_get st.h id hob i o ho
    simp only [id] at this
    split at this
    · rename_i j hj
      split at this
      · rename_i o2 ho2; exact ⟨j, o2, hj, ho2, this⟩
      · cases this
    · cases this
  have halive : ∀ {old : Bool} {o o2 : AObj}, objR old (rhoOf nx l) o o2 = true → o2 ≠ .dead := by
    intro old o o2 h e; subst e; cases o <;> simp [objR] at h
  have hκ : ∀ i j lc, rhoOf nx l i = some j → μ j = some lc → renI nx l st st2 μ i = some { lc with sg := if i < nx then lc.sg else sgFor st st2 i j lc } := by
    intro i j lc hr hm
    unfold rhoOf at hr
    unfold renI
    split at hr
    · rename_i hi
      cases hr
      rw [if_pos hi, if_pos hi]; exact hm
    · rename_i hi
      rw [if_neg hi, hr, if_neg hi]
      simp [hm]
  refine ⟨fun i o ho hd => ?_, fun i k o p a b hi hdi hk hdk hai hbk e => ?_, fun i hi => ?_, fun i a ha => ?_, fun g hg => ?_, by omega, fun i a o ha hs ho hd => ?_⟩
  · obtain ⟨j, o2, hr, ho2, hor⟩ := hobj i o ho
    obtain ⟨lc, hlc, hm⟩ := h.objs j o2 ho2 (halive hor)
    refine ⟨_, hκ i j lc hr hlc, ?_⟩
    cases o with
    | cells cs e fz gr =>
      cases o2 with
      | cells cs' e' fz' gr' =>
        simp only [objR, Bool.and_eq_true] at hor
        obtain ⟨⟨⟨⟨h1, h2⟩, h3⟩, h4⟩, h5⟩ := hor
        have e1 := Nat.eq_of_beq_eq_true h1
        have e2 : fz = fz' := Prod.ext (Nat.eq_of_beq_eq_true h2) (Nat.eq_of_beq_eq_true h3)
        have e3 := eq_of_beq h4
        subst e1 e2 e3
        obtain ⟨k1, k2⟩ := relL_get _ _ _ h5
        obtain ⟨C, fz', hC⟩ := hm
        exact ⟨C, fz', hC.there, by rw [k1]; exact hC.room, fun i hi => by
          obtain ⟨c, c1, c2⟩ := hC.cell i (by omega)
          exact ⟨c, c1, relV_ok hren c2 _ (k2 i hi (by omega))⟩, by rw [k1]; exact hC.warm, by rw [k1]; exact hC.plain⟩
      | _ => simp [objR] at hor
    | map es c =>
      cases o2 with
      | map es' c' =>
        obtain ⟨m1, m2, C, clk, m3, m4⟩ := hm
        simp only [objR] at hor
        by_cases hi : i < nx
        · simp only [hi, decide_true, if_true, Bool.and_eq_true] at hor
          have e1 := Nat.eq_of_beq_eq_true hor.1
          subst e1
          refine ⟨m1, m2, C, clk, m3, ?_⟩
          simp only [hi, if_true]
          exact mapS_ok hren hor.2 m4
        · simp only [hi, decide_false, Bool.false_eq_true, if_false] at hor
          refine ⟨m1, m2, C, clk, m3, ?_⟩
          simp only [hi, if_false]
          have : sgFor st st2 i j lc = newSg lc.sg es c es' c' := by unfold sgFor; rw [ho, ho2]
          rw [this]
          exact mapR_ok hren hor m4
      | _ => simp [objR] at hor
    | _ => cases o2 <;> simp [objR] at hor
  · obtain ⟨i2, o2, hr1, ho2, hor1⟩ := hobj i o hi
    obtain ⟨k2, p2, hr2, hp2, hor2⟩ := hobj k p hk
    obtain ⟨la, hla, _⟩ := h.objs i2 o2 ho2 (halive hor1)
    obtain ⟨lb, hlb, _⟩ := h.objs k2 p2 hp2 (halive hor2)
    rw [hκ i i2 la hr1 hla] at hai
    rw [hκ k k2 lb hr2 hlb] at hbk
    cases hai; cases hbk
    have e2 : i2 = k2 := h.inj i2 k2 o2 p2 la lb ho2 (halive hor1) hp2 (halive hor2) hla hlb e
    subst e2
    unfold rhoOf at hr1 hr2
    split at hr1 <;> split at hr2
    · cases hr1; cases hr2; rfl
    · rename_i q1 q2
      cases hr1
      have := hl _ (hfind k i q2 hr2)
      simp only at this; omega
    · rename_i q1 q2
      cases hr2
      have := hl _ (hfind i k q1 hr1)
      simp only at this; omega
    · rename_i q1 q2
      exact hl2' _ (hfind i i2 q1 hr1) _ (hfind k i2 q2 hr2) rfl
  · constructor
    · unfold renI
      rw [if_neg (by omega)]
      cases hf : (l.find? (fun p => Nat.beq p.1 i)).map (·.2) with
      | none => rfl
      | some j =>
        have := hl _ (hfind i j (by omega) hf)
        simp only at this; omega
    · cases hg : st.h.get i with
      | none => rfl
      | some o =>
        obtain ⟨j, _, hr, _⟩ := hobj i o hg
        unfold rhoOf at hr
        rw [if_neg (by omega)] at hr
        have := hl _ (hfind i j (by omega) hr)
        simp only at this; omega
  · unfold renI at ha
    split at ha
    · exact h.bnd i a ha
    · obtain ⟨j, _, ha⟩ := Option.bind_eq_some_iff.1 ha
      obtain ⟨lc, hlc, rfl⟩ := Option.map_eq_some_iff.1 ha
      exact h.bnd j lc hlc
  · unfold renI
    rw [if_pos (by omega)]
    exact h.glob g hg
  · obtain ⟨j, o2, hr, ho2, hor⟩ := hobj i o ho
    obtain ⟨lc, hlc, hm⟩ := h.objs j o2 ho2 (halive hor)
    have ea := hκ i j lc hr hlc
    rw [ha] at ea
    cases ea
    simp only at hs
    cases o with
    | cells cs e fz gr =>
      cases o2 with
      | cells cs' e' fz' gr' =>
        have hs2 : lc.sg = gsg := by
          by_cases hi : i < nx
          · rw [if_pos hi] at hs; exact hs
          · rw [if_neg hi] at hs
            have : sgFor st st2 i j lc = lc.sg := by unfold sgFor; rw [ho, ho2]
            rw [← this]; exact hs
        have hfz := h.prot j lc _ hlc hs2 ho2 (by simp)
        simp only [objR, Bool.and_eq_true] at hor
        obtain ⟨⟨⟨⟨_, h2⟩, h3⟩, h4⟩, _⟩ := hor
        have e3 := eq_of_beq h4
        have e4 := Nat.eq_of_beq_eq_true h2
        have e5 := Nat.eq_of_beq_eq_true h3
        exact ⟨by rw [e3]; exact hfz.1, by rw [e4, e5]; exact hfz.2⟩
      | _ => simp [objR] at hor
    | map es c =>
      cases o2 with
      | map es' c' =>
        exfalso
        obtain ⟨m1, m2, C, clk, m3, m4⟩ := hm
        have hne : ∀ {sg : Nat → Nat} {clock : Nat}, SgOk sg clock → sg ≠ gsg := by
          intro sg clock hsk e
          have h1 := hsk.up 1
          rw [e] at h1
          simp [gsg] at h1
        by_cases hi : i < nx
        · rw [if_pos hi] at hs
          exact hne m4.sgs hs
        · rw [if_neg hi] at hs
          simp only [objR, hi, decide_false, Bool.false_eq_true, if_false] at hor
          have : sgFor st st2 i j lc = newSg lc.sg es c es' c' := by unfold sgFor; rw [ho, ho2]
          rw [this] at hs
          exact hne (mapR_ok hren hor m4).sgs hs
      | _ => simp [objR] at hor
    | _ => cases o2 <;> simp [objR] at hor

theorem Keeps.can {ι μ : Inj} {nx : Nat} {l : List (Nat × Nat)} {st st2 : St} {w w' : World} (hι : ∀ i, nx ≤ i → ι i = none) (h : Keeps ι μ w w') (hl : ∀ p ∈ l, nx ≤ p.2) : Keeps ι (renI nx l st st2 μ) w w' := by
  refine ⟨fun i a ha => ?_, h.size, h.kept, fun i a ha => ?_, h.so⟩
  · have hi : i < nx := by
      rcases Nat.lt_or_ge i nx with q | q
      · exact q
      · rw [hι i q] at ha; cases ha
    unfold renI
    rw [if_pos hi]
    exact h.le i a ha
  · unfold renI at ha
    split at ha
    · exact h.new i a ha
    · obtain ⟨j, hj, ha⟩ := Option.bind_eq_some_iff.1 ha
      obtain ⟨lc, hlc, rfl⟩ := Option.map_eq_some_iff.1 ha
      rcases h.new j lc hlc with q | q | ⟨k, m, q1, q0, q2⟩
      · obtain ⟨p, hp, rfl⟩ := Option.map_eq_some_iff.1 hj
        rw [hι _ (hl p (List.mem_of_find?_eq_some hp))] at q; cases q
      · exact .inr (.inl q)
      · exact .inr (.inr ⟨k, m, q1, q0, q2⟩)

theorem FinishTo.can {ι : Inj} {w : World} {b : Base} {CS : Bool → List Frame} {s : Machine} {st0 : St} {v v2 : Value} {st st2 : St} {tk : Bool} {l : List (Nat × Nat)} (hw : WRel X ι st0 w) (hc : canB st0.nx l v st v2 st2 = true)
    (h : FinishTo X ι w b CS s (.ret v2 st2 tk)) : FinishTo X ι w b CS s (.ret v st tk) := by
  obtain ⟨κ, v', w', F, h1, h2, h3, h4, h5, h6, h7⟩ := h
  have hv : relV (rhoOf st0.nx l) v v2 = true := by
    unfold canB at hc
    simp only [Bool.and_eq_true] at hc
    exact hc.1.1.1.1
  have hl : ∀ p ∈ l, st0.nx ≤ p.2 := by
    unfold canB at hc
    simp only [Bool.and_eq_true] at hc
    intro p hp
    have := List.all_eq_true.1 hc.1.1.2 p hp
    simp only [Bool.and_eq_true] at this
    exact ble_true.1 this.2
  exact ⟨renI st0.nx l st st2 κ, v', w', F, relV_ok (renI_ren _ _ _ _ _) h1 _ hv, WRel.can hc hw.globs h2, Keeps.can (fun i hi => (hw.fresh i hi).1) h3 hl, h4, h5, h6, h7⟩

/-! Calls whose loops go over maps. -/
noncomputable def finL (call : CallT) (res : List XRes) (r : CR) : FR :=
  CR.rec (motive := fun _ => FR)
    (fun e fr st => XExit.rec (motive := fun _ => FR) (finishX call res none fr st) (fun _ => .no) (finishX call res none fr st) (fun v => finishX call res (some v) fr st) e) .no r
noncomputable def bodyL (call : CallT) (n : Nat) (f : FuncId) (xf : XFn) (as : List Value) (st : St) : List FR :=
  leK (lenX as) xf.nt ((evL call n f xf.body ⟨args0 as 0 .nil, [], none, false, none⟩ st).map (finL call xf.res)) [.no]

theorem bodyL_sim {call : CallT} {ι : Inj} {st : St} {w : World} {CS : Bool → List Frame} (hG : Good X) (hcs : CallSim X call) (hfn : FnSim X call) (hrng : ∀ b nt CS, b.rnd = none → RngSim X call b nt CS) {f : FuncId} {xf : XFn} {Fn : Func} {body : Code} (ok : FnOk X f xf Fn body) (n : Nat) {K : CallKind} {as as' : List Value}
    (has : VRels ι as as') (hw : WRel X ι st w) (hr : RecFam ⟨f, K, none⟩ none ι CS) (hne : ∀ r ∈ bodyL call n f xf as st, r ≠ .no) :
    ∃ r ∈ bodyL call n f xf as st, FinishTo X ι w ⟨f, K, none⟩ CS (lone (Frame.enter X.P f as'.toArray K) (CS false) w) r := by
  unfold bodyL at hne ⊢
  rw [leK_eq] at hne ⊢
  split
  · rename_i hlen
    rw [if_pos hlen] at hne
    rw [lenX_eq] at hlen
    let b : Base := ⟨f, K, none⟩
    have hen : Frame.enter X.P f as'.toArray K = b.at ⟨as'.toArray ++ Array.replicate (xf.nt - as'.toArray.size) undef, []⟩ [.code body] := by
      simp [Frame.enter, Base.at, ok.fn, ok.body, ok.nt, b]
    rw [hen]
    have hsim := codeL_sim (b := b) (CS := CS) hG hcs (hrng b xf.nt CS rfl) ⟨Fn, ok.fn, ok.nt⟩ n xf.body body ι ⟨args0 as 0 .nil, [], none, false, none⟩ ⟨as'.toArray ++ Array.replicate (xf.nt - as'.toArray.size) undef, []⟩ st w [] ok.code (enter_rel has hlen) hw (.inl ⟨rfl, rfl⟩) hr
    obtain ⟨r, hr1, hr2⟩ := hsim (fun r hr e => by subst e; exact hne (finL call xf.res .no) (List.mem_map.2 ⟨_, hr, rfl⟩) rfl)
    refine ⟨finL call xf.res r, List.mem_map.2 ⟨r, hr1, rfl⟩, ?_⟩
    cases r with
    | no => trivial
    | out e fr' st' =>
      obtain ⟨κ, a', w', h1, h2, h3, _, _, h6⟩ := hr2
      cases e with
      | norm =>
        refine FinishTo.head (Steps.trans h6 (.one (st_end rfl))) h3 ?_
        exact finish_sim (b := b) (a := a') (F := b.returns a' []) (nt := xf.nt) hfn ok.fn ok.res h1 h2 rfl rfl rfl rfl (show ModeRel κ none .returning from rfl)
      | exit id => trivial
      | ret =>
        obtain ⟨td, h7⟩ := h6
        refine FinishTo.head (Steps.trans h7 (.one (st_ret rfl))) h3 ?_
        exact finish_sim (b := b) (a := a') (F := b.returns a' (.code .ret :: td)) (nt := xf.nt) hfn ok.fn ok.res h1 h2 rfl rfl rfl rfl (show ModeRel κ none .returning from rfl)
      | pan v =>
        obtain ⟨v', td, hv, h7⟩ := h6
        refine FinishTo.head h7 h3 ?_
        exact finish_sim (b := b) (a := a') (F := b.panics a' td v') (nt := xf.nt) hfn ok.fn ok.res h1 h2 rfl rfl rfl rfl ⟨v', hv, rfl⟩
  · rename_i hlen
    rw [if_neg hlen] at hne
    exact absurd rfl (hne .no (by simp))

/-! How names are found (nothing leans on it). -/
mutual
def refsV : Value → List Nat
  | .pointer (some a) => [a.block]
  | .slice (some a) _ _ => [a.block]
  | .map (some r) => [r]
  | .func _ x y => refsA x ++ refsA y
  | .iface _ v => refsV v
  | .agg a => refsA a
  | .tuple a => refsA a
  | _ => []
def refsA : Array Value → List Nat
  | ⟨a⟩ => refsL a
def refsL : List Value → List Nat
  | [] => []
  | a :: as => refsV a ++ refsL as
end
def pairsO : Option AObj → Option AObj → List (Nat × Nat)
  | some (.cells cs _ _ _), some (.cells cs' _ _ _) => (refsL cs).zip (refsL cs')
  | some (.map es _), some (.map es' _) => es.flatMap fun e => match mapFind e.key es' with | some e' => (refsV e.val).zip (refsV e'.val) | none => []
  | _, _ => []
noncomputable def growR (nx : Nat) (h h' : PM AObj) : Nat → List (Nat × Nat) → List (Nat × Nat) → List (Nat × Nat)
  | 0, _, acc => acc
  | _, [], acc => acc
  | n + 1, (a, b) :: todo, acc =>
    cond (Nat.ble (Nat.succ a) nx || acc.any (fun p => Nat.beq p.1 a)) (growR nx h h' n todo acc) (growR nx h h' n (pairsO (h.get a) (h'.get b) ++ todo) ((a, b) :: acc))
/-- Roots: the result, and old objects. -/
noncomputable def rootsR (_nx : Nat) (h h' : PM AObj) (olds : List Nat) : List (Nat × Nat) := olds.flatMap fun i => pairsO (h.get i) (h'.get i)

noncomputable def outOk (nx : Nat) (olds : List Nat) (v : Value) (st : St) (r : FR) : Bool :=
  FR.rec (motive := fun _ => Bool) (fun v2 st2 tk => cond tk false (canB nx (growR nx st.h st2.h 1000 ((refsV v).zip (refsV v2) ++ rootsR nx st.h st2.h olds) []) v st v2 st2)) (fun _ _ _ => false) false r
noncomputable def chkL (olds : List Nat) (nx : Nat) (v : Value) (st : St) (L : List FR) : Bool :=
  List.rec (motive := fun _ => Bool) true (fun r _ ih => cond (outOk nx olds v st r) ih false) L
theorem chkL_all {olds : List Nat} {nx : Nat} {v : Value} {st : St} : ∀ {L : List FR}, chkL olds nx v st L = true → ∀ r ∈ L, outOk nx olds v st r = true
  | [], _, r, hr => by cases hr
  | x :: xs, h, r, hr => by
    have h' : cond (outOk nx olds v st x) (chkL olds nx v st xs) false = true := h
    obtain ⟨h1, h2⟩ := cond_inv h' (by simp)
    rcases List.mem_cons.1 hr with rfl | hr
    · exact h1
    · exact chkL_all h2 r hr
theorem outOk_inv {olds : List Nat} {nx : Nat} {v : Value} {st : St} {r : FR} (h : outOk nx olds v st r = true) : ∃ v2 st2 l, r = .ret v2 st2 false ∧ canB nx l v st v2 st2 = true := by
  cases r with
  | no => cases h
  | pan a b c => cases h
  | ret v2 st2 tk =>
    cases tk with
    | true => cases h
    | false => exact ⟨v2, st2, _, rfl, h⟩

theorem rowL_ok {xp : PM XFn} {orc : Orc} (hG : Good X) (hxp : XpOk X xp) (horc : OrcOk X orc) {n : Nat} {f : FuncId} {xf : XFn} {r : Row} {olds : List Nat} (hx : xp.get f = some xf)
    (h : chkL olds r.st.nx r.v r.st' (bodyL (callX xp orc n) n f xf r.as r.st) = true) : RowOk X f r := by
  obtain ⟨Fn, c, ok⟩ := hxp f xf hx
  obtain ⟨hs1, hs2⟩ := callX_sim hG hxp horc n
  have hall := chkL_all h
  intro ι as' w ha hw
  refine ⟨ok.enters, fun K CS hr => ?_⟩
  obtain ⟨q, hq1, hq2⟩ := bodyL_sim hG hs2 hs1 (fun b nt CS _ => rng_sim hs2 b nt CS) ok n ha hw hr (fun r hr e => by
    have := hall r hr
    subst e
    cases this)
  obtain ⟨v2, st2, l, rfl, hc⟩ := outOk_inv (hall q hq1)
  exact FinishTo.can hw hc hq2
end Go.AM
namespace Go.AM

/-- One function is a translation. -/
def fnOkB (X : Ctx) (xf : XFn) (Fn : Func) : Bool :=
  match Fn.body with
  | some c => Nat.beq Fn.ntmps xf.nt && codeOk X xf.nt xf.body c && resOk X xf.res Fn.results.toList && !(Fn.name == "runtime.NumGoroutine")
  | none => false
theorem fnOkB_ok {X : Ctx} {f : FuncId} {xf : XFn} {Fn : Func} (hf : X.P.funcs[f]? = some Fn) (h : fnOkB X xf Fn = true) : ∃ Fn c, FnOk X f xf Fn c := by
  unfold fnOkB at h
  split at h
  · rename_i c hc
    simp only [Bool.and_eq_true] at h
    obtain ⟨⟨⟨h1, h2⟩, h3⟩, h4⟩ := h
    exact ⟨Fn, c, hf, hc, Nat.eq_of_beq_eq_true h1, h2, h3, by simpa using h4⟩
  · cases h

/-- Something holds of all that a map holds. -/
def PM.All {α : Type} (Q : Nat → α → Prop) : PM α → (Nat → Nat) → Prop
  | .nil, _ => True
  | .node l v r, g => (match v with | some x => Q (g 0) x | none => True) ∧ PM.All Q l (fun n => g (2 * n + 1)) ∧ PM.All Q r (fun n => g (2 * n + 2))
theorem PM.all_get {α : Type} {Q : Nat → α → Prop} : ∀ (t : PM α) (g : Nat → Nat), PM.All Q t g → ∀ n x, t.get n = some x → Q (g n) x
  | .nil, _, _, n, x, h => by simp at h
  | .node l v r, g, ha, n, x, h => by
    obtain ⟨h1, h2, h3⟩ := ha
    cases n with
    | zero => rw [PM.get_node0] at h; subst h; exact h1
    | succ m =>
      rw [PM.get_nodeS] at h
      split at h
      · rename_i hm
        have := PM.all_get l _ h2 _ x h
        have e : 2 * (m / 2) + 1 = m + 1 := by omega
        simp only [e] at this; exact this
      · rename_i hm
        have := PM.all_get r _ h3 _ x h
        have e : 2 * (m / 2) + 2 = m + 1 := by omega
        simp only [e] at this; exact this
theorem xpOk_of {X : Ctx} {xp : PM XFn} (h : PM.All (fun f xf => ∃ Fn c, FnOk X f xf Fn c) xp id) : XpOk X xp :=
  fun f xf hx => PM.all_get xp id h f xf hx
theorem rowsOk_of {X : Ctx} {t : PM (List Row)} (h : PM.All (fun f rs => ∀ r ∈ rs, RowOk X f r) t id) : ∀ f rs, t.get f = some rs → ∀ r ∈ rs, RowOk X f r :=
  fun f rs hx => PM.all_get t id h f rs hx

/-- No contracts. -/
noncomputable def orc0 : Orc := fun _ _ _ => none
theorem orc0_ok (X : Ctx) : OrcOk X orc0 := fun _ _ _ _ h => by cases h

/-- The context of a program: what its translations are. -/
structure Base0 where
  P : Program
  ng : Nat
  noesc : FuncId → Bool
  ibs : FuncId → Bool
  noescOk : ∀ f, noesc f = true → ∀ x w, (callFunc f #[x]).run P w = .ok (.value x) w
  ibsOk : ∀ f, ibs f = true → ∀ s c w, (callFunc f #[.string s, .int .u8 c]).run P w = .ok (.value (goInt (match (List.range s.size).find? (fun i => s[i]! == c.toNat.toUInt8) with | some i => (i : Int) | none => -1))) w
  keys : TypeId → Option KS
  keysOk : ∀ k ks, keys k = some ks → Maps.Keyed P k ∧ ∀ v, ks.ok v = true → ∃ l, keyOf P k v = some l
  cntf : FuncId → Bool
  cntOk : ∀ f, cntf f = true → ∀ s c w, (callFunc f #[.string s, .int .u8 c]).run P w = .ok (.value (goInt (s.data.toList.countP (fun b => b == c.toNat.toUInt8) : Nat))) w
  idxf : FuncId → Bool
  mlg : Nat
  mlgOk : mlg < ng
  idxOk : ∀ f, idxf f = true → ∀ (s b : ByteArray) (m : Int) w, (load ⟨mlg, 0, none⟩).run P w = .ok (.int .i64 m) w → 2 ≤ b.size → (b.size : Int) ≤ m → s.size ≤ 1000000 →
    (callFunc f #[.string s, .string b]).run P w = .ok (.value (goInt (match subX b.data.toList s.data.toList with | some i => (i : Int) | none => -1))) w
  eqs : TypeId → Option Nat
  eqsOk : ∀ t n, eqs t = some n → P.eqGuardType P.depth t = false ∧ ∀ xs ys b w, xs.size = n → ys.size = n → eqFlat xs.toList ys.toList = some b → (Op.equalIn 10000 t (.agg xs) (.agg ys)).run P w = .ok b w

def Base0.with (B : Base0) (ok : FuncId → Code → XCode → Prop) : Ctx :=
  { P := B.P, ok := ok, ng := B.ng, noesc := B.noesc, ibs := B.ibs, noescOk := B.noescOk, ibsOk := B.ibsOk, keys := B.keys, keysOk := B.keysOk, cntf := B.cntf, cntOk := B.cntOk, idxf := B.idxf, mlg := B.mlg, mlgOk := B.mlgOk, idxOk := B.idxOk, eqs := B.eqs, eqsOk := B.eqsOk }
def mkCtx (B : Base0) : Ctx := B.with fun fn c xc => ∃ F, B.P.funcs[fn]? = some F ∧ codeOk (B.with fun _ _ _ => False) F.ntmps xc c = true
theorem codeOk_ok (B : Base0) (ok ok' : FuncId → Code → XCode → Prop) : codeOk (B.with ok) = codeOk (B.with ok') := by kernel_rfl
theorem mkCtx_good (B : Base0) (hP : B.P.follows .mixedOrders = true) : Good (mkCtx B) := by
  refine ⟨hP, fun fn c xc => ?_⟩
  have e : codeOk (mkCtx B) = codeOk (B.with fun _ _ _ => False) := codeOk_ok B _ _
  rw [e]
  exact Iff.rfl

/-! Numbers that are not known. -/
section
variable {X : Ctx}
theorem WRel.recell {ι : Inj} {st : St} {w : World} (h : WRel X ι st w) {g : Nat} {u : Value} {el : TypeId} {fz : Nat × Nat} {gr : Bool} (hg : st.h.get g = some (.cells [u] el fz gr)) :
    ∃ c, VRel ι u c ∧ ∀ u', VRel ι u' c → WRel X ι ⟨st.h.set g (.cells [u'] el fz gr), st.nx⟩ w := by
  obtain ⟨l, hl, C, fz', hC⟩ := h.objs _ _ hg (by simp)
  obtain ⟨c, hc1, hc2⟩ := hC.cell 0 (by simp)
  refine ⟨c, by simpa using hc2, fun u' hu' => ⟨fun i o ho hd => ?_, fun i j o p a b hi hdi hj hdj ha hb e => ?_, fun i hi => ?_, h.bnd, h.glob, h.globs, fun i a o ha hs ho hd => ?_⟩⟩
  · rw [PM.get_set] at ho
    by_cases e : i = g
    · rw [if_pos e] at ho
      cases ho
      subst e
      refine ⟨l, hl, C, fz', hC.there, hC.room, fun j hj => ?_, hC.warm, hC.plain⟩
      have : j = 0 := by simpa using hj
      subst this
      exact ⟨c, hc1, by simpa using hu'⟩
    · rw [if_neg e] at ho
      exact h.objs i o ho hd
  · have hh : ∀ k q, (st.h.set g (.cells [u'] el fz gr)).get k = some q → q ≠ .dead → ∃ q', st.h.get k = some q' ∧ q' ≠ .dead := by
      intro k q hk hq
      rw [PM.get_set] at hk
      by_cases e : k = g
      · subst e; exact ⟨_, hg, by simp⟩
      · rw [if_neg e] at hk; exact ⟨q, hk, hq⟩
    obtain ⟨o', h1, h2⟩ := hh i o hi hdi
    obtain ⟨p', h3, h4⟩ := hh j p hj hdj
    exact h.inj i j o' p' a b h1 h2 h3 h4 ha hb e
  · have := h.fresh i hi
    refine ⟨this.1, ?_⟩
    rw [PM.get_set, if_neg]
    · exact this.2
    · intro e; subst e; rw [this.2] at hg; cases hg
  · rw [PM.get_set] at ho
    by_cases e : i = g
    · rw [if_pos e] at ho; cases ho; subst e
      show gr = false ∧ fz.1 < fz.2
      exact h.prot i a _ ha hs hg (by simp)
    · rw [if_neg e] at ho; exact h.prot i a o ha hs ho hd

/-- A row with a number of which so much is known. -/
noncomputable def Row.know (r : Row) (g : Nat) (el : TypeId) (c : Nat) : Row :=
  ⟨r.as, ⟨r.st.h.set g (.cells [.chan (some c)] el (0, 1) false), r.st.nx⟩, r.v, ⟨r.st'.h.set g (.cells [.chan (some c)] el (0, 1) false), r.st'.nx⟩⟩

theorem set_back {st : St} {g : Nat} {o o' : AObj} (h : st.h.get g = some o) : St.le st ⟨(st.h.set g o').set g o, st.nx⟩ := by
  refine ⟨rfl, fun n x hx => ?_⟩
  show ((st.h.set g o').set g o).get n = some x
  rw [PM.get_set]
  by_cases e : n = g
  · subst e; rw [if_pos rfl]; rw [h] at hx; exact hx
  · rw [if_neg e, PM.get_set, if_neg e]; exact hx

theorem row_cases {f : FuncId} {r : Row} {g n : Nat} {el : TypeId} (h0 : r.st.h.get g = some (.cells [.chan (some 1)] el (0, 1) false)) (h0' : r.st'.h.get g = some (.cells [.chan (some 1)] el (0, 1) false))
    (h1 : RowOk X f (r.know g el (2 * n + 2))) (h2 : RowOk X f (r.know g el (2 * n + 3))) : RowOk X f r := by
  intro ι as' w ha hw
  obtain ⟨c, hc, hset⟩ := hw.recell h0
  obtain ⟨m, rfl, _⟩ := hc.of_chan (by decide)
  have key : ∀ k, unkOk k m → RowOk X f (r.know g el k) → (∀ as w, (callFunc f as).run X.P w = .ok (.enter f as) w) ∧
      ∀ (K : CallKind) (CS : Bool → List Frame), RecFam ⟨f, K, none⟩ none ι CS → FinishTo X ι w ⟨f, K, none⟩ CS (lone (Frame.enter X.P f as'.toArray K) (CS false) w) (.ret r.v r.st' false) := by
    intro k hk hrow
    obtain ⟨q1, q2⟩ := hrow ι as' w ha (hset _ (.unk k m hk))
    refine ⟨q1, fun K CS hr => ?_⟩
    obtain ⟨κ, v', w', F, g1, g2, g3, g4⟩ := q2 K CS hr
    obtain ⟨c2, hc2, hset2⟩ := WRel.recell (u := .chan (some k)) g2 (by show (r.st'.h.set g _).get g = _; rw [PM.get_set_self])
    obtain ⟨m2, rfl, _⟩ := hc2.of_chan (by intro e; subst e; rcases hk with h | ⟨_, h, _⟩ | ⟨_, h, _⟩ <;> omega)
    have g5 := hset2 (.chan (some 1)) (.unk 1 m2 (.inl rfl))
    exact ⟨κ, v', w', F, g1, WRel.less (set_back h0') g5, g3, g4⟩
  by_cases hm : (n : Int) ≤ m
  · exact key _ (.inr (.inl ⟨n, rfl, hm⟩)) h1
  · exact key _ (.inr (.inr ⟨n, rfl, by omega⟩)) h2
end
end Go.AM
