/- An abstract machine, and that its evaluations stand for runs of the model (part 4); no condition. -/
import Derived.LaidLaws
import Derived.Test.YtdidaplfdedcoaaGreatDoorM3
import Derived.Test.YtdidaplfdedcoaaGreatDoorM2
namespace Go.AM

/-- Values that are the same up to names. -/
inductive VM (R : Nat → Nat → Prop) : Value → Value → Prop
  | bool (b : Bool) : VM R (.bool b) (.bool b)
  | int (k : IntKind) (n : Int) : VM R (.int k n) (.int k n)
  | string (s : ByteArray) : VM R (.string s) (.string s)
  | ptrNil : VM R (.pointer none) (.pointer none)
  | ptr (a b : Addr) (h : R a.block b.block) (ho : a.off = b.off) (ha : a.spot = none) (hb : b.spot = none) : VM R (.pointer (some a)) (.pointer (some b))
  | slcNil (n c : Nat) : VM R (.slice none n c) (.slice none n c)
  | slc (a b : Addr) (n c : Nat) (h : R a.block b.block) (ho : a.off = b.off) (ha : a.spot = none) (hb : b.spot = none) : VM R (.slice (some a) n c) (.slice (some b) n c)
  | mapNil : VM R (.map none) (.map none)
  | map (i j : Nat) (h : R i j) : VM R (.map (some i)) (.map (some j))
  | func (f : FuncId) (xs ys us vs : Array Value) (h1 : xs.size = ys.size) (h2 : ∀ i (h : i < xs.size) (h' : i < ys.size), VM R xs[i] ys[i])
      (h3 : us.size = vs.size) (h4 : ∀ i (h : i < us.size) (h' : i < vs.size), VM R us[i] vs[i]) : VM R (.func (.func f) xs us) (.func (.func f) ys vs)
  | nilFunc : VM R .nilFunc .nilFunc
  | iface (t : TypeId) (v w : Value) (h : VM R v w) : VM R (.iface t v) (.iface t w)
  | nilIface : VM R .nilIface .nilIface
  | agg (xs ys : Array Value) (h1 : xs.size = ys.size) (h2 : ∀ i (h : i < xs.size) (h' : i < ys.size), VM R xs[i] ys[i]) : VM R (.agg xs) (.agg ys)
  | tuple (xs ys : Array Value) (h1 : xs.size = ys.size) (h2 : ∀ i (h : i < xs.size) (h' : i < ys.size), VM R xs[i] ys[i]) : VM R (.tuple xs) (.tuple ys)
  | chan (c : Nat) : VM R (.chan (some c)) (.chan (some c))

theorem VM.mono {R S : Nat → Nat → Prop} (hle : ∀ i j, R i j → S i j) {v w : Value} (h : VM R v w) : VM S v w := by
  induction h with
  | bool b => exact .bool b
  | int k n => exact .int k n
  | string s => exact .string s
  | ptrNil => exact .ptrNil
  | ptr a b h ho ha hb => exact .ptr a b (hle _ _ h) ho ha hb
  | slcNil n c => exact .slcNil n c
  | slc a b n c h ho ha hb => exact .slc a b n c (hle _ _ h) ho ha hb
  | mapNil => exact .mapNil
  | map i j h => exact .map i j (hle _ _ h)
  | func f xs ys us vs h1 _ h3 _ ih2 ih4 => exact .func f xs ys us vs h1 ih2 h3 ih4
  | nilFunc => exact .nilFunc
  | iface t v w _ ih => exact .iface t v w ih
  | nilIface => exact .nilIface
  | agg xs ys h1 _ ih => exact .agg xs ys h1 ih
  | tuple xs ys h1 _ ih => exact .tuple xs ys h1 ih
  | chan c => exact .chan c

theorem VM.symm {R : Nat → Nat → Prop} {v w : Value} (h : VM R v w) : VM (fun j i => R i j) w v := by
  induction h with
  | bool b => exact .bool b
  | int k n => exact .int k n
  | string s => exact .string s
  | ptrNil => exact .ptrNil
  | ptr a b h ho ha hb => exact .ptr b a h ho.symm hb ha
  | slcNil n c => exact .slcNil n c
  | slc a b n c h ho ha hb => exact .slc b a n c h ho.symm hb ha
  | mapNil => exact .mapNil
  | map i j h => exact .map j i h
  | func f xs ys us vs h1 _ h3 _ ih2 ih4 => exact .func f ys xs vs us h1.symm (fun i a b => ih2 i b a) h3.symm (fun i a b => ih4 i b a)
  | nilFunc => exact .nilFunc
  | iface t v w _ ih => exact .iface t w v ih
  | nilIface => exact .nilIface
  | agg xs ys h1 _ ih => exact .agg ys xs h1.symm (fun i a b => ih i b a)
  | tuple xs ys h1 _ ih => exact .tuple ys xs h1.symm (fun i a b => ih i b a)
  | chan c => exact .chan c

/-- What stands for a value stands for it under other names, too. -/
theorem VM.vrel {R : Nat → Nat → Prop} {κ' κ : Inj} (hR : ∀ i j l, R i j → κ' i = some l → κ j = some l) {v c : Value} (h : VM R v c) : ∀ {x : Value}, VRel κ' v x → VRel κ c x := by
  induction h with
  | bool b => intro x hx; cases hx; exact .bool b
  | int k n => intro x hx; cases hx; exact .int k n
  | string s => intro x hx; cases hx; exact .string s
  | ptrNil => intro x hx; cases hx; exact .ptrNil
  | ptr a b h ho ha hb =>
    intro x hx
    cases hx with
    | ptr a l hl hs => rw [ho]; exact .ptr b l (hR _ _ _ h hl) hb
  | slcNil n c => intro x hx; cases hx; exact .slcNil n c
  | slc a b n c h ho ha hb =>
    intro x hx
    cases hx with
    | slc a l o n c hl hs h3 => exact .slc b l o n c (hR _ _ _ h hl) hb (by rw [← ho]; exact h3)
  | mapNil => intro x hx; cases hx; exact .mapNil
  | map i j h => intro x hx; cases hx with | map r b sg hl => exact .map j b sg (hR _ _ _ h hl)
  | func f xs ys us vs h1 _ h3 _ ih2 ih4 =>
    intro x hx
    cases hx with
    | func f' g xs' ys' us' vs' hf g1 g2 g3 g4 =>
      refine .func _ _ ys ys' vs vs' ?_ (h1.symm.trans g1) (fun i a b => ih2 i (by omega) a (g2 i (by omega) b)) (h3.symm.trans g3) (fun i a b => ih4 i (by omega) a (g4 i (by omega) b))
      rcases hf with ⟨e, hy⟩ | ⟨l, b, e, _⟩
      · exact .inl ⟨e, hy⟩
      · cases e
  | nilFunc => intro x hx; cases hx; exact .nilFunc
  | iface t v w _ ih => intro x hx; cases hx with | iface t v y hv => exact .iface t w y (ih hv)
  | nilIface => intro x hx; cases hx; exact .nilIface
  | agg xs ys h1 _ ih => intro x hx; cases hx with | agg xs' ys' g1 g2 => exact .agg ys ys' (h1.symm.trans g1) (fun i a b => ih i (by omega) a (g2 i (by omega) b))
  | tuple xs ys h1 _ ih => intro x hx; cases hx with | tuple xs' ys' g1 g2 => exact .tuple ys ys' (h1.symm.trans g1) (fun i a b => ih i (by omega) a (g2 i (by omega) b))
  | chan c =>
    intro x hx
    by_cases hc : c = 0
    · subst hc; exact .top x
    · obtain ⟨m, rfl, hu⟩ := hx.of_chan hc
      exact .unk c m hu

def VMs (R : Nat → Nat → Prop) (xs ys : List Value) : Prop := xs.length = ys.length ∧ ∀ (i : Nat) (h : i < xs.length) (h' : i < ys.length), VM R xs[i] ys[i]
theorem VMs.mono {R S : Nat → Nat → Prop} (hle : ∀ i j, R i j → S i j) {xs ys : List Value} (h : VMs R xs ys) : VMs S xs ys := ⟨h.1, fun i a b => (h.2 i a b).mono hle⟩
theorem VMs.symm {R : Nat → Nat → Prop} {xs ys : List Value} (h : VMs R xs ys) : VMs (fun j i => R i j) ys xs := ⟨h.1.symm, fun i a b => (h.2 i b a).symm⟩
theorem VMs.nil (R : Nat → Nat → Prop) : VMs R [] [] := ⟨rfl, fun i h => by simp at h⟩
theorem VMs.cons {R : Nat → Nat → Prop} {x y : Value} {xs ys : List Value} (h : VM R x y) (hs : VMs R xs ys) : VMs R (x :: xs) (y :: ys) := by
  refine ⟨by simp [hs.1], fun i a b => ?_⟩
  cases i with
  | zero => exact h
  | succ i => exact hs.2 i (by simpa using a) (by simpa using b)
theorem VMs.vrels {R : Nat → Nat → Prop} {κ' κ : Inj} (hR : ∀ i j l, R i j → κ' i = some l → κ j = some l) {vs cs xs : List Value} (h : VMs R vs cs) (hx : VRels κ' vs xs) : VRels κ cs xs :=
  ⟨h.1.symm.trans hx.1, fun i a b => (h.2 i (by have := h.1; omega) a).vrel hR (hx.2 i (by have := h.1; omega) b)⟩
theorem VM.agg' {R : Nat → Nat → Prop} {xs ys : Array Value} (h : VMs R xs.toList ys.toList) : VM R (.agg xs) (.agg ys) :=
  .agg xs ys (by simpa using h.1) fun i a b => by have := h.2 i (by simpa using a) (by simpa using b); rwa [Array.getElem_toList, Array.getElem_toList] at this
theorem VM.tuple' {R : Nat → Nat → Prop} {xs ys : Array Value} (h : VMs R xs.toList ys.toList) : VM R (.tuple xs) (.tuple ys) :=
  .tuple xs ys (by simpa using h.1) fun i a b => by have := h.2 i (by simpa using a) (by simpa using b); rwa [Array.getElem_toList, Array.getElem_toList] at this
theorem VM.func' {R : Nat → Nat → Prop} {f : FuncId} {xs ys us vs : Array Value} (h : VMs R xs.toList ys.toList) (h' : VMs R us.toList vs.toList) : VM R (.func (.func f) xs us) (.func (.func f) ys vs) :=
  .func f xs ys us vs (by simpa using h.1) (fun i a b => by have := h.2 i (by simpa using a) (by simpa using b); rwa [Array.getElem_toList, Array.getElem_toList] at this) (by simpa using h'.1) (fun i a b => by have := h'.2 i (by simpa using a) (by simpa using b); rwa [Array.getElem_toList, Array.getElem_toList] at this)

/-! Objects. -/
inductive F2 {α β : Type} (R : α → β → Prop) : List α → List β → Prop
  | nil : F2 R [] []
  | cons {a : α} {b : β} {as : List α} {bs : List β} (h : R a b) (hs : F2 R as bs) : F2 R (a :: as) (b :: bs)
theorem F2.mono {α β : Type} {R S : α → β → Prop} (hle : ∀ a b, R a b → S a b) {as : List α} {bs : List β} (h : F2 R as bs) : F2 S as bs := by
  induction h with
  | nil => exact .nil
  | cons h _ ih => exact .cons (hle _ _ h) ih
theorem F2.flip {α β : Type} {R : α → β → Prop} {as : List α} {bs : List β} (h : F2 R as bs) : F2 (fun b a => R a b) bs as := by
  induction h with
  | nil => exact .nil
  | cons h _ ih => exact .cons h ih
theorem F2.perm {α β : Type} {R : α → β → Prop} {l es : List α} (hp : l.Perm es) : ∀ {fs : List β}, F2 R es fs → ∃ m : List β, m.Perm fs ∧ F2 R l m := by
  induction hp with
  | nil => intro fs h; cases h; exact ⟨[], .refl _, .nil⟩
  | cons x _ ih =>
    intro fs h
    cases h with
    | cons h hs => obtain ⟨m, h1, h2⟩ := ih hs; exact ⟨_ :: m, .cons _ h1, .cons h h2⟩
  | swap x y l =>
    intro fs h
    cases h with
    | cons h hs => cases hs with | cons h' hs => exact ⟨_ :: _ :: _, .swap _ _ _, .cons h' (.cons h hs)⟩
  | trans _ _ ih1 ih2 =>
    intro fs h
    obtain ⟨m, h1, h2⟩ := ih2 h
    obtain ⟨n, h3, h4⟩ := ih1 h2
    exact ⟨n, h3.trans h1, h4⟩
theorem F2.len {α β : Type} {R : α → β → Prop} {as : List α} {bs : List β} (h : F2 R as bs) : as.length = bs.length := by
  induction h with
  | nil => rfl
  | cons _ _ ih => simp [ih]
theorem F2.at {α β : Type} {R : α → β → Prop} {as : List α} {bs : List β} (h : F2 R as bs) : ∀ (i : Nat) (a : i < as.length) (b : i < bs.length), R as[i] bs[i] := by
  induction h with
  | nil => intro i a; simp at a
  | cons h _ ih =>
    intro i a b
    cases i with
    | zero => exact h
    | succ i => exact ih i (by simpa using a) (by simpa using b)

/-- Entries of maps that are the same up to names; the keys hold none. -/
structure EM (R : Nat → Nat → Prop) (e f : MapEntry) : Prop where
  key : e.key = f.key
  keyR : VM R e.key f.key
  val : VM R e.val f.val
  born : e.born = f.born
theorem EM.mono {R S : Nat → Nat → Prop} (hle : ∀ i j, R i j → S i j) {e f : MapEntry} (h : EM R e f) : EM S e f := ⟨h.key, h.keyR.mono hle, h.val.mono hle, h.born⟩
theorem EM.symm {R : Nat → Nat → Prop} {e f : MapEntry} (h : EM R e f) : EM (fun j i => R i j) f e := ⟨h.key.symm, h.keyR.symm, h.val.symm, h.born.symm⟩

inductive OM (R : Nat → Nat → Prop) : AObj → AObj → Prop
  | cells (cs ds : List Value) (e : TypeId) (fz : Nat × Nat) (gr : Bool) (h : VMs R cs ds) : OM R (.cells cs e fz gr) (.cells ds e fz gr)
  | map (es fs : List MapEntry) (c : Nat) (h : F2 (EM R) es fs) : OM R (.map es c) (.map fs c)
theorem OM.mono {R S : Nat → Nat → Prop} (hle : ∀ i j, R i j → S i j) {o p : AObj} (h : OM R o p) : OM S o p := by
  cases h with
  | cells cs ds e fz gr h => exact .cells cs ds e fz gr (h.mono hle)
  | map es fs c h => exact .map es fs c (h.mono fun _ _ h => h.mono hle)
theorem OM.symm {R : Nat → Nat → Prop} {o p : AObj} (h : OM R o p) : OM (fun j i => R i j) p o := by
  cases h with
  | cells cs ds e fz gr h => exact .cells ds cs e fz gr h.symm
  | map es fs c h => exact .map fs es c (h.flip.mono fun _ _ h => h.symm)
theorem OM.live {R : Nat → Nat → Prop} {o p : AObj} (h : OM R o p) : o ≠ .dead ∧ p ≠ .dead := by cases h <;> simp

theorem OM.froz {R : Nat → Nat → Prop} {o p : AObj} (h : OM R o p) : o.froz ↔ p.froz := by cases h <;> exact Iff.rfl

variable {X : Ctx}
theorem OM.omatch {R : Nat → Nat → Prop} {κ' κ : Inj} (hR : ∀ i j l, R i j → κ' i = some l → κ j = some l) {o p : AObj} (h : OM R o p) {w : World} {l : Loc} (hm : OMatch X κ' w o l) : OMatch X κ w p l := by
  cases h with
  | cells cs ds e fz gr h =>
    obtain ⟨C, fz', hC⟩ := hm
    refine ⟨C, fz', hC.there, by rw [← h.1]; exact hC.room, fun i hi => ?_, by rw [← h.1]; exact hC.warm, by rw [← h.1]; exact hC.plain⟩
    have hi' : i < cs.length := by rw [h.1]; exact hi
    obtain ⟨c, h1, h2⟩ := hC.cell i hi'
    exact ⟨c, h1, (h.2 i hi' hi).vrel hR h2⟩
  | map es fs c h =>
    obtain ⟨h0, h0', C, c', h1, h2⟩ := hm
    have hall : ∀ f ∈ fs, ∃ e ∈ es, EM R e f := by
      clear h1 h2
      intro f hf
      induction h with
      | nil => cases hf
      | cons h _ ih =>
        rcases List.mem_cons.1 hf with rfl | hf
        · exact ⟨_, by simp, h⟩
        · obtain ⟨e, he, h'⟩ := ih hf; exact ⟨e, List.mem_cons_of_mem _ he, h'⟩
    have pw : ∀ (Q : MapEntry → MapEntry → Prop), (∀ a b c d, EM R a c → EM R b d → Q a b → Q c d) → es.Pairwise Q → fs.Pairwise Q := by
      intro Q hQ hp
      clear h1 h2 hall
      induction h with
      | nil => exact .nil
      | @cons a b as bs h hs ih =>
        rw [List.pairwise_cons] at hp ⊢
        refine ⟨fun d hd => ?_, ih hp.2⟩
        have : ∃ e ∈ as, EM R e d := by
          clear ih hp
          induction hs with
          | nil => cases hd
          | cons h' _ ih' =>
            rcases List.mem_cons.1 hd with rfl | hd
            · exact ⟨_, by simp, h'⟩
            · obtain ⟨e, he, h''⟩ := ih' hd; exact ⟨e, List.mem_cons_of_mem _ he, h''⟩
        obtain ⟨e, he, hed⟩ := this
        exact hQ a e b d h hed (hp.1 e he)
    refine ⟨h0, h0', C, c', h1, h2.clk, h2.sgs, fun f hf => ?_, pw _ (fun a b c d h1 h2 hk => by rw [← h1.key, ← h2.key]; exact hk) h2.keys, pw _ (fun a b c d h1 h2 hk => by rw [← h1.born, ← h2.born]; exact hk) h2.borns, ?_⟩
    · obtain ⟨e, he, hef⟩ := hall f hf
      rw [← hef.born]; exact h2.born e he
    · obtain ⟨l1, g1, g2, g3⟩ := h2.same
      obtain ⟨m, k1, k2⟩ := h.perm g1
      refine ⟨m, k1, k2.len.symm.trans g2, fun i a b => ?_⟩
      have a' : i < l1.length := by rw [k2.len]; exact a
      obtain ⟨q1, q2, q3⟩ := g3 i a' b
      have q := k2.at i a' a
      exact ⟨q.keyR.vrel hR q1, q.val.vrel hR q2, by rw [q3, q.born]⟩
end Go.AM
namespace Go.AM

/-- Names: of the evaluated call to those of the other one, and back; how many there are. -/
structure Nms where
  rho : PM Nat
  inv : PM Nat
  cnt : Nat

def Nms.R (s : Nms) (i j : Nat) : Prop := s.rho.get i = some j
structure Nms.Ok (s : Nms) : Prop where
  iff : ∀ i j, s.rho.get i = some j ↔ s.inv.get j = some i
  dom : ∀ i j, s.rho.get i = some j → i < s.cnt
def Nms.le (s t : Nms) : Prop := ∀ i j, s.rho.get i = some j → t.rho.get i = some j
theorem Nms.le.refl (s : Nms) : s.le s := fun _ _ h => h
theorem Nms.le.trans {s t u : Nms} (h : s.le t) (h' : t.le u) : s.le u := fun i j e => h' i j (h i j e)

noncomputable def mRef (i j : Nat) (s : Nms) : Option Nms :=
  oK (s.inv.get j) (fun i' => cond (Nat.beq i i') (some s) none)
    (cond (Nat.beq i s.cnt) (PM.fin (PM.putF (Nat.succ i) s.rho i j) fun rho => PM.fin (PM.putF (Nat.succ j) s.inv j i) fun inv => forceN (Nat.succ i) fun c => some ⟨rho, inv, c⟩) none)

theorem mRef_ok {i j : Nat} {s s' : Nms} (hs : s.Ok) (h : mRef i j s = some s') : s'.Ok ∧ s.le s' ∧ s'.R i j := by
  unfold mRef at h
  cases hj : s.inv.get j with
  | some i' =>
    rw [hj] at h
    have h : cond (Nat.beq i i') (some s) none = some s' := h
    cases hb : Nat.beq i i' with
    | false => rw [hb] at h; cases h
    | true =>
      rw [hb] at h; cases h
      have := Nat.eq_of_beq_eq_true hb
      subst this
      exact ⟨hs, .refl s, (hs.iff i j).2 hj⟩
  | none =>
    rw [hj] at h
    have h : cond (Nat.beq i s.cnt) (PM.fin (PM.putF (Nat.succ i) s.rho i j) fun rho => PM.fin (PM.putF (Nat.succ j) s.inv j i) fun inv => forceN (Nat.succ i) fun c => some ⟨rho, inv, c⟩) none = some s' := h
    cases hb : Nat.beq i s.cnt with
    | false => rw [hb] at h; cases h
    | true =>
      rw [hb] at h
      have e := Nat.eq_of_beq_eq_true hb
      simp only [cond_true, PM.fin_eq, PM.putF_eq] at h
      unfold forceN at h
      rw [Nat.beq_refl] at h
      simp only [cond_true, Option.some.injEq] at h
      subst h
      have hno : ∀ b, s.rho.get i ≠ some b := fun b hb => by have := hs.dom _ _ hb; omega
      refine ⟨⟨fun a b => ?_, fun a b hab => ?_⟩, fun a b hab => ?_, ?_⟩
      · show (s.rho.set i j).get a = some b ↔ (s.inv.set j i).get b = some a
        rw [PM.get_set, PM.get_set]
        by_cases ha : a = i <;> by_cases hbj : b = j
        · rw [if_pos ha, if_pos hbj, ha, hbj]; simp
        · rw [if_pos ha, if_neg hbj]
          subst ha
          constructor
          · intro e; exact absurd (Option.some.inj e).symm hbj
          · intro e; exact absurd ((hs.iff _ _).2 e) (hno b)
        · rw [if_neg ha, if_pos hbj]
          subst hbj
          constructor
          · intro e; rw [(hs.iff _ _).1 e] at hj; cases hj
          · intro e; exact absurd (Option.some.inj e).symm ha
        · rw [if_neg ha, if_neg hbj]; exact hs.iff a b
      · have hab : (s.rho.set i j).get a = some b := hab
        show a < Nat.succ i
        rw [PM.get_set] at hab
        by_cases ha : a = i
        · omega
        · rw [if_neg ha] at hab; have := hs.dom _ _ hab; omega
      · show (s.rho.set i j).get a = some b
        rw [PM.get_set, if_neg]
        · exact hab
        · intro ha; subst ha; exact hno b hab
      · show (s.rho.set i j).get i = some j
        rw [PM.get_set_self]

noncomputable def mAddr (a b : Option Addr) (s : Nms) : Option Nms :=
  Option.rec (motive := fun _ => Option Nms) (Option.rec (motive := fun _ => Option Nms) (some s) (fun _ => none) b)
    (fun a => Option.rec (motive := fun _ => Option Nms) none
      (fun b => cond (Nat.beq a.off b.off) (Option.rec (motive := fun _ => Option Nms) (Option.rec (motive := fun _ => Option Nms) (mRef a.block b.block s) (fun _ => none) b.spot) (fun _ => none) a.spot) none) b) a
theorem mAddr_inv {a b : Option Addr} {s s' : Nms} (h : mAddr a b s = some s') :
    (a = none ∧ b = none ∧ s' = s) ∨ ∃ p q, a = some p ∧ b = some q ∧ p.off = q.off ∧ p.spot = none ∧ q.spot = none ∧ mRef p.block q.block s = some s' := by
  cases a with
  | none =>
    cases b with
    | none => left; exact ⟨rfl, rfl, (Option.some.inj h).symm⟩
    | some q => cases h
  | some p =>
    cases b with
    | none => cases h
    | some q =>
      right
      obtain ⟨pb, po, ps⟩ := p
      obtain ⟨qb, qo, qs⟩ := q
      cases ho : Nat.beq po qo with
      | false =>
        have h : cond (Nat.beq po qo) _ none = some s' := h
        rw [ho] at h; cases h
      | true =>
        cases ps with
        | some x =>
          have h : cond (Nat.beq po qo) none none = some s' := h
          rw [ho] at h; cases h
        | none =>
          cases qs with
          | some x =>
            have h : cond (Nat.beq po qo) none none = some s' := h
            rw [ho] at h; cases h
          | none =>
            have h : cond (Nat.beq po qo) (mRef pb qb s) none = some s' := h
            rw [ho] at h
            exact ⟨_, _, rfl, rfl, Nat.eq_of_beq_eq_true ho, rfl, rfl, h⟩

noncomputable def mFn (f g : Fn) (k : Option Nms) : Option Nms :=
  match f, g with
  | .func a, .func b => cond (Nat.beq a b) k none
  | _, _ => none
theorem mFn_inv {f g : Fn} {k : Option Nms} {s : Nms} (h : mFn f g k = some s) : ∃ a, f = .func a ∧ g = .func a ∧ k = some s := by
  unfold mFn at h
  split at h
  · rename_i a b
    cases hb : Nat.beq a b with
    | false => rw [hb] at h; cases h
    | true => rw [hb] at h; exact ⟨a, rfl, by rw [Nat.eq_of_beq_eq_true hb], h⟩
  · cases h

noncomputable def bytesEq (a b : List UInt8) : Bool := a == b
noncomputable def boolEq (a b : Bool) : Bool := cond a b (cond b false true)
theorem boolEq_eq {a b : Bool} (h : boolEq a b = true) : a = b := by cases a <;> cases b <;> first | rfl | cases h

noncomputable def mNilF (w : Value) (s : Nms) : Option Nms := match w with | .nilFunc => some s | _ => none
noncomputable def mNilI (w : Value) (s : Nms) : Option Nms := match w with | .nilIface => some s | _ => none
noncomputable def mChan (c : Option Nat) (w : Value) (s : Nms) : Option Nms := match c, w with | some a, .chan (some b) => cond (Nat.beq a b) (some s) none | _, _ => none
noncomputable def rFn (f : Fn) (k : FuncId → Option Value) : Option Value := match f with | .func g => k g | _ => none
noncomputable def rChan (c : Option Nat) : Option Value := match c with | some c => some (.chan (some c)) | none => none

mutual
noncomputable def mV : Value → Value → Nms → Option Nms
  | .bool a, w, s => vBool w (fun b => cond (boolEq a b) (some s) none) none
  | .int k a, w, s => vInt w (fun k' b => cond (kindEq k k') (cond (eqX a b) (some s) none) none) none
  | .string a, w, s => vString w (fun b => cond (bytesEq a.data.toList b.data.toList) (some s) none) none
  | .pointer a, w, s => vPointer w (fun b => mAddr a b s) none
  | .slice a n c, w, s => vSlice w (fun b n' c' => cond (Nat.beq n n') (cond (Nat.beq c c') (mAddr a b s) none) none) none
  | .map a, w, s => vMap w (fun b => Option.rec (motive := fun _ => Option Nms) (Option.rec (motive := fun _ => Option Nms) (some s) (fun _ => none) b) (fun i => Option.rec (motive := fun _ => Option Nms) none (fun j => mRef i j s) b) a) none
  | .func f xs us, w, s => vFunc w (fun g ys vs => mFn f g (oK (mA xs ys s) (fun s => mA us vs s) none)) none
  | .nilFunc, w, s => mNilF w s
  | .nilIface, w, s => mNilI w s
  | .iface t v, w, s => vIface w (fun u y => cond (Nat.beq t u) (mV v y s) none) none
  | .agg xs, w, s => vAgg w (fun ys => mA xs ys s) none
  | .tuple xs, w, s => vTuple w (fun ys => mA xs ys s) none
  | .chan c, w, s => mChan c w s
  | _, _, _ => none
noncomputable def mA : Array Value → Array Value → Nms → Option Nms
  | ⟨xs⟩, ys, s => mL xs ys.toList s
noncomputable def mL : List Value → List Value → Nms → Option Nms
  | [], ys, s => List.rec (motive := fun _ => Option Nms) (some s) (fun _ _ _ => none) ys
  | x :: xs, ys, s => List.rec (motive := fun _ => Option Nms) none (fun y ys' _ => oK (mV x y s) (fun s' => mL xs ys' s') none) ys
end

theorem cond_none {b : Bool} {o : Option Nms} {s : Nms} (h : cond b o none = some s) : b = true ∧ o = some s := by
  cases b
  · cases h
  · exact ⟨rfl, h⟩
theorem oK_none' {α : Type} {o : Option α} {k : α → Option Nms} {s : Nms} (h : oK o k none = some s) : ∃ a, o = some a ∧ k a = some s := oK_inv h (by simp)

mutual
theorem mV_ok : ∀ (v w : Value) (s s' : Nms), s.Ok → mV v w s = some s' → s'.Ok ∧ s.le s' ∧ VM s'.R v w
  | .bool a, w, s, s', hs, h => by
    rw [mV] at h
    obtain ⟨b, rfl, h⟩ := vBool_inv h (by simp)
    obtain ⟨h1, h2⟩ := cond_none h
    cases h2; rw [boolEq_eq h1]; exact ⟨hs, .refl s, .bool _⟩
  | .int k a, w, s, s', hs, h => by
    rw [mV] at h
    obtain ⟨k', b, rfl, h⟩ := vInt_inv h (by simp)
    obtain ⟨h1, h⟩ := cond_none h
    obtain ⟨h2, h⟩ := cond_none h
    cases h
    rw [eqX_eq] at h2
    rw [kindEq_eq h1, eq_of_beq h2]
    exact ⟨hs, .refl s, .int _ _⟩
  | .float k n, w, s, s', hs, h => by rw [mV] at h <;> first | cases h | simp
  | .complex k n m, w, s, s', hs, h => by rw [mV] at h <;> first | cases h | simp
  | .string a, w, s, s', hs, h => by
    rw [mV] at h
    obtain ⟨b, rfl, h⟩ := vString_inv h (by simp)
    obtain ⟨h1, h2⟩ := cond_none h
    cases h2
    have h1 : (a.data.toList == b.data.toList) = true := h1
    have e := eq_of_beq h1
    have : a = b := by cases a; cases b; simp only at e; rw [Array.toList_inj.1 e]
    rw [this]; exact ⟨hs, .refl s, .string _⟩
  | .pointer a, w, s, s', hs, h => by
    rw [mV] at h
    obtain ⟨b, rfl, h⟩ := vPointer_inv h (by simp)
    rcases mAddr_inv h with ⟨rfl, rfl, rfl⟩ | ⟨p, q, rfl, rfl, h1, h2, h3, h4⟩
    · exact ⟨hs, .refl _, .ptrNil⟩
    · obtain ⟨g1, g2, g3⟩ := mRef_ok hs h4
      exact ⟨g1, g2, .ptr p q g3 h1 h2 h3⟩
  | .slice a n c, w, s, s', hs, h => by
    rw [mV] at h
    obtain ⟨b, n', c', rfl, h⟩ := vSlice_inv h (by simp)
    obtain ⟨e1, h⟩ := cond_none h
    obtain ⟨e2, h⟩ := cond_none h
    rw [Nat.eq_of_beq_eq_true e1, Nat.eq_of_beq_eq_true e2]
    rcases mAddr_inv h with ⟨rfl, rfl, rfl⟩ | ⟨p, q, rfl, rfl, h1, h2, h3, h4⟩
    · exact ⟨hs, .refl _, .slcNil _ _⟩
    · obtain ⟨g1, g2, g3⟩ := mRef_ok hs h4
      exact ⟨g1, g2, .slc p q _ _ g3 h1 h2 h3⟩
  | .map a, w, s, s', hs, h => by
    rw [mV] at h
    have : ∃ b, w = .map b ∧ Option.rec (motive := fun _ => Option Nms) (Option.rec (motive := fun _ => Option Nms) (some s) (fun _ => none) b) (fun i => Option.rec (motive := fun _ => Option Nms) none (fun j => mRef i j s) b) a = some s' := by
      cases w <;> first | cases h | exact ⟨_, rfl, h⟩
    obtain ⟨b, rfl, h⟩ := this
    cases a with
    | none =>
      cases b with
      | none => cases h; exact ⟨hs, .refl _, .mapNil⟩
      | some j => cases h
    | some i =>
      cases b with
      | none => cases h
      | some j =>
        obtain ⟨g1, g2, g3⟩ := mRef_ok hs h
        exact ⟨g1, g2, .map i j g3⟩
  | .func f xs us, w, s, s', hs, h => by
    rw [mV] at h
    obtain ⟨g, ys, vs, rfl, h⟩ := vFunc_inv h (by simp)
    obtain ⟨a, rfl, rfl, h3⟩ := mFn_inv h
    obtain ⟨s1, h1, h2⟩ := oK_none' h3
    obtain ⟨p1, p2, p3⟩ := mA_ok xs ys s s1 hs h1
    obtain ⟨q1, q2, q3⟩ := mA_ok us vs s1 s' p1 h2
    exact ⟨q1, p2.trans q2, .func' (p3.mono q2) q3⟩
  | .nilFunc, w, s, s', hs, h => by
    rw [mV] at h
    unfold mNilF at h
    split at h
    · cases h; exact ⟨hs, .refl _, .nilFunc⟩
    · cases h
  | .nilIface, w, s, s', hs, h => by
    rw [mV] at h
    unfold mNilI at h
    split at h
    · cases h; exact ⟨hs, .refl _, .nilIface⟩
    · cases h
  | .iface t v, w, s, s', hs, h => by
    rw [mV] at h
    obtain ⟨u, y, rfl, h⟩ := vIface_inv h (by simp)
    obtain ⟨e1, h⟩ := cond_none h
    obtain ⟨p1, p2, p3⟩ := mV_ok v y s s' hs h
    rw [Nat.eq_of_beq_eq_true e1]
    exact ⟨p1, p2, .iface _ _ _ p3⟩
  | .agg xs, w, s, s', hs, h => by
    rw [mV] at h
    obtain ⟨ys, rfl, h⟩ := vAgg_inv h (by simp)
    obtain ⟨p1, p2, p3⟩ := mA_ok xs ys s s' hs h
    exact ⟨p1, p2, .agg' p3⟩
  | .tuple xs, w, s, s', hs, h => by
    rw [mV] at h
    obtain ⟨ys, rfl, h⟩ := vTuple_inv h (by simp)
    obtain ⟨p1, p2, p3⟩ := mA_ok xs ys s s' hs h
    exact ⟨p1, p2, .tuple' p3⟩
  | .chan c, w, s, s', hs, h => by
    rw [mV] at h
    unfold mChan at h
    split at h
    · obtain ⟨e1, h⟩ := cond_none h
      cases h
      rw [Nat.eq_of_beq_eq_true e1]
      exact ⟨hs, .refl _, .chan _⟩
    · cases h
theorem mA_ok : ∀ (xs ys : Array Value) (s s' : Nms), s.Ok → mA xs ys s = some s' → s'.Ok ∧ s.le s' ∧ VMs s'.R xs.toList ys.toList
  | ⟨xs⟩, ys, s, s', hs, h => by rw [mA] at h; exact mL_ok xs ys.toList s s' hs h
theorem mL_ok : ∀ (xs ys : List Value) (s s' : Nms), s.Ok → mL xs ys s = some s' → s'.Ok ∧ s.le s' ∧ VMs s'.R xs ys
  | [], ys, s, s', hs, h => by
    rw [mL] at h
    cases ys with
    | nil => cases h; exact ⟨hs, .refl _, .nil _⟩
    | cons y ys => cases h
  | x :: xs, ys, s, s', hs, h => by
    rw [mL] at h
    cases ys with
    | nil => cases h
    | cons y ys =>
      obtain ⟨s1, h1, h2⟩ := oK_none' (o := mV x y s) h
      obtain ⟨p1, p2, p3⟩ := mV_ok x y s s1 hs h1
      obtain ⟨q1, q2, q3⟩ := mL_ok xs ys s1 s' p1 h2
      exact ⟨q1, p2.trans q2, .cons (p3.mono q2) q3⟩
end

noncomputable def mE (es : List MapEntry) : List MapEntry → Nms → Option Nms :=
  List.rec (motive := fun _ => List MapEntry → Nms → Option Nms) (fun fs s => List.rec (motive := fun _ => Option Nms) (some s) (fun _ _ _ => none) fs)
    (fun e _ ih fs s => List.rec (motive := fun _ => Option Nms) none
      (fun f fs' _ => cond (Nat.beq e.born f.born) (cond (veq e.key f.key) (oK (mV e.key f.key s) (fun s => oK (mV e.val f.val s) (fun s => ih fs' s) none) none) none) none) fs) es
theorem mE_ok : ∀ (es fs : List MapEntry) (s s' : Nms), s.Ok → mE es fs s = some s' → s'.Ok ∧ s.le s' ∧ F2 (EM s'.R) es fs
  | [], [], s, s', hs, h => by cases h; exact ⟨hs, .refl _, .nil⟩
  | [], _ :: _, s, s', hs, h => by cases h
  | _ :: _, [], s, s', hs, h => by cases h
  | e :: es, f :: fs, s, s', hs, h => by
    have h : cond (Nat.beq e.born f.born) (cond (veq e.key f.key) (oK (mV e.key f.key s) (fun s => oK (mV e.val f.val s) (fun s => mE es fs s) none) none) none) none = some s' := h
    obtain ⟨e1, h⟩ := cond_none h
    obtain ⟨e2, h⟩ := cond_none h
    obtain ⟨s1, h1, h⟩ := oK_none' h
    obtain ⟨s2, h2, h⟩ := oK_none' h
    obtain ⟨p1, p2, p3⟩ := mV_ok _ _ _ _ hs h1
    obtain ⟨q1, q2, q3⟩ := mV_ok _ _ _ _ p1 h2
    obtain ⟨r1, r2, r3⟩ := mE_ok es fs s2 s' q1 h
    exact ⟨r1, (p2.trans q2).trans r2, .cons ⟨veq_eq _ _ e2, p3.mono (q2.trans r2), q3.mono r2, Nat.eq_of_beq_eq_true e1⟩ r3⟩

noncomputable def mO (o p : AObj) (s : Nms) : Option Nms :=
  match o, p with
  | .cells cs e fz gr, .cells ds e' fz' gr' => cond (Nat.beq e e') (cond (Nat.beq fz.1 fz'.1) (cond (Nat.beq fz.2 fz'.2) (cond (boolEq gr gr') (mL cs ds s) none) none) none) none
  | .map es c, .map fs c' => cond (Nat.beq c c') (mE es fs s) none
  | _, _ => none
theorem mO_ok {o p : AObj} {s s' : Nms} (hs : s.Ok) (h : mO o p s = some s') : s'.Ok ∧ s.le s' ∧ OM s'.R o p := by
  unfold mO at h
  split at h
  · rename_i cs e fz gr ds e' fz' gr'
    obtain ⟨e1, h⟩ := cond_none h
    obtain ⟨e2, h⟩ := cond_none h
    obtain ⟨e3, h⟩ := cond_none h
    obtain ⟨e4, h⟩ := cond_none h
    obtain ⟨p1, p2, p3⟩ := mL_ok _ _ _ _ hs h
    have : fz = fz' := Prod.ext (Nat.eq_of_beq_eq_true e2) (Nat.eq_of_beq_eq_true e3)
    subst this
    rw [Nat.eq_of_beq_eq_true e1, boolEq_eq e4]
    exact ⟨p1, p2, .cells _ _ _ _ _ p3⟩
  · obtain ⟨e1, h⟩ := cond_none h
    obtain ⟨p1, p2, p3⟩ := mE_ok _ _ _ _ hs h
    rw [Nat.eq_of_beq_eq_true e1]
    exact ⟨p1, p2, .map _ _ _ p3⟩
  · cases h

/-- The objects that the evaluated call knew, one by one. -/
noncomputable def mEnt (h : PM AObj) (os : List AObj) : Nat → Nms → Option Nms :=
  List.rec (motive := fun _ => Nat → Nms → Option Nms) (fun _ s => some s)
    (fun o _ ih i s => oK (s.rho.get i) (fun j => oK (h.get j) (fun p => oK (mO o p s) (fun s => forceN (Nat.succ i) fun i' => ih i' s) none) none) none) os
theorem mEnt_ok {H : PM AObj} : ∀ (os : List AObj) (i : Nat) (s s' : Nms), s.Ok → mEnt H os i s = some s' →
    s'.Ok ∧ s.le s' ∧ ∀ k (hk : k < os.length), ∃ j p, s'.R (i + k) j ∧ H.get j = some p ∧ OM s'.R os[k] p
  | [], i, s, s', hs, h => by cases h; exact ⟨hs, .refl _, fun k hk => by simp at hk⟩
  | o :: os, i, s, s', hs, h => by
    have h : oK (s.rho.get i) (fun j => oK (H.get j) (fun p => oK (mO o p s) (fun s => forceN (Nat.succ i) fun i' => mEnt H os i' s) none) none) none = some s' := h
    obtain ⟨j, h1, h⟩ := oK_none' h
    obtain ⟨p, h2, h⟩ := oK_none' h
    obtain ⟨s1, h3, h⟩ := oK_none' h
    unfold forceN at h
    rw [Nat.beq_refl] at h
    have h : mEnt H os (i + 1) s1 = some s' := h
    obtain ⟨p1, p2, p3⟩ := mO_ok hs h3
    obtain ⟨q1, q2, q3⟩ := mEnt_ok os (i + 1) s1 s' p1 h
    refine ⟨q1, p2.trans q2, fun k hk => ?_⟩
    cases k with
    | zero => exact ⟨j, p, (p2.trans q2) _ _ h1, h2, p3.mono q2⟩
    | succ k =>
      obtain ⟨j', p', g1, g2, g3⟩ := q3 k (by simpa using hk)
      exact ⟨j', p', by rw [show i + (k + 1) = i + 1 + k by omega]; exact g1, g2, by simpa using g3⟩

/-! New names for what the evaluated call left. -/
noncomputable def rRef (rho : PM Nat) (nr nc i : Nat) : Nat := oK (rho.get i) (fun j => j) (Nat.add nc (Nat.sub i nr))

section
variable (rho : PM Nat) (nr nc : Nat)
noncomputable def rAddr {β : Type} (a : Option Addr) (k : Option Addr → Option β) : Option β :=
  Option.rec (motive := fun _ => Option β) (k none) (fun a => Option.rec (motive := fun _ => Option β) (forceN (rRef rho nr nc a.block) fun b => k (some ⟨b, a.off, none⟩)) (fun _ => none) a.spot) a
mutual
noncomputable def rV : Value → Option Value
  | .pointer a => rAddr rho nr nc a fun b => some (.pointer b)
  | .slice a n c => rAddr rho nr nc a fun b => some (.slice b n c)
  | .map a => Option.rec (motive := fun _ => Option Value) (some (.map none)) (fun i => forceN (rRef rho nr nc i) fun j => some (.map (some j))) a
  | .func f xs us => rFn f fun g => oK (rA xs) (fun ys => oK (rA us) (fun vs => some (.func (.func g) ⟨ys⟩ ⟨vs⟩)) none) none
  | .iface t v => oK (rV v) (fun w => some (.iface t w)) none
  | .agg xs => oK (rA xs) (fun ys => some (.agg ⟨ys⟩)) none
  | .tuple xs => oK (rA xs) (fun ys => some (.tuple ⟨ys⟩)) none
  | .bool b => some (.bool b)
  | .int k n => some (.int k n)
  | .string s => some (.string s)
  | .nilFunc => some .nilFunc
  | .nilIface => some .nilIface
  | .chan c => rChan c
  | _ => none
noncomputable def rA : Array Value → Option (List Value)
  | ⟨xs⟩ => rL xs
noncomputable def rL : List Value → Option (List Value)
  | [] => some []
  | x :: xs => oK (rV x) (fun y => oK (rL xs) (fun ys => some (y :: ys)) none) none
end

theorem oK_some {α β : Type} {o : Option α} {k : α → Option β} {b : β} (h : oK o k none = some b) : ∃ a, o = some a ∧ k a = some b := oK_inv h (by simp)

theorem rAddr_inv {β : Type} {a : Option Addr} {k : Option Addr → Option β} {b : β} (h : rAddr rho nr nc a k = some b) :
    (a = none ∧ k none = some b) ∨ ∃ p, a = some p ∧ p.spot = none ∧ k (some ⟨rRef rho nr nc p.block, p.off, none⟩) = some b := by
  cases a with
  | none => exact .inl ⟨rfl, h⟩
  | some p =>
    obtain ⟨pb, po, ps⟩ := p
    cases ps with
    | some x => cases h
    | none =>
      have h : forceN (rRef rho nr nc pb) (fun b => k (some ⟨b, po, none⟩)) = some b := h
      unfold forceN at h
      rw [Nat.beq_refl] at h
      exact .inr ⟨_, rfl, rfl, h⟩

mutual
theorem rV_ok : ∀ (v w : Value), rV rho nr nc v = some w → VM (fun i j => j = rRef rho nr nc i) v w
  | .bool b, w, h => by rw [rV] at h; cases h; exact .bool b
  | .int k n, w, h => by rw [rV] at h; cases h; exact .int k n
  | .float k n, w, h => by rw [rV] at h <;> first | cases h | simp
  | .complex k n m, w, h => by rw [rV] at h <;> first | cases h | simp
  | .string s, w, h => by rw [rV] at h; cases h; exact .string s
  | .pointer a, w, h => by
    rw [rV] at h
    rcases rAddr_inv rho nr nc h with ⟨rfl, h⟩ | ⟨p, rfl, hs, h⟩
    · cases h; exact .ptrNil
    · cases h; exact .ptr _ _ rfl rfl hs rfl
  | .slice a n c, w, h => by
    rw [rV] at h
    rcases rAddr_inv rho nr nc h with ⟨rfl, h⟩ | ⟨p, rfl, hs, h⟩
    · cases h; exact .slcNil _ _
    · cases h; exact .slc _ _ _ _ rfl rfl hs rfl
  | .map a, w, h => by
    rw [rV] at h
    cases a with
    | none => cases h; exact .mapNil
    | some i =>
      have h : forceN (rRef rho nr nc i) (fun j => some (Value.map (some j))) = some w := h
      unfold forceN at h
      rw [Nat.beq_refl] at h
      cases h; exact .map _ _ rfl
  | .func f xs us, w, h => by
    rw [rV] at h
    unfold rFn at h
    split at h
    · obtain ⟨ys, h1, h⟩ := oK_some h
      obtain ⟨vs, h2, h⟩ := oK_some h
      cases h
      exact .func' (rA_ok xs ys h1) (rA_ok us vs h2)
    · cases h
  | .nilFunc, w, h => by rw [rV] at h; cases h; exact .nilFunc
  | .nilIface, w, h => by rw [rV] at h; cases h; exact .nilIface
  | .iface t v, w, h => by
    rw [rV] at h
    obtain ⟨y, h1, h⟩ := oK_some h
    cases h
    exact .iface _ _ _ (rV_ok v y h1)
  | .agg xs, w, h => by
    rw [rV] at h
    obtain ⟨ys, h1, h⟩ := oK_some h
    cases h
    exact .agg' (rA_ok xs ys h1)
  | .tuple xs, w, h => by
    rw [rV] at h
    obtain ⟨ys, h1, h⟩ := oK_some h
    cases h
    exact .tuple' (rA_ok xs ys h1)
  | .chan c, w, h => by
    rw [rV] at h
    unfold rChan at h
    split at h
    · cases h; exact .chan _
    · cases h
theorem rA_ok : ∀ (xs : Array Value) (ys : List Value), rA rho nr nc xs = some ys → VMs (fun i j => j = rRef rho nr nc i) xs.toList ys
  | ⟨xs⟩, ys, h => by rw [rA] at h; exact rL_ok xs ys h
theorem rL_ok : ∀ (xs ys : List Value), rL rho nr nc xs = some ys → VMs (fun i j => j = rRef rho nr nc i) xs ys
  | [], ys, h => by rw [rL] at h; cases h; exact .nil _
  | x :: xs, ys, h => by
    rw [rL] at h
    obtain ⟨y, h1, h⟩ := oK_some h
    obtain ⟨zs, h2, h⟩ := oK_some h
    cases h
    exact .cons (rV_ok x y h1) (rL_ok xs zs h2)
end

noncomputable def rE (es : List MapEntry) : Option (List MapEntry) :=
  List.rec (motive := fun _ => Option (List MapEntry)) (some [])
    (fun e _ r => oK (rV rho nr nc e.key) (fun k => cond (veq e.key k) (oK (rV rho nr nc e.val) (fun v => oK r (fun es => some (⟨k, v, e.born⟩ :: es)) none) none) none) none) es
theorem rE_ok : ∀ (es fs : List MapEntry), rE rho nr nc es = some fs → F2 (EM (fun i j => j = rRef rho nr nc i)) es fs
  | [], fs, h => by cases h; exact .nil
  | e :: es, fs, h => by
    have h : oK (rV rho nr nc e.key) (fun k => cond (veq e.key k) (oK (rV rho nr nc e.val) (fun v => oK (rE rho nr nc es) (fun es => some (⟨k, v, e.born⟩ :: es)) none) none) none) none = some fs := h
    obtain ⟨k, h1, h⟩ := oK_some h
    cases hk : veq e.key k with
    | false => rw [hk] at h; cases h
    | true =>
      rw [hk] at h
      obtain ⟨v, h2, h⟩ := oK_some (o := rV rho nr nc e.val) h
      obtain ⟨gs, h3, h⟩ := oK_some h
      cases h
      exact .cons ⟨veq_eq _ _ hk, rV_ok _ _ _ _ _ h1, rV_ok _ _ _ _ _ h2, rfl⟩ (rE_ok es gs h3)

noncomputable def rO (o : AObj) : Option AObj :=
  match o with
  | .cells cs e fz gr => oK (rL rho nr nc cs) (fun ds => some (.cells ds e fz gr)) none
  | .map es c => oK (rE rho nr nc es) (fun fs => some (.map fs c)) none
  | .dead => some .dead
  | _ => none
theorem rO_ok {o p : AObj} (h : rO rho nr nc o = some p) : (o = .dead ∧ p = .dead) ∨ OM (fun i j => j = rRef rho nr nc i) o p := by
  unfold rO at h
  split at h
  · obtain ⟨ds, h1, h⟩ := oK_some h
    cases h; exact .inr (.cells _ _ _ _ _ (rL_ok _ _ _ _ _ h1))
  · obtain ⟨fs, h1, h⟩ := oK_some h
    cases h; exact .inr (.map _ _ _ (rE_ok _ _ _ _ _ h1))
  · cases h; exact .inl ⟨rfl, rfl⟩
  · cases h

/-- What was changed, or is new; no global is. -/
noncomputable def rUpd (ng : Nat) (us : List (Nat × AObj)) : PM AObj → Option (PM AObj) :=
  List.rec (motive := fun _ => PM AObj → Option (PM AObj)) (fun h => some h)
    (fun u _ ih h => cond (Nat.ble ng u.1) (forceN (rRef rho nr nc u.1) fun j => oK (rO rho nr nc u.2) (fun p => PM.fin (PM.putF (Nat.succ j) h j p) ih) none) none) us
end
noncomputable def updL (us : List (Nat × AObj)) : PM AObj → PM AObj :=
  List.rec (motive := fun _ => PM AObj → PM AObj) (fun h => h) (fun u _ ih h => PM.fin (PM.putF (Nat.succ u.1) h u.1 u.2) ih) us
noncomputable def ofL (os : List AObj) : Nat → PM AObj → PM AObj :=
  List.rec (motive := fun _ => Nat → PM AObj → PM AObj) (fun _ h => h) (fun o _ ih i h => forceN (Nat.succ i) fun i' => PM.fin (PM.putF i' h i o) fun h' => ih i' h') os

/-- Objects with their names, one by one. -/
noncomputable def mGl (h : PM AObj) (os : List (Nat × AObj)) : Nms → Option Nms :=
  List.rec (motive := fun _ => Nms → Option Nms) (fun s => some s)
    (fun o _ ih s => oK (s.rho.get o.1) (fun j => oK (h.get j) (fun p => oK (mO o.2 p s) ih none) none) none) os
theorem mGl_ok {H : PM AObj} : ∀ (os : List (Nat × AObj)) (s s' : Nms), s.Ok → mGl H os s = some s' →
    s'.Ok ∧ s.le s' ∧ ∀ o ∈ os, ∃ j p, s'.R o.1 j ∧ H.get j = some p ∧ OM s'.R o.2 p
  | [], s, s', hs, h => by cases h; exact ⟨hs, .refl _, fun o ho => by cases ho⟩
  | o :: os, s, s', hs, h => by
    have h : oK (s.rho.get o.1) (fun j => oK (H.get j) (fun p => oK (mO o.2 p s) (mGl H os) none) none) none = some s' := h
    obtain ⟨j, h1, h⟩ := oK_none' h
    obtain ⟨p, h2, h⟩ := oK_none' h
    obtain ⟨s1, h3, h⟩ := oK_none' h
    obtain ⟨p1, p2, p3⟩ := mO_ok hs h3
    obtain ⟨q1, q2, q3⟩ := mGl_ok os s1 s' p1 h
    refine ⟨q1, p2.trans q2, fun o' ho' => ?_⟩
    rcases List.mem_cons.1 ho' with rfl | ho'
    · exact ⟨j, p, (p2.trans q2) _ _ h1, h2, p3.mono q2⟩
    · exact q3 o' ho'
end Go.AM
namespace Go.AM

theorem ofL_get : ∀ (os : List AObj) (i : Nat) (h : PM AObj) (k : Nat), (ofL os i h).get k = if i ≤ k ∧ k < i + os.length then os[k - i]? else h.get k
  | [], i, h, k => by rw [if_neg (by simp)]; rfl
  | o :: os, i, h, k => by
    have e : ofL (o :: os) i h = ofL os (i + 1) (h.set i o) := by
      show forceN (Nat.succ i) (fun i' => PM.fin (PM.putF i' h i o) fun h' => ofL os i' h') = _
      unfold forceN
      rw [Nat.beq_refl]
      show PM.fin (PM.putF (Nat.succ i) h i o) (fun h' => ofL os (i + 1) h') = _
      rw [PM.fin_eq, PM.putF_eq]
    rw [e, ofL_get os (i + 1) _ k, PM.get_set]
    by_cases hk : k = i
    · subst hk
      rw [if_neg (by omega), if_pos rfl, if_pos (by simp)]
      simp
    · rw [if_neg hk]
      by_cases h1 : i + 1 ≤ k ∧ k < i + 1 + os.length
      · rw [if_pos h1, if_pos (by simp; omega)]
        have : k - i = (k - (i + 1)) + 1 := by omega
        rw [this]; simp
      · rw [if_neg h1, if_neg (by simp; omega)]
theorem updL_cons (u : Nat × AObj) (us : List (Nat × AObj)) (h : PM AObj) : updL (u :: us) h = updL us (h.set u.1 u.2) := by
  show PM.fin (PM.putF (Nat.succ u.1) h u.1 u.2) (updL us) = _
  rw [PM.fin_eq, PM.putF_eq]
theorem updL_get : ∀ (us : List (Nat × AObj)) (h : PM AObj) (k : Nat) (o : AObj), (updL us h).get k = some o → (k, o) ∈ us ∨ h.get k = some o
  | [], _, _, _, e => .inr e
  | u :: us, h, k, o, e => by
    rw [updL_cons] at e
    rcases updL_get us _ k o e with hm | hm
    · exact .inl (List.mem_cons_of_mem _ hm)
    · rw [PM.get_set] at hm
      by_cases hk : k = u.1
      · rw [if_pos hk] at hm
        cases hm; subst hk; exact .inl (by simp)
      · rw [if_neg hk] at hm; exact .inr hm

/-- A call that was evaluated: the globals and the objects that it knew, what it gave, what it changed or made, and how many names there were then. -/
structure Row2 where
  as : List Value
  gs : List (Nat × AObj)
  ent : List AObj
  v : Value
  upd : List (Nat × AObj)
  nn : Nat
noncomputable def Row2.ini (r : Row2) (ng : Nat) : PM AObj := ofL r.ent ng (updL r.gs .nil)
noncomputable def Row2.row (r : Row2) (ng : Nat) : Row := ⟨r.as, ⟨r.ini ng, Nat.add ng (lenX r.ent)⟩, r.v, ⟨updL r.upd (r.ini ng), r.nn⟩⟩

noncomputable def Row2.app (s0 : Nms) (r : Row2) (as : List Value) (st : St) : Option FR :=
  oK (mL r.as as s0) (fun s => oK (mGl st.h r.gs s) (fun s => oK (mEnt st.h r.ent s0.cnt s) (fun s => cond (Nat.beq s.cnt (Nat.add s0.cnt (lenX r.ent))) (cond (Nat.ble s.cnt r.nn)
    (oK (rV s.rho s.cnt st.nx r.v) (fun v => oK (rUpd s.rho s.cnt st.nx s0.cnt r.upd st.h) (fun h => forceN (Nat.add st.nx (Nat.sub r.nn s.cnt)) fun n => some (.ret v ⟨h, n⟩ false)) none) none) none) none) none) none) none

/-- Between the heap of the evaluated call and the other one. -/
structure JRel (σ : Nat → Nat) (H : PM AObj) (nx ng : Nat) (h0 hr hc : PM AObj) : Prop where
  obj : ∀ j o, hc.get j = some o → o ≠ .dead → (∃ i p, j = σ i ∧ hr.get i = some p ∧ OM (fun i j => j = σ i) p o) ∨ ((∀ i, hr.get i ≠ none → σ i ≠ j) ∧ H.get j = some o)
  dom : ∀ j, hc.get j ≠ none → j < nx ∨ ∃ i, j = σ i ∧ hr.get i ≠ none
  ent : ∀ i, h0.get i ≠ none → hr.get i ≠ none
  glo : ∀ i, i < ng → hr.get i ≠ none → h0.get i ≠ none

theorem rUpd_rel {rho : PM Nat} {nr nc : Nat} {H : PM AObj} {nx ng : Nat} {h0 : PM AObj} : ∀ (us : List (Nat × AObj)) (hr hc hc' : PM AObj), JRel (rRef rho nr nc) H nx ng h0 hr hc →
    rUpd rho nr nc ng us hc = some hc' → JRel (rRef rho nr nc) H nx ng h0 (updL us hr) hc'
  | [], hr, hc, hc', hJ, h => by cases h; exact hJ
  | u :: us, hr, hc, hc', hJ, h => by
    have h : cond (Nat.ble ng u.1) (forceN (rRef rho nr nc u.1) (fun j => oK (rO rho nr nc u.2) (fun p => PM.fin (PM.putF (Nat.succ j) hc j p) (rUpd rho nr nc ng us)) none)) none = some hc' := h
    cases hu : Nat.ble ng u.1 with
    | false => rw [hu] at h; cases h
    | true =>
    rw [hu] at h
    have hu := Nat.le_of_ble_eq_true hu
    have h : forceN (rRef rho nr nc u.1) (fun j => oK (rO rho nr nc u.2) (fun p => PM.fin (PM.putF (Nat.succ j) hc j p) (rUpd rho nr nc ng us)) none) = some hc' := h
    unfold forceN at h
    rw [Nat.beq_refl] at h
    obtain ⟨p, h1, h⟩ := oK_some (o := rO rho nr nc u.2) h
    rw [PM.fin_eq, PM.putF_eq] at h
    rw [updL_cons]
    refine rUpd_rel us _ _ _ ⟨fun j o hj hd => ?_, fun j hj => ?_, fun i hi => ?_, fun i hi hh => ?_⟩ h
    · rw [PM.get_set] at hj
      by_cases ej : j = rRef rho nr nc u.1
      · rw [if_pos ej] at hj
        cases hj
        rcases rO_ok _ _ _ h1 with ⟨_, hd'⟩ | hom
        · exact absurd hd' hd
        · exact .inl ⟨u.1, u.2, ej, by rw [PM.get_set_self], hom⟩
      · rw [if_neg ej] at hj
        rcases hJ.obj j o hj hd with ⟨i, q, e1, e2, e3⟩ | ⟨e1, e2⟩
        · refine .inl ⟨i, q, e1, ?_, e3⟩
          rw [PM.get_set, if_neg]
          · exact e2
          · intro e; subst e; exact ej e1
        · refine .inr ⟨fun i hi hs => ?_, e2⟩
          rw [PM.get_set] at hi
          by_cases ei : i = u.1
          · subst ei; exact ej hs.symm
          · rw [if_neg ei] at hi; exact e1 i hi hs
    · rw [PM.get_set] at hj
      by_cases ej : j = rRef rho nr nc u.1
      · exact .inr ⟨u.1, ej, by rw [PM.get_set_self]; simp⟩
      · rw [if_neg ej] at hj
        rcases hJ.dom j hj with hlt | ⟨i, e1, e2⟩
        · exact .inl hlt
        · refine .inr ⟨i, e1, ?_⟩
          rw [PM.get_set]
          split
          · simp
          · exact e2
    · rw [PM.get_set]
      split
      · simp
      · exact hJ.ent i hi
    · rw [PM.get_set, if_neg (by omega)] at hh
      exact hJ.glo i hi hh

variable {X : Ctx}

theorem app_ok {f : FuncId} {r : Row2} (hr : RowOk X f (r.row X.ng)) {s0 : Nms} (hs0 : s0.Ok) (hc0 : s0.cnt = X.ng) (hg : ∀ g, g < X.ng → s0.rho.get g = some g) {as : List Value} {st : St} {fr : FR} (h : r.app s0 as st = some fr)
    (ι : Inj) (as' : List Value) (w : World) (ha : VRels ι as as') (hw : WRel X ι st w) :
    (∀ as w, (callFunc f as).run X.P w = .ok (.enter f as) w) ∧
    ∀ (K : CallKind) (CS : Bool → List Frame), RecFam ⟨f, K, none⟩ none ι CS → FinishTo X ι w ⟨f, K, none⟩ CS (lone (Frame.enter X.P f as'.toArray K) (CS false) w) fr := by
  unfold Row2.app at h
  obtain ⟨s1, h1, h⟩ := oK_some h
  obtain ⟨s2, h1b, h⟩ := oK_some h
  obtain ⟨s, h2, h⟩ := oK_some h
  obtain ⟨a1, a2, a3⟩ := mL_ok _ _ _ _ hs0 h1
  obtain ⟨d1, d2, d3⟩ := mGl_ok _ _ _ a1 h1b
  obtain ⟨b1, b2, b3⟩ := mEnt_ok _ _ _ _ d1 h2
  rw [hc0] at h b3
  cases hc : Nat.beq s.cnt (Nat.add X.ng (lenX r.ent)) with
  | false => rw [hc] at h; cases h
  | true =>
  cases hc2 : Nat.ble s.cnt r.nn with
  | false => rw [hc, hc2] at h; cases h
  | true =>
  rw [hc, hc2] at h
  have hcnt : s.cnt = X.ng + r.ent.length := by rw [← lenX_eq]; exact Nat.eq_of_beq_eq_true hc
  have hnn : s.cnt ≤ r.nn := Nat.le_of_ble_eq_true hc2
  obtain ⟨v, h3, h⟩ := oK_some (o := rV s.rho s.cnt st.nx r.v) h
  obtain ⟨hp, h4, h⟩ := oK_some (o := rUpd s.rho s.cnt st.nx X.ng r.upd st.h) h
  unfold forceN at h
  rw [Nat.beq_refl] at h
  have h : some (FR.ret v ⟨hp, st.nx + (r.nn - s.cnt)⟩ false) = some fr := h
  cases h
  have hgl : ∀ g, g < X.ng → s.rho.get g = some g := fun g hgn => b2 _ _ (d2 _ _ (a2 _ _ (hg g hgn)))
  -- the objects that the row knew
  have hlt : ∀ j l, ι j = some l → j < st.nx := by
    intro j l e
    rcases Nat.lt_or_ge j st.nx with hlt | hge
    · exact hlt
    · rw [(hw.fresh j hge).1] at e; cases e
  have hini : ∀ i o, (r.ini X.ng).get i = some o → ∃ j p, s.rho.get i = some j ∧ st.h.get j = some p ∧ OM s.R o p := by
    intro i o ho
    unfold Row2.ini at ho
    rw [ofL_get] at ho
    split at ho
    · rename_i hi
      obtain ⟨hlt', rfl⟩ := List.getElem?_eq_some_iff.1 ho
      obtain ⟨j, p, e1, e2, e3⟩ := b3 (i - X.ng) hlt'
      rw [show X.ng + (i - X.ng) = i by omega] at e1
      exact ⟨j, p, e1, e2, e3⟩
    · rcases updL_get _ _ _ _ ho with hm | hm
      · obtain ⟨j, p, e1, e2, e3⟩ := d3 _ hm
        exact ⟨j, p, b2 _ _ e1, e2, e3.mono b2⟩
      · simp at hm
  have hfull : ∀ i, X.ng ≤ i → i < s.cnt → ∃ o, (r.ini X.ng).get i = some o := by
    intro i hi hi2
    unfold Row2.ini
    rw [ofL_get, if_pos (by omega), List.getElem?_eq_getElem (by omega)]
    exact ⟨_, rfl⟩
  have hrho : ∀ i, i < s.cnt → ∃ j l, s.rho.get i = some j ∧ ι j = some l := by
    intro i hi
    rcases Nat.lt_or_ge i X.ng with hn | hn
    · exact ⟨i, _, hgl i hn, hw.glob i hn⟩
    · obtain ⟨o, ho⟩ := hfull i hn hi
      obtain ⟨j, p, e1, e2, e3⟩ := hini i o ho
      obtain ⟨l, e4, _⟩ := hw.objs j p e2 e3.live.2
      exact ⟨j, l, e1, e4⟩
  have hngc : X.ng ≤ s.cnt := by omega
  let ι' : Inj := fun i => match s.rho.get i with | some j => ι j | none => none
  have hι' : ∀ i j, s.rho.get i = some j → ι' i = ι j := by
    intro i j e
    show (match s.rho.get i with | some j => ι j | none => none) = _
    rw [e]
  have hι'n : ∀ i l, ι' i = some l → ∃ j, s.rho.get i = some j ∧ ι j = some l := by
    intro i l e
    have e : (match s.rho.get i with | some j => ι j | none => none) = some l := e
    split at e
    · rename_i j hj; exact ⟨j, hj, e⟩
    · cases e
  have hback : ∀ j i l, (fun j i => s.R i j) j i → ι j = some l → ι' i = some l := fun j i l hR hl => by rw [hι' i j hR]; exact hl
  have hW' : WRel X ι' (r.row X.ng).st w := by
    refine ⟨fun i o ho hd => ?_, fun i j o p l m hi hdi hj hdj hli hlj e => ?_, fun i hi => ?_, fun i l hl => ?_, fun g hgn => ?_, ?_, fun i l o hl hs ho hd => ?_⟩
    · obtain ⟨j, p, e1, e2, e3⟩ := hini i o ho
      obtain ⟨l, e4, e5⟩ := hw.objs j p e2 e3.live.2
      exact ⟨l, by rw [hι' i j e1]; exact e4, e3.symm.omatch hback e5⟩
    · obtain ⟨i2, p1, e1, e2, e3⟩ := hini i o hi
      obtain ⟨j2, p2, g1, g2, g3⟩ := hini j p hj
      rw [hι' i i2 e1] at hli
      rw [hι' j j2 g1] at hlj
      have := hw.inj i2 j2 p1 p2 l m e2 e3.live.2 g2 g3.live.2 hli hlj e
      subst this
      have q1 := (b1.iff _ _).1 e1
      have q2 := (b1.iff _ _).1 g1
      rw [q1] at q2
      exact Option.some.inj q2
    · have hi : X.ng + lenX r.ent ≤ i := hi
      rw [lenX_eq, ← hcnt] at hi
      refine ⟨?_, ?_⟩
      · cases e : ι' i with
        | none => rfl
        | some l =>
          obtain ⟨j, hj, _⟩ := hι'n i l e
          have := b1.dom _ _ hj
          omega
      · cases e : (r.row X.ng).st.h.get i with
        | none => rfl
        | some o =>
          obtain ⟨j, _, e1, _⟩ := hini i o e
          have := b1.dom _ _ e1
          omega
    · obtain ⟨j, _, hl'⟩ := hι'n i l hl
      exact hw.bnd j l hl'
    · rw [hι' g g (hgl g hgn)]; exact hw.glob g hgn
    · exact Nat.le_add_right _ _
    · obtain ⟨j, p, e1, e2, e3⟩ := hini i o ho
      rw [hι' i j e1] at hl
      exact e3.froz.2 (hw.prot j l p hl hs e2 e3.live.2)
  have hA' : VRels ι' r.as as' := ((a3.mono d2).mono b2).symm.vrels hback ha
  obtain ⟨q1, q2⟩ := hr ι' as' w hA' hW'
  refine ⟨q1, fun K CS hrec => ?_⟩
  obtain ⟨κ', v', w', F, k1, k2, k3, k4, k5, k6, k7⟩ := q2 K CS hrec
  have k2 : WRel X κ' ⟨updL r.upd (r.ini X.ng), r.nn⟩ w' := k2
  let σ : Nat → Nat := rRef s.rho s.cnt st.nx
  have hσ1 : ∀ i j, s.rho.get i = some j → σ i = j := by
    intro i j e
    show oK (s.rho.get i) (fun j => j) _ = j
    rw [e]; rfl
  have hσ2 : ∀ i, s.cnt ≤ i → σ i = st.nx + (i - s.cnt) := by
    intro i hi
    show oK (s.rho.get i) (fun j => j) _ = _
    cases e : s.rho.get i with
    | none => rfl
    | some j => have := b1.dom _ _ e; omega
  let κ : Inj := fun j => if j < st.nx then ι j else κ' (s.cnt + (j - st.nx))
  have hκ1 : ∀ j, j < st.nx → κ j = ι j := fun j hj => if_pos hj
  have hκ2 : ∀ j, st.nx ≤ j → κ j = κ' (s.cnt + (j - st.nx)) := fun j hj => if_neg (by omega)
  have hle : ι.le κ := fun j l e => by rw [hκ1 j (hlt j l e)]; exact e
  have hRσ : ∀ i j l, (fun i j => j = σ i) i j → κ' i = some l → κ j = some l := by
    intro i j l e hl
    have e : j = σ i := e
    subst e
    rcases Nat.lt_or_ge i s.cnt with hi | hi
    · obtain ⟨j, l0, e1, e4⟩ := hrho i hi
      have := k3.le i l0 (by rw [hι' i j e1]; exact e4)
      rw [hl] at this
      cases this
      rw [hσ1 i j e1, hκ1 j (hlt j _ e4)]; exact e4
    · rw [hσ2 i hi, hκ2 _ (by omega), show s.cnt + (st.nx + (i - s.cnt) - st.nx) = i by omega]; exact hl
  have hJ0 : JRel σ st.h st.nx X.ng (r.ini X.ng) (r.ini X.ng) st.h := by
    refine ⟨fun j o hj hd => ?_, fun j hj => ?_, fun i hi => hi, fun i _ hi => hi⟩
    · by_cases hex : ∃ i, (r.ini X.ng).get i ≠ none ∧ σ i = j
      · obtain ⟨i, hi, e⟩ := hex
        cases ei : (r.ini X.ng).get i with
        | none => exact absurd ei hi
        | some o' =>
          obtain ⟨j2, p, e1, e2, e3⟩ := hini i o' ei
          have : j2 = j := by rw [← e]; exact (hσ1 i j2 e1).symm
          subst this
          rw [hj] at e2
          cases e2
          exact .inl ⟨i, o', e.symm, ei, e3.mono fun a b hab => (hσ1 a b hab).symm⟩
      · exact .inr ⟨fun i hi e => hex ⟨i, hi, e⟩, hj⟩
    · left
      rcases Nat.lt_or_ge j st.nx with hlt' | hge
      · exact hlt'
      · exact absurd (hw.fresh j hge).2 hj
  have hJ := rUpd_rel r.upd _ _ _ hJ0 h4
  -- a name of the row at which the row knew an object, or that is no global
  have hold : ∀ a l, (updL r.upd (r.ini X.ng)).get a ≠ none → ι' a = some l → ∃ j p, s.rho.get a = some j ∧ st.h.get j = some p ∧ p ≠ .dead ∧ ι j = some l := by
    intro a l ha' hl
    obtain ⟨j, e1, e2⟩ := hι'n a l hl
    have hac := b1.dom _ _ e1
    have : ∃ o, (r.ini X.ng).get a = some o := by
      rcases Nat.lt_or_ge a X.ng with hn | hn
      · cases ei : (r.ini X.ng).get a with
        | none => exact absurd ei (hJ.glo a hn ha')
        | some o => exact ⟨o, rfl⟩
      · exact hfull a hn hac
    obtain ⟨o, ho⟩ := this
    obtain ⟨j2, p, g1, g2, g3⟩ := hini a o ho
    rw [e1] at g1
    cases g1
    exact ⟨j, p, e1, g2, g3.live.2, e2⟩
  have hblk : ∀ j o l, st.h.get j = some o → o ≠ .dead → ι j = some l → (∀ i, (updL r.upd (r.ini X.ng)).get i ≠ none → σ i ≠ j) → ∀ i l', ι' i = some l' → l'.sg ≠ gsg → l'.blk ≠ l.blk := by
    intro j o l ho hd hl hf i l' hl' hs e
    have hin : (updL r.upd (r.ini X.ng)).get i ≠ none := by
      obtain ⟨j2, e1, e2⟩ := hι'n i l' hl'
      have hac := b1.dom _ _ e1
      rcases Nat.lt_or_ge i X.ng with hn | hn
      · exfalso
        rw [hgl i hn] at e1
        cases e1
        rw [hw.glob i hn] at e2
        cases e2
        exact hs rfl
      · obtain ⟨o', ho'⟩ := hfull i hn hac
        exact hJ.ent i (by rw [ho']; simp)
    obtain ⟨j2, p, e1, e2, e3, e4⟩ := hold i l' hin hl'
    have := hw.inj j2 j p o l' l e2 e3 ho hd e4 hl e
    subst this
    exact hf i hin (hσ1 i j2 e1)
  refine ⟨κ, v', w', F, (rV_ok _ _ _ _ _ h3).vrel hRσ k1, ⟨fun j o hj hd => ?_, fun i j o p l m hi hdi hj hdj hli hlj e => ?_, fun j hj => ?_, fun j l hl => ?_, fun g hgn => ?_, ?_, fun j l o hl hs hj hd => ?_⟩, ⟨hle, k3.size, fun b hb hno => ?_, fun j l hl => ?_, k3.so⟩, k4, k5, k6, k7⟩
  · rcases hJ.obj j o hj hd with ⟨i, p, e1, e2, e3⟩ | ⟨e1, e2⟩
    · obtain ⟨l, g1, g2⟩ := k2.objs i p e2 e3.live.1
      exact ⟨l, hRσ i j l e1 g1, e3.omatch hRσ g2⟩
    · obtain ⟨l, g1, g2⟩ := hw.objs j o e2 hd
      refine ⟨l, hle j l g1, OMatch.mono X g2 hle ?_⟩
      exact k3.kept l.blk (hw.bnd j l g1) (hblk j o l e2 hd g1 e1)
  · have key : ∀ i j o p l m, hp.get i = some o → o ≠ .dead → hp.get j = some p → p ≠ .dead → κ i = some l → κ j = some m → l.blk = m.blk →
        (∃ a q, i = σ a ∧ (updL r.upd (r.ini X.ng)).get a = some q ∧ OM (fun i j => j = σ i) q o) → ((∀ a, (updL r.upd (r.ini X.ng)).get a ≠ none → σ a ≠ j) ∧ st.h.get j = some p) → False := by
      intro i j o p l m hi hdi hj hdj hli hlj e ⟨a, q, e1, e2, e3⟩ ⟨g1, g2⟩
      obtain ⟨l1, c1, _⟩ := k2.objs a q e2 e3.live.1
      have := hRσ a i l1 e1 c1
      rw [hli] at this
      cases this
      obtain ⟨m1, c2, _⟩ := hw.objs j p g2 hdj
      have := hle j m1 c2
      rw [hlj] at this
      cases this
      rcases k3.new a l c1 with hn | hn | ⟨b, m', hb1, hb0, hb2⟩
      · obtain ⟨j2, p2, f1, f2, f3, f4⟩ := hold a l (by rw [e2]; simp) hn
        have := hw.inj j2 j p2 p l m f2 f3 g2 hdj f4 c2 e
        subst this
        exact g1 a (by rw [e2]; simp) (hσ1 a j2 f1)
      · have := hw.bnd j m c2; omega
      · exact hblk j p m g2 hdj c2 g1 b m' hb1 hb0 (by omega)
    rcases hJ.obj i o hi hdi with hx | hx <;> rcases hJ.obj j p hj hdj with hy | hy
    · obtain ⟨a, q, e1, e2, e3⟩ := hx
      obtain ⟨b, q', g1, g2, g3⟩ := hy
      obtain ⟨l1, c1, _⟩ := k2.objs a q e2 e3.live.1
      obtain ⟨m1, c2, _⟩ := k2.objs b q' g2 g3.live.1
      have t1 := hRσ a i l1 e1 c1
      rw [hli] at t1
      cases t1
      have t2 := hRσ b j m1 g1 c2
      rw [hlj] at t2
      cases t2
      have := k2.inj a b q q' l m e2 e3.live.1 g2 g3.live.1 c1 c2 e
      rw [e1, g1, this]
    · exact (key i j o p l m hi hdi hj hdj hli hlj e hx hy).elim
    · exact (key j i p o m l hj hdj hi hdi hlj hli e.symm hy hx).elim
    · obtain ⟨l1, c1, _⟩ := hw.objs i o hx.2 hdi
      obtain ⟨m1, c2, _⟩ := hw.objs j p hy.2 hdj
      have t1 := hle i l1 c1
      rw [hli] at t1
      cases t1
      have t2 := hle j m1 c2
      rw [hlj] at t2
      cases t2
      exact hw.inj i j o p l m hx.2 hdi hy.2 hdj c1 c2 e
  · have hj : st.nx + (r.nn - s.cnt) ≤ j := hj
    have hfr : ∀ i, r.nn ≤ i → κ' i = none ∧ (updL r.upd (r.ini X.ng)).get i = none := fun i hi => k2.fresh i hi
    refine ⟨by rw [hκ2 j (by omega)]; exact (hfr _ (by omega)).1, ?_⟩
    show hp.get j = none
    cases e : hp.get j with
    | none => rfl
    | some o =>
      exfalso
      rcases hJ.dom j (by rw [e]; simp) with hlt' | ⟨i, e1, e2⟩
      · omega
      · rcases Nat.lt_or_ge i s.cnt with hi | hi
        · obtain ⟨j2, l0, g1, g4⟩ := hrho i hi
          rw [show rRef s.rho s.cnt st.nx i = j2 from hσ1 i j2 g1] at e1
          have := hlt j2 l0 g4
          omega
        · rw [show rRef s.rho s.cnt st.nx i = st.nx + (i - s.cnt) from hσ2 i hi] at e1
          rcases Nat.lt_or_ge i r.nn with hi2 | hi2
          · omega
          · exact e2 (hfr i hi2).2
  · rcases Nat.lt_or_ge j st.nx with hj | hj
    · rw [hκ1 j hj] at hl
      exact Nat.lt_of_lt_of_le (hw.bnd j l hl) k3.size
    · rw [hκ2 j hj] at hl
      exact k2.bnd _ l hl
  · exact hle _ _ (hw.glob g hgn)
  · exact Nat.le_trans hw.globs (Nat.le_add_right _ _)
  · rcases hJ.obj j o hj hd with ⟨a, q, e1, e2, e3⟩ | ⟨e1, e2⟩
    · obtain ⟨l1, c1, _⟩ := k2.objs a q e2 e3.live.1
      have t1 := hRσ a j l1 e1 c1
      rw [hl] at t1
      cases t1
      exact e3.froz.1 (k2.prot a l q c1 hs e2 e3.live.1)
    · obtain ⟨l1, c1, _⟩ := hw.objs j o e2 hd
      have t1 := hle j l1 c1
      rw [hl] at t1
      cases t1
      exact hw.prot j l o c1 hs e2 hd
  · refine k3.kept b hb fun i l hl hs => ?_
    obtain ⟨j, _, hl'⟩ := hι'n i l hl
    exact hno j l hl' hs
  · rcases Nat.lt_or_ge j st.nx with hj | hj
    · rw [hκ1 j hj] at hl; exact .inl hl
    · rw [hκ2 j hj] at hl
      rcases k3.new _ l hl with hn | hn | ⟨b, m, hb1, hb0, hb2⟩
      · obtain ⟨j2, e1, _⟩ := hι'n _ l hn
        have := b1.dom _ _ e1
        omega
      · exact .inr (.inl hn)
      · obtain ⟨j2, _, e2⟩ := hι'n b m hb1
        exact .inr (.inr ⟨j2, m, e2, hb0, hb2⟩)

/-! Tables of such rows, with the number of names at which each is to be tried (0: always). -/
noncomputable def findH (s0 : Nms) (as : List Value) (st : St) (rs : List (Nat × Row2)) : Option FR :=
  List.rec (motive := fun _ => Option FR) none (fun r _ ih => cond (Nat.beq r.1 st.nx) (oK (r.2.app s0 as st) some ih) (cond (Nat.beq r.1 0) (oK (r.2.app s0 as st) some ih) ih)) rs

theorem findH_mem {s0 : Nms} {as : List Value} {st : St} : ∀ {rs : List (Nat × Row2)} {fr : FR}, findH s0 as st rs = some fr → ∃ r ∈ rs, r.2.app s0 as st = some fr
  | [], fr, h => by cases h
  | r :: rs, fr, h => by
    have h : cond (Nat.beq r.1 st.nx) (oK (r.2.app s0 as st) some (findH s0 as st rs)) (cond (Nat.beq r.1 0) (oK (r.2.app s0 as st) some (findH s0 as st rs)) (findH s0 as st rs)) = some fr := h
    have tl : findH s0 as st rs = some fr → ∃ r' ∈ r :: rs, r'.2.app s0 as st = some fr := fun h => by
      obtain ⟨r', h1, h2⟩ := findH_mem h
      exact ⟨r', List.mem_cons_of_mem _ h1, h2⟩
    have hd : oK (r.2.app s0 as st) some (findH s0 as st rs) = some fr → ∃ r' ∈ r :: rs, r'.2.app s0 as st = some fr := fun h => by
      cases ha : r.2.app s0 as st with
      | none => rw [ha] at h; exact tl h
      | some x => rw [ha] at h; cases h; exact ⟨r, by simp, ha⟩
    cases hb : Nat.beq r.1 st.nx with
    | true => rw [hb] at h; exact hd h
    | false =>
      rw [hb] at h
      cases hc : Nat.beq r.1 0 with
      | true => rw [hc] at h; exact hd h
      | false => rw [hc] at h; exact tl h
end Go.AM
namespace Go.AM
variable {X : Ctx}

noncomputable def idPM (n : Nat) : PM Nat := Nat.rec (motive := fun _ => PM Nat) .nil (fun m t => PM.fin t fun t => PM.putF (Nat.succ m) t m m) n
theorem idPM_get : ∀ (n i : Nat), (idPM n).get i = if i < n then some i else none
  | 0, i => by rw [if_neg (by omega)]; rfl
  | n + 1, i => by
    have e : idPM (n + 1) = (idPM n).set n n := by
      show PM.fin (idPM n) (fun t => PM.putF (Nat.succ n) t n n) = _
      rw [PM.fin_eq, PM.putF_eq]
    rw [e, PM.get_set, idPM_get n i]
    by_cases h : i = n
    · subst h; rw [if_pos rfl, if_pos (by omega)]
    · rw [if_neg h]
      by_cases h' : i < n
      · rw [if_pos h', if_pos (by omega)]
      · rw [if_neg h', if_neg (by omega)]
theorem ren_id {s : Nms} {n : Nat} (h1 : s.rho = idPM n) (h2 : s.inv = idPM n) (h3 : s.cnt = n) : s.Ok ∧ s.cnt = n ∧ ∀ g, g < n → s.rho.get g = some g := by
  refine ⟨⟨fun i j => ?_, fun i j h => ?_⟩, h3, fun g hg => ?_⟩
  · rw [h1, h2, idPM_get, idPM_get]
    by_cases hi : i < n <;> by_cases hj : j < n <;> simp [hi, hj] <;> omega
  · rw [h1, idPM_get] at h
    rw [h3]
    by_cases hi : i < n
    · exact hi
    · rw [if_neg hi] at h; cases h
  · rw [h1, idPM_get, if_pos hg]

noncomputable def Row2.chk (r : Row2) (ng : Nat) (xp : PM XFn) (orc : Orc) (n f : Nat) : Bool :=
  PM.fin (r.ini ng) fun h => PM.fin (updL r.upd h) fun h' => forceN (Nat.add ng (lenX r.ent)) fun m => AM.chk (callX xp orc n (.func (.func f) #[] #[]) r.as none ⟨h, m⟩) r.v ⟨h', r.nn⟩
theorem row2_ok {xp : PM XFn} {orc : Orc} (hG : Good X) (hxp : XpOk X xp) (horc : OrcOk X orc) {n ng : Nat} {f : FuncId} {r : Row2} (h : r.chk ng xp orc n f = true) : RowOk X f (r.row ng) := by
  refine row_ok hG hxp horc (n := n) ?_
  unfold Row2.chk forceN at h
  rw [PM.fin_eq, PM.fin_eq, Nat.beq_refl] at h
  exact h
/-- A row in which a number is not known: whatever is asked of it, in two cases. -/
noncomputable def Row2.chkU (r : Row2) (ng g : Nat) (el : TypeId) (c : Nat) (xp : PM XFn) (orc : Orc) (n f : Nat) : Bool :=
  PM.fin ((r.ini ng).set g (.cells [.chan (some c)] el (0, 1) false)) fun h => PM.fin ((updL r.upd (r.ini ng)).set g (.cells [.chan (some c)] el (0, 1) false)) fun h' => forceN (Nat.add ng (lenX r.ent)) fun m =>
    AM.chk (callX xp orc n (.func (.func f) #[] #[]) r.as none ⟨h, m⟩) r.v ⟨h', r.nn⟩
theorem row2_know {xp : PM XFn} {orc : Orc} (hG : Good X) (hxp : XpOk X xp) (horc : OrcOk X orc) {n ng : Nat} {f : FuncId} {r : Row2} {g : Nat} {el : TypeId} {c : Nat} (h : r.chkU ng g el c xp orc n f = true) : RowOk X f ((r.row ng).know g el c) := by
  refine row_ok hG hxp horc (n := n) ?_
  unfold Row2.chkU forceN at h
  rw [PM.fin_eq, PM.fin_eq, Nat.beq_refl] at h
  exact h
noncomputable def Row2.chkL (r : Row2) (ng : Nat) (olds : List Nat) (xp : PM XFn) (orc : Orc) (n f : Nat) (xf : XFn) : Bool :=
  PM.fin (r.ini ng) fun h => PM.fin (updL r.upd h) fun h' => forceN (Nat.add ng (lenX r.ent)) fun m => AM.chkL olds m r.v ⟨h', r.nn⟩ (bodyL (callX xp orc n) n f xf r.as ⟨h, m⟩)
theorem row2_okL {xp : PM XFn} {orc : Orc} (hG : Good X) (hxp : XpOk X xp) (horc : OrcOk X orc) {n ng : Nat} {f : FuncId} {xf : XFn} {r : Row2} {olds : List Nat} (hx : xp.get f = some xf) (h : r.chkL ng olds xp orc n f xf = true) : RowOk X f (r.row ng) := by
  refine rowL_ok hG hxp horc (n := n) (olds := olds) hx ?_
  unfold Row2.chkL forceN at h
  rw [PM.fin_eq, PM.fin_eq, Nat.beq_refl] at h
  exact h
/-! Tables as lists. -/
noncomputable def assoc (t : List (Nat × List (Nat × Row2))) (f : Nat) : List (Nat × Row2) :=
  List.rec (motive := fun _ => List (Nat × Row2)) [] (fun p _ ih => cond (Nat.beq p.1 f) p.2 ih) t
noncomputable def orcA (s0 : Nms) (t : List (Nat × List (Nat × Row2))) : Orc := fun f as st => findH s0 as st (assoc t f)
def RsOk (X : Ctx) (f : Nat) (l : List (Nat × Row2)) : Prop := ∀ r ∈ l, RowOk X f (r.2.row X.ng)
def TbOk (X : Ctx) (t : List (Nat × List (Nat × Row2))) : Prop := ∀ p ∈ t, RsOk X p.1 p.2
theorem j0 {f : Nat} : RsOk X f [] := fun _ h => by cases h
theorem jc {f n : Nat} {r : Row2} {l : List (Nat × Row2)} (h : RowOk X f (r.row X.ng)) (hs : RsOk X f l) : RsOk X f ((n, r) :: l) := List.forall_mem_cons.2 ⟨h, hs⟩
theorem k0 : TbOk X [] := fun _ h => by cases h
theorem kc {f : Nat} {l : List (Nat × Row2)} {t : List (Nat × List (Nat × Row2))} (h : RsOk X f l) (hs : TbOk X t) : TbOk X ((f, l) :: t) := List.forall_mem_cons.2 ⟨h, hs⟩
theorem assoc_ok : ∀ {t : List (Nat × List (Nat × Row2))}, TbOk X t → ∀ f, RsOk X f (assoc t f)
  | [], _, f => j0
  | p :: t, h, f => by
    show RsOk X f (cond (Nat.beq p.1 f) p.2 (assoc t f))
    cases hb : Nat.beq p.1 f with
    | true => rw [← Nat.eq_of_beq_eq_true hb]; exact h p (by simp)
    | false => exact assoc_ok (fun q hq => h q (List.mem_cons_of_mem _ hq)) f
theorem orcA_ok {s0 : Nms} (hs0 : s0.Ok ∧ s0.cnt = X.ng ∧ ∀ g, g < X.ng → s0.rho.get g = some g) {t : List (Nat × List (Nat × Row2))} (ht : TbOk X t) : OrcOk X (orcA s0 t) := by
  intro f as st r hr ι as' w ha hw _
  obtain ⟨row, hm, hh⟩ := findH_mem hr
  exact app_ok (assoc_ok ht f row hm) hs0.1 hs0.2.1 hs0.2.2 hh ι as' w ha hw
end Go.AM
namespace Go.AM
variable {X : Ctx}

theorem calls_of_row {f : FuncId} {r : Row} (hr : RowOk X f r) {ι : Inj} {as' : List Value} {w : World} (ha : VRels ι r.as as') (hw : WRel X ι r.st w) :
    Calls X.P f as'.toArray w (fun e w' => ∃ κ v', e = .returned v' ∧ VRel κ r.v v' ∧ WRel X κ r.st' w' ∧ Keeps ι κ w w') := by
  intro cs
  obtain ⟨_, h2⟩ := hr ι as' w ha hw
  obtain ⟨κ, v', w', F, h1, h2, h3, h4, h5, h6, h7⟩ := h2 .normal (fun _ => cs) (fun F tk hF => by
    have hF' : F.kind = .normal := hF
    simp [tryRecover, hF'])
  obtain ⟨g1, g2, fn, g3, g4⟩ := h6
  exact ⟨.returned v', w', F, ⟨κ, v', rfl, h1, h2, h3⟩, h7, h5, g1, g2, h4, fn, g3, g4⟩

/-- Globals where they lie. -/
def ini0 (n : Nat) : Inj := fun i => if i < n then some ⟨i, 0, 0, gsg⟩ else none

/-- A global as a world has it. -/
def GlOk (n : Nat) (W : World) (p : Nat × AObj) : Prop :=
  p.1 < n ∧ ∃ cs el m C fz, p.2 = .cells cs el (0, m) false ∧ 0 < m ∧ W.heap[p.1]? = some (.cells C el fz) ∧ VRels (ini0 n) cs C.toList

theorem wrel_ini {W : World} {gs : List (Nat × AObj)} (hsz : X.ng ≤ W.heap.size) (h : ∀ p ∈ gs, GlOk X.ng W p) : WRel X (ini0 X.ng) ⟨updL gs .nil, X.ng⟩ W := by
  have hin : ∀ i l, ini0 X.ng i = some l → i < X.ng ∧ l = ⟨i, 0, 0, gsg⟩ := by
    intro i l hl
    unfold ini0 at hl
    split at hl
    · cases hl; exact ⟨by assumption, rfl⟩
    · cases hl
  have hob : ∀ i o, (updL gs .nil).get i = some o → GlOk X.ng W (i, o) := by
    intro i o ho
    rcases updL_get _ _ _ _ ho with hm | hm
    · exact h _ hm
    · simp at hm
  refine ⟨fun i o ho hd => ?_, fun i j o p l m hi _ hj _ hl hm e => ?_, fun i hi => ?_, fun i l hl => ?_, fun g hg => ?_, Nat.le_refl _, fun i l o hl _ ho _ => ?_⟩
  · obtain ⟨hlt, cs, el, m, C, fz, e1, e2, e3, e4⟩ := hob i o ho
    simp only at hlt e1 e3
    refine ⟨⟨i, 0, 0, gsg⟩, by unfold ini0; rw [if_pos hlt], ?_⟩
    subst e1
    have hlen : cs.length = C.size := by rw [e4.1]; simp
    refine ⟨C, fz, e3, by simp [hlen], fun k hk => ?_, fun hf => ?_, fun _ => ⟨rfl, rfl, hlen.symm⟩⟩
    · have hk' : k < C.size := by omega
      refine ⟨C[k], by simp [hk'], ?_⟩
      have := e4.2 k hk (by simpa using hk')
      rwa [Array.getElem_toList] at this
    · simp only at hf; omega
  · obtain ⟨_, rfl⟩ := hin i l hl
    obtain ⟨_, rfl⟩ := hin j m hm
    exact e
  · refine ⟨by unfold ini0; rw [if_neg (by simp only at hi; omega)], ?_⟩
    cases e : (updL gs .nil).get i with
    | none => rfl
    | some o => have := (hob i o e).1; simp only at this hi; omega
  · obtain ⟨h1, rfl⟩ := hin i l hl
    simp only; omega
  · unfold ini0; rw [if_pos hg]
  · obtain ⟨_, cs, el, m, C, fz, e1, e2, _, _⟩ := hob i o ho
    simp only at e1
    subst e1
    exact ⟨rfl, e2⟩

/-! Data without places determine the cells that are read. -/
def zipM {α β γ : Type} (f : α → β → Option γ) : List α → List β → Option (List γ)
  | [], [] => some []
  | a :: as, b :: bs => (f a b).bind fun c => (zipM f as bs).map fun cs => c :: cs
  | _, _ => none
def contig : Nat → List (Nat × Nat) → Nat → Bool
  | o, [], n => Nat.beq o n
  | o, p :: r, n => Nat.beq p.1 o && contig (o + p.2) r n
def flatD (P : Program) : Nat → TypeId → DataW Unit → Option (List Value)
  | 0, _, _ => none
  | n + 1, t, d =>
    match P.underlying t, d with
    | some .bool, .lit (.bool b) => some [.bool b]
    | some (.int _), .lit (.int k m) => some [.int k m]
    | some .string, .lit (.string s) => some [.string ⟨⟨s⟩⟩]
    | some (.struct fs), .agg ds => if contig 0 (fs.toList.map fun f => (f.offset, P.cellsOf f.type)) (P.cellsOf t) then (zipM (fun (f : Field) d => flatD P n f.type d) fs.toList ds).map List.flatten else none
    | some (.array m e), .agg ds => if contig 0 ((List.range m).map fun i => (i * P.cellsOf e, P.cellsOf e)) (P.cellsOf t) then (zipM (fun (_ : Nat) d => flatD P n e d) (List.range m) ds).map List.flatten else none
    | _, _ => none

theorem contig_ok (cs : List Value) : ∀ (l : List (Nat × Nat)) (o : Nat), contig o l cs.length = true → cs.drop o = (l.map fun p => (cs.drop p.1).take p.2).flatten
  | [], o, h => by
    have := Nat.eq_of_beq_eq_true h
    rw [this]; simp
  | p :: r, o, h => by
    unfold contig at h
    rw [Bool.and_eq_true] at h
    have e := Nat.eq_of_beq_eq_true h.1
    rw [List.map_cons, List.flatten_cons, ← contig_ok cs r (o + p.2) h.2, e, ← List.drop_drop, List.take_append_drop]

theorem zipM_segs {α : Type} {g : α → Option (DataW Unit × List MemPlace)} {k : α → DataW Unit → Option (List Value)} {seg : α → List Value}
    (hk : ∀ a d p vs, g a = some (d, p) → k a d = some vs → seg a = vs) : ∀ (as : List α) (xs : List (DataW Unit × List MemPlace)) (vss : List (List Value)), as.mapM g = some xs → zipM k as (xs.map (·.1)) = some vss → as.map seg = vss
  | [], xs, vss, h, h' => by
    simp at h; subst h
    cases h'; rfl
  | a :: as, xs, vss, h, h' => by
    rw [List.mapM_cons] at h
    obtain ⟨x, hx, h⟩ := Option.bind_eq_some_iff.1 h
    obtain ⟨ys, hy, h⟩ := Option.bind_eq_some_iff.1 h
    cases h
    obtain ⟨vs, e1, h'⟩ := Option.bind_eq_some_iff.1 h'
    obtain ⟨wss, e2, rfl⟩ := Option.map_eq_some_iff.1 h'
    rw [List.map_cons, hk a x.1 x.2 vs hx e1, zipM_segs hk as ys wss hy e2]

theorem flat_ok {P : Program} {w : World} {base : Nat} {sp : Nat → Bool} {held : Bool} : ∀ (fuel n : Nat) (t : TypeId) (cs : List Value) (d : DataW Unit) (p : List MemPlace) (vs : List Value),
    DataW.trod (fun _ => ()) P w base sp held fuel t cs = some (d, p) → flatD P n t d = some vs → cs = vs
  | 0, _, _, _, _, _, _, h, _ => by simp [DataW.trod] at h
  | _ + 1, 0, _, _, _, _, _, _, h => by simp [flatD] at h
  | fuel + 1, n + 1, t, cs, d, p, vs, h, h' => by
    unfold flatD at h'
    split at h'
    · rename_i b hu
      cases h'
      simp only [DataW.trod, hu] at h
      split at h <;> first | (rename_i hq; cases hq) | skip
      all_goals first | (cases h; rfl) | (simp at h)
    · rename_i k k' m hu
      cases h'
      simp only [DataW.trod, hu] at h
      split at h <;> first | (rename_i hq; cases hq) | skip
      all_goals first
        | (split at h
           · rename_i hc; cases h; rw [hc.1]
           · cases h)
        | (simp at h)
    · rename_i s hu
      cases h'
      simp only [DataW.trod, hu] at h
      split at h <;> first | (rename_i hq; cases hq) | skip
      all_goals first
        | (split at h
           · cases h; rfl
           · cases h)
        | (simp at h)
    · rename_i fs ds hu
      split at h'
      · rename_i hc
        obtain ⟨vss, e1, rfl⟩ := Option.map_eq_some_iff.1 h'
        simp only [DataW.trod, hu] at h
        split at h
        · rename_i hl
          obtain ⟨xs, e2, e3⟩ := Option.map_eq_some_iff.1 h
          cases e3
          rw [← hl] at hc
          have e4 := contig_ok cs _ 0 hc
          rw [List.drop_zero, List.map_map] at e4
          have e5 := zipM_segs (seg := fun (f : Field) => (cs.drop f.offset).take (P.cellsOf f.type)) (fun f d p vs h1 h2 => flat_ok fuel n f.type _ d p vs h1 h2) _ _ _ e2 e1
          rw [← e5]
          exact e4
        · cases h
      · cases h'
    · rename_i m e ds hu
      split at h'
      · rename_i hc
        obtain ⟨vss, e1, rfl⟩ := Option.map_eq_some_iff.1 h'
        simp only [DataW.trod, hu] at h
        split at h
        · rename_i hl
          obtain ⟨xs, e2, e3⟩ := Option.map_eq_some_iff.1 h
          cases e3
          rw [← hl] at hc
          have e4 := contig_ok cs _ 0 hc
          rw [List.drop_zero, List.map_map] at e4
          have e5 := zipM_segs (seg := fun (i : Nat) => (cs.drop (i * P.cellsOf e)).take (P.cellsOf e)) (fun i d p vs h1 h2 => flat_ok fuel n e _ d p vs h1 h2) _ _ _ e2 e1
          rw [← e5]
          exact e4
        · cases h
      · cases h'
    · cases h'

/-- What is listed, one by one. -/
theorem laid_mem {P : Program} {w : World} : ∀ {l : List (String × DataW Unit)} {ps : List MemPlace}, DataW.LaidVars P w l ps → ∀ x ∈ l, ∃ g t cs fuel p, P.globalNamed x.1 = some g ∧ (P.globals[g]?).map (·.type) = some t ∧ w.var? P x.1 = some cs ∧
    DataW.trod (fun _ => ()) P w 0 (fun _ => true) false fuel t cs.toList = some (x.2, p)
  | [], _, _, x, hx => by cases hx
  | (n, d) :: r, ps, h, x, hx => by
    obtain ⟨g, t, cs, fuel, p, q, h1, h2, h3, h4, h5, _⟩ := h
    rcases List.mem_cons.1 hx with rfl | hx
    · exact ⟨g, t, cs, fuel, p, h1, h2, h3, h4⟩
    · exact laid_mem h5 x hx

/-- Plain values stand for themselves. -/
def plainV : Value → Bool
  | .bool _ | .int _ _ | .string _ => true
  | _ => false
theorem plainV_rel {ι : Inj} {v : Value} (h : plainV v = true) : VRel ι v v := by
  cases v <;> first | (simp [plainV] at h; done) | constructor
theorem plain_rels {ι : Inj} : ∀ {vs : List Value}, vs.all plainV = true → VRels ι vs vs
  | [], _ => .nil ι
  | v :: vs, h => by
    rw [List.all_cons, Bool.and_eq_true] at h
    exact .cons (plainV_rel h.1) (plain_rels h.2)

/-- A listed variable, as an object. -/
theorem gl_laid {P : Program} {W : World} {l : List (String × DataW Unit)} {ps : List MemPlace} (hl : DataW.LaidVars P W l ps) {n g N : Nat} {name : String} {d : DataW Unit} {t el : TypeId} {vs : List Value} {m : Nat}
    (hx : (name, d) ∈ l) (hg : P.globalNamed name = some g) (ht : (P.globals[g]?).map (·.type) = some t) (hf : flatD P n t d = some vs) (hgn : g < N) (hm : 0 < m) (hp : vs.all plainV = true)
    (hsh : ∃ cs, W.heap[g]? = some (.cells cs el)) : GlOk N W (g, .cells vs el (0, m) false) := by
  obtain ⟨g', t', cs, fuel, p, h1, h2, h3, h4⟩ := laid_mem hl _ hx
  simp only at h1 h3 h4
  rw [hg] at h1
  cases h1
  rw [ht] at h2
  cases h2
  obtain ⟨C, hC⟩ := hsh
  have hv : C = cs := by
    simp only [World.var?, hg, Option.bind_some, hC] at h3
    exact Option.some.inj h3
  subst hv
  refine ⟨hgn, vs, el, m, C, _, rfl, hm, hC, ?_⟩
  rw [flat_ok fuel n t _ d p vs h4 hf]
  exact plain_rels hp
end Go.AM
