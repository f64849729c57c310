/- No function of the program starts a goroutine; no condition. -/
import Derived.Test.YtdidaplfdedcoaaGreatDoorRows
import Derived.KernelRfl
import GoSem.ClaimSeven
namespace Go.Proofs.YtdidaplfdedcoaaGreatDoor
set_option maxRecDepth 100000
theorem noGo : (Tryz.prog.funcs.toList.all fun f => !f.goes) = true := by kernel_rfl
theorem goesOff : false = Rows.boundsKnownRow.goesBy Tryz.pinned.checked.prog := by
  have hall : ∀ f ∈ Tryz.prog.funcs, f.goes = false := fun f hf => by
    have := List.all_eq_true.1 noGo f (by simpa using hf)
    simpa using this
  have hone : ∀ g : Nat, (Tryz.prog.funcs[g]?).any Func.goes = false := fun g => by
    cases h : Tryz.prog.funcs[g]? with
    | none => rfl
    | some f => exact hall f (Array.mem_of_getElem? h)
  have hP : ∀ f, Tryz.prog.goes f = false := fun f => by
    unfold Program.goes
    rw [Bool.or_eq_false_iff]
    constructor
    · rw [List.any_eq_false]
      intro g _
      simp [hone g]
    · rw [Bool.and_eq_false_iff]
      right
      rw [Array.any_eq_false]
      intro i hi
      simp [hall _ (Array.getElem_mem hi)]
  show false = Program.goesAt Tryz.prog _ _
  unfold Program.goesAt Program.goesFrom
  cases h : Tryz.prog.funcNamed Rows.boundsKnownRow.func with
  | none => rfl
  | some f => simp [hP f, Rows.boundsKnownRow]
end Go.Proofs.YtdidaplfdedcoaaGreatDoor
