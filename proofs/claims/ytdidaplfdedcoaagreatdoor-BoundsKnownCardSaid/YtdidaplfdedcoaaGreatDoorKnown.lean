/- BoundsKnown returns true: the given card holds; no condition beyond the card's own. -/
import Derived.Test.YtdidaplfdedcoaaGreatDoorTie
import Derived.Test.YtdidaplfdedcoaaGreatDoorCards
import Derived.SevenTiedAt
import Derived.JoinedOf
import Derived.Test.YtdidaplfdedcoaaGreatDoorRun
import Derived.Test.YtdidaplfdedcoaaGreatDoorFacts
import Derived.Test.YtdidaplfdedcoaaGreatDoorGo
namespace Go.Proofs.YtdidaplfdedcoaaGreatDoor
open Go.ChangeShapes Go.WideShapes Go.ChangeAt Go.RowKit Go.AM
set_option maxRecDepth 100000
theorem boundsKnown_row : Rows.BoundsKnownSaid :=
  OpenClaim.holds_of_wide 3 Tryz.f3 rfl rfl rfl rfl rfl rfl rfl ⟨rfl, rfl, rfl, rfl, rfl⟩ rfl rfl rfl rfl rfl (by kernel_rfl) Tryz.func3 facts
    (of_decide_eq_true (by kernel_rfl)) (by unfold Func.isWrapper; first | (rw [if_pos (by decide +kernel)]; kernel_rfl) | (rw [if_neg (by decide +kernel)]; exact ⟨rfl, rfl⟩))
    (fun os started H enc _ => lifted os started H enc)
theorem looksIs : true = Tryz.prog.looks [] := by kernel_rfl
theorem boundsKnown_holds : Rows.BoundsKnownCardSaid :=
  Claim7.holds_tied_plain_at .later [] [.data, .data, .data, .data, .data, .data, .data, .widerDeep, .data, .pinned] true (true, "8574c60bec60ffa288ee3dbe8d89901b7fcee6718f302b60e2d7289ab56e84b8") true
    boundsKnown_row (fun _ h => by cases h) (by kernel_rfl) (fun _ h => by cases h) boundsKnown_row_tie rfl ⟨rfl, rfl⟩ (by kernel_rfl) rfl
    (fun f fn hf hfn => by
      obtain rfl : f = 3 := Option.some.inj ((show Tryz.prog.funcNamed "vernier/vernierlaw08.BoundsKnown" = some 3 by kernel_rfl).symm.trans hf) |>.symm
      obtain rfl : fn = Tryz.f3 := (Option.some.inj (Tryz.func3.symm.trans hfn)).symm
      refine ⟨looksIs, fun j t ht => ?_⟩
      have hm : t ∈ Tryz.f3.params.toList := by simpa using Array.mem_of_getElem? ht
      rw [params3] at hm
      cases hm)
    goesOff
#print axioms boundsKnown_holds
end Go.Proofs.YtdidaplfdedcoaaGreatDoor
