/- The closed facts of the given row; no condition. -/
import Derived.Test.YtdidaplfdedcoaaGreatDoorRows
import Derived.JoinedOf
namespace Go.Proofs.YtdidaplfdedcoaaGreatDoor
set_option maxRecDepth 100000
theorem factInPlace : (Rows.boundsKnownRow.inPlace == Tryz.prog.inPlace 3) = true := by kernel_rfl
theorem factUnfollowed : (Rows.boundsKnownRow.unfollowed == Tryz.prog.unfollowed 3) = true := by kernel_rfl
theorem factRecurses : (Rows.boundsKnownRow.recurses == Tryz.prog.recurses 3) = true := by kernel_rfl
theorem factNamed : (Rows.boundsKnownRow.named == Tryz.prog.varsNamed 3) = true := by kernel_rfl
theorem facts : joinedFacts Tryz.prog 3 Tryz.f3 Rows.boundsKnownSpec Rows.boundsKnownRow = true := by
  unfold joinedFacts
  simp only [Bool.and_eq_true]
  repeat' apply And.intro
  iterate 9 (rotate_left 1)
  · exact factInPlace
  · exact factUnfollowed
  · exact factRecurses
  · exact factNamed
  all_goals kernel_rfl
end Go.Proofs.YtdidaplfdedcoaaGreatDoor
