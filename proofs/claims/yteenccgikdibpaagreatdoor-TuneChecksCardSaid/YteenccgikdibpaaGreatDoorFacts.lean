/- The closed facts of the given row; no condition. -/
import Derived.Test.YteenccgikdibpaaGreatDoorRows
import Derived.JoinedOf
set_option linter.all false
namespace Go.Proofs.YteenccgikdibpaaGreatDoor
set_option maxRecDepth 100000
theorem agi:(Rows.tuneChecksRow.inPlace==Tryz.prog.inPlace 3)=true:=by kernel_rfl
theorem agl:(Rows.tuneChecksRow.unfollowed==Tryz.prog.unfollowed 3)=true:=by kernel_rfl
theorem agk:(Rows.tuneChecksRow.recurses==Tryz.prog.recurses 3)=true:=by kernel_rfl
theorem agj:(Rows.tuneChecksRow.named==Tryz.prog.varsNamed 3)=true:=by kernel_rfl
theorem facts:joinedFacts Tryz.prog 3 Tryz.f3 Rows.tuneChecksSpec Rows.tuneChecksRow=true:=by
 unfold joinedFacts;simp only[Bool.and_eq_true]
 repeat' apply And.intro
 iterate 9 (rotate_left 1)
 ·exact agi
 ·exact agl
 ·exact agk
 ·exact agj
 all_goals kernel_rfl
