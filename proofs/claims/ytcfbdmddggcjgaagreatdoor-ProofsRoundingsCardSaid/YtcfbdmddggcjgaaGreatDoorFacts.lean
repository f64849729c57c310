/- The closed facts of the given row; no condition. -/
import Derived.Test.YtcfbdmddggcjgaaGreatDoorRows
import Derived.JoinedOf
set_option linter.all false
namespace Go.Proofs.YtcfbdmddggcjgaaGreatDoor
set_option maxRecDepth 100000
theorem Zc:(Rows.proofsRoundingsRow.inPlace==Tryz.prog.inPlace 3)=true:=by kernel_rfl
theorem Zf:(Rows.proofsRoundingsRow.unfollowed==Tryz.prog.unfollowed 3)=true:=by kernel_rfl
theorem Ze:(Rows.proofsRoundingsRow.recurses==Tryz.prog.recurses 3)=true:=by kernel_rfl
theorem Zd:(Rows.proofsRoundingsRow.named==Tryz.prog.varsNamed 3)=true:=by kernel_rfl
theorem facts:joinedFacts Tryz.prog 3 Tryz.f3 Rows.proofsRoundingsSpec Rows.proofsRoundingsRow=true:=by
 unfold joinedFacts;simp only[Bool.and_eq_true]
 repeat' apply And.intro
 iterate 9 (rotate_left 1)
 ·exact Zc
 ·exact Zf
 ·exact Ze
 ·exact Zd
 all_goals kernel_rfl
