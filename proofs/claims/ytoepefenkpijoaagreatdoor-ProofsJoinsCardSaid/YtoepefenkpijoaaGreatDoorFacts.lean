/- The closed facts of the given row; no condition. -/
import Derived.Test.YtoepefenkpijoaaGreatDoorRows
import Derived.JoinedOf
import Derived.Test.YtoepefenkpijoaaGreatDoorF1
import Derived.Test.YtoepefenkpijoaaGreatDoorF2
import Derived.Test.YtoepefenkpijoaaGreatDoorF3
set_option linter.all false
namespace Go.Proofs.YtoepefenkpijoaaGreatDoor
set_option maxRecDepth 100000
def facts:joinedFacts Tryz.prog 3 Tryz.f3 Rows.proofsJoinsSpec Rows.proofsJoinsRow=true:=by
 unfold joinedFacts;simp only[Bool.and_eq_true]
 repeat' apply And.intro
 iterate 9 (rotate_left 1)
 ·with_reducible exact ah9
 ·with_reducible exact aie
 ·with_reducible exact aid
 ·with_reducible exact aic
 all_goals first|with_reducible exact aia|with_reducible exact aib|kernel_rfl
