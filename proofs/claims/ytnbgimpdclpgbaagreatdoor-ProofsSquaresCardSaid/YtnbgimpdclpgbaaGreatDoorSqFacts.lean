/- The closed facts of the given row; no condition. -/
import Derived.Test.YtnbgimpdclpgbaaGreatDoorRows
import Derived.JoinedOf
import Derived.Test.YtnbgimpdclpgbaaGreatDoorSqF1
import Derived.Test.YtnbgimpdclpgbaaGreatDoorSqF2
import Derived.Test.YtnbgimpdclpgbaaGreatDoorSqF3
set_option linter.all false
namespace Go.Proofs.YtnbgimpdclpgbaaGreatDoor
set_option maxRecDepth 100000
def facts:joinedFacts Tryz.prog 3 Tryz.f3 Rows.proofsSquaresSpec Rows.proofsSquaresRow=true:=by
 unfold joinedFacts;simp only[Bool.and_eq_true]
 repeat' apply And.intro
 iterate 9 (rotate_left 1)
 .with_reducible exact ao2
 .with_reducible exact ao3
 .with_reducible exact ao4
 .with_reducible exact ao5
 all_goals first|with_reducible exact ao6|with_reducible exact ao7|kernel_rfl
