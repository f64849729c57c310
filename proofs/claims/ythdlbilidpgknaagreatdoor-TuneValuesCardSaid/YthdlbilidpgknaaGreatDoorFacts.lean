/- The closed facts of the given row; no condition. -/
import Derived.Test.YthdlbilidpgknaaGreatDoorRows
import Derived.JoinedOf
import Derived.Test.YthdlbilidpgknaaGreatDoorF1
import Derived.Test.YthdlbilidpgknaaGreatDoorF2
import Derived.Test.YthdlbilidpgknaaGreatDoorF3
set_option linter.all false
namespace Go.Proofs.YthdlbilidpgknaaGreatDoor
set_option maxRecDepth 100000
def facts:joinedFacts Tryz.prog 4 Tryz.f4 Rows.tuneValuesSpec Rows.tuneValuesRow=true:=by
 unfold joinedFacts;simp only[Bool.and_eq_true]
 repeat' apply And.intro
 iterate 9 (rotate_left 1)
 ·with_reducible exact agd
 ·with_reducible exact agj
 ·with_reducible exact agi
 ·with_reducible exact agh
 all_goals first|with_reducible exact age|with_reducible exact agf|kernel_rfl
