/- The closed facts of the given row; no condition. -/
import Derived.Test.YthdlbilidpgknaaGreatDoorRows
import Derived.JoinedOf
import Derived.Test.YthdlbilidpgknaaGreatDoorPtF1
import Derived.Test.YthdlbilidpgknaaGreatDoorPtF2
import Derived.Test.YthdlbilidpgknaaGreatDoorPtF3
set_option linter.all false
namespace Go.Proofs.YthdlbilidpgknaaGreatDoor
set_option maxRecDepth 100000
def facts:joinedFacts Tryz.prog 3 Tryz.f3 Rows.tunePointsSpec Rows.tunePointsRow=true:=by
 unfold joinedFacts;simp only[Bool.and_eq_true]
 repeat' apply And.intro
 iterate 9 (rotate_left 1)
 ·with_reducible exact factInPlace
 ·with_reducible exact factUnfollowed
 ·with_reducible exact factRecurses
 ·with_reducible exact factNamed
 all_goals first|with_reducible exact factLaid|with_reducible exact factMaps|kernel_rfl
