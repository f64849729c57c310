/- The closed facts of the given row; no condition. -/
import Derived.Test.YtkhecbikkdcfoaaGreatDoorRows
import Derived.JoinedOf
import Derived.Test.YtkhecbikkdcfoaaGreatDoorF1
import Derived.Test.YtkhecbikkdcfoaaGreatDoorF2
import Derived.Test.YtkhecbikkdcfoaaGreatDoorF3
set_option linter.all false
namespace Go.Proofs.YtkhecbikkdcfoaaGreatDoor
set_option maxRecDepth 100000
def facts:joinedFacts Tryz.prog 3 Tryz.f3 (Rows.OpenSpec.upto Rows.boundsProvenSpec).bare Rows.boundsProvenUptoRow=true:=by
 unfold joinedFacts;simp only[Bool.and_eq_true]
 repeat' apply And.intro
 iterate 9 (rotate_left 1)
 .with_reducible exact aon
 .with_reducible exact aoo
 .with_reducible exact aop
 .with_reducible exact aoq
 all_goals first|with_reducible exact aor|with_reducible exact aos|kernel_rfl
