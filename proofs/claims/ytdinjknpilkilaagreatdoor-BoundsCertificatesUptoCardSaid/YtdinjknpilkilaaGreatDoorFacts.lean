/- The closed facts of the given row; no condition. -/
import Derived.Test.YtdinjknpilkilaaGreatDoorRows
import Derived.JoinedOf
import Derived.Test.YtdinjknpilkilaaGreatDoorF1
import Derived.Test.YtdinjknpilkilaaGreatDoorF2
import Derived.Test.YtdinjknpilkilaaGreatDoorF3
set_option linter.all false
namespace Go.Proofs.YtdinjknpilkilaaGreatDoor
set_option maxRecDepth 100000
def facts:joinedFacts Tryz.prog 3 Tryz.f3 (Rows.OpenSpec.upto Rows.boundsCertificatesSpec).bare Rows.boundsCertificatesUptoRow=true:=by
 unfold joinedFacts;simp only[Bool.and_eq_true]
 repeat' apply And.intro
 iterate 9 (rotate_left 1)
 ·with_reducible exact ahL
 ·with_reducible exact ahQ
 ·with_reducible exact ahP
 ·with_reducible exact ahO
 all_goals first|with_reducible exact ahM|with_reducible exact ahN|kernel_rfl
