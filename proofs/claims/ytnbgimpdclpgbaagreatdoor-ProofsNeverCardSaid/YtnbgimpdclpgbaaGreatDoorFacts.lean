/- The closed facts of the given row; no condition. -/
import Derived.Test.YtnbgimpdclpgbaaGreatDoorRows
import Derived.JoinedOf
import Derived.Test.YtnbgimpdclpgbaaGreatDoorF1
import Derived.Test.YtnbgimpdclpgbaaGreatDoorF2
import Derived.Test.YtnbgimpdclpgbaaGreatDoorF3
set_option linter.all false
namespace Go.Proofs.YtnbgimpdclpgbaaGreatDoor
set_option maxRecDepth 100000
def facts:joinedFacts Tryz.prog 4 Tryz.f4 Rows.proofsNeverSpec Rows.proofsNeverRow=true:=by
 unfold joinedFacts;simp only[Bool.and_eq_true]
 repeat' apply And.intro
 iterate 9 (rotate_left 1)
 ·with_reducible exact aru
 ·with_reducible exact arv
 ·with_reducible exact arw
 ·with_reducible exact arx
 all_goals first|with_reducible exact ary|with_reducible exact arz|kernel_rfl
