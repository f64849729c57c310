/- Closed facts of the given row (recursion, variables that are named); no condition. -/
import Derived.Test.YtnbgimpdclpgbaaGreatDoorRows
import Derived.JoinedOf
set_option linter.all false
namespace Go.Proofs.YtnbgimpdclpgbaaGreatDoor
set_option maxRecDepth 100000
def ao4:(Rows.proofsSquaresRow.recurses==Tryz.prog.recurses 3)=true:=by kernel_rfl
def ao5:(Rows.proofsSquaresRow.named==Tryz.prog.varsNamed 3)=true:=by kernel_rfl
