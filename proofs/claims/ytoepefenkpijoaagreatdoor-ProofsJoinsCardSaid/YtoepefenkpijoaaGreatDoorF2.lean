/- Closed facts of the given row (recursion, variables that are named); no condition. -/
import Derived.Test.YtoepefenkpijoaaGreatDoorRows
import Derived.JoinedOf
set_option linter.all false
namespace Go.Proofs.YtoepefenkpijoaaGreatDoor
set_option maxRecDepth 100000
def aid:(Rows.proofsJoinsRow.recurses==Tryz.prog.recurses 3)=true:=by kernel_rfl
def aic:(Rows.proofsJoinsRow.named==Tryz.prog.varsNamed 3)=true:=by kernel_rfl
