/- Closed facts of the given row (recursion, variables that are named); no condition. -/
import Derived.Test.YthdlbilidpgknaaGreatDoorRows
import Derived.JoinedOf
set_option linter.all false
namespace Go.Proofs.YthdlbilidpgknaaGreatDoor
set_option maxRecDepth 100000
def agi:(Rows.tuneValuesRow.recurses==Tryz.prog.recurses 4)=true:=by kernel_rfl
def agh:(Rows.tuneValuesRow.named==Tryz.prog.varsNamed 4)=true:=by kernel_rfl
