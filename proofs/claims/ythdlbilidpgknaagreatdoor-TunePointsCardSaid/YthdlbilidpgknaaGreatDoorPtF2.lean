/- Closed facts of the given row (recursion, variables that are named); no condition. -/
import Derived.Test.YthdlbilidpgknaaGreatDoorRows
import Derived.JoinedOf
set_option linter.all false
namespace Go.Proofs.YthdlbilidpgknaaGreatDoor
set_option maxRecDepth 100000
def factRecurses:(Rows.tunePointsRow.recurses==Tryz.prog.recurses 3)=true:=by kernel_rfl
def factNamed:(Rows.tunePointsRow.named==Tryz.prog.varsNamed 3)=true:=by kernel_rfl
