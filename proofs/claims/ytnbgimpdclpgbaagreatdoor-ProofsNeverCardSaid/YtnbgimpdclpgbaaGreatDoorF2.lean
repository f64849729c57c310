/- Closed facts of the given row (recursion, variables that are named); no condition. -/
import Derived.Test.YtnbgimpdclpgbaaGreatDoorRows
import Derived.JoinedOf
set_option linter.all false
namespace Go.Proofs.YtnbgimpdclpgbaaGreatDoor
set_option maxRecDepth 100000
def arw:(Rows.proofsNeverRow.recurses==Tryz.prog.recurses 4)=true:=by kernel_rfl
def arx:(Rows.proofsNeverRow.named==Tryz.prog.varsNamed 4)=true:=by kernel_rfl
