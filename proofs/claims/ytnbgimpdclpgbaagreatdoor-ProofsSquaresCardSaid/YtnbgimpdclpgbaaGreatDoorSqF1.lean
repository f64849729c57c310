/- Closed facts of the given row (where it is called in place, what is not followed); no condition. -/
import Derived.Test.YtnbgimpdclpgbaaGreatDoorRows
import Derived.JoinedOf
set_option linter.all false
namespace Go.Proofs.YtnbgimpdclpgbaaGreatDoor
set_option maxRecDepth 100000
def ao2:(Rows.proofsSquaresRow.inPlace==Tryz.prog.inPlace 3)=true:=by kernel_rfl
def ao3:(Rows.proofsSquaresRow.unfollowed==Tryz.prog.unfollowed 3)=true:=by kernel_rfl
