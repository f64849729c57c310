/- Closed facts of the given row (where it is called in place, what is not followed); no condition. -/
import Derived.Test.YtnbgimpdclpgbaaGreatDoorRows
import Derived.JoinedOf
set_option linter.all false
namespace Go.Proofs.YtnbgimpdclpgbaaGreatDoor
set_option maxRecDepth 100000
def aru:(Rows.proofsNeverRow.inPlace==Tryz.prog.inPlace 4)=true:=by kernel_rfl
def arv:(Rows.proofsNeverRow.unfollowed==Tryz.prog.unfollowed 4)=true:=by kernel_rfl
