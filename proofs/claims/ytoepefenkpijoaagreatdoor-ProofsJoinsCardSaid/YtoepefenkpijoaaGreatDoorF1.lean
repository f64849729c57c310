/- Closed facts of the given row (where it is called in place, what is not followed); no condition. -/
import Derived.Test.YtoepefenkpijoaaGreatDoorRows
import Derived.JoinedOf
set_option linter.all false
namespace Go.Proofs.YtoepefenkpijoaaGreatDoor
set_option maxRecDepth 100000
def ah9:(Rows.proofsJoinsRow.inPlace==Tryz.prog.inPlace 3)=true:=by kernel_rfl
def aie:(Rows.proofsJoinsRow.unfollowed==Tryz.prog.unfollowed 3)=true:=by kernel_rfl
