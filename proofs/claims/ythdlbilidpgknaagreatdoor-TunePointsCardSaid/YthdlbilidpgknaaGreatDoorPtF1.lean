/- Closed facts of the given row (where it is called in place, what is not followed); no condition. -/
import Derived.Test.YthdlbilidpgknaaGreatDoorRows
import Derived.JoinedOf
set_option linter.all false
namespace Go.Proofs.YthdlbilidpgknaaGreatDoor
set_option maxRecDepth 100000
def factInPlace:(Rows.tunePointsRow.inPlace==Tryz.prog.inPlace 3)=true:=by kernel_rfl
def factUnfollowed:(Rows.tunePointsRow.unfollowed==Tryz.prog.unfollowed 3)=true:=by kernel_rfl
