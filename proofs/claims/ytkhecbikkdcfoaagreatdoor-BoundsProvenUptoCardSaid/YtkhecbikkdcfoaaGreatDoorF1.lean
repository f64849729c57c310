/- Closed facts of the given row (where it is called in place, what is not followed); no condition. -/
import Derived.Test.YtkhecbikkdcfoaaGreatDoorRows
import Derived.JoinedOf
set_option linter.all false
namespace Go.Proofs.YtkhecbikkdcfoaaGreatDoor
set_option maxRecDepth 100000
def aon:(Rows.boundsProvenUptoRow.inPlace==Tryz.prog.inPlace 3)=true:=by kernel_rfl
def aoo:(Rows.boundsProvenUptoRow.unfollowed==Tryz.prog.unfollowed 3)=true:=by kernel_rfl
