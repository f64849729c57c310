/- Closed facts of the given row (where it is called in place, what is not followed); no condition. -/
import Derived.Test.YthdlbilidpgknaaGreatDoorRows
import Derived.JoinedOf
set_option linter.all false
namespace Go.Proofs.YthdlbilidpgknaaGreatDoor
set_option maxRecDepth 100000
def agd:(Rows.tuneValuesRow.inPlace==Tryz.prog.inPlace 4)=true:=by kernel_rfl
def agj:(Rows.tuneValuesRow.unfollowed==Tryz.prog.unfollowed 4)=true:=by kernel_rfl
