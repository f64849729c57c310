/- Closed facts of the given row (where it is called in place, what is not followed); no condition. -/
import Derived.Test.YtdinjknpilkilaaGreatDoorRows
import Derived.JoinedOf
set_option linter.all false
namespace Go.Proofs.YtdinjknpilkilaaGreatDoor
set_option maxRecDepth 100000
def ahL:(Rows.boundsCertificatesUptoRow.inPlace==Tryz.prog.inPlace 3)=true:=by kernel_rfl
def ahQ:(Rows.boundsCertificatesUptoRow.unfollowed==Tryz.prog.unfollowed 3)=true:=by kernel_rfl
