/- Closed facts of the given row (recursion, variables that are named); no condition. -/
import Derived.Test.YtdinjknpilkilaaGreatDoorRows
import Derived.JoinedOf
set_option linter.all false
namespace Go.Proofs.YtdinjknpilkilaaGreatDoor
set_option maxRecDepth 100000
def ahP:(Rows.boundsCertificatesUptoRow.recurses==Tryz.prog.recurses 3)=true:=by kernel_rfl
def ahO:(Rows.boundsCertificatesUptoRow.named==Tryz.prog.varsNamed 3)=true:=by kernel_rfl
