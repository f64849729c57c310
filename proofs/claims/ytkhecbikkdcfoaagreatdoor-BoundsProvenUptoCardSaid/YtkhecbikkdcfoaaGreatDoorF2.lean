/- Closed facts of the given row (recursion, variables that are named); no condition. -/
import Derived.Test.YtkhecbikkdcfoaaGreatDoorRows
import Derived.JoinedOf
set_option linter.all false
namespace Go.Proofs.YtkhecbikkdcfoaaGreatDoor
set_option maxRecDepth 100000
def aop:(Rows.boundsProvenUptoRow.recurses==Tryz.prog.recurses 3)=true:=by kernel_rfl
def aoq:(Rows.boundsProvenUptoRow.named==Tryz.prog.varsNamed 3)=true:=by kernel_rfl
