/- Closed facts of the given row (recursion, variables that are named); no condition. -/
import Derived.Test.YtlnaeofgmkmfdaaGreatDoorRows
import Derived.JoinedOf
set_option linter.all false
namespace Go.Proofs.YtlnaeofgmkmfdaaGreatDoor
set_option maxRecDepth 100000
def aiA:(Rows.proofsBoxesRow.recurses==Tryz.prog.recurses 3)=true:=by kernel_rfl
def aiz:(Rows.proofsBoxesRow.named==Tryz.prog.varsNamed 3)=true:=by kernel_rfl
