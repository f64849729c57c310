/- Closed facts of the given row (where it is called in place, what is not followed); no condition. -/
import Derived.Test.YtlnaeofgmkmfdaaGreatDoorRows
import Derived.JoinedOf
set_option linter.all false
namespace Go.Proofs.YtlnaeofgmkmfdaaGreatDoor
set_option maxRecDepth 100000
def aiw:(Rows.proofsBoxesRow.inPlace==Tryz.prog.inPlace 3)=true:=by kernel_rfl
def aiB:(Rows.proofsBoxesRow.unfollowed==Tryz.prog.unfollowed 3)=true:=by kernel_rfl
