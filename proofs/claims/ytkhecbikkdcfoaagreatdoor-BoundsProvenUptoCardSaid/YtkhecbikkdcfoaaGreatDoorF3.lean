/- Closed facts of the program (how its types are laid out); no condition. -/
import Derived.Test.YtkhecbikkdcfoaaGreatDoorRows
import Derived.JoinedOf
set_option linter.all false
namespace Go.Proofs.YtkhecbikkdcfoaaGreatDoor
set_option maxRecDepth 100000
def aor:laidOutB Tryz.prog=true:=by kernel_rfl
def aos:mapsRowed Tryz.prog=true:=by kernel_rfl
