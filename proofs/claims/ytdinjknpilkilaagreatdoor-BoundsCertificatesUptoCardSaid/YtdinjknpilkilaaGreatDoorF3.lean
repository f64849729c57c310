/- Closed facts of the program (how its types are laid out); no condition. -/
import Derived.Test.YtdinjknpilkilaaGreatDoorRows
import Derived.JoinedOf
set_option linter.all false
namespace Go.Proofs.YtdinjknpilkilaaGreatDoor
set_option maxRecDepth 100000
def ahM:laidOutB Tryz.prog=true:=by kernel_rfl
def ahN:mapsRowed Tryz.prog=true:=by kernel_rfl
