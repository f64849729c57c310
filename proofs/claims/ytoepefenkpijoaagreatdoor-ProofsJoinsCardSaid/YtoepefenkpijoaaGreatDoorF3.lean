/- Closed facts of the program (how its types are laid out); no condition. -/
import Derived.Test.YtoepefenkpijoaaGreatDoorRows
import Derived.JoinedOf
set_option linter.all false
namespace Go.Proofs.YtoepefenkpijoaaGreatDoor
set_option maxRecDepth 100000
def aia:laidOutB Tryz.prog=true:=by kernel_rfl
def aib:mapsRowed Tryz.prog=true:=by kernel_rfl
