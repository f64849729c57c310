/- Closed facts of the program (how its types are laid out); no condition. -/
import Derived.Test.YthdlbilidpgknaaGreatDoorRows
import Derived.JoinedOf
set_option linter.all false
namespace Go.Proofs.YthdlbilidpgknaaGreatDoor
set_option maxRecDepth 100000
def factLaid:laidOutB Tryz.prog=true:=by kernel_rfl
def factMaps:mapsRowed Tryz.prog=true:=by kernel_rfl
