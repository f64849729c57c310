/- Closed facts of the program (how its types are laid out); no condition. -/
import Derived.Test.YtnbgimpdclpgbaaGreatDoorRows
import Derived.JoinedOf
set_option linter.all false
namespace Go.Proofs.YtnbgimpdclpgbaaGreatDoor
set_option maxRecDepth 100000
def ao6:laidOutB Tryz.prog=true:=by kernel_rfl
def ao7:mapsRowed Tryz.prog=true:=by kernel_rfl
