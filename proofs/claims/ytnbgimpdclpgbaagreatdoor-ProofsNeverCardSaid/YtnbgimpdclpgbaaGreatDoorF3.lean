/- Closed facts of the program (how its types are laid out); no condition. -/
import Derived.Test.YtnbgimpdclpgbaaGreatDoorRows
import Derived.JoinedOf
set_option linter.all false
namespace Go.Proofs.YtnbgimpdclpgbaaGreatDoor
set_option maxRecDepth 100000
def ary:laidOutB Tryz.prog=true:=by kernel_rfl
def arz:mapsRowed Tryz.prog=true:=by kernel_rfl
