/- Closed facts of the program (how its types are laid out); no condition. -/
import Derived.Test.YtlnaeofgmkmfdaaGreatDoorRows
import Derived.JoinedOf
set_option linter.all false
namespace Go.Proofs.YtlnaeofgmkmfdaaGreatDoor
set_option maxRecDepth 100000
def aix:laidOutB Tryz.prog=true:=by kernel_rfl
def aiy:mapsRowed Tryz.prog=true:=by kernel_rfl
