/- The closed facts of the given row; no condition. -/
import Derived.Test.YtlnaeofgmkmfdaaGreatDoorRows
import Derived.JoinedOf
import Derived.Test.YtlnaeofgmkmfdaaGreatDoorF1
import Derived.Test.YtlnaeofgmkmfdaaGreatDoorF2
import Derived.Test.YtlnaeofgmkmfdaaGreatDoorF3
set_option linter.all false
namespace Go.Proofs.YtlnaeofgmkmfdaaGreatDoor
set_option maxRecDepth 100000
def facts:joinedFacts Tryz.prog 3 Tryz.f3 Rows.proofsBoxesSpec Rows.proofsBoxesRow=true:=by
 unfold joinedFacts;simp only[Bool.and_eq_true]
 repeat' apply And.intro
 iterate 9 (rotate_left 1)
 ·with_reducible exact aiw
 ·with_reducible exact aiB
 ·with_reducible exact aiA
 ·with_reducible exact aiz
 all_goals first|with_reducible exact aix|with_reducible exact aiy|kernel_rfl
