/- No function of the program starts a goroutine; no condition. -/
import Derived.Test.YtkhecbikkdcfoaaGreatDoorRows
import Derived.KernelRfl
import GoSem.ClaimSeven
set_option linter.all false
namespace Go.Proofs.YtkhecbikkdcfoaaGreatDoor
set_option maxRecDepth 100000
def aot:(Tryz.prog.funcs.toList.all λf=> !f.goes)=true:=by kernel_rfl
def aou:false=Rows.boundsProvenUptoRow.goesBy Tryz.pinned.checked.prog:=by
 have J:∀f∈Tryz.prog.funcs,f.goes=false:=λf D=>by
  have:=List.all_eq_true.1 aot f (by simpa using D);simpa using this
 have r:∀g:Nat,(Tryz.prog.funcs[g]?).any Func.goes=false:=λg=>by
  cases h:Tryz.prog.funcs[g]? with
  |none=>rfl
  |some f=>exact J f<|Array.mem_of_getElem? h
 have Y:∀f,Tryz.prog.goes f=false:=λf=>by
  unfold Program.goes;rw[Bool.or_eq_false_iff];constructor
  .rw[List.any_eq_false];intro g _;simp[r g]
  .rw[Bool.and_eq_false_iff];right;rw[Array.any_eq_false];intro i af;simp[J _<|Array.getElem_mem af]
 show false=Program.goesAt Tryz.prog _ _;unfold Program.goesAt Program.goesFrom;cases h:Tryz.prog.funcNamed Rows.boundsProvenUptoRow.func with
 |none=>rfl
 |some f=>simp[Y f,Rows.boundsProvenUptoRow]
