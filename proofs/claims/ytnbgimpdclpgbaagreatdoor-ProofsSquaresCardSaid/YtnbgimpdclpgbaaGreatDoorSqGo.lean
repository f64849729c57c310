/- No function of the program starts a goroutine; no condition. -/
import Derived.Test.YtnbgimpdclpgbaaGreatDoorRows
import Derived.KernelRfl
import GoSem.ClaimSeven
set_option linter.all false
namespace Go.Proofs.YtnbgimpdclpgbaaGreatDoor
set_option maxRecDepth 100000
def ao8:(Tryz.prog.funcs.toList.all λf=> !f.goes)=true:=by kernel_rfl
def ao9:false=Rows.proofsSquaresRow.goesBy Tryz.pinned.checked.prog:=by
 have R:∀f∈Tryz.prog.funcs,f.goes=false:=λf D=>by
  have:=List.all_eq_true.1 ao8 f (by simpa using D);simpa using this
 have s:∀g:Nat,(Tryz.prog.funcs[g]?).any Func.goes=false:=λg=>by
  cases h:Tryz.prog.funcs[g]? with
  |none=>rfl
  |some f=>exact R f<|Array.mem_of_getElem? h
 have Z:∀f,Tryz.prog.goes f=false:=λf=>by
  unfold Program.goes;rw[Bool.or_eq_false_iff];constructor
  .rw[List.any_eq_false];intro g _;simp[s g]
  .rw[Bool.and_eq_false_iff];right;rw[Array.any_eq_false];intro i af;simp[R _<|Array.getElem_mem af]
 show false=Program.goesAt Tryz.prog _ _;unfold Program.goesAt Program.goesFrom;cases h:Tryz.prog.funcNamed Rows.proofsSquaresRow.func with
 |none=>rfl
 |some f=>simp[Z f,Rows.proofsSquaresRow]
