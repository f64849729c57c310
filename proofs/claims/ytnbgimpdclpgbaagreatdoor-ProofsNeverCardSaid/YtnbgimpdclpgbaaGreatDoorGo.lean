/- No function of the program starts a goroutine; no condition. -/
import Derived.Test.YtnbgimpdclpgbaaGreatDoorRows
import Derived.KernelRfl
import GoSem.ClaimSeven
set_option linter.all false
namespace Go.Proofs.YtnbgimpdclpgbaaGreatDoor
set_option maxRecDepth 100000
def arA:(Tryz.prog.funcs.toList.all λf=> !f.goes)=true:=by kernel_rfl
def arB:false=Rows.proofsNeverRow.goesBy Tryz.pinned.checked.prog:=by
 have a:∀f∈Tryz.prog.funcs,f.goes=false:=λf c=>by
  have:=List.all_eq_true.1 arA f (by simpa using c);simpa using this
 have b:∀g:Nat,(Tryz.prog.funcs[g]?).any Func.goes=false:=λg=>by
  cases h:Tryz.prog.funcs[g]? with
  |none=>rfl
  |some f=>exact a f<|Array.mem_of_getElem? h
 have d:∀f,Tryz.prog.goes f=false:=λf=>by
  unfold Program.goes;rw[Bool.or_eq_false_iff];constructor
  ·rw[List.any_eq_false];intro g _;simp[b g]
  ·rw[Bool.and_eq_false_iff];right;rw[Array.any_eq_false];intro i af;simp[a _<|Array.getElem_mem af]
 show false=Program.goesAt Tryz.prog _ _;unfold Program.goesAt Program.goesFrom;cases h:Tryz.prog.funcNamed Rows.proofsNeverRow.func with
 |none=>rfl
 |some f=>simp[d f,Rows.proofsNeverRow]
