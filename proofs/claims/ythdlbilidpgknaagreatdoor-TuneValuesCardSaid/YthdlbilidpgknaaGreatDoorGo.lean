/- No function of the program starts a goroutine; no condition. -/
import Derived.Test.YthdlbilidpgknaaGreatDoorRows
import Derived.KernelRfl
import GoSem.ClaimSeven
set_option linter.all false
namespace Go.Proofs.YthdlbilidpgknaaGreatDoor
set_option maxRecDepth 100000
def aol:(Tryz.prog.funcs.toList.all fun f=> !f.goes)=true:=by kernel_rfl
def ajE:false=Rows.tuneValuesRow.goesBy Tryz.pinned.checked.prog:=by
 have eu:∀f∈Tryz.prog.funcs,f.goes=false:=fun f aa=>by
  have:=List.all_eq_true.1 aol f (by simpa using aa);simpa using this
 have Mq:∀g:Nat,(Tryz.prog.funcs[g]?).any Func.goes=false:=fun g=>by
  cases h:Tryz.prog.funcs[g]? with
  |none=>rfl
  |some f=>exact eu f (Array.mem_of_getElem? h)
 have hH:∀f,Tryz.prog.goes f=false:=fun f=>by
  unfold Program.goes;rw[Bool.or_eq_false_iff];constructor
  ·rw[List.any_eq_false];intro g _;simp[Mq g]
  ·rw[Bool.and_eq_false_iff];right;rw[Array.any_eq_false];intro i hi;simp[eu _ (Array.getElem_mem hi)]
 show false=Program.goesAt Tryz.prog _ _;unfold Program.goesAt Program.goesFrom;cases h:Tryz.prog.funcNamed Rows.tuneValuesRow.func with
 |none=>rfl
 |some f=>simp[hH f,Rows.tuneValuesRow]
