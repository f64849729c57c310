/- No function of the program starts a goroutine; no condition. -/
import Derived.Test.YthdlbilidpgknaaGreatDoorRows
import Derived.KernelRfl
import GoSem.ClaimSeven
set_option linter.all false
namespace Go.Proofs.YthdlbilidpgknaaGreatDoor
set_option maxRecDepth 100000
def noGo:(Tryz.prog.funcs.toList.all fun f=> !f.goes)=true:=by kernel_rfl
def goesOff:false=Rows.tunePointsRow.goesBy Tryz.pinned.checked.prog:=by
 have eQ:∀f∈Tryz.prog.funcs,f.goes=false:=fun f ae=>by
  have:=List.all_eq_true.1 noGo f (by simpa using ae);simpa using this
 have MA:∀g:Nat,(Tryz.prog.funcs[g]?).any Func.goes=false:=fun g=>by
  cases h:Tryz.prog.funcs[g]? with
  |none=>rfl
  |some f=>exact eQ f (Array.mem_of_getElem? h)
 have fP:∀f,Tryz.prog.goes f=false:=fun f=>by
  unfold Program.goes;rw[Bool.or_eq_false_iff];constructor
  ·rw[List.any_eq_false];intro g _;simp[MA g]
  ·rw[Bool.and_eq_false_iff];right;rw[Array.any_eq_false];intro i hi;simp[eQ _ (Array.getElem_mem hi)]
 show false=Program.goesAt Tryz.prog _ _;unfold Program.goesAt Program.goesFrom;cases h:Tryz.prog.funcNamed Rows.tunePointsRow.func with
 |none=>rfl
 |some f=>simp[fP f,Rows.tunePointsRow]
