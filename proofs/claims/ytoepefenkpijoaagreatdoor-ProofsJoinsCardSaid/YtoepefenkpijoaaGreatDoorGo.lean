/- No function of the program starts a goroutine; no condition. -/
import Derived.Test.YtoepefenkpijoaaGreatDoorRows
import Derived.KernelRfl
import GoSem.ClaimSeven
set_option linter.all false
namespace Go.Proofs.YtoepefenkpijoaaGreatDoor
set_option maxRecDepth 100000
def ap1:(Tryz.prog.funcs.toList.all fun f=> !f.goes)=true:=by kernel_rfl
def alm:false=Rows.proofsJoinsRow.goesBy Tryz.pinned.checked.prog:=by
 have ea:∀f∈Tryz.prog.funcs,f.goes=false:=fun f ae=>by
  have:=List.all_eq_true.1 ap1 f (by simpa using ae);simpa using this
 have Nj:∀g:Nat,(Tryz.prog.funcs[g]?).any Func.goes=false:=fun g=>by
  cases h:Tryz.prog.funcs[g]? with
  |none=>rfl
  |some f=>exact ea f (Array.mem_of_getElem? h)
 have ja:∀f,Tryz.prog.goes f=false:=fun f=>by
  unfold Program.goes;rw[Bool.or_eq_false_iff];constructor
  ·rw[List.any_eq_false];intro g _;simp[Nj g]
  ·rw[Bool.and_eq_false_iff];right;rw[Array.any_eq_false];intro i af;simp[ea _ (Array.getElem_mem af)]
 show false=Program.goesAt Tryz.prog _ _;unfold Program.goesAt Program.goesFrom;cases h:Tryz.prog.funcNamed Rows.proofsJoinsRow.func with
 |none=>rfl
 |some f=>simp[ja f,Rows.proofsJoinsRow]
