/- No function of the program starts a goroutine; no condition. -/
import Derived.Test.YtcfbdmddggcjgaaGreatDoorRows
import Derived.KernelRfl
import GoSem.ClaimSeven
set_option linter.all false
namespace Go.Proofs.YtcfbdmddggcjgaaGreatDoor
set_option maxRecDepth 100000
theorem aij:(Tryz.prog.funcs.toList.all fun f=> !f.goes)=true:=by kernel_rfl
theorem ZM:false=Rows.proofsRoundingsRow.goesBy Tryz.pinned.checked.prog:=by
 have dV:∀f∈Tryz.prog.funcs,f.goes=false:=fun f af=>by
  have:=List.all_eq_true.1 aij f (by simpa using af);simpa using this
 have Is:∀g:Nat,(Tryz.prog.funcs[g]?).any Func.goes=false:=fun g=>by
  cases h:Tryz.prog.funcs[g]? with
  |none=>rfl
  |some f=>exact dV f (Array.mem_of_getElem? h)
 have iP:∀f,Tryz.prog.goes f=false:=fun f=>by
  unfold Program.goes;rw[Bool.or_eq_false_iff];constructor
  ·rw[List.any_eq_false];intro g _;simp[Is g]
  ·rw[Bool.and_eq_false_iff];right;rw[Array.any_eq_false];intro i ag;simp[dV _ (Array.getElem_mem ag)]
 show false=Program.goesAt Tryz.prog _ _;unfold Program.goesAt Program.goesFrom;cases h:Tryz.prog.funcNamed Rows.proofsRoundingsRow.func with
 |none=>rfl
 |some f=>simp[iP f,Rows.proofsRoundingsRow]
