/- No function of the program starts a goroutine; no condition. -/
import Derived.Test.YtlnaeofgmkmfdaaGreatDoorRows
import Derived.KernelRfl
import GoSem.ClaimSeven
set_option linter.all false
namespace Go.Proofs.YtlnaeofgmkmfdaaGreatDoor
set_option maxRecDepth 100000
def aqs:(Tryz.prog.funcs.toList.all fun f=> !f.goes)=true:=by kernel_rfl
def alV:false=Rows.proofsBoxesRow.goesBy Tryz.pinned.checked.prog:=by
 have dZ:∀f∈Tryz.prog.funcs,f.goes=false:=fun f af=>by
  have:=List.all_eq_true.1 aqs f (by simpa using af);simpa using this
 have NA:∀g:Nat,(Tryz.prog.funcs[g]?).any Func.goes=false:=fun g=>by
  cases h:Tryz.prog.funcs[g]? with
  |none=>rfl
  |some f=>exact dZ f (Array.mem_of_getElem? h)
 have hi:∀f,Tryz.prog.goes f=false:=fun f=>by
  unfold Program.goes;rw[Bool.or_eq_false_iff];constructor
  ·rw[List.any_eq_false];intro g _;simp[NA g]
  ·rw[Bool.and_eq_false_iff];right;rw[Array.any_eq_false];intro i ae;simp[dZ _ (Array.getElem_mem ae)]
 show false=Program.goesAt Tryz.prog _ _;unfold Program.goesAt Program.goesFrom;cases h:Tryz.prog.funcNamed Rows.proofsBoxesRow.func with
 |none=>rfl
 |some f=>simp[hi f,Rows.proofsBoxesRow]
