/- No function of the program starts a goroutine; no condition. -/
import Derived.Test.YteenccgikdibpaaGreatDoorRows
import Derived.KernelRfl
import GoSem.ClaimSeven
set_option linter.all false
namespace Go.Proofs.YteenccgikdibpaaGreatDoor
set_option maxRecDepth 100000
theorem an2:(Tryz.prog.funcs.toList.all fun f=> !f.goes)=true:=by kernel_rfl
theorem ajB:false=Rows.tuneChecksRow.goesBy Tryz.pinned.checked.prog:=by
 have ez:∀f∈Tryz.prog.funcs,f.goes=false:=fun f ab=>by
  have:=List.all_eq_true.1 an2 f (by simpa using ab);simpa using this
 have Ly:∀g:Nat,(Tryz.prog.funcs[g]?).any Func.goes=false:=fun g=>by
  cases h:Tryz.prog.funcs[g]? with
  |none=>rfl
  |some f=>exact ez f (Array.mem_of_getElem? h)
 have iq:∀f,Tryz.prog.goes f=false:=fun f=>by
  unfold Program.goes;rw[Bool.or_eq_false_iff];constructor
  ·rw[List.any_eq_false];intro g _;simp[Ly g]
  ·rw[Bool.and_eq_false_iff];right;rw[Array.any_eq_false];intro i ae;simp[ez _ (Array.getElem_mem ae)]
 show false=Program.goesAt Tryz.prog _ _;unfold Program.goesAt Program.goesFrom;cases h:Tryz.prog.funcNamed Rows.tuneChecksRow.func with
 |none=>rfl
 |some f=>simp[iq f,Rows.tuneChecksRow]
