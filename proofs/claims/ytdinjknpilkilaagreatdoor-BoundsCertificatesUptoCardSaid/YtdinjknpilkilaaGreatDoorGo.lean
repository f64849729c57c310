/- No function of the program starts a goroutine; no condition. -/
import Derived.Test.YtdinjknpilkilaaGreatDoorRows
import Derived.KernelRfl
import GoSem.ClaimSeven
set_option linter.all false
namespace Go.Proofs.YtdinjknpilkilaaGreatDoor
set_option maxRecDepth 100000
def ao6:(Tryz.prog.funcs.toList.all fun f=> !f.goes)=true:=by kernel_rfl
def akC:false=Rows.boundsCertificatesUptoRow.goesBy Tryz.pinned.checked.prog:=by
 have eI:∀f∈Tryz.prog.funcs,f.goes=false:=fun f U=>by
  have:=List.all_eq_true.1 ao6 f (by simpa using U);simpa using this
 have NC:∀g:Nat,(Tryz.prog.funcs[g]?).any Func.goes=false:=fun g=>by
  cases h:Tryz.prog.funcs[g]? with
  |none=>rfl
  |some f=>exact eI f (Array.mem_of_getElem? h)
 have eZ:∀f,Tryz.prog.goes f=false:=fun f=>by
  unfold Program.goes;rw[Bool.or_eq_false_iff];constructor
  ·rw[List.any_eq_false];intro g _;simp[NC g]
  ·rw[Bool.and_eq_false_iff];right;rw[Array.any_eq_false];intro i aa;simp[eI _ (Array.getElem_mem aa)]
 show false=Program.goesAt Tryz.prog _ _;unfold Program.goesAt Program.goesFrom;cases h:Tryz.prog.funcNamed Rows.boundsCertificatesUptoRow.func with
 |none=>rfl
 |some f=>simp[eZ f,Rows.boundsCertificatesUptoRow]
