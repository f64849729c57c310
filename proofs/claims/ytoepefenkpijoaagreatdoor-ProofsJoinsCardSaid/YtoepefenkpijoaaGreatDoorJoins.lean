/- ProofsJoins returns true: the given card holds; no condition beyond that of the card. -/
import Derived.Test.YtoepefenkpijoaaGreatDoorTie
import Derived.Test.YtoepefenkpijoaaGreatDoorCards
import Derived.SevenTiedAt
import Derived.JoinedOf
import Derived.Test.YtoepefenkpijoaaGreatDoorRun
import Derived.Test.YtoepefenkpijoaaGreatDoorFacts
import Derived.Test.YtoepefenkpijoaaGreatDoorGo
set_option linter.all false
namespace Go.Proofs.YtoepefenkpijoaaGreatDoor
open Go.ChangeShapes Go.WideShapes Go.ChangeAt Go.RowKit Go.ar
set_option maxRecDepth 100000
def aqR:Rows.ProofsJoinsSaid:=
 OpenClaim.holds_of_wide 3 Tryz.f3 rfl rfl rfl rfl rfl rfl rfl ⟨rfl,rfl,rfl,rfl,rfl⟩ rfl rfl rfl rfl rfl (by kernel_rfl) Tryz.func3 facts
  (zbI (by kernel_rfl)) (by unfold Func.isWrapper;first|(rw[zab (by decide +kernel)];kernel_rfl)|(rw[zaa (by decide +kernel)];exact⟨rfl,rfl⟩))
  (fun os started H enc _=>lifted os started H enc)
def apo:true=Tryz.prog.looks []:=by kernel_rfl
theorem proofsJoins_holds:Rows.ProofsJoinsCardSaid:=
 Claim7.holds_tied_plain_at .later [] [.data,.data,.data,.data,.data,.data,.data,.widerDeep,.data,.pinned] true (true,"2694b36b9802b3b8a74dd81acb6d8e8c97fd9ba59cb4b0b00b9dd62d6ec6db55") true
  aqR (fun _ h=>by cases h) (by kernel_rfl) (fun _ h=>by cases h) proofsJoins_row_tie rfl ⟨rfl,rfl⟩ (by kernel_rfl) rfl
  (fun f fn ae gv=>by
   obtain rfl:f=3:=Option.some.inj ((show Tryz.prog.funcNamed "vernier/vernierlaw07.ProofsJoins"=some 3 by kernel_rfl).symm.trans ae) |>.symm;obtain rfl:fn=Tryz.f3:=(Option.some.inj (Tryz.func3.symm.trans gv)).symm;refine⟨apo,fun j t aW=> ?_⟩;have hm:t∈Tryz.f3.params.toList:=by simpa using Array.mem_of_getElem? aW
   rw[params3]at hm;simp only[zak,List.not_mem_nil,or_false]at hm;subst hm;show Tryz.prog.wantsStandIn 33=false;kernel_rfl)
  alm
#print axioms proofsJoins_holds
