/- ProofsNever returns true: the given card holds; no condition beyond that of the card. -/
import Derived.Test.YtnbgimpdclpgbaaGreatDoorTie
import Derived.Test.YtnbgimpdclpgbaaGreatDoorCards
import Derived.SevenTiedAt
import Derived.JoinedOf
import Derived.Test.YtnbgimpdclpgbaaGreatDoorRun
import Derived.Test.YtnbgimpdclpgbaaGreatDoorFacts
import Derived.Test.YtnbgimpdclpgbaaGreatDoorGo
set_option linter.all false
namespace Go.Proofs.YtnbgimpdclpgbaaGreatDoor
open Go.ChangeShapes Go.WideShapes Go.ChangeAt Go.RowKit Go.bA
set_option maxRecDepth 100000
def arC:Rows.ProofsNeverSaid:=
 OpenClaim.holds_of_wide 4 Tryz.f4 j j j j j j j ⟨j,j,j,j,j⟩ j j j j j br Tryz.func4 facts
  (hO br) (by unfold Func.isWrapper;first|(rw[aE MP];kernel_rfl)|(rw[aw MP];exact eT))
  (λos b a enc _=>lifted os b a enc)
def arD:true=Tryz.prog.looks []:=br
theorem proofsNever_holds:Rows.ProofsNeverCardSaid:=
 Claim7.holds_tied_plain_at .later [] [.data,.data,.data,.data,.data,.data,.data,.widerDeep,.data,.pinned] true (true,"cd9ddabb8fca45a6b03ab875f710a4089b3ae3cf3c34e8cc2dee9c30a6c6537c") true
  arC (λ_ h=>by cases h) br (λ_ h=>by cases h) proofsNever_row_tie j eT br j
  (λf fn b c=>by
   obtain rfl:f=4:=Option.some.inj ((show Tryz.prog.funcNamed "vernier/vernierlaw07.ProofsNever"=some 4 by kernel_rfl).symm.trans b) |>.symm;obtain rfl:fn=Tryz.f4:=(Option.some.inj<|Tryz.func4.symm.trans c).symm;refine⟨arD,λd t a=>?_⟩;have hm:t∈Tryz.f4.params.toList:=by simpa using Array.mem_of_getElem? a
   rw[params3]at hm;simp only[e1,List.not_mem_nil,or_false]at hm;rcases hm with rfl|rfl
   ·show Tryz.prog.wantsStandIn 31=false;kernel_rfl
   ·show Tryz.prog.wantsStandIn 39=false;kernel_rfl)
  arB
#print axioms proofsNever_holds
