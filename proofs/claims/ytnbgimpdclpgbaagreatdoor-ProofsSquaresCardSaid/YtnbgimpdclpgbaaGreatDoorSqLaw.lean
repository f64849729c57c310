/- ProofsSquares returns true: the given card holds; no condition beyond that of the card. -/
import Derived.Test.YtnbgimpdclpgbaaGreatDoorTie
import Derived.Test.YtnbgimpdclpgbaaGreatDoorCards
import Derived.SevenTiedAt
import Derived.JoinedOf
import Derived.Test.YtnbgimpdclpgbaaGreatDoorSqRun
import Derived.Test.YtnbgimpdclpgbaaGreatDoorSqFacts
import Derived.Test.YtnbgimpdclpgbaaGreatDoorSqGo
set_option linter.all false
namespace Go.Proofs.YtnbgimpdclpgbaaGreatDoor
open Go.ChangeShapes Go.WideShapes Go.ChangeAt Go.RowKit Go.bC
set_option maxRecDepth 100000
def apa:Rows.ProofsSquaresSaid:=
 OpenClaim.holds_of_wide 3 Tryz.f3 j j j j j j j ⟨j,j,j,j,j⟩ j j j j j bu Tryz.func3 facts
  (iY bu) (by unfold Func.isWrapper;first|(rw[aD apb];kernel_rfl)|(rw[av apb];exact fe))
  (λos R N enc _=>lifted os R N enc)
def apc:true=Tryz.prog.looks []:=bu
theorem proofsSquares_holds:Rows.ProofsSquaresCardSaid:=
 Claim7.holds_tied_plain_at .later [] [.data,.data,.data,.data,.data,.data,.data,.widerDeep,.data,.pinned] true (true,"cd9ddabb8fca45a6b03ab875f710a4089b3ae3cf3c34e8cc2dee9c30a6c6537c") true
  apa (λ_ h=>by cases h) bu (λ_ h=>by cases h) proofsSquares_row_tie j fe bu j
  (λf fn D O=>by
   obtain rfl:f=3:=Option.some.inj ((show Tryz.prog.funcNamed "vernier/vernierlaw07.ProofsSquares"=some 3 by kernel_rfl).symm.trans D) |>.symm;obtain rfl:fn=Tryz.f3:=(Option.some.inj<|Tryz.func3.symm.trans O).symm;refine⟨apc,λJ t N=>?_⟩;have hm:t∈Tryz.f3.params.toList:=by simpa using Array.mem_of_getElem? N
   rw[params3]at hm;simp only[fh,IM,or_false]at hm;rcases hm with rfl
   .show Tryz.prog.wantsStandIn 31=false;kernel_rfl)
  ao9
#print axioms proofsSquares_holds
