/- BoundsProven returns true: the given card holds; no condition beyond that of the card. -/
import Derived.Test.YtkhecbikkdcfoaaGreatDoorTie
import Derived.Test.YtkhecbikkdcfoaaGreatDoorCards
import Derived.SevenTiedAt
import Derived.JoinedOf
import Derived.JoinedCond
import Derived.Test.YtkhecbikkdcfoaaGreatDoorRun
import Derived.Test.YtkhecbikkdcfoaaGreatDoorFacts
import Derived.Test.YtkhecbikkdcfoaaGreatDoorGo
set_option linter.all false
namespace Go.Proofs.YtkhecbikkdcfoaaGreatDoor
open Go.ChangeShapes Go.WideShapes Go.ChangeAt Go.RowKit Go.bI
set_option maxRecDepth 100000
def aov:Rows.BoundsProvenUptoSaid:=
 OpenClaim.holds_of_cond 3 Tryz.f3 o o o o o o o ⟨o,o,o,o,o⟩ o o o o o cw Tryz.func3 facts
  (jD cw) (by unfold Func.isWrapper;first|(rw[aA MF];kernel_rfl)|(rw[au MF];exact e9))
  (λK x H N _ F=>by rw[OpenClaim.pre_eq_preRow];exact lifted K x H N F)
def aow:true=Tryz.prog.looks []:=cw
theorem boundsProvenUpto_holds:Rows.BoundsProvenUptoCardSaid:=
 Claim7.holds_tied_plain_at .later [] [.data,.data,.data,.data,.data,.data,.data,.pinned] true (true,"e95413469e8d89793489ff58c549bba0e9186807911a8ab307d231c6c4ddd400") true
  aov (λ_ h=>by cases h) cw (λ_ h=>by cases h) boundsProvenUpto_row_tie o e9 cw o
  (λf fn D u=>by
   obtain rfl:f=3:=Option.some.inj ((show Tryz.prog.funcNamed "vernier/vernierlaw08.BoundsProven"=some 3 by kernel_rfl).symm.trans D) |>.symm;obtain rfl:fn=Tryz.f3:=(Option.some.inj<|Tryz.func3.symm.trans u).symm;refine⟨aow,λj t aN=>?_⟩;have hm:t∈Tryz.f3.params.toList:=by simpa using Array.mem_of_getElem? aN
   rw[params3]at hm;simp only[fg,List.not_mem_nil,or_false]at hm;rcases hm with rfl|rfl
   .show Tryz.prog.wantsStandIn 22=false;kernel_rfl
   .show Tryz.prog.wantsStandIn 23=false;kernel_rfl)
  aou

#print axioms boundsProvenUpto_holds
