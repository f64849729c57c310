/- ProofsBoxes returns true: the given card holds; no condition beyond that of the card. -/
import Derived.Test.YtlnaeofgmkmfdaaGreatDoorTie
import Derived.Test.YtlnaeofgmkmfdaaGreatDoorCards
import Derived.SevenTiedAt
import Derived.JoinedOf
import Derived.Test.YtlnaeofgmkmfdaaGreatDoorRun
import Derived.Test.YtlnaeofgmkmfdaaGreatDoorFacts
import Derived.Test.YtlnaeofgmkmfdaaGreatDoorGo
set_option linter.all false
namespace Go.Proofs.YtlnaeofgmkmfdaaGreatDoor
open Go.ChangeShapes Go.WideShapes Go.ChangeAt Go.RowKit Go.an
set_option maxRecDepth 100000
def arl:Rows.ProofsBoxesSaid:=
 OpenClaim.holds_of_wide 3 Tryz.f3 rfl rfl rfl rfl rfl rfl rfl ⟨rfl,rfl,rfl,rfl,rfl⟩ rfl rfl rfl rfl rfl (by kernel_rfl) Tryz.func3 facts
  (zbd (by kernel_rfl)) (by unfold Func.isWrapper;first|(rw[zab (by decide +kernel)];kernel_rfl)|(rw[zaa (by decide +kernel)];exact⟨rfl,rfl⟩))
  (fun os started H enc _=>lifted os started H enc)
def apU:true=Tryz.prog.looks []:=by kernel_rfl
theorem proofsBoxes_holds:Rows.ProofsBoxesCardSaid:=
 Claim7.holds_tied_plain_at .later [] [.data,.data,.data,.data,.data,.data,.data,.widerDeep,.data,.pinned] true (true,"3ccb7151e2a06ee0a34514f58a57e4e9005118bbca3c480cea6cee81655d135d") true
  arl (fun _ h=>by cases h) (by kernel_rfl) (fun _ h=>by cases h) proofsBoxes_row_tie rfl ⟨rfl,rfl⟩ (by kernel_rfl) rfl
  (fun f fn af gw=>by
   obtain rfl:f=3:=Option.some.inj ((show Tryz.prog.funcNamed "vernier/vernierlaw07.ProofsBoxes"=some 3 by kernel_rfl).symm.trans af) |>.symm;obtain rfl:fn=Tryz.f3:=(Option.some.inj (Tryz.func3.symm.trans gw)).symm;refine⟨apU,fun j t aV=> ?_⟩;have hm:t∈Tryz.f3.params.toList:=by simpa using Array.mem_of_getElem? aV
   rw[params3]at hm;simp only[zah,zce,or_false]at hm;rcases hm with rfl|rfl
   ·show Tryz.prog.wantsStandIn 33=false;kernel_rfl
   ·show Tryz.prog.wantsStandIn 34=false;kernel_rfl)
  alV
#print axioms proofsBoxes_holds
