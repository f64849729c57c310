/- TuneValues returns true: the given card holds; no condition beyond that of the card. -/
import Derived.Test.YthdlbilidpgknaaGreatDoorTie
import Derived.Test.YthdlbilidpgknaaGreatDoorCards
import Derived.SevenTiedAt
import Derived.JoinedOf
import Derived.Test.YthdlbilidpgknaaGreatDoorRun
import Derived.Test.YthdlbilidpgknaaGreatDoorFacts
import Derived.Test.YthdlbilidpgknaaGreatDoorGo
set_option linter.all false
namespace Go.Proofs.YthdlbilidpgknaaGreatDoor
open Go.ChangeShapes Go.WideShapes Go.ChangeAt Go.RowKit Go.aj
set_option maxRecDepth 100000
def atj:Rows.TuneValuesSaid:=
 OpenClaim.holds_of_wide 4 Tryz.f4 rfl rfl rfl rfl rfl rfl rfl ⟨rfl,rfl,rfl,rfl,rfl⟩ rfl rfl rfl rfl rfl (by kernel_rfl) Tryz.func4 facts
  (zbF (by kernel_rfl)) (by unfold Func.isWrapper;first|(rw[zab (by decide +kernel)];kernel_rfl)|(rw[zaa (by decide +kernel)];exact⟨rfl,rfl⟩))
  (fun os started H enc _=>lifted os started H enc)
def anL:true=Tryz.prog.looks []:=by kernel_rfl
theorem tuneValues_holds:Rows.TuneValuesCardSaid:=
 Claim7.holds_tied_plain_at .later [] [.data,.data,.data,.data,.data,.data,.data,.widerDeep,.data,.pinned] true (true,"958296cdaa740506782d2bde879b68877099010b472be9dca2639c7f6d4b1e16") true
  atj (fun _ h=>by cases h) (by kernel_rfl) (fun _ h=>by cases h) tuneValues_row_tie rfl ⟨rfl,rfl⟩ (by kernel_rfl) rfl
  (fun f fn aa fH=>by
   obtain rfl:f=4:=Option.some.inj ((show Tryz.prog.funcNamed "vernier/vernierlaw10.TuneValues"=some 4 by kernel_rfl).symm.trans aa) |>.symm;obtain rfl:fn=Tryz.f4:=(Option.some.inj (Tryz.func4.symm.trans fH)).symm;refine⟨anL,fun j t aN=> ?_⟩;have hm:t∈Tryz.f4.params.toList:=by simpa using Array.mem_of_getElem? aN
   rw[params3]at hm;simp only[zao,zeN,or_false]at hm;rcases hm with rfl|rfl|rfl
   ·show Tryz.prog.wantsStandIn 27=false;kernel_rfl
   ·show Tryz.prog.wantsStandIn 3=false;kernel_rfl
   ·show Tryz.prog.wantsStandIn 5=false;kernel_rfl)
  ajE
#print axioms tuneValues_holds
