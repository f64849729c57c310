/- TunePoints returns true: the given card holds; no condition beyond that of the card. -/
import Derived.Test.YthdlbilidpgknaaGreatDoorTie
import Derived.Test.YthdlbilidpgknaaGreatDoorCards
import Derived.SevenTiedAt
import Derived.JoinedOf
import Derived.Test.YthdlbilidpgknaaGreatDoorPtRun
import Derived.Test.YthdlbilidpgknaaGreatDoorPtFacts
import Derived.Test.YthdlbilidpgknaaGreatDoorPtGo
set_option linter.all false
namespace Go.Proofs.YthdlbilidpgknaaGreatDoor
open Go.ChangeShapes Go.WideShapes Go.ChangeAt Go.RowKit Go.ak
set_option maxRecDepth 100000
def tunePoints_row:Rows.TunePointsSaid:=
 OpenClaim.holds_of_wide 3 Tryz.f3 rfl rfl rfl rfl rfl rfl rfl ⟨rfl,rfl,rfl,rfl,rfl⟩ rfl rfl rfl rfl rfl (by kernel_rfl) Tryz.func3 facts
  (zbT (by kernel_rfl)) (by unfold Func.isWrapper;first|(rw[zab (by decide +kernel)];kernel_rfl)|(rw[zaa (by decide +kernel)];exact⟨rfl,rfl⟩))
  (fun os started H enc _=>lifted os started H enc)
def looksIs:true=Tryz.prog.looks []:=by kernel_rfl
theorem tunePoints_holds:Rows.TunePointsCardSaid:=
 Claim7.holds_tied_plain_at .later [] [.data,.data,.data,.data,.data,.data,.data,.widerDeep,.data,.pinned] true (true,"958296cdaa740506782d2bde879b68877099010b472be9dca2639c7f6d4b1e16") true
  tunePoints_row (fun _ h=>by cases h) (by kernel_rfl) (fun _ h=>by cases h) tunePoints_row_tie rfl ⟨rfl,rfl⟩ (by kernel_rfl) rfl
  (fun f fn ae fG=>by
   obtain rfl:f=3:=Option.some.inj ((show Tryz.prog.funcNamed "vernier/vernierlaw10.TunePoints"=some 3 by kernel_rfl).symm.trans ae) |>.symm;obtain rfl:fn=Tryz.f3:=(Option.some.inj (Tryz.func3.symm.trans fG)).symm;refine⟨looksIs,fun j t aV=> ?_⟩;have hm:t∈Tryz.f3.params.toList:=by simpa using Array.mem_of_getElem? aV
   rw[params3]at hm;simp only[zar,zeO,or_false]at hm;rcases hm with rfl|rfl|rfl
   ·show Tryz.prog.wantsStandIn 27=false;kernel_rfl
   ·show Tryz.prog.wantsStandIn 3=false;kernel_rfl
   ·show Tryz.prog.wantsStandIn 3=false;kernel_rfl)
  goesOff
#print axioms tunePoints_holds
