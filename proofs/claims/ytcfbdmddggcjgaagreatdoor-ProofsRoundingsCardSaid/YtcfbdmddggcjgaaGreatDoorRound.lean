/- ProofsRoundings returns true: the given card holds; no condition beyond that of the card. -/
import Derived.Test.YtcfbdmddggcjgaaGreatDoorTie
import Derived.Test.YtcfbdmddggcjgaaGreatDoorCards
import Derived.SevenTiedAt
import Derived.JoinedOf
import Derived.Test.YtcfbdmddggcjgaaGreatDoorRun
import Derived.Test.YtcfbdmddggcjgaaGreatDoorFacts
import Derived.Test.YtcfbdmddggcjgaaGreatDoorGo
set_option linter.all false
namespace Go.Proofs.YtcfbdmddggcjgaaGreatDoor
open Go.ChangeShapes Go.WideShapes Go.ChangeAt Go.RowKit Go.az
set_option maxRecDepth 100000
theorem ai7:Rows.ProofsRoundingsSaid:=
 OpenClaim.holds_of_wide 3 Tryz.f3 rfl rfl rfl rfl rfl rfl rfl ⟨rfl,rfl,rfl,rfl,rfl⟩ rfl rfl rfl rfl rfl (by kernel_rfl) Tryz.func3 facts
  (of_decide_eq_true (by kernel_rfl)) (by unfold Func.isWrapper;first|(rw[if_pos (by decide +kernel)];kernel_rfl)|(rw[if_neg (by decide +kernel)];exact⟨rfl,rfl⟩))
  (fun os started H enc _=>lifted os started H enc)
theorem ahQ:true=Tryz.prog.looks []:=by kernel_rfl
theorem proofsRoundings_holds:Rows.ProofsRoundingsCardSaid:=
 Claim7.holds_tied_plain_at .later [] [.data,.data,.data,.data,.data,.data,.data,.widerDeep,.data,.pinned] true (true,"c5c5ac994ee0d5e50754790ce4d9a5fc73a39546dd755bfd4ed5ea95ecff636e") true
  ai7 (fun _ h=>by cases h) (by kernel_rfl) (fun _ h=>by cases h) proofsRoundings_row_tie rfl ⟨rfl,rfl⟩ (by kernel_rfl) rfl
  (fun f fn af gu=>by
   obtain rfl:f=3:=Option.some.inj ((show Tryz.prog.funcNamed "vernier/vernierlaw07.ProofsRoundings"=some 3 by kernel_rfl).symm.trans af) |>.symm;obtain rfl:fn=Tryz.f3:=(Option.some.inj (Tryz.func3.symm.trans gu)).symm;refine⟨ahQ,fun j t aX=> ?_⟩;have hm:t∈Tryz.f3.params.toList:=by simpa using Array.mem_of_getElem? aX
   rw[params3]at hm;simp only[List.mem_cons,List.not_mem_nil,or_false]at hm;rcases hm with rfl|rfl|rfl
   ·show Tryz.prog.wantsStandIn 3=false;kernel_rfl
   ·show Tryz.prog.wantsStandIn 23=false;kernel_rfl
   ·show Tryz.prog.wantsStandIn 24=false;kernel_rfl)
  ZM
#print axioms proofsRoundings_holds
