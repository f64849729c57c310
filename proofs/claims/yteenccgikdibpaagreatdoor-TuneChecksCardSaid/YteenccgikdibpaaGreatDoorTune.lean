/- TuneChecks returns true: the given card holds; no condition beyond that of the card. -/
import Derived.Test.YteenccgikdibpaaGreatDoorTie
import Derived.Test.YteenccgikdibpaaGreatDoorCards
import Derived.SevenTiedAt
import Derived.JoinedOf
import Derived.Test.YteenccgikdibpaaGreatDoorRun
import Derived.Test.YteenccgikdibpaaGreatDoorFacts
import Derived.Test.YteenccgikdibpaaGreatDoorGo
set_option linter.all false
namespace Go.Proofs.YteenccgikdibpaaGreatDoor
open Go.ChangeShapes Go.WideShapes Go.ChangeAt Go.RowKit Go.an
set_option maxRecDepth 100000
theorem asQ:Rows.TuneChecksSaid:=
 OpenClaim.holds_of_wide 3 Tryz.f3 rfl rfl rfl rfl rfl rfl rfl ⟨rfl,rfl,rfl,rfl,rfl⟩ rfl rfl rfl rfl rfl (by kernel_rfl) Tryz.func3 facts
  (of_decide_eq_true (by kernel_rfl)) (by unfold Func.isWrapper;first|(rw[if_pos (by decide +kernel)];kernel_rfl)|(rw[if_neg (by decide +kernel)];exact⟨rfl,rfl⟩))
  (fun os started H enc _=>lifted os started H enc)
theorem anm:true=Tryz.prog.looks []:=by kernel_rfl
theorem tuneChecks_holds:Rows.TuneChecksCardSaid:=
 Claim7.holds_tied_plain_at .later [] [.data,.data,.data,.data,.data,.data,.data,.widerDeep,.data,.pinned] true (true,"1332282ec7fd6f3925df70181aa62efc5d63b66d6770787d2ba04889cbd0d147") true
  asQ (fun _ h=>by cases h) (by kernel_rfl) (fun _ h=>by cases h) tuneChecks_row_tie rfl ⟨rfl,rfl⟩ (by kernel_rfl) rfl
  (fun f fn ab gE=>by
   obtain rfl:f=3:=Option.some.inj ((show Tryz.prog.funcNamed "vernier/vernierlaw10.TuneChecks"=some 3 by kernel_rfl).symm.trans ab) |>.symm;obtain rfl:fn=Tryz.f3:=(Option.some.inj (Tryz.func3.symm.trans gE)).symm;refine⟨anm,fun j t aN=> ?_⟩;have hm:t∈Tryz.f3.params.toList:=by simpa using Array.mem_of_getElem? aN
   rw[params3]at hm;simp only[List.mem_cons,List.not_mem_nil,or_false]at hm;subst hm;show Tryz.prog.wantsStandIn 35=false;kernel_rfl)
  ajB
#print axioms tuneChecks_holds
