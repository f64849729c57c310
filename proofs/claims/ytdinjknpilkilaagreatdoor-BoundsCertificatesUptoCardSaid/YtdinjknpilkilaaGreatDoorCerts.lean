/- BoundsCertificates returns true: the given card of the second form holds; no condition beyond that of the card. -/
import Derived.Test.YtdinjknpilkilaaGreatDoorTie
import Derived.Test.YtdinjknpilkilaaGreatDoorCards
import Derived.SevenTiedAt
import Derived.JoinedOf
import Derived.JoinedCond
import Derived.Test.YtdinjknpilkilaaGreatDoorRun
import Derived.Test.YtdinjknpilkilaaGreatDoorFacts
import Derived.Test.YtdinjknpilkilaaGreatDoorGo
set_option linter.all false
namespace Go.Proofs.YtdinjknpilkilaaGreatDoor
open Go.ChangeShapes Go.WideShapes Go.ChangeAt Go.RowKit Go.ah
set_option maxRecDepth 100000
def aeQ:Rows.BoundsCertificatesUptoSaid:=
 OpenClaim.holds_of_cond 3 Tryz.f3 rfl rfl rfl rfl rfl rfl rfl ⟨rfl,rfl,rfl,rfl,rfl⟩ rfl rfl rfl rfl rfl (by kernel_rfl) Tryz.func3 facts
  (zbB (by kernel_rfl)) (by unfold Func.isWrapper;first|(rw[zab (by decide +kernel)];kernel_rfl)|(rw[zaa (by decide +kernel)];exact⟨rfl,rfl⟩))
  (fun os started H enc _ F=>by rw[OpenClaim.pre_eq_preRow];exact lifted os started H enc F)
def aoB:true=Tryz.prog.looks []:=by kernel_rfl
theorem boundsCertificatesUpto_holds:Rows.BoundsCertificatesUptoCardSaid:=
 Claim7.holds_tied_plain_at .later [] [.data,.data,.data,.data,.data,.data,.data,.pinned] true (true,"238ff254138f15621b8a4b4af256ef5eac61beddabbe4979d51a3b2ce268711b") true
  aeQ (fun _ h=>by cases h) (by kernel_rfl) (fun _ h=>by cases h) boundsCertificatesUpto_row_tie rfl ⟨rfl,rfl⟩ (by kernel_rfl) rfl
  (fun f fn U iI=>by
   obtain rfl:f=3:=Option.some.inj ((show Tryz.prog.funcNamed "vernier/vernierlaw08.BoundsCertificates"=some 3 by kernel_rfl).symm.trans U) |>.symm;obtain rfl:fn=Tryz.f3:=(Option.some.inj (Tryz.func3.symm.trans iI)).symm;refine⟨aoB,fun j t aF=> ?_⟩;have hm:t∈Tryz.f3.params.toList:=by simpa using Array.mem_of_getElem? aF
   rw[params3]at hm;simp only[zap,List.not_mem_nil,or_false]at hm;rcases hm with rfl|rfl
   ·show Tryz.prog.wantsStandIn 22=false;kernel_rfl
   ·show Tryz.prog.wantsStandIn 23=false;kernel_rfl)
  akC
#print axioms boundsCertificatesUpto_holds
