/- Proved: the law EventcodeUnbatch returns true for every input that the given row of its second form lets in, and the card ties what the row lists to the program's text. Conditions: none beyond the row itself. -/
import Derived.Test.YtnigjppddilpcaaGreatDoorTie
import Derived.Test.YtnigjppddilpcaaGreatDoorRowPDEventcodeUnbatch
import Derived.Test.YtnigjppddilpcaaGreatDoorRowPEEventcodeUnbatch
import Derived.Test.YtnigjppddilpcaaGreatDoorLk
import Derived.Test.YtnigjppddilpcaaGreatDoorMn
namespace Go.Proofs.YtnigjppddilpcaaGreatDoor
theorem eventcodeUnbatch_holds:Rows.EventcodeUnbatchCardSaid :=
 Claim7.holds_tied_plain_at .later [] _ _ _ _ eventcodeUnbatch.over (fun _ h=>by cases h) (by kernel_rfl) (fun _ h=>by cases h) eventcodeUnbatch_row_tie rfl ⟨rfl,rfl⟩ aPb rfl
  (fun f fn hf hfn=>by
   obtain rfl:f=5:=eU ((show Tryz.prog.funcNamed "workflow/workflowlaw23.EventcodeUnbatch"=some 5 by kernel_rfl).symm.trans hf) |>.symm
   obtain rfl:fn=Tryz.f5:=(eU (Tryz.func5.symm.trans hfn)).symm
   exact ⟨aMz,fun j t ht=>by
    rw [Tryz.params5] at ht
    have hm:t∈[22]:=by simpa using Array.mem_of_getElem? ht
    have hall:([22].all fun u=>!Tryz.prog.wantsStandIn u)=true:=by kernel_rfl
    exact (show Tryz.prog.wantsStandIn t=false by simpa using cI.1 hall t hm)⟩)
  eventcodeUnbatch.goes
#print axioms eventcodeUnbatch_holds
