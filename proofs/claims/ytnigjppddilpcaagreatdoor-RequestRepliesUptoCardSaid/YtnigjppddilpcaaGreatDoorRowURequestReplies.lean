/- Proved: the law RequestReplies returns true for every input that the given row of its second form lets in, and the card ties what the row lists to the program's text. Conditions: none beyond the row itself. -/
import Derived.Test.YtnigjppddilpcaaGreatDoorTie
import Derived.Test.YtnigjppddilpcaaGreatDoorRowUDRequestReplies
import Derived.Test.YtnigjppddilpcaaGreatDoorRowUERequestReplies
import Derived.Test.YtnigjppddilpcaaGreatDoorLk
import Derived.Test.YtnigjppddilpcaaGreatDoorMn
namespace Go.Proofs.YtnigjppddilpcaaGreatDoor
theorem requestRepliesUpto_holds:Rows.RequestRepliesUptoCardSaid :=
 Claim7.holds_tied_plain_at .later [] _ _ _ _ requestReplies.over (fun _ h=>by cases h) (by kernel_rfl) (fun _ h=>by cases h) requestRepliesUpto_row_tie rfl ⟨rfl,rfl⟩ aTk rfl
  (fun f fn hf hfn=>by
   obtain rfl:f=14:=iD ((show Tryz.prog.funcNamed "workflow/workflowlaw48.RequestReplies"=some 14 by kernel_rfl).symm.trans hf) |>.symm
   obtain rfl:fn=Tryz.f14:=(iD (Tryz.func14.symm.trans hfn)).symm
   exact ⟨aSe,fun j t ht=>by
    rw [Tryz.params14] at ht
    have hm:t∈[66]:=by simpa using Array.mem_of_getElem? ht
    have hall:([66].all fun u=>!Tryz.prog.wantsStandIn u)=true:=by kernel_rfl
    exact (show Tryz.prog.wantsStandIn t=false by simpa using cI.1 hall t hm)⟩)
  requestReplies.goes
#print axioms requestRepliesUpto_holds
