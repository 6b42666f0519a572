/- Proved: the law RequestSame returns true for every input that the given row of its second form lets in, and the card ties what the row lists to the program's text. Conditions: none beyond the row itself. -/
import Derived.Test.YtnigjppddilpcaaGreatDoorTie
import Derived.Test.YtnigjppddilpcaaGreatDoorRowPDRequestSame
import Derived.Test.YtnigjppddilpcaaGreatDoorRowPERequestSame
import Derived.Test.YtnigjppddilpcaaGreatDoorLk
import Derived.Test.YtnigjppddilpcaaGreatDoorMn
namespace Go.Proofs.YtnigjppddilpcaaGreatDoor
theorem requestSame_holds:Rows.RequestSameCardSaid :=
 Claim7.holds_tied_plain_at .later [] _ _ _ _ requestSame.over (fun _ h=>by cases h) (by kernel_rfl) (fun _ h=>by cases h) requestSame_row_tie rfl ⟨rfl,rfl⟩ aP9 rfl
  (fun f fn hf hfn=>by
   obtain rfl:f=12:=gI ((show Tryz.prog.funcNamed "workflow/workflowlaw48.RequestSame"=some 12 by kernel_rfl).symm.trans hf) |>.symm
   obtain rfl:fn=Tryz.f12:=(gI (Tryz.func12.symm.trans hfn)).symm
   exact ⟨aO2,fun j t ht=>by
    rw [Tryz.params12] at ht
    have hm:t∈[57,57,67]:=by simpa using Array.mem_of_getElem? ht
    have hall:([57,57,67].all fun u=>!Tryz.prog.wantsStandIn u)=true:=by kernel_rfl
    exact (show Tryz.prog.wantsStandIn t=false by simpa using bM.1 hall t hm)⟩)
  requestSame.goes
#print axioms requestSame_holds
