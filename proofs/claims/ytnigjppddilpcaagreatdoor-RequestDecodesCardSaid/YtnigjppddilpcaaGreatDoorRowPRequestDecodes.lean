/- Proved: the law RequestDecodes returns true for every input that the given row of its second form lets in, and the card ties what the row lists to the program's text. Conditions: none beyond the row itself. -/
import Derived.Test.YtnigjppddilpcaaGreatDoorTie
import Derived.Test.YtnigjppddilpcaaGreatDoorRowPDRequestDecodes
import Derived.Test.YtnigjppddilpcaaGreatDoorRowPERequestDecodes
import Derived.Test.YtnigjppddilpcaaGreatDoorLk
import Derived.Test.YtnigjppddilpcaaGreatDoorMn
namespace Go.Proofs.YtnigjppddilpcaaGreatDoor
theorem requestDecodes_holds:Rows.RequestDecodesCardSaid :=
 Claim7.holds_tied_plain_at .later [] _ _ _ _ requestDecodes.over (fun _ h=>by cases h) (by kernel_rfl) (fun _ h=>by cases h) requestDecodes_row_tie rfl ⟨rfl,rfl⟩ aR8 rfl
  (fun f fn hf hfn=>by
   obtain rfl:f=13:=hS ((show Tryz.prog.funcNamed "workflow/workflowlaw48.RequestDecodes"=some 13 by kernel_rfl).symm.trans hf) |>.symm
   obtain rfl:fn=Tryz.f13:=(hS (Tryz.func13.symm.trans hfn)).symm
   exact ⟨aQ1,fun j t ht=>by
    rw [Tryz.params13] at ht
    have hm:t∈[22]:=by simpa using Array.mem_of_getElem? ht
    have hall:([22].all fun u=>!Tryz.prog.wantsStandIn u)=true:=by kernel_rfl
    exact (show Tryz.prog.wantsStandIn t=false by simpa using cR.1 hall t hm)⟩)
  requestDecodes.goes
#print axioms requestDecodes_holds
