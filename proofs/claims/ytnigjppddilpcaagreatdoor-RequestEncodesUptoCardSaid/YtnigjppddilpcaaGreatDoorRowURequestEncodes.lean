/- Proved: the law RequestEncodes returns true for every input that the given row of its second form lets in, and the card ties what the row lists to the program's text. Conditions: none beyond the row itself. -/
import Derived.Test.YtnigjppddilpcaaGreatDoorTie
import Derived.Test.YtnigjppddilpcaaGreatDoorRowUDRequestEncodes
import Derived.Test.YtnigjppddilpcaaGreatDoorRowUERequestEncodes
import Derived.Test.YtnigjppddilpcaaGreatDoorLk
import Derived.Test.YtnigjppddilpcaaGreatDoorMn
namespace Go.Proofs.YtnigjppddilpcaaGreatDoor
theorem requestEncodesUpto_holds:Rows.RequestEncodesUptoCardSaid :=
 Claim7.holds_tied_plain_at .later [] _ _ _ _ requestEncodes.over (fun _ h=>by cases h) (by kernel_rfl) (fun _ h=>by cases h) requestEncodesUpto_row_tie rfl ⟨rfl,rfl⟩ aKL rfl
  (fun f fn hf hfn=>by
   obtain rfl:f=9:=Option.some.inj ((show Tryz.prog.funcNamed "workflow/workflowlaw48.RequestEncodes"=some 9 by kernel_rfl).symm.trans hf) |>.symm
   obtain rfl:fn=Tryz.f9:=(Option.some.inj (Tryz.func9.symm.trans hfn)).symm
   exact ⟨aID,fun j t ht=>by
    rw [Tryz.params9] at ht
    have hm:t∈[57]:=by simpa using Array.mem_of_getElem? ht
    have hall:([57].all fun u=>!Tryz.prog.wantsStandIn u)=true:=by kernel_rfl
    exact (show Tryz.prog.wantsStandIn t=false by simpa using List.all_eq_true.1 hall t hm)⟩)
  requestEncodes.goes
#print axioms requestEncodesUpto_holds
end Go.Proofs.YtnigjppddilpcaaGreatDoor
