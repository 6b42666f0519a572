/- Proved: the law RequestRight returns true for every input that the given row of its second form lets in, and the card ties what the row lists to the program's text. Conditions: none beyond the row itself. -/
import Derived.Test.YtnigjppddilpcaaGreatDoorTie
import Derived.Test.YtnigjppddilpcaaGreatDoorRowPDRequestRight
import Derived.Test.YtnigjppddilpcaaGreatDoorRowPERequestRight
import Derived.Test.YtnigjppddilpcaaGreatDoorLk
import Derived.Test.YtnigjppddilpcaaGreatDoorMn
namespace Go.Proofs.YtnigjppddilpcaaGreatDoor
theorem requestRight_holds:Rows.RequestRightCardSaid :=
 Claim7.holds_tied_plain_at .later [] _ _ _ _ requestRight.over (fun _ h=>by cases h) (by kernel_rfl) (fun _ h=>by cases h) requestRight_row_tie rfl ⟨rfl,rfl⟩ aKL rfl
  (fun f fn hf hfn=>by
   obtain rfl:f=11:=Option.some.inj ((show Tryz.prog.funcNamed "workflow/workflowlaw48.RequestRight"=some 11 by kernel_rfl).symm.trans hf) |>.symm
   obtain rfl:fn=Tryz.f11:=(Option.some.inj (Tryz.func11.symm.trans hfn)).symm
   exact ⟨aID,fun j t ht=>by
    rw [Tryz.params11] at ht
    have hm:t∈[57]:=by simpa using Array.mem_of_getElem? ht
    have hall:([57].all fun u=>!Tryz.prog.wantsStandIn u)=true:=by kernel_rfl
    exact (show Tryz.prog.wantsStandIn t=false by simpa using List.all_eq_true.1 hall t hm)⟩)
  requestRight.goes
#print axioms requestRight_holds
end Go.Proofs.YtnigjppddilpcaaGreatDoor
