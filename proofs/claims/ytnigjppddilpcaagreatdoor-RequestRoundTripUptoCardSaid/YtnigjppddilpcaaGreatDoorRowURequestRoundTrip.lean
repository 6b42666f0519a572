/- Proved: the law RequestRoundTrip returns true for every input that the given row of its second form lets in, and the card ties what the row lists to the program's text. Conditions: none beyond the row itself. -/
import Derived.Test.YtnigjppddilpcaaGreatDoorTie
import Derived.Test.YtnigjppddilpcaaGreatDoorRowUDRequestRoundTrip
import Derived.Test.YtnigjppddilpcaaGreatDoorRowUERequestRoundTrip
import Derived.Test.YtnigjppddilpcaaGreatDoorLk
import Derived.Test.YtnigjppddilpcaaGreatDoorMn
namespace Go.Proofs.YtnigjppddilpcaaGreatDoor
theorem requestRoundTripUpto_holds:Rows.RequestRoundTripUptoCardSaid :=
 Claim7.holds_tied_plain_at .later [] _ _ _ _ requestRoundTrip.over (fun _ h=>by cases h) (by kernel_rfl) (fun _ h=>by cases h) requestRoundTripUpto_row_tie rfl ⟨rfl,rfl⟩ aOr rfl
  (fun f fn hf hfn=>by
   obtain rfl:f=10:=Option.some.inj ((show Tryz.prog.funcNamed "workflow/workflowlaw48.RequestRoundTrip"=some 10 by kernel_rfl).symm.trans hf) |>.symm
   obtain rfl:fn=Tryz.f10:=(Option.some.inj (Tryz.func10.symm.trans hfn)).symm
   exact ⟨aNp,fun j t ht=>by
    rw [Tryz.params10] at ht
    have hm:t∈[57,3]:=by simpa using Array.mem_of_getElem? ht
    have hall:([57,3].all fun u=>!Tryz.prog.wantsStandIn u)=true:=by kernel_rfl
    exact (show Tryz.prog.wantsStandIn t=false by simpa using List.all_eq_true.1 hall t hm)⟩)
  requestRoundTrip.goes
#print axioms requestRoundTripUpto_holds
end Go.Proofs.YtnigjppddilpcaaGreatDoor
