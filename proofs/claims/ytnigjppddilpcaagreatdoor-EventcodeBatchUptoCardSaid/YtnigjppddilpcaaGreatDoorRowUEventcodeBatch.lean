/- Proved: the law EventcodeBatch returns true for every input that the given row of its second form lets in, and the card ties what the row lists to the program's text. Conditions: none beyond the row itself. -/
import Derived.Test.YtnigjppddilpcaaGreatDoorTie
import Derived.Test.YtnigjppddilpcaaGreatDoorRowUDEventcodeBatch
import Derived.Test.YtnigjppddilpcaaGreatDoorRowUEEventcodeBatch
import Derived.Test.YtnigjppddilpcaaGreatDoorLk
import Derived.Test.YtnigjppddilpcaaGreatDoorMn
namespace Go.Proofs.YtnigjppddilpcaaGreatDoor
theorem eventcodeBatchUpto_holds:Rows.EventcodeBatchUptoCardSaid :=
 Claim7.holds_tied_plain_at .later [] _ _ _ _ eventcodeBatch.over (fun _ h=>by cases h) (by kernel_rfl) (fun _ h=>by cases h) eventcodeBatchUpto_row_tie rfl ⟨rfl,rfl⟩ aHO rfl
  (fun f fn hf hfn=>by
   obtain rfl:f=4:=Option.some.inj ((show Tryz.prog.funcNamed "workflow/workflowlaw23.EventcodeBatch"=some 4 by kernel_rfl).symm.trans hf) |>.symm
   obtain rfl:fn=Tryz.f4:=(Option.some.inj (Tryz.func4.symm.trans hfn)).symm
   exact ⟨aFf,fun j t ht=>by
    rw [Tryz.params4] at ht
    have hm:t∈[32]:=by simpa using Array.mem_of_getElem? ht
    have hall:([32].all fun u=>!Tryz.prog.wantsStandIn u)=true:=by kernel_rfl
    exact (show Tryz.prog.wantsStandIn t=false by simpa using List.all_eq_true.1 hall t hm)⟩)
  eventcodeBatch.goes
#print axioms eventcodeBatchUpto_holds
end Go.Proofs.YtnigjppddilpcaaGreatDoor
