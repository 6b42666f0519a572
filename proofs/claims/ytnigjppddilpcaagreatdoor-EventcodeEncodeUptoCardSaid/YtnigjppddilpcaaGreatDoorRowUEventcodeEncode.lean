/- Proved: the law EventcodeEncode returns true for every input that the given row of its second form lets in, and the card ties what the row lists to the program's text. Conditions: none beyond the row itself. -/
import Derived.Test.YtnigjppddilpcaaGreatDoorTie
import Derived.Test.YtnigjppddilpcaaGreatDoorRowUDEventcodeEncode
import Derived.Test.YtnigjppddilpcaaGreatDoorRowUEEventcodeEncode
import Derived.Test.YtnigjppddilpcaaGreatDoorLk
import Derived.Test.YtnigjppddilpcaaGreatDoorMn
namespace Go.Proofs.YtnigjppddilpcaaGreatDoor
theorem eventcodeEncodeUpto_holds:Rows.EventcodeEncodeUptoCardSaid :=
 Claim7.holds_tied_plain_at .later [] _ _ _ _ eventcodeEncode.over (fun _ h=>by cases h) (by kernel_rfl) (fun _ h=>by cases h) eventcodeEncodeUpto_row_tie rfl ⟨rfl,rfl⟩ aHO rfl
  (fun f fn hf hfn=>by
   obtain rfl:f=3:=Option.some.inj ((show Tryz.prog.funcNamed "workflow/workflowlaw23.EventcodeEncode"=some 3 by kernel_rfl).symm.trans hf) |>.symm
   obtain rfl:fn=Tryz.f3:=(Option.some.inj (Tryz.func3.symm.trans hfn)).symm
   exact ⟨aFf,fun j t ht=>by
    rw [Tryz.params3] at ht
    have hm:t∈[22,30]:=by simpa using Array.mem_of_getElem? ht
    have hall:([22,30].all fun u=>!Tryz.prog.wantsStandIn u)=true:=by kernel_rfl
    exact (show Tryz.prog.wantsStandIn t=false by simpa using List.all_eq_true.1 hall t hm)⟩)
  eventcodeEncode.goes
#print axioms eventcodeEncodeUpto_holds
end Go.Proofs.YtnigjppddilpcaaGreatDoor
