/- Proved: the law EventcodeChanged returns true for every input that the given row of its second form lets in, and the card ties what the row lists to the program's text. Conditions: none beyond the row itself. -/
import Derived.Test.YtnigjppddilpcaaGreatDoorTie
import Derived.Test.YtnigjppddilpcaaGreatDoorRowUDEventcodeChanged
import Derived.Test.YtnigjppddilpcaaGreatDoorRowUEEventcodeChanged
import Derived.Test.YtnigjppddilpcaaGreatDoorLk
import Derived.Test.YtnigjppddilpcaaGreatDoorMn
namespace Go.Proofs.YtnigjppddilpcaaGreatDoor
theorem eventcodeChangedUpto_holds:Rows.EventcodeChangedUptoCardSaid :=
 Claim7.holds_tied_plain_at .later [] _ _ _ _ eventcodeChanged.over (fun _ h=>by cases h) (by kernel_rfl) (fun _ h=>by cases h) eventcodeChangedUpto_row_tie rfl ⟨rfl,rfl⟩ aK1 rfl
  (fun f fn hf hfn=>by
   obtain rfl:f=6:=Option.some.inj ((show Tryz.prog.funcNamed "workflow/workflowlaw23.EventcodeChanged"=some 6 by kernel_rfl).symm.trans hf) |>.symm
   obtain rfl:fn=Tryz.f6:=(Option.some.inj (Tryz.func6.symm.trans hfn)).symm
   exact ⟨aJL,fun j t ht=>by
    rw [Tryz.params6] at ht
    have hm:t∈[32,3,5]:=by simpa using Array.mem_of_getElem? ht
    have hall:([32,3,5].all fun u=>!Tryz.prog.wantsStandIn u)=true:=by kernel_rfl
    exact (show Tryz.prog.wantsStandIn t=false by simpa using List.all_eq_true.1 hall t hm)⟩)
  eventcodeChanged.goes
#print axioms eventcodeChangedUpto_holds
end Go.Proofs.YtnigjppddilpcaaGreatDoor
