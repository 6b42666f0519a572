/- Proved: the law EventcodeRound returns true for every input that the given row of its second form lets in, and the card ties what the row lists to the program's text. Conditions: none beyond the row itself. -/
import Derived.Test.YtnigjppddilpcaaGreatDoorTie
import Derived.Test.YtnigjppddilpcaaGreatDoorRowUDEventcodeRound
import Derived.Test.YtnigjppddilpcaaGreatDoorRowUEEventcodeRound
import Derived.Test.YtnigjppddilpcaaGreatDoorLk
import Derived.Test.YtnigjppddilpcaaGreatDoorMn
namespace Go.Proofs.YtnigjppddilpcaaGreatDoor
theorem eventcodeRoundUpto_holds:Rows.EventcodeRoundUptoCardSaid :=
 Claim7.holds_tied_plain_at .later [] _ _ _ _ eventcodeRound.over (fun _ h=>by cases h) (by kernel_rfl) (fun _ h=>by cases h) eventcodeRoundUpto_row_tie rfl ⟨rfl,rfl⟩ aHO rfl
  (fun f fn hf hfn=>by
   obtain rfl:f=8:=Option.some.inj ((show Tryz.prog.funcNamed "workflow/workflowlaw23.EventcodeRound"=some 8 by kernel_rfl).symm.trans hf) |>.symm
   obtain rfl:fn=Tryz.f8:=(Option.some.inj (Tryz.func8.symm.trans hfn)).symm
   exact ⟨aFf,fun j t ht=>by
    rw [Tryz.params8] at ht
    have hm:t∈[30,22]:=by simpa using Array.mem_of_getElem? ht
    have hall:([30,22].all fun u=>!Tryz.prog.wantsStandIn u)=true:=by kernel_rfl
    exact (show Tryz.prog.wantsStandIn t=false by simpa using List.all_eq_true.1 hall t hm)⟩)
  eventcodeRound.goes
#print axioms eventcodeRoundUpto_holds
end Go.Proofs.YtnigjppddilpcaaGreatDoor
