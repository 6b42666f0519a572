/- Proved: the law EventcodeDecode returns true for every input that the given row of its second form lets in, and the card ties what the row lists to the program's text. Conditions: none beyond the row itself. -/
import Derived.Test.YtnigjppddilpcaaGreatDoorTie
import Derived.Test.YtnigjppddilpcaaGreatDoorRowPDEventcodeDecode
import Derived.Test.YtnigjppddilpcaaGreatDoorRowPEEventcodeDecode
import Derived.Test.YtnigjppddilpcaaGreatDoorLk
import Derived.Test.YtnigjppddilpcaaGreatDoorMn
namespace Go.Proofs.YtnigjppddilpcaaGreatDoor
theorem eventcodeDecode_holds:Rows.EventcodeDecodeCardSaid :=
 Claim7.holds_tied_plain_at .later [] _ _ _ _ eventcodeDecode.over (fun _ h=>by cases h) (by kernel_rfl) (fun _ h=>by cases h) eventcodeDecode_row_tie rfl ⟨rfl,rfl⟩ aPb rfl
  (fun f fn hf hfn=>by
   obtain rfl:f=7:=eU ((show Tryz.prog.funcNamed "workflow/workflowlaw23.EventcodeDecode"=some 7 by kernel_rfl).symm.trans hf) |>.symm
   obtain rfl:fn=Tryz.f7:=(eU (Tryz.func7.symm.trans hfn)).symm
   exact ⟨aMz,fun j t ht=>by
    rw [Tryz.params7] at ht
    have hm:t∈[22]:=by simpa using Array.mem_of_getElem? ht
    have hall:([22].all fun u=>!Tryz.prog.wantsStandIn u)=true:=by kernel_rfl
    exact (show Tryz.prog.wantsStandIn t=false by simpa using cI.1 hall t hm)⟩)
  eventcodeDecode.goes
#print axioms eventcodeDecode_holds
