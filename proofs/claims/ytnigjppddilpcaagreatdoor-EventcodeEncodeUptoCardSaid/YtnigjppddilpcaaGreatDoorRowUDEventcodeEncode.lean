/- The law EventcodeEncode: the row of its second form. -/
import Derived.Test.YtnigjppddilpcaaGreatDoorRowUBEventcodeEncode
import Derived.Test.YtnigjppddilpcaaGreatDoorRowUCEventcodeEncode
namespace Go.Proofs.YtnigjppddilpcaaGreatDoor.eventcodeEncode
open Go.ChangeShapes Go.WideShapes Go.ChangeAt Go.RowKit Go.Proofs.YtnigjppddilpcaaGreatDoor.Abs
set_option linter.unusedVariables false
theorem over:Rows.eventcodeEncodeUptoRow.holds Tryz.pinned (Rows.OpenSpec.upto Rows.eventcodeEncodeSpec) :=
 OpenClaim.holds_of_cond 3 Tryz.f3 r r r r r r r ⟨r,r,r,r,r⟩ r r r r r (by kernel_rfl) Tryz.func3 closed
  (of_decide_eq_true (by kernel_rfl)) (by unfold Func.isWrapper;first | (rw [if_pos (by decide +kernel)];kernel_rfl) | (rw [if_neg (by decide +kernel)];exact ⟨r,r⟩))
  (fun os started H enc _ F=>by rw [OpenClaim.pre_eq_preRow];exact aFe os started H enc F)
end Go.Proofs.YtnigjppddilpcaaGreatDoor.eventcodeEncode
