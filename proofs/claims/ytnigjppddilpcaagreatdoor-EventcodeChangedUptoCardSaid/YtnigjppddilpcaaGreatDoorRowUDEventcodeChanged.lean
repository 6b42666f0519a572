/- The law EventcodeChanged: the row of its second form. -/
import Derived.Test.YtnigjppddilpcaaGreatDoorRowUBEventcodeChanged
import Derived.Test.YtnigjppddilpcaaGreatDoorRowUCEventcodeChanged
namespace Go.Proofs.YtnigjppddilpcaaGreatDoor.eventcodeChanged
open Go.ChangeShapes Go.WideShapes Go.ChangeAt Go.RowKit Go.Proofs.YtnigjppddilpcaaGreatDoor.Abs
set_option linter.unusedVariables false
theorem over:Rows.eventcodeChangedUptoRow.holds Tryz.pinned (Rows.OpenSpec.upto Rows.eventcodeChangedSpec) :=
 OpenClaim.holds_of_cond 6 Tryz.f6 r r r r r r r ⟨r,r,r,r,r⟩ r r r r r (by kernel_rfl) Tryz.func6 closed
  (of_decide_eq_true (by kernel_rfl)) (by unfold Func.isWrapper;first | (rw [if_pos (by decide +kernel)];kernel_rfl) | (rw [if_neg (by decide +kernel)];exact ⟨r,r⟩))
  (fun os started H enc _ F=>by rw [OpenClaim.pre_eq_preRow];exact aMf os started H enc F)
end Go.Proofs.YtnigjppddilpcaaGreatDoor.eventcodeChanged
