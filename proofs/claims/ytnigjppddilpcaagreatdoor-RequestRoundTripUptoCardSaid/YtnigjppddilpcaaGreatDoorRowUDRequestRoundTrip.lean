/- The law RequestRoundTrip: the row of its second form. -/
import Derived.Test.YtnigjppddilpcaaGreatDoorRowUBRequestRoundTrip
import Derived.Test.YtnigjppddilpcaaGreatDoorRowUCRequestRoundTrip
namespace Go.Proofs.YtnigjppddilpcaaGreatDoor.requestRoundTrip
open Go.ChangeShapes Go.WideShapes Go.ChangeAt Go.RowKit Go.Proofs.YtnigjppddilpcaaGreatDoor.Abs
set_option linter.unusedVariables false
theorem over:Rows.requestRoundTripUptoRow.holds Tryz.pinned (Rows.OpenSpec.upto Rows.requestRoundTripSpec) :=
 OpenClaim.holds_of_cond 10 Tryz.f10 rfl rfl rfl rfl rfl rfl rfl ⟨rfl,rfl,rfl,rfl,rfl⟩ rfl rfl rfl rfl rfl (by kernel_rfl) Tryz.func10 closed
  (of_decide_eq_true (by kernel_rfl)) (by unfold Func.isWrapper;first | (rw [if_pos (by decide +kernel)];kernel_rfl) | (rw [if_neg (by decide +kernel)];exact ⟨rfl,rfl⟩))
  (fun os started H enc _ F=>by rw [OpenClaim.pre_eq_preRow];exact aPD os started H enc F)
end Go.Proofs.YtnigjppddilpcaaGreatDoor.requestRoundTrip
