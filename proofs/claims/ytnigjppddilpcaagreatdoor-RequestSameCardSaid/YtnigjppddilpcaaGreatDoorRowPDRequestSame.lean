/- The law RequestSame: the row of its second form. -/
import Derived.Test.YtnigjppddilpcaaGreatDoorRowPBRequestSame
import Derived.Test.YtnigjppddilpcaaGreatDoorRowPCRequestSame
namespace Go.Proofs.YtnigjppddilpcaaGreatDoor.requestSame
open Go.ChangeShapes Go.WideShapes Go.ChangeAt Go.RowKit Go.Proofs.YtnigjppddilpcaaGreatDoor.Abs
set_option linter.unusedVariables false
theorem over:Rows.requestSameRow.holds Tryz.pinned (OpenSpec.ofChange Rows.requestSameSpec) :=
 OpenClaim.holds_of_cond 12 Tryz.f12 rfl rfl rfl rfl rfl rfl rfl ⟨rfl,rfl,rfl,rfl,rfl⟩ rfl rfl rfl rfl rfl (by kernel_rfl) Tryz.func12 closed
  (eY (by kernel_rfl)) (by unfold Func.isWrapper;first | (rw [aQ (by decide +kernel)];kernel_rfl) | (rw [aN (by decide +kernel)];exact ⟨rfl,rfl⟩))
  (fun os started H enc _ F=>by rw [OpenClaim.pre_eq_preRow];exact aRl os started H enc F)
