/- The law RequestRight: the row of its second form. -/
import Derived.Test.YtnigjppddilpcaaGreatDoorRowPBRequestRight
import Derived.Test.YtnigjppddilpcaaGreatDoorRowPCRequestRight
namespace Go.Proofs.YtnigjppddilpcaaGreatDoor.requestRight
open Go.ChangeShapes Go.WideShapes Go.ChangeAt Go.RowKit Go.Proofs.YtnigjppddilpcaaGreatDoor.Abs
set_option linter.unusedVariables false
theorem over:Rows.requestRightRow.holds Tryz.pinned (OpenSpec.ofChange Rows.requestRightSpec) :=
 OpenClaim.holds_of_cond 11 Tryz.f11 rfl rfl rfl rfl rfl rfl rfl ⟨rfl,rfl,rfl,rfl,rfl⟩ rfl rfl rfl rfl rfl (by kernel_rfl) Tryz.func11 closed
  (of_decide_eq_true (by kernel_rfl)) (by unfold Func.isWrapper;first | (rw [if_pos (by decide +kernel)];kernel_rfl) | (rw [if_neg (by decide +kernel)];exact ⟨rfl,rfl⟩))
  (fun os started H enc _ F=>by rw [OpenClaim.pre_eq_preRow];exact aJ3 os started H enc F)
end Go.Proofs.YtnigjppddilpcaaGreatDoor.requestRight
