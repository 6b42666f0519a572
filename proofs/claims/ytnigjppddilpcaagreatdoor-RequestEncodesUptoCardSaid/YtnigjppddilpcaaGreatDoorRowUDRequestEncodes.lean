/- The law RequestEncodes: the row of its second form. -/
import Derived.Test.YtnigjppddilpcaaGreatDoorRowUBRequestEncodes
import Derived.Test.YtnigjppddilpcaaGreatDoorRowUCRequestEncodes
namespace Go.Proofs.YtnigjppddilpcaaGreatDoor.requestEncodes
open Go.ChangeShapes Go.WideShapes Go.ChangeAt Go.RowKit Go.Proofs.YtnigjppddilpcaaGreatDoor.Abs
set_option linter.unusedVariables false
theorem over:Rows.requestEncodesUptoRow.holds Tryz.pinned (Rows.OpenSpec.upto Rows.requestEncodesSpec) :=
 OpenClaim.holds_of_cond 9 Tryz.f9 rfl rfl rfl rfl rfl rfl rfl ⟨rfl,rfl,rfl,rfl,rfl⟩ rfl rfl rfl rfl rfl (by kernel_rfl) Tryz.func9 closed
  (of_decide_eq_true (by kernel_rfl)) (by unfold Func.isWrapper;first | (rw [if_pos (by decide +kernel)];kernel_rfl) | (rw [if_neg (by decide +kernel)];exact ⟨rfl,rfl⟩))
  (fun os started H enc _ F=>by rw [OpenClaim.pre_eq_preRow];exact aJ3 os started H enc F)
end Go.Proofs.YtnigjppddilpcaaGreatDoor.requestEncodes
