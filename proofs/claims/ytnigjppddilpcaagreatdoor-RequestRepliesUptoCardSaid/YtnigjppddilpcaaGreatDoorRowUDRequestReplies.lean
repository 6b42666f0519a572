/- The law RequestReplies: the row of its second form. -/
import Derived.Test.YtnigjppddilpcaaGreatDoorRowUBRequestReplies
import Derived.Test.YtnigjppddilpcaaGreatDoorRowUCRequestReplies
namespace Go.Proofs.YtnigjppddilpcaaGreatDoor.requestReplies
open Go.ChangeShapes Go.WideShapes Go.ChangeAt Go.RowKit Go.Proofs.YtnigjppddilpcaaGreatDoor.Abs
set_option linter.unusedVariables false
theorem over:Rows.requestRepliesUptoRow.holds Tryz.pinned (Rows.OpenSpec.upto Rows.requestRepliesSpec) :=
 OpenClaim.holds_of_cond 14 Tryz.f14 rfl rfl rfl rfl rfl rfl rfl ⟨rfl,rfl,rfl,rfl,rfl⟩ rfl rfl rfl rfl rfl (by kernel_rfl) Tryz.func14 closed
  (gE (by kernel_rfl)) (by unfold Func.isWrapper;first | (rw [bB (by decide +kernel)];kernel_rfl) | (rw [aY (by decide +kernel)];exact ⟨rfl,rfl⟩))
  (fun os started H enc _ F=>by rw [OpenClaim.pre_eq_preRow];exact aUK os started H enc F)
