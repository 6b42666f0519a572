/- The law RequestDecodes: the row of its second form. -/
import Derived.Test.YtnigjppddilpcaaGreatDoorRowPBRequestDecodes
import Derived.Test.YtnigjppddilpcaaGreatDoorRowPCRequestDecodes
namespace Go.Proofs.YtnigjppddilpcaaGreatDoor.requestDecodes
open Go.ChangeShapes Go.WideShapes Go.ChangeAt Go.RowKit Go.Proofs.YtnigjppddilpcaaGreatDoor.Abs
set_option linter.unusedVariables false
theorem over:Rows.requestDecodesRow.holds Tryz.pinned (OpenSpec.ofChange Rows.requestDecodesSpec) :=
 OpenClaim.holds_of_cond 13 Tryz.f13 rfl rfl rfl rfl rfl rfl rfl ⟨rfl,rfl,rfl,rfl,rfl⟩ rfl rfl rfl rfl rfl (by kernel_rfl) Tryz.func13 closed
  (gR (by kernel_rfl)) (by unfold Func.isWrapper;first | (rw [bH (by decide +kernel)];kernel_rfl) | (rw [bE (by decide +kernel)];exact ⟨rfl,rfl⟩))
  (fun os started H enc _ F=>by rw [OpenClaim.pre_eq_preRow];exact aTo os started H enc F)
