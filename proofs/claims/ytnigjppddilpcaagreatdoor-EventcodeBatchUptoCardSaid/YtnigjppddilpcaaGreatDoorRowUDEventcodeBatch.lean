/- The law EventcodeBatch: the row of its second form. -/
import Derived.Test.YtnigjppddilpcaaGreatDoorRowUBEventcodeBatch
import Derived.Test.YtnigjppddilpcaaGreatDoorRowUCEventcodeBatch
namespace Go.Proofs.YtnigjppddilpcaaGreatDoor.eventcodeBatch
open Go.ChangeShapes Go.WideShapes Go.ChangeAt Go.RowKit Go.Proofs.YtnigjppddilpcaaGreatDoor.Abs
set_option linter.unusedVariables false
theorem over:Rows.eventcodeBatchUptoRow.holds Tryz.pinned (Rows.OpenSpec.upto Rows.eventcodeBatchSpec) :=
 OpenClaim.holds_of_cond 4 Tryz.f4 r r r r r r r ⟨r,r,r,r,r⟩ r r r r r (by kernel_rfl) Tryz.func4 closed
  (of_decide_eq_true (by kernel_rfl)) (by unfold Func.isWrapper;first | (rw [if_pos (by decide +kernel)];kernel_rfl) | (rw [if_neg (by decide +kernel)];exact ⟨r,r⟩))
  (fun os started H enc _ F=>by rw [OpenClaim.pre_eq_preRow];exact aFe os started H enc F)
end Go.Proofs.YtnigjppddilpcaaGreatDoor.eventcodeBatch
