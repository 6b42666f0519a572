/- The law EventcodeDecode: the row of its second form. -/
import Derived.Test.YtnigjppddilpcaaGreatDoorRowPBEventcodeDecode
import Derived.Test.YtnigjppddilpcaaGreatDoorRowPCEventcodeDecode
namespace Go.Proofs.YtnigjppddilpcaaGreatDoor.eventcodeDecode
open Go.ChangeShapes Go.WideShapes Go.ChangeAt Go.RowKit Go.Proofs.YtnigjppddilpcaaGreatDoor.Abs
set_option linter.unusedVariables false
theorem over:Rows.eventcodeDecodeRow.holds Tryz.pinned (OpenSpec.ofChange Rows.eventcodeDecodeSpec) :=
 OpenClaim.holds_of_cond 7 Tryz.f7 r r r r r r r ⟨r,r,r,r,r⟩ r r r r r (by kernel_rfl) Tryz.func7 closed
  (fN (by kernel_rfl)) (by unfold Func.isWrapper;first | (rw [aT (by decide +kernel)];kernel_rfl) | (rw [aQ (by decide +kernel)];exact ⟨r,r⟩))
  (fun os started H enc _ F=>by rw [OpenClaim.pre_eq_preRow];exact aOd os started H enc F)
