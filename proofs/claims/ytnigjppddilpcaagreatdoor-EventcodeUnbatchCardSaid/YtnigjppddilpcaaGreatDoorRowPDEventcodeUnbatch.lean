/- The law EventcodeUnbatch: the row of its second form. -/
import Derived.Test.YtnigjppddilpcaaGreatDoorRowPBEventcodeUnbatch
import Derived.Test.YtnigjppddilpcaaGreatDoorRowPCEventcodeUnbatch
namespace Go.Proofs.YtnigjppddilpcaaGreatDoor.eventcodeUnbatch
open Go.ChangeShapes Go.WideShapes Go.ChangeAt Go.RowKit Go.Proofs.YtnigjppddilpcaaGreatDoor.Abs
set_option linter.unusedVariables false
theorem over:Rows.eventcodeUnbatchRow.holds Tryz.pinned (OpenSpec.ofChange Rows.eventcodeUnbatchSpec) :=
 OpenClaim.holds_of_cond 5 Tryz.f5 r r r r r r r ⟨r,r,r,r,r⟩ r r r r r (by kernel_rfl) Tryz.func5 closed
  (fN (by kernel_rfl)) (by unfold Func.isWrapper;first | (rw [aT (by decide +kernel)];kernel_rfl) | (rw [aQ (by decide +kernel)];exact ⟨r,r⟩))
  (fun os started H enc _ F=>by rw [OpenClaim.pre_eq_preRow];exact aOd os started H enc F)
