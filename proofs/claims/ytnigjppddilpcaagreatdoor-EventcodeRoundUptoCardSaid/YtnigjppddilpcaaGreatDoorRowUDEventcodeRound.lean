/- The law EventcodeRound: the row of its second form. -/
import Derived.Test.YtnigjppddilpcaaGreatDoorRowUBEventcodeRound
import Derived.Test.YtnigjppddilpcaaGreatDoorRowUCEventcodeRound
namespace Go.Proofs.YtnigjppddilpcaaGreatDoor.eventcodeRound
open Go.ChangeShapes Go.WideShapes Go.ChangeAt Go.RowKit Go.Proofs.YtnigjppddilpcaaGreatDoor.Abs
set_option linter.unusedVariables false
theorem over:Rows.eventcodeRoundUptoRow.holds Tryz.pinned (Rows.OpenSpec.upto Rows.eventcodeRoundSpec) :=
 OpenClaim.holds_of_cond 8 Tryz.f8 r r r r r r r ⟨r,r,r,r,r⟩ r r r r r (by kernel_rfl) Tryz.func8 closed
  (of_decide_eq_true (by kernel_rfl)) (by unfold Func.isWrapper;first | (rw [if_pos (by decide +kernel)];kernel_rfl) | (rw [if_neg (by decide +kernel)];exact ⟨r,r⟩))
  (fun os started H enc _ F=>by rw [OpenClaim.pre_eq_preRow];exact aFe os started H enc F)
end Go.Proofs.YtnigjppddilpcaaGreatDoor.eventcodeRound
