/- Layer 20: right, same. -/
import Derived.Test.YtmnobgopfnhbnaaGRPCmd3
import Derived.Test.YtmnobgopfnhbnaaGREvWorks20
import Derived.Test.YtmnobgopfnhbnaaGRF7
namespace Go.Proofs.Ytmnobgopfnhbnaa
open Go Abs
set_option linter.unusedSimpArgs false
set_option linter.unusedVariables false

theorem CommandRight_pure {c : ApiCommand} (h : okApiCommand c) : law20xCommandRight c = some true := by
  unfold law20xCommandRight
  rw [Small_eq h, works20_eq]
  cases small c
  · rfl
  · simp [command_Right_eq h, ref20Right_eq h, RightPolicy_eq h.2.2.2.2.2.2, refRightPolicy_eq h.2.2.2.2.2.2, gd]
end Go.Proofs.Ytmnobgopfnhbnaa
