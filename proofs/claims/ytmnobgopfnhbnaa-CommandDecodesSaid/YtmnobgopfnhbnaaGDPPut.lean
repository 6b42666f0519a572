/- The writers of layer 1 and of its reference, plainly. -/
import Derived.Test.YtmnobgopfnhbnaaGDPLoop
import Derived.Test.YtmnobgopfnhbnaaGDF5
import Derived.Test.YtmnobgopfnhbnaaGDF10
namespace Go.Proofs.Ytmnobgopfnhbnaa
open Go Abs
set_option linter.unusedSimpArgs false
set_option linter.unusedVariables false
theorem clone_bytes {xs : List UInt8} (h : xs.length ≤ 140737488355328) : slices_Clone_byte_byte xs = some xs := by
  rw [slices_Clone_byte_byte, app_ok (by simpa using h)]; simp
end Go.Proofs.Ytmnobgopfnhbnaa
