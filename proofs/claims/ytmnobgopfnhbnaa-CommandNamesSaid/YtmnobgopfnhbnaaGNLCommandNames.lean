import Derived.Test.YtmnobgopfnhbnaaGNSh
import Derived.Test.YtmnobgopfnhbnaaGNF6
namespace Go.Proofs.Ytmnobgopfnhbnaa
open Go Abs
set_option maxRecDepth 100000
set_option linter.unusedVariables false
set_option linter.unusedSimpArgs false
theorem CommandNames_law_of (pure_ : ∀ (x0 : Int), (okI x0) → law20xCommandNames x0 = some true) {p0 : PV} {n0 : Nat} (s0 : Shaped Try.prog n0 3 [p0]) : ACalls Try.prog 9 [.c p0] [] (.c (.bool true)) [] := by
  obtain ⟨x0, e0, k0⟩ := (sh_i64 tk3 s0)
  cases e0
  exact w_law20xCommandNames (pure_ x0 k0)
end Go.Proofs.Ytmnobgopfnhbnaa
