import Derived.Test.YtmnobgopfnhbnaaGRSh
import Derived.Test.YtmnobgopfnhbnaaGRF7
namespace Go.Proofs.Ytmnobgopfnhbnaa
open Go Abs
set_option maxRecDepth 100000
set_option linter.unusedVariables false
set_option linter.unusedSimpArgs false
theorem CommandRight_law_of (pure_ : ∀ (x0 : ApiCommand), (okApiCommand x0) → law20xCommandRight x0 = some true) {p0 : List PV} {n0 : Nat} (s0 : Shaped Try.prog n0 29 p0) : ACalls Try.prog 3 [.agg (p0.map AV.c)] [] (.c (.bool true)) [] := by
  obtain ⟨x0, e0, k0⟩ := (sh_ApiCommand _ _ s0)
  subst e0
  exact w_law20xCommandRight (pure_ x0 k0)
end Go.Proofs.Ytmnobgopfnhbnaa
