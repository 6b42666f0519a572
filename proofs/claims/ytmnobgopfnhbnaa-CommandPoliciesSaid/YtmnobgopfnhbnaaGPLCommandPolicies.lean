import Derived.Test.YtmnobgopfnhbnaaGPSh
import Derived.Test.YtmnobgopfnhbnaaGPF7
namespace Go.Proofs.Ytmnobgopfnhbnaa
open Go Abs
set_option maxRecDepth 100000
set_option linter.unusedVariables false
set_option linter.unusedSimpArgs false
theorem CommandPolicies_law_of (pure_ : ∀ (x0 : ApiValue), (okApiValue x0) → law20xCommandPolicies x0 = some true) {p0 : List PV} {n0 : Nat} (s0 : Shaped Try.prog n0 25 p0) : ACalls Try.prog 4 [.agg (p0.map AV.c)] [] (.c (.bool true)) [] := by
  obtain ⟨x0, e0, k0⟩ := (sh_ApiValue _ _ s0)
  subst e0
  exact w_law20xCommandPolicies (pure_ x0 k0)
end Go.Proofs.Ytmnobgopfnhbnaa
