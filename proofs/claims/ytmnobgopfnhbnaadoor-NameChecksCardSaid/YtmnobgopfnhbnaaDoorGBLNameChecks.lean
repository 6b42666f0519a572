import Derived.Test.YtmnobgopfnhbnaaDoorAbs29
import Derived.Test.YtmnobgopfnhbnaaDoorGBF0
namespace Go.Proofs.YtmnobgopfnhbnaaDoor
open Go Abs
set_option maxRecDepth 100000
set_option linter.unusedVariables false
set_option linter.unusedSimpArgs false
theorem NameChecks_law_of (pure_ : ∀ (x0 : (List UInt8)), (okS x0) → law06xNameChecks x0 = some true) {p0 : PV} {n0 : Nat} (s0 : Shaped Tryd.prog n0 9 [p0]) : ACalls Tryd.prog 3 [.c p0] [] (.c (.bool true)) [] := by
  obtain ⟨x0, e0, k0⟩ := (sh_str ti9 s0)
  cases e0
  exact w_law06xNameChecks (pure_ x0 k0)
end Go.Proofs.YtmnobgopfnhbnaaDoor
