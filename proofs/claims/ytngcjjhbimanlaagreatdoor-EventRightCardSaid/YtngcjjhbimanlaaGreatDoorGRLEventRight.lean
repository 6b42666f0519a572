import Derived.Test.YtngcjjhbimanlaaGreatDoorGRSh
import Derived.Test.YtngcjjhbimanlaaGreatDoorGRF8
namespace Go.Proofs.YtngcjjhbimanlaaGreatDoor
open Go Abs
set_option maxRecDepth 100000
set_option linter.unusedVariables false
set_option linter.unusedSimpArgs false
theorem EventRight_law_of (pure_ : ∀ (x0 : ApiEvent), (okApiEvent x0) → law22xEventRight x0 = some true) {p0 : List PV} {n0 : Nat} (s0 : Shaped Tryz.prog n0 29 p0) : ACalls Tryz.prog 3 [.agg (p0.map AV.c)] [] (.c (.bool true)) [] := by
  obtain ⟨x0, e0, k0⟩ := (sh_ApiEvent _ _ s0)
  subst e0
  exact w_law22xEventRight (pure_ x0 k0)
end Go.Proofs.YtngcjjhbimanlaaGreatDoor
