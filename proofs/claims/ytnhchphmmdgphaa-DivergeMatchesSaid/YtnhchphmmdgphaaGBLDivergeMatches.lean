import Derived.Test.YtnhchphmmdgphaaGBSh
import Derived.Test.YtnhchphmmdgphaaGBF3
namespace Go.Proofs.Ytnhchphmmdgphaa
open Go Abs
set_option maxRecDepth 100000
set_option linter.unusedVariables false
set_option linter.unusedSimpArgs false
theorem DivergeMatches_law_of (pure_ : ∀ (x0 : ApiCommand) (x1 : ApiEvent), (okApiCommand x0) → (okApiEvent x1) → law27xDivergeMatches x0 x1 = some true) {p0 : List PV} {n0 : Nat} (s0 : Shaped Try.prog n0 44 p0) {p1 : List PV} {n1 : Nat} (s1 : Shaped Try.prog n1 46 p1) : ACalls Try.prog 6 [.agg (p0.map AV.c), .agg (p1.map AV.c)] [] (.c (.bool true)) [] := by
  obtain ⟨x0, e0, k0⟩ := (sh_ApiCommand _ _ s0)
  subst e0
  obtain ⟨x1, e1, k1⟩ := (sh_ApiEvent _ _ s1)
  subst e1
  exact w_law27xDivergeMatches (pure_ x0 x1 k0 k1)
end Go.Proofs.Ytnhchphmmdgphaa
