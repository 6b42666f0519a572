import Derived.Test.YtngcjjhbimanlaaDoorGASh
import Derived.Test.YtngcjjhbimanlaaDoorGAF5
namespace Go.Proofs.YtngcjjhbimanlaaDoor
open Go Abs
set_option maxRecDepth 100000
set_option linter.unusedVariables false
set_option linter.unusedSimpArgs false
theorem EventSame_law_of (pure_ : ∀ (x0 : ApiEvent) (x1 : ApiEvent), (okApiEvent x0) → (okApiEvent x1) → law22xEventSame x0 x1 = some true) {p0 : List PV} {n0 : Nat} (s0 : Shaped Tryd.prog n0 31 p0) {p1 : List PV} {n1 : Nat} (s1 : Shaped Tryd.prog n1 31 p1) : ACalls Tryd.prog 4 [.agg (p0.map AV.c), .agg (p1.map AV.c)] [] (.c (.bool true)) [] := by
  obtain ⟨x0, e0, k0⟩ := (sh_ApiEvent _ _ s0)
  subst e0
  obtain ⟨x1, e1, k1⟩ := (sh_ApiEvent _ _ s1)
  subst e1
  exact w_law22xEventSame (pure_ x0 x1 k0 k1)
end Go.Proofs.YtngcjjhbimanlaaDoor
