import Derived.Test.YtopijeegnhighaaDoorGASh
import Derived.Test.YtopijeegnhighaaDoorGAF2
namespace Go.Proofs.YtopijeegnhighaaDoor
open Go Abs
set_option maxRecDepth 100000
set_option linter.unusedVariables false
set_option linter.unusedSimpArgs false
theorem ChildrenReports_law_of (pure_ : ∀ (x0 : ApiRun) (x1 : Int), (okApiRun x0) → (okI x1) → law45xChildrenReports x0 x1 = some true) {p0 : List PV} {n0 : Nat} (s0 : Shaped Tryd.prog n0 37 p0) {p1 : PV} {n1 : Nat} (s1 : Shaped Tryd.prog n1 3 [p1]) : ACalls Tryd.prog 3 [.agg (p0.map AV.c), .c p1] [] (.c (.bool true)) [] := by
  obtain ⟨x0, e0, k0⟩ := (sh_ApiRun _ _ s0)
  subst e0
  obtain ⟨x1, e1, k1⟩ := (sh_i64 tk3 s1)
  cases e1
  exact w_law45xChildrenReports (pure_ x0 x1 k0 k1)
end Go.Proofs.YtopijeegnhighaaDoor
