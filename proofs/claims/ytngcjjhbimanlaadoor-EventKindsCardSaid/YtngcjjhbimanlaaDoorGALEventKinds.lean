import Derived.Test.YtngcjjhbimanlaaDoorGASh
import Derived.Test.YtngcjjhbimanlaaDoorGAF5
namespace Go.Proofs.YtngcjjhbimanlaaDoor
open Go Abs
set_option maxRecDepth 100000
set_option linter.unusedVariables false
set_option linter.unusedSimpArgs false
theorem EventKinds_law_of (pure_ : ∀ (x0 : Int) (x1 : (List UInt8)), (okI x0) → (okS x1) → law22xEventKinds x0 x1 = some true) {p0 : PV} {n0 : Nat} (s0 : Shaped Tryd.prog n0 3 [p0]) {p1 : PV} {n1 : Nat} (s1 : Shaped Tryd.prog n1 9 [p1]) : ACalls Tryd.prog 5 [.c p0, .c p1] [] (.c (.bool true)) [] := by
  obtain ⟨x0, e0, k0⟩ := (sh_i64 tk3 s0)
  cases e0
  obtain ⟨x1, e1, k1⟩ := (sh_str ti9 s1)
  cases e1
  exact w_law22xEventKinds (pure_ x0 x1 k0 k1)
end Go.Proofs.YtngcjjhbimanlaaDoor
