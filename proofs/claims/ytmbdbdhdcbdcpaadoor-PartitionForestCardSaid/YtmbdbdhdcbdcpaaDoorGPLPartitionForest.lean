import Derived.Test.YtmbdbdhdcbdcpaaDoorAbs29
import Derived.Test.YtmbdbdhdcbdcpaaDoorGPF0
namespace Go.Proofs.YtmbdbdhdcbdcpaaDoor
open Go Abs
set_option maxRecDepth 100000
set_option linter.unusedVariables false
set_option linter.unusedSimpArgs false
theorem PartitionForest_law_of (pure_ : ∀ (x0 : (List UInt8)) (x1 : Int) (x2 : Int), (okS x0) → (okI x1) → (okI x2) → law39xPartitionForest x0 x1 x2 = some true) {p0 : PV} {n0 : Nat} (s0 : Shaped Tryd.prog n0 9 [p0]) {p1 : PV} {n1 : Nat} (s1 : Shaped Tryd.prog n1 3 [p1]) {p2 : PV} {n2 : Nat} (s2 : Shaped Tryd.prog n2 3 [p2]) : ACalls Tryd.prog 4 [.c p0, .c p1, .c p2] [] (.c (.bool true)) [] := by
  obtain ⟨x0, e0, k0⟩ := (sh_str ti9 s0)
  cases e0
  obtain ⟨x1, e1, k1⟩ := (sh_i64 tk3 s1)
  cases e1
  obtain ⟨x2, e2, k2⟩ := (sh_i64 tk3 s2)
  cases e2
  exact w_law39xPartitionForest (pure_ x0 x1 x2 k0 k1 k2)
end Go.Proofs.YtmbdbdhdcbdcpaaDoor
