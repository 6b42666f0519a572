import Derived.Test.YtnghhjokfelglaaDoorAbs29
import Derived.Test.YtnghhjokfelglaaDoorGAF1
namespace Go.Proofs.YtnghhjokfelglaaDoor
open Go Abs
set_option maxRecDepth 100000
set_option linter.unusedVariables false
set_option linter.unusedSimpArgs false
theorem PartitionTree_law_of (pure_ : ∀ (x0 : (List UInt8)) (x1 : Int) (x2 : Int) (x3 : Int), (okS x0) → (okI x1) → (okI x2) → (okI x3) → law39xPartitionTree x0 x1 x2 x3 = some true) {p0 : PV} {n0 : Nat} (s0 : Shaped Tryd.prog n0 9 [p0]) {p1 : PV} {n1 : Nat} (s1 : Shaped Tryd.prog n1 3 [p1]) {p2 : PV} {n2 : Nat} (s2 : Shaped Tryd.prog n2 3 [p2]) {p3 : PV} {n3 : Nat} (s3 : Shaped Tryd.prog n3 3 [p3]) : ACalls Tryd.prog 5 [.c p0, .c p1, .c p2, .c p3] [] (.c (.bool true)) [] := by
  obtain ⟨x0, e0, k0⟩ := (sh_str ti9 s0)
  cases e0
  obtain ⟨x1, e1, k1⟩ := (sh_i64 tk3 s1)
  cases e1
  obtain ⟨x2, e2, k2⟩ := (sh_i64 tk3 s2)
  cases e2
  obtain ⟨x3, e3, k3⟩ := (sh_i64 tk3 s3)
  cases e3
  exact w_law39xPartitionTree (pure_ x0 x1 x2 x3 k0 k1 k2 k3)
end Go.Proofs.YtnghhjokfelglaaDoor
