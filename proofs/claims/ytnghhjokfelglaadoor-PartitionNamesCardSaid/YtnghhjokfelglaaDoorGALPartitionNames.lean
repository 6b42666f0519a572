import Derived.Test.YtnghhjokfelglaaDoorAbs29
import Derived.Test.YtnghhjokfelglaaDoorGAF0
namespace Go.Proofs.YtnghhjokfelglaaDoor
open Go Abs
set_option maxRecDepth 100000
set_option linter.unusedVariables false
set_option linter.unusedSimpArgs false
theorem PartitionNames_law_of (pure_ : ∀ (x0 : (List UInt8)) (x1 : Int), (okS x0) → (okI x1) → law39xPartitionNames x0 x1 = some true) {p0 : PV} {n0 : Nat} (s0 : Shaped Tryd.prog n0 9 [p0]) {p1 : PV} {n1 : Nat} (s1 : Shaped Tryd.prog n1 3 [p1]) : ACalls Tryd.prog 4 [.c p0, .c p1] [] (.c (.bool true)) [] := by
  obtain ⟨x0, e0, k0⟩ := (sh_str ti9 s0)
  cases e0
  obtain ⟨x1, e1, k1⟩ := (sh_i64 tk3 s1)
  cases e1
  exact w_law39xPartitionNames (pure_ x0 x1 k0 k1)
end Go.Proofs.YtnghhjokfelglaaDoor
