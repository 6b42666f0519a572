import Derived.Test.YtmnobgopfnhbnaaDoorAbs29
import Derived.Test.YtmnobgopfnhbnaaDoorGBF0
namespace Go.Proofs.YtmnobgopfnhbnaaDoor
open Go Abs
set_option maxRecDepth 100000
set_option linter.unusedVariables false
set_option linter.unusedSimpArgs false
theorem NameGrows_law_of (pure_ : ∀ (x0 : (List UInt8)) (x1 : Int), (okS x0) → (okW .u8 x1) → law06xNameGrows x0 x1 = some true) {p0 : PV} {n0 : Nat} (s0 : Shaped Tryd.prog n0 9 [p0]) {p1 : PV} {n1 : Nat} (s1 : Shaped Tryd.prog n1 5 [p1]) : ACalls Tryd.prog 6 [.c p0, .c p1] [] (.c (.bool true)) [] := by
  obtain ⟨x0, e0, k0⟩ := (sh_str ti9 s0)
  cases e0
  obtain ⟨x1, e1, k1⟩ := (sh_int tk5 s1)
  cases e1
  exact w_law06xNameGrows (pure_ x0 x1 k0 k1)
end Go.Proofs.YtmnobgopfnhbnaaDoor
