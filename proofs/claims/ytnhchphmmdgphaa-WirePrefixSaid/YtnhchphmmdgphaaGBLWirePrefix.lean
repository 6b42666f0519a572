import Derived.Test.YtnhchphmmdgphaaGBSh
import Derived.Test.YtnhchphmmdgphaaGBF0
namespace Go.Proofs.Ytnhchphmmdgphaa
open Go Abs
set_option maxRecDepth 100000
set_option linter.unusedVariables false
set_option linter.unusedSimpArgs false
theorem WirePrefix_law_of (pure_ : ∀ (x0 : Int) (x1 : Int), (okI x0) → (okI x1) → law01xWirePrefix x0 x1 = some true) {p0 : PV} {n0 : Nat} (s0 : Shaped Try.prog n0 3 [p0]) {p1 : PV} {n1 : Nat} (s1 : Shaped Try.prog n1 3 [p1]) : ACalls Try.prog 3 [.c p0, .c p1] [] (.c (.bool true)) [] := by
  obtain ⟨x0, e0, k0⟩ := (sh_i64 tk3 s0)
  cases e0
  obtain ⟨x1, e1, k1⟩ := (sh_i64 tk3 s1)
  cases e1
  exact w_law01xWirePrefix (pure_ x0 x1 k0 k1)
end Go.Proofs.Ytnhchphmmdgphaa
