import Derived.Test.YtnhchphmmdgphaaGBSh
import Derived.Test.YtnhchphmmdgphaaGBF1
namespace Go.Proofs.Ytnhchphmmdgphaa
open Go Abs
set_option maxRecDepth 100000
set_option linter.unusedVariables false
set_option linter.unusedSimpArgs false
theorem WireRange_law_of (pure_ : ∀ (x0 : Int) (x1 : Int) (x2 : Int), (okI x0) → (okI x1) → (okI x2) → law01xWireRange x0 x1 x2 = some true) {p0 : PV} {n0 : Nat} (s0 : Shaped Try.prog n0 3 [p0]) {p1 : PV} {n1 : Nat} (s1 : Shaped Try.prog n1 3 [p1]) {p2 : PV} {n2 : Nat} (s2 : Shaped Try.prog n2 3 [p2]) : ACalls Try.prog 4 [.c p0, .c p1, .c p2] [] (.c (.bool true)) [] := by
  obtain ⟨x0, e0, k0⟩ := (sh_i64 tk3 s0)
  cases e0
  obtain ⟨x1, e1, k1⟩ := (sh_i64 tk3 s1)
  cases e1
  obtain ⟨x2, e2, k2⟩ := (sh_i64 tk3 s2)
  cases e2
  exact w_law01xWireRange (pure_ x0 x1 x2 k0 k1 k2)
end Go.Proofs.Ytnhchphmmdgphaa
