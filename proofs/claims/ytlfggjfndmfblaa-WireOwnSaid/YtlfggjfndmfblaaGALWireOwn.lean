import Derived.Test.YtlfggjfndmfblaaAbs29
import Derived.Test.YtlfggjfndmfblaaGAF1
namespace Go.Proofs.Ytlfggjfndmfblaa
open Go Abs
set_option maxRecDepth 100000
set_option linter.unusedVariables false
set_option linter.unusedSimpArgs false
theorem WireOwn_law_of (pure_ : ∀ (x0 : (List UInt8)) (x1 : Int), (okLs 1 (fun _ => True) x0) → (okI x1) → law01xWireOwn x0 x1 = some true) {p0 : PV} {n0 : Nat} (s0 : Shaped Try.prog n0 22 [p0]) {p1 : PV} {n1 : Nat} (s1 : Shaped Try.prog n1 3 [p1]) : ACalls Try.prog 3 [.c p0, .c p1] [] (.c (.bool true)) [] := by
  obtain ⟨x0, e0, k0⟩ := (sh_sl (row := brow) (ok := (fun _ => True)) sl22 by5 s0 (fun m22 hm22 qs h22 => (sh_u8 tk5 h22)))
  cases e0
  obtain ⟨x1, e1, k1⟩ := (sh_i64 tk3 s1)
  cases e1
  exact w_law01xWireOwn (pure_ x0 x1 k0 k1)
end Go.Proofs.Ytlfggjfndmfblaa
