import Derived.Test.YtnhchphmmdgphaaGBSh
import Derived.Test.YtnhchphmmdgphaaGBF5
namespace Go.Proofs.Ytnhchphmmdgphaa
open Go Abs
set_option maxRecDepth 100000
set_option linter.unusedVariables false
set_option linter.unusedSimpArgs false
theorem WireRound_law_of (pure_ : ∀ (x0 : Int) (x1 : (List UInt8)) (x2 : Bool) (x3 : (List UInt8)), (okI x0) → (okS x1) → (True) → (okLs (fun _ => True) x3) → law01xWireRound x0 x1 x2 x3 = some true) {p0 : PV} {n0 : Nat} (s0 : Shaped Try.prog n0 3 [p0]) {p1 : PV} {n1 : Nat} (s1 : Shaped Try.prog n1 9 [p1]) {p2 : PV} {n2 : Nat} (s2 : Shaped Try.prog n2 4 [p2]) {p3 : PV} {n3 : Nat} (s3 : Shaped Try.prog n3 22 [p3]) : ACalls Try.prog 10 [.c p0, .c p1, .c p2, .c p3] [] (.c (.bool true)) [] := by
  obtain ⟨x0, e0, k0⟩ := (sh_i64 tk3 s0)
  cases e0
  obtain ⟨x1, e1, k1⟩ := (sh_str ti9 s1)
  cases e1
  obtain ⟨x2, e2, k2⟩ := (sh_bool ti4 s2)
  cases e2
  obtain ⟨x3, e3, k3⟩ := (sh_sl (row := brow) (ok := (fun _ => True)) sl22 s3 (fun m22 hm22 qs h22 => (sh_u8 tk5 h22)))
  cases e3
  exact w_law01xWireRound (pure_ x0 x1 x2 x3 k0 k1 k2 k3)
end Go.Proofs.Ytnhchphmmdgphaa
