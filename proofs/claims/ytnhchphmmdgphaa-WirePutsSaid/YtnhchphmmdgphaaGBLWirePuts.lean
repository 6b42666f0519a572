import Derived.Test.YtnhchphmmdgphaaGBSh
import Derived.Test.YtnhchphmmdgphaaGBF1
namespace Go.Proofs.Ytnhchphmmdgphaa
open Go Abs
set_option maxRecDepth 100000
set_option linter.unusedVariables false
set_option linter.unusedSimpArgs false
theorem WirePuts_law_of (pure_ : ∀ (x0 : (List UInt8)) (x1 : Int) (x2 : (List UInt8)) (x3 : Bool), (okLs (fun _ => True) x0) → (okI x1) → (okS x2) → (True) → law01xWirePuts x0 x1 x2 x3 = some true) {p0 : PV} {n0 : Nat} (s0 : Shaped Try.prog n0 22 [p0]) {p1 : PV} {n1 : Nat} (s1 : Shaped Try.prog n1 3 [p1]) {p2 : PV} {n2 : Nat} (s2 : Shaped Try.prog n2 9 [p2]) {p3 : PV} {n3 : Nat} (s3 : Shaped Try.prog n3 4 [p3]) : ACalls Try.prog 5 [.c p0, .c p1, .c p2, .c p3] [] (.c (.bool true)) [] := by
  obtain ⟨x0, e0, k0⟩ := (sh_sl (row := brow) (ok := (fun _ => True)) sl22 s0 (fun m22 hm22 qs h22 => (sh_u8 tk5 h22)))
  cases e0
  obtain ⟨x1, e1, k1⟩ := (sh_i64 tk3 s1)
  cases e1
  obtain ⟨x2, e2, k2⟩ := (sh_str ti9 s2)
  cases e2
  obtain ⟨x3, e3, k3⟩ := (sh_bool ti4 s3)
  cases e3
  exact w_law01xWirePuts (pure_ x0 x1 x2 x3 k0 k1 k2 k3)
end Go.Proofs.Ytnhchphmmdgphaa
