import Derived.Test.YtmnobgopfnhbnaaGESh
import Derived.Test.YtmnobgopfnhbnaaGEF9
namespace Go.Proofs.Ytmnobgopfnhbnaa
open Go Abs
set_option maxRecDepth 100000
set_option linter.unusedVariables false
set_option linter.unusedSimpArgs false
theorem CommandEncodes_law_of (pure_ : ∀ (x0 : (List UInt8)) (x1 : ApiCommand), (okLs 1 (fun _ => True) x0) → (okApiCommand x1) → law20xCommandEncodes x0 x1 = some true) {p0 : PV} {n0 : Nat} (s0 : Shaped Try.prog n0 40 [p0]) {p1 : List PV} {n1 : Nat} (s1 : Shaped Try.prog n1 29 p1) : ACalls Try.prog 8 [.c p0, .agg (p1.map AV.c)] [] (.c (.bool true)) [] := by
  obtain ⟨x0, e0, k0⟩ := (sh_sl (row := brow) (ok := (fun _ => True)) sl40 by5 s0 (fun m40 hm40 qs h40 => (sh_u8 tk5 h40)))
  cases e0
  obtain ⟨x1, e1, k1⟩ := (sh_ApiCommand _ _ s1)
  subst e1
  exact w_law20xCommandEncodes (pure_ x0 x1 k0 k1)
end Go.Proofs.Ytmnobgopfnhbnaa
