import Derived.Test.YtmnobgopfnhbnaaGDSh
import Derived.Test.YtmnobgopfnhbnaaGDF10
namespace Go.Proofs.Ytmnobgopfnhbnaa
open Go Abs
set_option maxRecDepth 100000
set_option linter.unusedVariables false
set_option linter.unusedSimpArgs false
theorem CommandDecodes_law_of (pure_ : ∀ (x0 : (List UInt8)), (okLs 1 (fun _ => True) x0) → law20xCommandDecodes x0 = some true) {p0 : PV} {n0 : Nat} (s0 : Shaped Try.prog n0 40 [p0]) : ACalls Try.prog 6 [.c p0] [] (.c (.bool true)) [] := by
  obtain ⟨x0, e0, k0⟩ := (sh_sl (row := brow) (ok := (fun _ => True)) sl40 by5 s0 (fun m40 hm40 qs h40 => (sh_u8 tk5 h40)))
  cases e0
  exact w_law20xCommandDecodes (pure_ x0 k0)
end Go.Proofs.Ytmnobgopfnhbnaa
