import Derived.Test.YtmnobgopfnhbnaaGTSh
import Derived.Test.YtmnobgopfnhbnaaGTF8
namespace Go.Proofs.Ytmnobgopfnhbnaa
open Go Abs
set_option maxRecDepth 100000
set_option linter.unusedVariables false
set_option linter.unusedSimpArgs false
theorem CommandRoundTrip_law_of (pure_ : ∀ (x0 : ApiCommand) (x1 : (List UInt8)), (okApiCommand x0) → (okLs 1 (fun _ => True) x1) → law20xCommandRoundTrip x0 x1 = some true) {p0 : List PV} {n0 : Nat} (s0 : Shaped Try.prog n0 29 p0) {p1 : PV} {n1 : Nat} (s1 : Shaped Try.prog n1 40 [p1]) : ACalls Try.prog 7 [.agg (p0.map AV.c), .c p1] [] (.c (.bool true)) [] := by
  obtain ⟨x0, e0, k0⟩ := (sh_ApiCommand _ _ s0)
  subst e0
  obtain ⟨x1, e1, k1⟩ := (sh_sl (row := brow) (ok := (fun _ => True)) sl40 by5 s1 (fun m40 hm40 qs h40 => (sh_u8 tk5 h40)))
  cases e1
  exact w_law20xCommandRoundTrip (pure_ x0 x1 k0 k1)
end Go.Proofs.Ytmnobgopfnhbnaa
