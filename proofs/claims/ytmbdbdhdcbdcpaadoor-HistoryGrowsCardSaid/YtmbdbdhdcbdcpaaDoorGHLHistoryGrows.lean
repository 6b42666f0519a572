import Derived.Test.YtmbdbdhdcbdcpaaDoorGHSh
import Derived.Test.YtmbdbdhdcbdcpaaDoorGHF5
namespace Go.Proofs.YtmbdbdhdcbdcpaaDoor
open Go Abs
set_option maxRecDepth 100000
set_option linter.unusedVariables false
set_option linter.unusedSimpArgs false
theorem HistoryGrows_law_of (pure_ : ∀ (x0 : (List ApiEvent)) (x1 : (List ApiEvent)), (okLs 272 okApiEvent x0) → (okLs 272 okApiEvent x1) → law24xHistoryGrows x0 x1 = some true) {p0 : PV} {n0 : Nat} (s0 : Shaped Tryd.prog n0 63 [p0]) {p1 : PV} {n1 : Nat} (s1 : Shaped Tryd.prog n1 63 [p1]) : ACalls Tryd.prog 7 [.c p0, .c p1] [] (.c (.bool true)) [] := by
  obtain ⟨x0, e0, k0⟩ := (sh_sl (row := rowApiEvent) (ok := okApiEvent) sl63 by116 s0 (fun m63 hm63 qs h63 => (sh_ApiEvent _ _ h63)))
  cases e0
  obtain ⟨x1, e1, k1⟩ := (sh_sl (row := rowApiEvent) (ok := okApiEvent) sl63 by116 s1 (fun m63 hm63 qs h63 => (sh_ApiEvent _ _ h63)))
  cases e1
  exact w_law24xHistoryGrows (pure_ x0 x1 k0 k1)
end Go.Proofs.YtmbdbdhdcbdcpaaDoor
