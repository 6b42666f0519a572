import Derived.Test.YtngcjjhbimanlaaGreatDoorGKSh
import Derived.Test.YtngcjjhbimanlaaGreatDoorGKF9
namespace Go.Proofs.YtngcjjhbimanlaaGreatDoor
open Go Abs
set_option maxRecDepth 100000
set_option linter.unusedVariables false
set_option linter.unusedSimpArgs false
theorem HistoryTurns_law_of (pure_ : ∀ (x0 : (List ApiEvent)), (okLs 272 okApiEvent x0) → law24xHistoryTurns x0 = some true) {p0 : PV} {n0 : Nat} (s0 : Shaped Tryz.prog n0 40 [p0]) : ACalls Tryz.prog 6 [.c p0] [] (.c (.bool true)) [] := by
  obtain ⟨x0, e0, k0⟩ := (sh_sl (row := rowApiEvent) (ok := okApiEvent) sl40 by29 s0 (fun m40 hm40 qs h40 => (sh_ApiEvent _ _ h40)))
  cases e0
  exact w_law24xHistoryTurns (pure_ x0 k0)
end Go.Proofs.YtngcjjhbimanlaaGreatDoor
