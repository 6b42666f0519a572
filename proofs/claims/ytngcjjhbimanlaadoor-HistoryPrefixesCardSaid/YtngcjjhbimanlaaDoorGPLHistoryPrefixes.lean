import Derived.Test.YtngcjjhbimanlaaDoorGPSh
import Derived.Test.YtngcjjhbimanlaaDoorGPF5
namespace Go.Proofs.YtngcjjhbimanlaaDoor
open Go Abs
set_option maxRecDepth 100000
set_option linter.unusedVariables false
set_option linter.unusedSimpArgs false
theorem HistoryPrefixes_law_of (pure_ : ∀ (x0 : (List ApiEvent)), (okLs 272 okApiEvent x0) → law24xHistoryPrefixes x0 = some true) {p0 : PV} {n0 : Nat} (s0 : Shaped Tryd.prog n0 44 [p0]) : ACalls Tryd.prog 6 [.c p0] [] (.c (.bool true)) [] := by
  obtain ⟨x0, e0, k0⟩ := (sh_sl (row := rowApiEvent) (ok := okApiEvent) sl44 by31 s0 (fun m44 hm44 qs h44 => (sh_ApiEvent _ _ h44)))
  cases e0
  exact w_law24xHistoryPrefixes (pure_ x0 k0)
end Go.Proofs.YtngcjjhbimanlaaDoor
