import Derived.Test.YtngcjjhbimanlaaDoorGFSh
import Derived.Test.YtngcjjhbimanlaaDoorGFF5
namespace Go.Proofs.YtngcjjhbimanlaaDoor
open Go Abs
set_option maxRecDepth 100000
set_option linter.unusedVariables false
set_option linter.unusedSimpArgs false
theorem HistoryFinds_law_of (pure_ : ∀ (x0 : (List ApiEvent)) (x1 : Int) (x2 : Int), (okLs 272 okApiEvent x0) → (okI x1) → (okI x2) → law24xHistoryFinds x0 x1 x2 = some true) {p0 : PV} {n0 : Nat} (s0 : Shaped Tryd.prog n0 44 [p0]) {p1 : PV} {n1 : Nat} (s1 : Shaped Tryd.prog n1 3 [p1]) {p2 : PV} {n2 : Nat} (s2 : Shaped Tryd.prog n2 3 [p2]) : ACalls Tryd.prog 7 [.c p0, .c p1, .c p2] [] (.c (.bool true)) [] := by
  obtain ⟨x0, e0, k0⟩ := (sh_sl (row := rowApiEvent) (ok := okApiEvent) sl44 by31 s0 (fun m44 hm44 qs h44 => (sh_ApiEvent _ _ h44)))
  cases e0
  obtain ⟨x1, e1, k1⟩ := (sh_i64 tk3 s1)
  cases e1
  obtain ⟨x2, e2, k2⟩ := (sh_i64 tk3 s2)
  cases e2
  exact w_law24xHistoryFinds (pure_ x0 x1 x2 k0 k1 k2)
end Go.Proofs.YtngcjjhbimanlaaDoor
