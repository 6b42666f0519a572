/- EventRight and EventCommands: the plain laws. -/
import Derived.Test.YtngcjjhbimanlaaGreatDoorGRPEv6
import Derived.Test.YtngcjjhbimanlaaGreatDoorGRF6
import Derived.Test.YtngcjjhbimanlaaGreatDoorGRF8
namespace Go.Proofs.YtngcjjhbimanlaaGreatDoor
open Go Abs
set_option linter.unusedSimpArgs false
set_option linter.unusedVariables false
theorem EventRight_pure (e : ApiEvent) (h : okApiEvent e) : law22xEventRight e = some true := by
  unfold law22xEventRight
  obtain ⟨x, hx⟩ := Small22_ex h
  rw [hx, event_Right_eq h, ref22Right_eq h, lives22, eright_eq]
  cases x <;> simp [gd]
