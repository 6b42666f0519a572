/- HistoryChecks: the plain law. -/
import Derived.Test.YtngcjjhbimanlaaGreatDoorGKPHistC
import Derived.Test.YtngcjjhbimanlaaGreatDoorGKPHistT
import Derived.Test.YtngcjjhbimanlaaGreatDoorGKF9
namespace Go.Proofs.YtngcjjhbimanlaaGreatDoor
open Go Abs
set_option linter.unusedSimpArgs false
set_option linter.unusedVariables false
theorem HistoryChecks_pure (l : List ApiEvent) (hl : okLs 272 okApiEvent l) : law24xHistoryChecks l = some true := by
  unfold law24xHistoryChecks
  rw [works24, refCheck_eq hl, Check_eq hl]
  simp [gd]
end Go.Proofs.YtngcjjhbimanlaaGreatDoor
