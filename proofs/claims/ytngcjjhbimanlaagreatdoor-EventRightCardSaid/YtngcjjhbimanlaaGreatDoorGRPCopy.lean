/- Copies of values, plainly. -/
import Derived.Test.YtngcjjhbimanlaaGreatDoorGRPVal1
import Derived.Test.YtngcjjhbimanlaaGreatDoorGRF6
namespace Go.Proofs.YtngcjjhbimanlaaGreatDoor
open Go Abs
set_option linter.unusedSimpArgs false
set_option linter.unusedVariables false
end Go.Proofs.YtngcjjhbimanlaaGreatDoor
