/- Copies of values, plainly. -/
import Derived.Test.YtngcjjhbimanlaaGreatDoorGKPVal1
namespace Go.Proofs.YtngcjjhbimanlaaGreatDoor
open Go Abs
set_option linter.unusedSimpArgs false
set_option linter.unusedVariables false
