/- Copies of values, plainly. -/
import Derived.Test.YtmbdbdhdcbdcpaaGreatDoorGAPVal1
import Derived.Test.YtmbdbdhdcbdcpaaGreatDoorGAF4
namespace Go.Proofs.YtmbdbdhdcbdcpaaGreatDoor
open Go Abs
set_option linter.unusedSimpArgs false
set_option linter.unusedVariables false
