/- A run's number, plainly. -/
import Derived.Test.YtmbdbdhdcbdcpaaGreatDoorGAPLoop
import Derived.Test.YtmbdbdhdcbdcpaaGreatDoorGAF3
namespace Go.Proofs.YtmbdbdhdcbdcpaaGreatDoor
open Go Abs
set_option linter.unusedSimpArgs false
set_option linter.unusedVariables false
theorem name_Number_eq {s:List UInt8} (h:s.length≤140737488355328):name_Number s=some (numberS s):=by unfold name_Number;rw [if_pos h]
end Go.Proofs.YtmbdbdhdcbdcpaaGreatDoor
