/- A run's number, plainly. -/
import Derived.Test.YtnghhjokfelglaaDoorGAPLoop

namespace Go.Proofs.YtnghhjokfelglaaDoor
open Go Abs
set_option linter.unusedSimpArgs false
set_option linter.unusedVariables false