/- Contracts of functions of the seat, proved over the engine. No condition. -/
import Derived.Test.YtohakobkclkniaaDoorX40
import Derived.Test.YtohakobkclkniaaDoorX8
import Derived.Test.YtohakobkclkniaaDoorX4
import Derived.Test.YtohakobkclkniaaDoorX31
set_option linter.unusedSimpArgs false
set_option linter.unusedVariables false
set_option linter.unnecessarySimpa false
namespace Go.Ax
set_option linter.unusedSimpArgs false
set_option maxRecDepth 20000
set_option maxHeartbeats 4000000
theorem isIn_iff' {x lo hi : Int} : isIn x lo hi = true ↔ lo ≤ x ∧ x ≤ hi := by simp [isIn]
end Go.Ax
