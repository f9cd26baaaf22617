/- Contracts of functions of the seat, proved over the engine. No condition. -/
import Derived.Test.YthcgldjelbmjgaaX40
import Derived.Test.YthcgldjelbmjgaaX8
import Derived.Test.YthcgldjelbmjgaaX4
import Derived.Test.YthcgldjelbmjgaaX31
set_option linter.unusedSimpArgs false
set_option linter.unusedVariables false
set_option linter.unnecessarySimpa false
namespace Go.Ax
set_option linter.unusedSimpArgs false
set_option maxRecDepth 20000
set_option maxHeartbeats 4000000
def noneR : Rel := fun _ _ => false
theorem isIn_iff' {x lo hi : Int} : isIn x lo hi = true ↔ lo ≤ x ∧ x ≤ hi := by simp [isIn]
theorem noneR_eq : (fun _ _ => false : Rel) = noneR := rfl
end Go.Ax
