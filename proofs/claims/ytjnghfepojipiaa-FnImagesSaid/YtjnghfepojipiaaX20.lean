/- Contracts of functions of the seat, proved over the engine. No condition. -/
import Derived.Test.YtjnghfepojipiaaAxH
import Derived.Test.YtjnghfepojipiaaX1
set_option linter.unusedSimpArgs false
set_option linter.unusedVariables false
set_option linter.unnecessarySimpa false
namespace Go.Ax
set_option linter.unusedSimpArgs false
set_option maxRecDepth 20000
set_option maxHeartbeats 4000000
theorem Ex.ex (e : Ex) : ∃ k n nn ks, e = .mk k n nn ks := by cases e; exact ⟨_, _, _, _, rfl⟩

end Go.Ax
