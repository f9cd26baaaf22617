/- Contracts of functions of the seat, proved over the engine. No condition. -/
import Derived.Test.YtjnghfepojipiaaEnH
set_option linter.unusedSimpArgs false
set_option linter.unusedVariables false
set_option linter.unnecessarySimpa false
namespace Go.Ax
variable {P : Program}

theorem sub_agt {ds : List D} {j sz : Nat} : D.sub (.ag ds) j sz true = .ag ((ds.drop j).take sz) := rfl
theorem sub_agf {ds : List D} {j sz : Nat} : D.sub (.ag ds) j sz false = ds.getD j default := rfl
end Go.Ax
