/- Contracts of functions of the seat, proved over the engine. No condition. -/
import Derived.Test.YtjnghfepojipiaaX1
set_option linter.unusedSimpArgs false
set_option linter.unusedVariables false
set_option linter.unnecessarySimpa false
namespace Go.Ax
set_option linter.unusedSimpArgs false
abbrev Mo := (Int × Int) × Int × SL (SL Bool) × SL (SL (SL Bool))
def eM (m : Mo) : D := .ag [eI m.1.1, eI m.1.2, eI m.2.1, eS 1 (eS 1 eB) m.2.2.1, eS 1 (eS 1 (eS 1 eB)) m.2.2.2]
def lenIs {α : Type} (c : Int) (x : SL α) : Bool := (x.2.length : Int) == c
end Go.Ax
