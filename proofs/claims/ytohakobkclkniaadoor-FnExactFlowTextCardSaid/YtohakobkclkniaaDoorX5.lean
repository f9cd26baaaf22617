/- Contracts of functions of the seat, proved over the engine. No condition. -/
import Derived.Test.YtohakobkclkniaaDoorX3
set_option linter.unusedSimpArgs false
set_option linter.unusedVariables false
set_option linter.unnecessarySimpa false
namespace Go.Ax
set_option linter.unusedSimpArgs false
set_option maxHeartbeats 4000000
abbrev Wd := SL Int × SL (SL Int)
def allIn (lo hi : Int) (l : List Int) : Bool := l.all fun x => isIn x lo hi
def rowOk (n : Int) (r : SL Int) : Bool := lenIs n r && allIn (-1) (n - 1) r.2
def atomsOf (g : Int × Int) : Int := 2 ^ g.1.toNat
def okW (g : Int × Int) (w : Wd) : Bool := isIn w.1.2.length 1 12 && (allIn 0 (atomsOf g - 1) w.1.2 && (lenIs g.2 w.2 && w.2.2.all (rowOk w.1.2.length)))
end Go.Ax
