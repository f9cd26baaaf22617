/- Contracts of functions of the seat, proved over the engine. No condition. -/
import Derived.Test.YtjnghfepojipiaaX30
import Derived.Test.YtjnghfepojipiaaX21
import Derived.Test.YtjnghfepojipiaaX5
import Derived.Test.YtjnghfepojipiaaX4
set_option linter.unusedSimpArgs false
set_option linter.unusedVariables false
set_option linter.unnecessarySimpa false
namespace Go.Ax
set_option linter.unusedSimpArgs false
set_option maxRecDepth 20000
set_option maxHeartbeats 4000000

theorem getD_at {α : Type} {l : List α} {i : Nat} {d : α} (h : i < l.length) : l.getD i d = l[i] := by simp [h]
theorem at_mapD {α : Type} {f : α → D} {l : List α} {i : Nat} {d : α} (h : i < l.length) : D.at (l.map f) i = f (l.getD i d) := by rw [at_map h, getD_at h]
def zMo : Mo := ((0, 0), 0, (some true, []), (some true, []))

end Go.Ax
