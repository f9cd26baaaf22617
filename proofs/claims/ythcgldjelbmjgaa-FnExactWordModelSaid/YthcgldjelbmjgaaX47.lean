/- Contracts of functions of the seat, proved over the engine. No condition. -/
import Derived.Test.YthcgldjelbmjgaaX42
import Derived.Test.YthcgldjelbmjgaaX7
set_option linter.unusedSimpArgs false
set_option linter.unusedVariables false
set_option linter.unnecessarySimpa false
namespace Go.Ax
set_option linter.unusedSimpArgs false
set_option maxRecDepth 20000
set_option maxHeartbeats 4000000
structure SqI (n : Nat) (a : SL (SL Int)) : Prop where
  len : a.2.length = n
  row : ∀ r ∈ a.2, r.2.length = n
theorem SqI.at {n x : Nat} {a : SL (SL Int)} (h : SqI n a) (hx : x < n) : D.at (a.2.map (eS 1 eI)) x = .ls (a.2.getD x (none, [])).1 1 ((a.2.getD x (none, [])).2.map eI) := at_mapD (by rw [h.len]; exact hx)
def zeroMo : Mo := ((0, 0), 0, (some true, []), (some true, []))
end Go.Ax
