/- Contracts of functions of the seat, proved over the engine. No condition. -/
import Derived.Test.YtjnghfepojipiaaX30
set_option linter.unusedSimpArgs false
set_option linter.unusedVariables false
set_option linter.unnecessarySimpa false
namespace Go.Ax
set_option linter.unusedSimpArgs false
set_option maxRecDepth 20000
set_option maxHeartbeats 4000000
abbrev Rel := Nat → Nat → Bool
def setRow (R : Rel) (x : Nat) (f : Nat → Bool) : Rel := fun a b => if a = x then f b else R a b
structure Sq (n : Nat) (a : SL (SL Bool)) : Prop where
 len : a.2.length = n
 row : ∀ r ∈ a.2, r.2.length = n
theorem Sq.at {n x : Nat} {a : SL (SL Bool)} (h : Sq n a) (hx : x < n) : D.at (a.2.map (eS 1 eB)) x = .ls (a.2.getD x (none, [])).1 1 ((a.2.getD x (none, [])).2.map eB) := by
 have hx' : x < a.2.length := by rw [h.len]; exact hx
 rw [at_map hx']
 simp [eS, hx']
end Go.Ax
