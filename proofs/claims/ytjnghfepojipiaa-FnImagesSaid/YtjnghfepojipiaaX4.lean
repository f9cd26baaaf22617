/- Contracts of functions of the seat, proved over the engine. No condition. -/
import Derived.Test.YtjnghfepojipiaaX3
set_option linter.unusedSimpArgs false
set_option linter.unusedVariables false
set_option linter.unnecessarySimpa false
namespace Go.Ax
set_option linter.unusedSimpArgs false
theorem okMo_pts {m : Mo} (h : okMo m = true) : 1 ≤ m.2.1 ∧ m.2.1 ≤ 8 := by
 simp only [okMo, testsOk, Bool.and_eq_true, isIn, decide_eq_true_eq] at h
 exact h.1.2.1

end Go.Ax
