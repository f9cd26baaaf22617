/- Contracts of functions of the seat, proved over the engine. No condition. -/
import Derived.Test.YthcgldjelbmjgaaX42
import Derived.Test.YthcgldjelbmjgaaX10
import Derived.Test.YthcgldjelbmjgaaEnG
set_option linter.unusedSimpArgs false
set_option linter.unusedVariables false
set_option linter.unnecessarySimpa false
namespace Go.Ax
set_option linter.unusedSimpArgs false
set_option maxRecDepth 20000
set_option maxHeartbeats 4000000
theorem okQ_tree {g : Int × Int} {q : Eq2} (h : okQ g q = true) : treeE g q.1 = true ∧ treeE g q.2 = true := by
  simp only [okQ, okE, Bool.and_eq_true] at h
  exact ⟨h.2.1.2.2, h.2.2.2.2⟩
end Go.Ax
