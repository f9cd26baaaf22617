/- Contracts of functions of the seat, proved over the engine. No condition. -/
import Derived.Test.YtohakobkclkniaaDoorX81
set_option linter.unusedSimpArgs false
set_option linter.unusedVariables false
set_option linter.unnecessarySimpa false
namespace Go.Ax
set_option linter.unusedSimpArgs false
set_option maxRecDepth 20000
set_option maxHeartbeats 4000000
theorem textE_size {g : Int × Int} (hg : okG g = true) : ∀ e : Ex, treeE g e = true → (textE e).size ≤ 5 * sizeE e :=
 Ex.ind fun k v nn ks ih hT => by
  rw [treeE_mk, Bool.and_eq_true, List.all_eq_true] at hT
  rw [textE_mk, sizeE_mk]
  have hK := tx_ok hg hT.1
  cases hK with
  | zero h hk => subst h hk; simp [textOp, sizeEs, bsz]
  | one h hk => subst h hk; simp [textOp, sizeEs, bsz]
  | test h hk n hv hn =>
   subst h hk hv
   have := decB_size (n := n)
   simp [textOp, sizeEs, bsz]; omega
  | act h hk n hv hn =>
   subst h hk hv
   have := decB_size (n := n)
   simp [textOp, sizeEs, bsz]; omega
  | nt h a hk =>
   subst h hk
   have := ih a (by simp) (hT.2 a (by simp))
   simp [textOp, sizeEs, bsz]; omega
  | sum h a b hk =>
   subst h hk
   have h1 := ih a (by simp) (hT.2 a (by simp))
   have h2 := ih b (by simp) (hT.2 b (by simp))
   simp [textOp, sizeEs, bsz]; omega
  | dot h a b hk =>
   subst h hk
   have h1 := ih a (by simp) (hT.2 a (by simp))
   have h2 := ih b (by simp) (hT.2 b (by simp))
   simp [textOp, sizeEs, bsz]; omega
  | star h a hk =>
   subst h hk
   have := ih a (by simp) (hT.2 a (by simp))
   simp [textOp, sizeEs, bsz]; omega
theorem okE_tree {g : Int × Int} {e : Ex} (h : okE g e = true) : treeE g e = true := by
 simp only [okE, Bool.and_eq_true] at h
 exact h.2.2
theorem okE_size {g : Int × Int} {e : Ex} (hg : okG g = true) (h : okE g e = true) : (textE e).size ≤ 1000 := by
 have ht := textE_size hg e (okE_tree h)
 simp only [okE, Bool.and_eq_true, decide_eq_true_eq] at h
 omega

end Go.Ax
