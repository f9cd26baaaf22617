/- Contracts of functions of the seat, proved over the engine. No condition. -/
import Derived.Test.YtjnghfepojipiaaEnH
set_option linter.unusedSimpArgs false
set_option linter.unusedVariables false
set_option linter.unnecessarySimpa false
namespace Go.Ax
set_option linter.unusedSimpArgs false
set_option maxRecDepth 20000

def subM (e : List (Nat × MV)) : List (Nat × MV) → Prop
 | [] => True
 | (k, v) :: r => mlk e k = v ∧ subM e r
theorem subM_lk {e : List (Nat × MV)} : ∀ {e' : List (Nat × MV)}, subM e e' → ∀ t, mlk e' t = .any ∨ mlk e' t = mlk e t
 | [], _, t => .inl rfl
 | (k, v) :: r, h, t => by
  simp only [mlk]
  split
  ·next hk => subst hk; exact .inr h.1.symm
  ·exact subM_lk h.2 t
theorem MEnt.env {bx : Bool} {ds ds' : List D} {e e' : List (Nat × MV)} (hd : ds' = ds) (h : subM e e') : MEnt ⟨bx, ds, e⟩ ⟨bx, ds', e'⟩ := ⟨rfl, hd, subM_lk h⟩

section
variable {α : Type} {mk : α → Int → α} {cnt : α → Nat}
end
def one {α : Type} (_ : α) : Nat := 1
section
variable {α : Type} {f : α → D} {mk : α → Int → α} {cnt : α → Nat}
end
section
variable {α : Type} {f : α → D} {mk : α → Int → α} {cnt : α → Nat}
end
end Go.Ax
