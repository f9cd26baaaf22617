/- Contracts of functions of the seat, proved over the engine. No condition. -/
import Derived.Test.YtjnghfepojipiaaX13
import Derived.Test.YtjnghfepojipiaaX21
import Derived.Test.YtjnghfepojipiaaX46
set_option linter.unusedSimpArgs false
set_option linter.unusedVariables false
set_option linter.unnecessarySimpa false
namespace Go.Ax
set_option linter.unusedSimpArgs false
set_option maxRecDepth 20000
set_option maxHeartbeats 4000000

theorem two {α : Type} {l : List α} (h : l.length = 2) : ∃ a b, l = [a, b] := by
  match l, h with
  | [a, b], _ => exact ⟨a, b, rfl⟩
theorem kinds {g : Int × Int} {k n : Int} {c : Ex} {ks : List Pg} (h : formP g k n c ks = true) : (k = 1 ∧ ks = []) ∨ (k = 2 ∧ ks = []) ∨ (k = 3 ∧ ks = []) ∨ (k = 4 ∧ ks = []) ∨ (k = 5 ∧ ∃ a b, ks = [a, b]) ∨ (k = 6 ∧ ∃ a b, ks = [a, b]) ∨ (k = 7 ∧ ∃ a, ks = [a]) := by
  simp only [formP, Bool.and_eq_true, beq_iff_eq] at h
  have h := h.1
  have e0 : ∀ {l : List Pg}, (0 : Int) = l.length → l = [] := fun h => List.eq_nil_of_length_eq_zero (by omega)
  have e2 : ∀ {l : List Pg}, (2 : Int) = l.length → ∃ a b, l = [a, b] := fun h => two (by omega)
  have e1 : ∀ {l : List Pg}, (1 : Int) = l.length → ∃ a, l = [a] := fun {l} h => by
    match l, h with
    | [a], _ => exact ⟨a, rfl⟩
    | [], h => simp at h
    | _ :: _ :: _, h => simp at h; omega
  unfold kidsP at h
  split at h
  · exact .inl ⟨‹_›, e0 h⟩
  split at h
  · exact .inr (.inl ⟨‹_›, e0 h⟩)
  split at h
  · exact .inr (.inr (.inl ⟨‹_›, e0 h⟩))
  split at h
  · exact .inr (.inr (.inr (.inl ⟨‹_›, e0 h⟩)))
  split at h
  · exact .inr (.inr (.inr (.inr (.inl ⟨‹_›, e2 h⟩))))
  split at h
  · exact .inr (.inr (.inr (.inr (.inr (.inl ⟨‹_›, e2 h⟩)))))
  split at h
  · exact .inr (.inr (.inr (.inr (.inr (.inr ⟨‹_›, e1 h⟩)))))
  · omega

theorem atA0 {a : D} {l : List D} : D.at (a :: l) 0 = a := rfl
theorem at1 {a b : D} {l : List D} : D.at (a :: b :: l) 1 = b := rfl

end Go.Ax
