/- Contracts of functions of the seat, proved over the engine. No condition. -/
import Derived.Test.YthcgldjelbmjgaaX40
import Derived.Test.YthcgldjelbmjgaaX8
import Derived.Test.YthcgldjelbmjgaaX4
import Derived.Test.YthcgldjelbmjgaaX31
set_option linter.unusedSimpArgs false
set_option linter.unusedVariables false
set_option linter.unnecessarySimpa false
namespace Go.Ax
set_option linter.unusedSimpArgs false
set_option maxRecDepth 20000
set_option maxHeartbeats 4000000
def noneR : Rel := fun _ _ => false
theorem isIn_iff' {x lo hi : Int} : isIn x lo hi = true ↔ lo ≤ x ∧ x ≤ hi := by simp [isIn]
theorem getD_mem {α : Type} {l : List α} {i : Nat} {d : α} (h : i < l.length) : l.getD i d ∈ l := by simp [h]

def rowF (R : Rel) (i : Nat) : Rel := fun a b => decide (a < i) && R a b
theorem rowF_zero {R : Rel} : rowF R 0 = noneR := by funext a b; simp [rowF, noneR]
theorem rowF_full {n : Nat} {R : Rel} : rD n (rowF R n) = rD n R := rD_congr fun a b ha _ => by simp [rowF, ha]
def cellF (R : Rel) (i y : Nat) : Rel := fun a b => if a = i ∧ b < y then R a b else rowF R i a b
theorem cellF_zero {R : Rel} {i : Nat} : cellF R i 0 = rowF R i := by funext a b; simp [cellF]
theorem cellF_full {n : Nat} {R : Rel} {i : Nat} : rD n (cellF R i n) = rD n (rowF R (i + 1)) := rD_congr fun a b _ hb => by
  unfold cellF rowF
  by_cases ha : a = i
  · subst ha; simp [hb]
  · simp [ha, show decide (a < i + 1) = decide (a < i) by rw [decide_eq_decide]; omega]
theorem cellF_step {R : Rel} {i y : Nat} : setR (cellF R i y) i y (R i y) = cellF R i (y + 1) := by
  funext a b; unfold setR cellF
  by_cases ha : a = i
  · subst ha
    by_cases hb : b = y
    · subst hb; simp
    · by_cases hb2 : b < y
      · simp [hb, hb2, show b < y + 1 by omega]
      · simp [hb, hb2, show ¬ b < y + 1 by omega]
  · simp [ha]
theorem noneR_eq : (fun _ _ => false : Rel) = noneR := rfl
end Go.Ax
