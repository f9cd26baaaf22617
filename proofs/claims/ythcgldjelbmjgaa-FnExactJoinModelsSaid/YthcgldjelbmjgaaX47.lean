/- Contracts of functions of the seat, proved over the engine. No condition. -/
import Derived.Test.YthcgldjelbmjgaaX42
import Derived.Test.YthcgldjelbmjgaaX7
set_option linter.unusedSimpArgs false
set_option linter.unusedVariables false
set_option linter.unnecessarySimpa false
namespace Go.Ax
set_option linter.unusedSimpArgs false
set_option maxRecDepth 20000
set_option maxHeartbeats 4000000
def iOf (a : SL (SL Int)) (x y : Nat) : Int := (a.2.getD x (none, [])).2.getD y 0
structure SqI (n : Nat) (a : SL (SL Int)) : Prop where
  len : a.2.length = n
  row : ∀ r ∈ a.2, r.2.length = n
theorem SqI.rows {n x : Nat} {a : SL (SL Int)} (h : SqI n a) (hx : x < n) : (a.2.getD x (none, [])).2.length = n := h.row _ (getD_mem (by rw [h.len]; exact hx))
theorem SqI.at {n x : Nat} {a : SL (SL Int)} (h : SqI n a) (hx : x < n) : D.at (a.2.map (eS 1 eI)) x = .ls (a.2.getD x (none, [])).1 1 ((a.2.getD x (none, [])).2.map eI) := at_mapD (by rw [h.len]; exact hx)
theorem SqI.at2 {n x y : Nat} {a : SL (SL Int)} (h : SqI n a) (hx : x < n) (hy : y < n) : D.at ((a.2.getD x (none, [])).2.map eI) y = .sc (.int .i64 (iOf a x y)) := at_mapD (by rw [h.rows hx]; exact hy)
def zeroMo : Mo := ((0, 0), 0, (some true, []), (some true, []))
theorem np_B : ∀ {l : List Bool}, noPtrs (l.map eB) = true
  | [] => rfl
  | b :: l => by simp only [List.map_cons, noPtrs, np_B (l := l), eB, D.noPtr, Bool.and_self]
theorem sz_Bc {b : Bool} {l : List Bool} : ∀ e ∈ D.sc (.bool b) :: l.map eB, e.size = 1 := by
  intro e he
  rcases List.mem_cons.1 he with rfl | he
  · rfl
  · obtain ⟨x, _, rfl⟩ := List.mem_map.1 he; rfl
end Go.Ax
