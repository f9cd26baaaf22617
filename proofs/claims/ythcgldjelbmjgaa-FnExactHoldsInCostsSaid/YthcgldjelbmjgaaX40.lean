/- Contracts of functions of the seat, proved over the engine. No condition. -/
import Derived.Test.YthcgldjelbmjgaaX30
set_option linter.unusedSimpArgs false
set_option linter.unusedVariables false
set_option linter.unnecessarySimpa false
namespace Go.Ax
set_option linter.unusedSimpArgs false
set_option maxRecDepth 20000
set_option maxHeartbeats 4000000
abbrev Rel := Nat → Nat → Bool
def rTab (n : Nat) (R : Rel) : SL (SL Bool) := (some false, tabL n fun x => (some false, tabL n (R x)))
def rRow (n : Nat) (f : Nat → Bool) : List D := tabL n fun y => .sc (.bool (f y))
theorem rRow_len {n : Nat} {f : Nat → Bool} : (rRow n f).length = n := tabL_len
theorem tab_get {α : Type} {n i : Nat} {g : Nat → α} {d : α} (h : i < n) : (tabL n g).getD i d = g i := by simp [tabL, h]
theorem tab_congr {α : Type} {n : Nat} {f g : Nat → α} (h : ∀ i, i < n → f i = g i) : tabL n f = tabL n g := List.map_congr_left fun i hi => h i (List.mem_range.1 hi)
theorem tab_set {α : Type} {n i : Nat} {f : Nat → α} {v : α} : (tabL n f).set i v = tabL n fun k => if k = i then v else f k := by
  apply List.ext_getElem
  · simp [tabL]
  · intro k h1 h2
    simp [tabL] at h1
    by_cases e : i = k
    · subst e; simp [tabL]
    · simp [tabL, List.getElem_set, e, Ne.symm e]
def setRow (R : Rel) (x : Nat) (f : Nat → Bool) : Rel := fun a b => if a = x then f b else R a b
structure Sq (n : Nat) (a : SL (SL Bool)) : Prop where
  len : a.2.length = n
  row : ∀ r ∈ a.2, r.2.length = n
def relOf (a : SL (SL Bool)) : Rel := fun x y => (a.2.getD x (none, [])).2.getD y false
theorem Sq.rows {n x : Nat} {a : SL (SL Bool)} (h : Sq n a) (hx : x < n) : (a.2.getD x (none, [])).2.length = n := by
  have hx' : x < a.2.length := by rw [h.len]; exact hx
  rw [show a.2.getD x (none, []) = a.2[x] by simp [hx']]
  exact h.row _ (List.getElem_mem hx')
theorem rTab_sq {n : Nat} {R : Rel} : Sq n (rTab n R) := ⟨tabL_len, fun r hr => by
  obtain ⟨x, _, rfl⟩ := List.mem_map.1 hr
  exact tabL_len⟩
theorem Sq.at {n x : Nat} {a : SL (SL Bool)} (h : Sq n a) (hx : x < n) : D.at (a.2.map (eS 1 eB)) x = .ls (a.2.getD x (none, [])).1 1 ((a.2.getD x (none, [])).2.map eB) := by
  have hx' : x < a.2.length := by rw [h.len]; exact hx
  rw [at_map hx']
  simp [eS, hx']
theorem Sq.at2 {n x y : Nat} {a : SL (SL Bool)} (h : Sq n a) (hx : x < n) (hy : y < n) : D.at ((a.2.getD x (none, [])).2.map eB) y = .sc (.bool (relOf a x y)) := by
  have hy' : y < (a.2.getD x (none, [])).2.length := by rw [h.rows hx]; exact hy
  rw [at_map hy']
  show D.sc (.bool _) = _
  unfold relOf
  congr 2
  simp only [List.getD_eq_getElem?_getD] at hy' ⊢
  rw [List.getElem?_eq_getElem hy']
  rfl
theorem Sq.row_map {n x : Nat} {a : SL (SL Bool)} (h : Sq n a) (hx : x < n) : (a.2.getD x (none, [])).2.map eB = rRow n (relOf a x) := by
  have hr := h.rows hx
  have h3 := fun i hi => h.at2 (x := x) (y := i) hx hi
  unfold relOf at h3 ⊢
  generalize (a.2.getD x (none, [])).2 = r at hr h3 ⊢
  apply List.ext_getElem
  · rw [List.length_map, hr, rRow_len]
  · intro i h1 h2
    rw [List.length_map, hr] at h1
    have h3 := h3 i h1
    rw [at_map (by omega)] at h3
    rw [List.getElem_map, h3]
    simp [rRow, tabL]
end Go.Ax
