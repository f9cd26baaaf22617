/- Contracts of functions of the seat, proved over the engine. No condition. -/
import Derived.Test.YtjnghfepojipiaaEnI
set_option linter.unusedSimpArgs false
set_option linter.unusedVariables false
set_option linter.unnecessarySimpa false
namespace Go.Ax
set_option linter.unusedSimpArgs false
set_option maxRecDepth 20000

def subM (e : List (Nat × MV)) : List (Nat × MV) → Prop
  | [] => True
  | (k, v) :: r => mlk e k = v ∧ subM e r
theorem subM_lk {e : List (Nat × MV)} : ∀ {e' : List (Nat × MV)}, subM e e' → ∀ t, mlk e' t = .any ∨ mlk e' t = mlk e t
  | [], _, t => .inl rfl
  | (k, v) :: r, h, t => by
    simp only [mlk]
    split
    · next hk => subst hk; exact .inr h.1.symm
    · exact subM_lk h.2 t
theorem MEnt.env {bx : Bool} {ds ds' : List D} {e e' : List (Nat × MV)} (hd : ds' = ds) (h : subM e e') : MEnt ⟨bx, ds, e⟩ ⟨bx, ds', e'⟩ := ⟨rfl, hd, subM_lk h⟩

def mkL {α : Type} (mk : α → Int → α) (cnt : α → Nat) : List α → Int → List α
  | [], _ => []
  | x :: r, k => mk x k :: mkL mk cnt r (k + cnt x)
def cntL {α : Type} (cnt : α → Nat) : List α → Nat
  | [] => 0
  | x :: r => cnt x + cntL cnt r
section
variable {α : Type} {mk : α → Int → α} {cnt : α → Nat}
theorem mkL_length : ∀ {l : List α} {k : Int}, (mkL mk cnt l k).length = l.length
  | [], _ => rfl
  | x :: r, k => by simp [mkL, mkL_length (l := r)]
theorem cntL_append : ∀ {a b : List α}, cntL cnt (a ++ b) = cntL cnt a + cntL cnt b
  | [], b => by simp [cntL]
  | x :: a, b => by simp [cntL, cntL_append (a := a)]; omega
theorem mkL_append : ∀ {a b : List α} {k : Int}, mkL mk cnt (a ++ b) k = mkL mk cnt a k ++ mkL mk cnt b (k + cntL cnt a)
  | [], b, k => by simp [mkL, cntL]
  | x :: a, b, k => by simp only [List.cons_append, mkL, mkL_append (a := a), cntL]; congr 3; push_cast; omega
def mhalf (mk : α → Int → α) (cnt : α → Nat) (l : List α) (k : Int) (i : Nat) : List α := mkL mk cnt (l.take i) k ++ l.drop i
theorem mhalf_len {l : List α} {k : Int} {i : Nat} : (mhalf mk cnt l k i).length = l.length := by
  simp [mhalf, mkL_length]; omega
theorem mhalf_zero {l : List α} {k : Int} : mhalf mk cnt l k 0 = l := by simp [mhalf, mkL]
theorem mhalf_full {l : List α} {k : Int} {i : Nat} (h : l.length ≤ i) : mhalf mk cnt l k i = mkL mk cnt l k := by
  simp [mhalf, List.take_of_length_le h, List.drop_eq_nil_of_le h]
theorem mhalf_get {l : List α} {k : Int} {i : Nat} (h : i < l.length) : (mhalf mk cnt l k i)[i]'(by rw [mhalf_len]; exact h) = l[i] := by
  unfold mhalf
  rw [List.getElem_append_right (by simp [mkL_length]; omega)]
  simp [mkL_length, Nat.min_eq_left (Nat.le_of_lt h)]
theorem cntL_succ {l : List α} {i : Nat} (h : i < l.length) : cntL cnt (l.take (i + 1)) = cntL cnt (l.take i) + cnt l[i] := by
  rw [List.take_succ_eq_append_getElem h, cntL_append]; simp [cntL]
theorem cntL_le {l : List α} {i : Nat} : cntL cnt (l.take i) ≤ cntL cnt l := by
  conv => rhs; rw [← List.take_append_drop i l, cntL_append]
  omega
theorem mhalf_set {l : List α} {k : Int} {i : Nat} (h : i < l.length) : (mhalf mk cnt l k i).set i (mk l[i] (k + cntL cnt (l.take i))) = mhalf mk cnt l k (i + 1) := by
  unfold mhalf
  have h1 : (mkL mk cnt (l.take i) k).length = i := by simp [mkL_length]; omega
  rw [List.set_append_right _ _ (by omega), h1, Nat.sub_self, List.take_succ_eq_append_getElem h, mkL_append, List.append_assoc, List.drop_eq_getElem_cons h, List.set_cons_zero]
  simp [mkL]
theorem mhalf_at {f : α → D} {l : List α} {k : Int} {i : Nat} (h : i < l.length) : D.at ((mhalf mk cnt l k i).map f) i = f l[i] := by
  rw [at_map (by rw [mhalf_len]; exact h), mhalf_get h]
theorem mhalf_mset {f : α → D} {l : List α} {k : Int} {i : Nat} (h : i < l.length) {d : D} (hd : d = f (mk l[i] (k + cntL cnt (l.take i)))) : ((mhalf mk cnt l k i).map f).set i d = (mhalf mk cnt l k (i + 1)).map f := by
  rw [hd, ← List.map_set, mhalf_set h]
theorem mkL_get {l : List α} {k : Int} {i : Nat} (h : i < l.length) : (mkL mk cnt l k)[i]'(by rw [mkL_length]; exact h) = mk l[i] (k + cntL cnt (l.take i)) := by
  induction l generalizing k i with
  | nil => simp at h
  | cons x r ih =>
    cases i with
    | zero => simp [mkL, cntL]
    | succ i =>
      simp only [mkL, List.getElem_cons_succ, List.take_succ_cons, cntL]
      rw [ih (by simpa using h)]
      congr 1
      push_cast
      omega
theorem mkL_at {f : α → D} {l : List α} {k : Int} {i : Nat} (h : i < l.length) : D.at ((mkL mk cnt l k).map f) i = f (mk l[i] (k + cntL cnt (l.take i))) := by
  rw [at_map (by rw [mkL_length]; exact h), mkL_get h]
end
def maxK : Int := 4611686018427387904
def one {α : Type} (_ : α) : Nat := 1
section
variable {α : Type} {f : α → D} {mk : α → Int → α} {cnt : α → Nat}
end
section
variable {α : Type} {f : α → D} {mk : α → Int → α} {cnt : α → Nat}
end
end Go.Ax
