/- Contracts of functions of the seat, proved over the engine. No condition. -/
import Derived.Test.YtjnghfepojipiaaEnI
set_option linter.unusedSimpArgs false
set_option linter.unusedVariables false
set_option linter.unnecessarySimpa false
namespace Go.Ax
set_option linter.unusedSimpArgs false
set_option maxRecDepth 20000

def subM (e : List (Nat × MV)) : List (Nat × MV) → Prop
 | [] => True
 | (k, v) :: r => mlk e k = v ∧ subM e r
theorem subM_lk {e : List (Nat × MV)} : ∀ {e' : List (Nat × MV)}, subM e e' → ∀ t, mlk e' t = .any ∨ mlk e' t = mlk e t
 | [], _, t => .inl rfl
 | (k, v) :: r, h, t => by
  simp only [mlk]
  split
  ·next hk => subst hk; exact .inr h.1.symm
  ·exact subM_lk h.2 t
theorem MEnt.env {bx : Bool} {ds ds' : List D} {e e' : List (Nat × MV)} (hd : ds' = ds) (h : subM e e') : MEnt ⟨bx, ds, e⟩ ⟨bx, ds', e'⟩ := ⟨rfl, hd, subM_lk h⟩

def mkL {α : Type} (mk : α → Int → α) (cnt : α → Nat) : List α → Int → List α
 | [], _ => []
 | x :: r, k => mk x k :: mkL mk cnt r (k + cnt x)
def cntL {α : Type} (cnt : α → Nat) : List α → Nat
 | [] => 0
 | x :: r => cnt x + cntL cnt r
section
variable {α : Type} {mk : α → Int → α} {cnt : α → Nat}
theorem mkL_length : ∀ {l : List α} {k : Int}, (mkL mk cnt l k).length = l.length
 | [], _ => rfl
 | x :: r, k => by simp [mkL, mkL_length (l := r)]
theorem cntL_append : ∀ {a b : List α}, cntL cnt (a ++ b) = cntL cnt a + cntL cnt b
 | [], b => by simp [cntL]
 | x :: a, b => by simp [cntL, cntL_append (a := a)]; omega
theorem mkL_append : ∀ {a b : List α} {k : Int}, mkL mk cnt (a ++ b) k = mkL mk cnt a k ++ mkL mk cnt b (k + cntL cnt a)
 | [], b, k => by simp [mkL, cntL]
 | x :: a, b, k => by simp only [List.cons_append, mkL, mkL_append (a := a), cntL]; congr 3; push_cast; omega
def mhalf (mk : α → Int → α) (cnt : α → Nat) (l : List α) (k : Int) (i : Nat) : List α := mkL mk cnt (l.take i) k ++ l.drop i
theorem mhalf_len {l : List α} {k : Int} {i : Nat} : (mhalf mk cnt l k i).length = l.length := by
 simp [mhalf, mkL_length]; omega
theorem mhalf_zero {l : List α} {k : Int} : mhalf mk cnt l k 0 = l := by simp [mhalf, mkL]
theorem mhalf_full {l : List α} {k : Int} {i : Nat} (h : l.length ≤ i) : mhalf mk cnt l k i = mkL mk cnt l k := by
 simp [mhalf, List.take_of_length_le h, List.drop_eq_nil_of_le h]
theorem mhalf_get {l : List α} {k : Int} {i : Nat} (h : i < l.length) : (mhalf mk cnt l k i)[i]'(by rw [mhalf_len]; exact h) = l[i] := by
 unfold mhalf
 rw [List.getElem_append_right (by simp [mkL_length]; omega)]
 simp [mkL_length, Nat.min_eq_left (Nat.le_of_lt h)]
theorem cntL_succ {l : List α} {i : Nat} (h : i < l.length) : cntL cnt (l.take (i + 1)) = cntL cnt (l.take i) + cnt l[i] := by
 rw [List.take_succ_eq_append_getElem h, cntL_append]; simp [cntL]
theorem cntL_le {l : List α} {i : Nat} : cntL cnt (l.take i) ≤ cntL cnt l := by
 conv => rhs; rw [← List.take_append_drop i l, cntL_append]
 omega
theorem mhalf_set {l : List α} {k : Int} {i : Nat} (h : i < l.length) : (mhalf mk cnt l k i).set i (mk l[i] (k + cntL cnt (l.take i))) = mhalf mk cnt l k (i + 1) := by
 unfold mhalf
 have h1 : (mkL mk cnt (l.take i) k).length = i := by simp [mkL_length]; omega
 rw [List.set_append_right _ _ (by omega), h1, Nat.sub_self, List.take_succ_eq_append_getElem h, mkL_append, List.append_assoc, List.drop_eq_getElem_cons h, List.set_cons_zero]
 simp [mkL]
theorem mhalf_at {f : α → D} {l : List α} {k : Int} {i : Nat} (h : i < l.length) : D.at ((mhalf mk cnt l k i).map f) i = f l[i] := by
 rw [at_map (by rw [mhalf_len]; exact h), mhalf_get h]
theorem mhalf_mset {f : α → D} {l : List α} {k : Int} {i : Nat} (h : i < l.length) {d : D} (hd : d = f (mk l[i] (k + cntL cnt (l.take i)))) : ((mhalf mk cnt l k i).map f).set i d = (mhalf mk cnt l k (i + 1)).map f := by
 rw [hd, ← List.map_set, mhalf_set h]
theorem mkL_get {l : List α} {k : Int} {i : Nat} (h : i < l.length) : (mkL mk cnt l k)[i]'(by rw [mkL_length]; exact h) = mk l[i] (k + cntL cnt (l.take i)) := by
 induction l generalizing k i with
 | nil => simp at h
 | cons x r ih =>
  cases i with
  | zero => simp [mkL, cntL]
  | succ i =>
   simp only [mkL, List.getElem_cons_succ, List.take_succ_cons, cntL]
   rw [ih (by simpa using h)]
   congr 1
   push_cast
   omega
theorem mkL_at {f : α → D} {l : List α} {k : Int} {i : Nat} (h : i < l.length) : D.at ((mkL mk cnt l k).map f) i = f (mk l[i] (k + cntL cnt (l.take i))) := by
 rw [at_map (by rw [mkL_length]; exact h), mkL_get h]
end
def maxK : Int := 4611686018427387904
def cMkI : RC :=
 (.seq
  (.reg false [⟨none, .mv 4 (.c (.sc (.int .i64 0)))⟩])
  ((.seq
   ((.seq
    (.reg false [⟨none, .mv 5 (.c (.sc (.int .i64 0)))⟩])
    (.blk 0
     (.loop
      ((.seq
       ((.seq
        (.reg false [⟨none, .mv 6 (.t 5)⟩,
          ⟨none, .mv 7 (.t 0)⟩,
          ⟨none, .len 8 (.t 7)⟩,
          ⟨none, .bin 9 .lss (.t 6) (.t 8)⟩])
        (.cond (.t 9)
         (.skip)
         (.exit 0))))
       ((.seq
        (.blk 1
         ((.seq
          (.reg false [⟨none, .mv 12 (.t 0)⟩,
            ⟨none, .mv 13 (.t 5)⟩,
            ⟨none, .mv 14 (.t 1)⟩,
            ⟨none, .ia 15 1 (.t 12) (.t 13)⟩,
            ⟨none, .st 1 (.t 15) (.t 14)⟩])
          (.reg false [⟨none, .mv 16 (.t 1)⟩,
            ⟨none, .bin 17 .add (.t 16) (.c (.sc (.int .i64 1)))⟩,
            ⟨none, .mv 1 (.t 17)⟩]))))
        (.reg false [⟨none, .mv 10 (.t 5)⟩,
          ⟨none, .bin 11 .add (.t 10) (.c (.sc (.int .i64 1)))⟩,
          ⟨none, .mv 5 (.t 11)⟩])))))))))
   ((.seq
    (.reg false [⟨none, .mv 18 (.t 1)⟩,
      ⟨none, .mv 4 (.t 18)⟩])
    (.ret))))))
def mkI (_ : Int) (k : Int) : Int := k
def one {α : Type} (_ : α) : Nat := 1
theorem one_eq {α : Type} (x : α) : one x = 1 := rfl
theorem af_mkI {P : Program} {g : Nat} (hr : resF P g = some (19, cMkI, [.t 4])) (nn : Option Bool) (xs : List Int) (k : Int) (h0 : 0 ≤ k) (hb : k + cntL one xs ≤ maxK) :
  AFM P g (.ls nn 1 (xs.map eI)) k (.ls nn 1 ((mkL mkI one xs k).map eI)) (k + cntL one xs) := by
 unfold maxK at hb
 refine afm_ls hr (by omega) (by simp [mkL_length]) fun hmx bx hbx => ?_
 have hmx : xs.length ≤ 9223372036854775807 := by simpa [maxEl] using hmx
 simp +contextual -implicitDefEqProofs only [cMkI, mkL_length, go_sem, eI, eB, ↓reduceIte, Nat.reduceEqDiff, Nat.reduceAdd, Nat.reduceLeDiff, Nat.reduceMul, Nat.reduceBEq, Nat.reduceBneDiff, Nat.reduceLT, Nat.reduceSub, Int.ofNat_lt, List.length_map, Int.natCast_nonneg, Nat.zero_lt_one]
 refine m_loop (α := Nat) (fun i => ⟨bx, (mhalf mkI one xs k i).map eI, [(0, .rt), (1, .va (.int .i64 (k + cntL one (xs.take i)))), (5, .va (.int .i64 i))]⟩) (fun i => i ≤ xs.length) (fun i => xs.length - i) 0 (MEnt.env (by rw [mhalf_zero]) (by simp only [subM, go_sem, ↓reduceIte, Nat.reduceEqDiff, List.take_zero, cntL]; simp)) (Nat.zero_le _) ?_
 intro i j1
 by_cases hi : i < xs.length
 ·have hb1 : bx = true := hbx (by intro e; simp at e; subst e; simp at hi)
  have hc1 := cntL_le (cnt := one) (l := xs) (i := i + 1)
  have hc2 := cntL_succ (cnt := one) hi
  have e1 := mhalf_at (mk := mkI) (cnt := one) (f := eI) (k := k) hi
  subst hb1
  rw [one_eq] at hc2
  simp +contextual -implicitDefEqProofs only [e1, hi, mhalf_len, eI, D.sub, D.isSc, D.put, D.isAg, at_set, go_sem, eB, ↓reduceIte, Nat.reduceEqDiff, Nat.reduceAdd, Nat.reduceLeDiff, Nat.reduceMul, Nat.reduceBEq, Nat.reduceBneDiff, Nat.reduceLT, Nat.reduceSub, Int.ofNat_lt, List.length_map, Int.natCast_nonneg, Nat.zero_lt_one]
  rw [wrap_i64 (by omega) (by omega), wrap_i64 (by omega) (by omega)]
  have hk : k + (cntL one (xs.take i) : Int) + 1 = k + cntL one (xs.take (i + 1)) := by rw [hc2]; simp [one]; omega
  rw [hk]
  exact ⟨i + 1, by omega, by omega, MEnt.env ((mhalf_mset hi rfl).symm) (by simp only [subM, go_sem, ↓reduceIte, Nat.reduceEqDiff, List.length_map]; simp)⟩
 ·simp +contextual -implicitDefEqProofs only [hi, mhalf_len, go_sem, eI, eB, ↓reduceIte, Nat.reduceEqDiff, Nat.reduceAdd, Nat.reduceLeDiff, Nat.reduceMul, Nat.reduceBEq, Nat.reduceBneDiff, Nat.reduceLT, Nat.reduceSub, Int.ofNat_lt, List.length_map, Int.natCast_nonneg, Nat.zero_lt_one]
  have hl : xs.length ≤ i := by omega
  rw [mhalf_full hl, List.take_of_length_le hl]
  simp
section
variable {α : Type} {f : α → D} {mk : α → Int → α} {cnt : α → Nat}
end
section
variable {α : Type} {f : α → D} {mk : α → Int → α} {cnt : α → Nat}
end
end Go.Ax
