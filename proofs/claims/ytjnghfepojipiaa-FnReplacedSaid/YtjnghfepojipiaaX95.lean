/- Contracts of functions of the seat, proved over the engine. No condition. -/
import Derived.Test.YtjnghfepojipiaaX94
set_option linter.unusedSimpArgs false
set_option linter.unusedVariables false
set_option linter.unnecessarySimpa false
namespace Go.Ax
set_option linter.unusedSimpArgs false
set_option maxRecDepth 20000

def spE : List Int → List (Nat × Nat) → Ex → D
 | x :: xs, a :: as, .mk k n nn ks => if isIn x 0 ((ks.length : Int) - 1) = true then
   .ag [.sc (.int .i64 k), .sc (.int .i64 n), .lc a.1 a.2 (.ls nn 3 ((ks.map eE).set x.toNat (spE xs as (ks.getD x.toNat default))))] else eE (.mk k n nn ks)
 | _, _, e => eE e

def locE : Nat × Nat → List Int → List (Nat × Nat) → Ex → Nat × Nat
 | p, x :: xs, a :: as, .mk _ _ _ ks => if isIn x 0 ((ks.length : Int) - 1) = true then locE (a.1, a.2 + x.toNat * 3) xs as (ks.getD x.toNat default) else p
 | p, _, _, _ => p
theorem spE_nil {as : List (Nat × Nat)} {e : Ex} : spE [] as e = eE e := by
 unfold spE; rfl
theorem spE_nila {xs : List Int} {e : Ex} : spE xs [] e = eE e := by
 cases xs <;> (unfold spE; rfl)
theorem spE_cons {x : Int} {xs : List Int} {a : Nat × Nat} {as : List (Nat × Nat)} {k n : Int} {nn : Option Bool} {ks : List Ex} : spE (x :: xs) (a :: as) (.mk k n nn ks) =
  if isIn x 0 ((ks.length : Int) - 1) = true then .ag [.sc (.int .i64 k), .sc (.int .i64 n), .lc a.1 a.2 (.ls nn 3 ((ks.map eE).set x.toNat (spE xs as (ks.getD x.toNat default))))] else eE (.mk k n nn ks) := by rw [spE]
theorem locE_nil {p : Nat × Nat} {as : List (Nat × Nat)} {e : Ex} : locE p [] as e = p := by
 unfold locE; rfl
theorem locE_cons {p : Nat × Nat} {x : Int} {xs : List Int} {a : Nat × Nat} {as : List (Nat × Nat)} {k n : Int} {nn : Option Bool} {ks : List Ex} : locE p (x :: xs) (a :: as) (.mk k n nn ks) =
  if isIn x 0 ((ks.length : Int) - 1) = true then locE (a.1, a.2 + x.toNat * 3) xs as (ks.getD x.toNat default) else p := by rw [locE]
theorem spE_size {xs : List Int} {as : List (Nat × Nat)} {e : Ex} : (spE xs as e).size = 3 ∧ (spE xs as e).isAg = true := by
 obtain ⟨k, n, nn, ks, rfl⟩ := Ex.ex e
 cases xs with
 | nil => rw [spE_nil]; exact ⟨eE_size _, eE_isAg _⟩
 | cons x xs => cases as with
  | nil => rw [spE_nila]; exact ⟨eE_size _, eE_isAg _⟩
  | cons a as =>
   rw [spE_cons]
   split
   ·simp [D.size, D.sizeL, D.isAg]
   ·exact ⟨eE_size _, eE_isAg _⟩
def K_l04AtL (P : Program) (f : Nat) : Prop := ∀ (p : Nat × Nat) (e : Ex) (nn : Option Bool) (xs : List Int) (as : List (Nat × Nat)) (_ : fitE e) (_ : as.length = xs.length),
 AF P f [.lc p.1 p.2 (.pt (spE xs as e) 0), .ls nn 1 (xs.map eI)] (.tup [.sh (.lc (locE p xs as e).1 (locE p xs as e).2 (.pt (eE (atE e xs false).1) 0)), .own (eB (atE e xs false).2.1), .own (eB (atE e xs false).2.2)])
theorem a_l04AtL {P : Program} (hm : P.follows .mixedOrders = true) {g f1 : Nat} (hr : resF P g = some (48, k_l04At f1, [.t 4, .t 5, .t 6])) (hc1 : K_l00In P f1) : K_l04AtL P g := by
 intro p0 e nn xs as hf has
 refine af_of_res hr hm rfl fun hb => ?_
 have hl : xs.length ≤ 9223372036854775807 := by
  have := hb.2.1
  simp only [D.bd, List.length_map, maxEl] at this
  exact this.1
 simp +contextual -implicitDefEqProofs only [k_l04At, eI, go_sem, eB, ↓reduceIte, Nat.reduceEqDiff, Nat.reduceAdd, Nat.reduceLeDiff, Nat.reduceMul, Nat.reduceBEq, Nat.reduceBneDiff, Nat.reduceLT, Nat.reduceSub, Int.ofNat_lt, List.length_map, List.length_set, Int.natCast_nonneg, Nat.zero_lt_one]
 refine vc_loop (α := Nat × Ex × Bool × (Nat × Nat)) (fun x => ⟨48, [(0, .im none (.lc x.2.2.2.1 x.2.2.2.2 (.pt (spE (xs.drop x.1) (as.drop x.1) x.2.1) 0))), (1, .im none (.ls nn 1 (xs.map eI))), (7, .im none (.sc (.bool x.2.2.1))), (8, .im none (.sc (.int .i64 x.1)))], []⟩)
  (fun x => x.1 ≤ xs.length ∧ fitE x.2.1 ∧ atE x.2.1 (xs.drop x.1) x.2.2.1 = atE e xs false ∧ locE x.2.2.2 (xs.drop x.1) (as.drop x.1) x.2.1 = locE p0 xs as e) (fun x => xs.length - x.1) (0, e, false, p0)
  (Ent.env (by simp only [subEnv, go_sem, ↓reduceIte, Nat.reduceEqDiff]; simp)) ⟨Nat.zero_le _, hf, rfl, rfl⟩ ?_
 rintro ⟨i, e, b, p⟩ ⟨j1, j2, j3, j4⟩
 simp only at j1 j2 j3 j4
 obtain ⟨k, n, en, ks, rfl⟩ := Ex.ex e
 by_cases hi : i < xs.length
 ·have hia : i < as.length := by omega
  rw [atE_step hi] at j3
  rw [List.drop_eq_getElem_cons hi, List.drop_eq_getElem_cons hia, locE_cons] at j4
  simp only []
  rw [List.drop_eq_getElem_cons hi, List.drop_eq_getElem_cons hia, spE_cons]
  generalize as[i] = a at j4 ⊢
  have hks := (fitE_mk k n en ks).1 j2
  have e2 := at_map (f := eI) hi
  have hpn : IntKind.i64.wrap ((ks.length : Int) - 1) = (ks.length : Int) - 1 := wrap_i64 (by omega) (by omega)
  cases hin : isIn xs[i] 0 ((ks.length : Int) - 1)
  ·simp only [Ex.ks_mk, hin, Bool.false_eq_true, if_false] at j3 j4
   simp only [hin, Bool.false_eq_true, if_false, eE_mk]
   simp +contextual -implicitDefEqProofs only [e2, hi, hpn, eI, bne, Bool.not_true, Bool.not_false, Bool.true_and, Bool.false_and, Bool.and_true, Bool.and_false, Bool.true_or, Bool.false_or, Bool.or_true, Bool.or_false, go_sem, eB, ↓reduceIte, Nat.reduceEqDiff, Nat.reduceAdd, Nat.reduceLeDiff, Nat.reduceMul, Nat.reduceBEq, Nat.reduceBneDiff, Nat.reduceLT, Nat.reduceSub, Int.ofNat_lt, List.length_map, List.length_set, Int.natCast_nonneg, Nat.zero_lt_one]
   refine callQ_self ?_ (hc1 xs[i] 0 ((ks.length : Int) - 1)) ?_
   ·exact rfl
   simp +contextual -implicitDefEqProofs only [e2, hi, hpn, hin, eI, bne, Bool.not_true, Bool.not_false, Bool.true_and, Bool.false_and, Bool.and_true, Bool.and_false, Bool.true_or, Bool.false_or, Bool.or_true, Bool.or_false, go_sem, eB, ↓reduceIte, Nat.reduceEqDiff, Nat.reduceAdd, Nat.reduceLeDiff, Nat.reduceMul, Nat.reduceBEq, Nat.reduceBneDiff, Nat.reduceLT, Nat.reduceSub, Int.ofNat_lt, List.length_map, List.length_set, Int.natCast_nonneg, Nat.zero_lt_one]
   rw [← j3, ← j4]
   simp only [eE_mk]
   exact ⟨D.Le.refl _, D.Le.refl _, D.Le.refl _⟩
  ·simp only [Ex.ks_mk, Ex.k_mk, hin, if_true] at j3 j4
   simp only [hin, if_true]
   obtain ⟨q1, q2, q3⟩ := isIn_lt hin
   simp +contextual -implicitDefEqProofs only [e2, hi, hpn, eI, bne, Bool.not_true, Bool.not_false, Bool.true_and, Bool.false_and, Bool.and_true, Bool.and_false, Bool.true_or, Bool.false_or, Bool.or_true, Bool.or_false, go_sem, eB, ↓reduceIte, Nat.reduceEqDiff, Nat.reduceAdd, Nat.reduceLeDiff, Nat.reduceMul, Nat.reduceBEq, Nat.reduceBneDiff, Nat.reduceLT, Nat.reduceSub, Int.ofNat_lt, List.length_map, List.length_set, Int.natCast_nonneg, Nat.zero_lt_one]
   refine callQ_self ?_ (hc1 xs[i] 0 ((ks.length : Int) - 1)) ?_
   ·exact rfl
   have hfk := fitE_kid j2 q3
   have e3 := fun d => at_set (es := ks.map eE) (x := d) (el := xs[i].toNat) (by simpa using q3)
   generalize ks.getD xs[i].toNat default = kid at j3 j4 e3 hfk ⊢
   cases b
   all_goals
    simp +contextual -implicitDefEqProofs only [e2, e3, hi, hpn, hin, q1, q2, eI, bne, Bool.not_true, Bool.not_false, Bool.true_and, Bool.false_and, Bool.and_true, Bool.and_false, Bool.true_or, Bool.false_or, Bool.or_true, Bool.or_false, go_sem, eB, ↓reduceIte, Nat.reduceEqDiff, Nat.reduceAdd, Nat.reduceLeDiff, Nat.reduceMul, Nat.reduceBEq, Nat.reduceBneDiff, Nat.reduceLT, Nat.reduceSub, Int.ofNat_lt, List.length_map, List.length_set, Int.natCast_nonneg, Nat.zero_lt_one]
    rw [wrap_i64 (by omega) (by omega)]
    exact ⟨(i + 1, kid, _, (a.1, a.2 + xs[i].toNat * 3)), ⟨by simp only; omega, hfk, j3, j4⟩, by simp only; omega, Ent.env (by simp only [subEnv, go_sem, ↓reduceIte, Nat.reduceEqDiff]; simp)⟩
 ·rw [List.drop_eq_nil_of_le (by omega), atE] at j3
  rw [List.drop_eq_nil_of_le (by omega), locE_nil] at j4
  simp only []
  rw [List.drop_eq_nil_of_le (by omega), spE_nil]
  simp +contextual -implicitDefEqProofs only [hi, go_sem, eI, eB, ↓reduceIte, Nat.reduceEqDiff, Nat.reduceAdd, Nat.reduceLeDiff, Nat.reduceMul, Nat.reduceBEq, Nat.reduceBneDiff, Nat.reduceLT, Nat.reduceSub, Int.ofNat_lt, List.length_map, List.length_set, Int.natCast_nonneg, Nat.zero_lt_one]
  rw [← j3, ← j4]
  exact ⟨D.Le.refl _, D.Le.refl _, D.Le.refl _⟩
end Go.Ax
