/- Contracts of functions of the seat, proved over the engine. No condition. -/
import Derived.Test.YtmeajebpmefjcaaV3
namespace Go.Ax
open Go.Proofs
set_option linter.unusedSimpArgs false
theorem cut_nonneg {x : Int} (h : 0 ≤ cut x) : 0 ≤ x := by
  unfold cut at h
  split at h <;> omega
theorem szL_rows : ∀ {r : List (SL Int)} {l : Int}, l ≤ 1048576 → 0 ≤ szL rowI r l → ∀ x ∈ r, x.2.length ≤ 1048576
  | [], _, _, _ => by simp
  | y :: r, l, h1, h2 => by
    simp only [szL] at h2
    split at h2
    · omega
    · next hl =>
      have hy : rowI y l ≤ 1048576 := cut_le (by omega) (by omega)
      have hy0 : 0 ≤ rowI y l := by
        by_cases h : rowI y l < 0
        · rw [szL_neg h] at h2; exact h2
        · omega
      intro x hx
      rcases List.mem_cons.1 hx with rfl | hx
      · have := cut_nonneg hy0
        omega
      · exact szL_rows hy h2 x hx
theorem szW_fits {w : W} (h : ¬ szW w 1048576 < 0) : w.1.2.length ≤ 1048576 ∧ w.2.2.length ≤ 1048576 ∧ ∀ r ∈ w.2.2, r.2.length ≤ 1048576 := by
  unfold szW at h
  split at h
  · omega
  · next h1 =>
    have a := cut_nonneg (show 0 ≤ cut (1048576 - w.1.2.length) by unfold rowI at h1; omega)
    have hr : rowI w.1 1048576 ≤ 1048576 := cut_le (by omega) (by omega)
    unfold szS at h
    have b : 0 ≤ cut (rowI w.1 1048576 - w.2.2.length) := by
      by_cases h' : cut (rowI w.1 1048576 - w.2.2.length) < 0
      · rw [szL_neg h'] at h; omega
      · omega
    have b' := cut_nonneg b
    exact ⟨by omega, by omega, szL_rows (l := cut (rowI w.1 1048576 - w.2.2.length)) (cut_le (by omega) (by omega)) (by omega)⟩
def nzW (w : W) : W := ((some false, w.1.2), (some false, w.2.2.map fun r => (some false, r.2)))
theorem okW_nz (g : Int × Int) (w : W) : okW g (nzW w) = okW g w := by
  have e : (nzW w).2.2.all (rowOk w.1.2.length) = w.2.2.all (rowOk w.1.2.length) := by simp only [nzW, List.all_map]; rfl
  have e2 : headOk g (nzW w) = headOk g w := by simp [headOk, nzW]
  unfold okW
  rw [e2]
  exact congrArg _ e
theorem eqL_refl {α : Type} {q : α → α → Bool} (h : ∀ x, q x x = true) : ∀ (l : List α), eqL q l l = true
  | [] => rfl
  | x :: l => by simp [eqL, h x, eqL_refl h l]
theorem af8 (g : Int × Int) (w : W) : AF Try.prog 8 [eG g, eW w] (.own (eB (okG g && okW g w))) := by
  refine af_of_res res8 mixed rfl fun _ => ?_
  simp +contextual -implicitDefEqProofs only [rc8, eG, eW, eS, go_sem, eI, eB, ↓reduceIte, Nat.reduceEqDiff, Nat.reduceAdd, Nat.reduceLeDiff, Nat.reduceMul, Nat.reduceBEq, Nat.reduceBneDiff, Nat.reduceLT, Nat.reduceSub, decide_true, decide_false, and_self, true_and, and_true, false_and, and_false, not_true_eq_false, not_false_eq_true, false_implies, true_implies, implies_true, ge_iff_le]
  refine callQ_self ?_ (af27 g w) ?_
  · exact rfl
  simp +contextual -implicitDefEqProofs only [eS, go_sem, eI, eB, ↓reduceIte, Nat.reduceEqDiff, Nat.reduceAdd, Nat.reduceLeDiff, Nat.reduceMul, Nat.reduceBEq, Nat.reduceBneDiff, Nat.reduceLT, Nat.reduceSub, decide_true, decide_false, and_self, true_and, and_true, false_and, and_false, not_true_eq_false, not_false_eq_true, false_implies, true_implies, implies_true, ge_iff_le]
theorem af11 (g : Int × Int) (w : W) : AF Try.prog 11 [eG g, eW w] (.own (eB (okG g && okW g w))) := by
  refine af_of_res res11 mixed rfl fun _ => ?_
  simp +contextual -implicitDefEqProofs only [rc11, eG, eW, eS, go_sem, eI, eB, ↓reduceIte, Nat.reduceEqDiff, Nat.reduceAdd, Nat.reduceLeDiff, Nat.reduceMul, Nat.reduceBEq, Nat.reduceBneDiff, Nat.reduceLT, Nat.reduceSub, decide_true, decide_false, and_self, true_and, and_true, false_and, and_false, not_true_eq_false, not_false_eq_true, false_implies, true_implies, implies_true, ge_iff_le]
  refine callQ_self ?_ (af30 g) ?_
  · exact rfl
  cases hg : okG g
  · simp +contextual -implicitDefEqProofs only [go_sem, eI, eB, ↓reduceIte, Nat.reduceEqDiff, Nat.reduceAdd, Nat.reduceLeDiff, Nat.reduceMul, Nat.reduceBEq, Nat.reduceBneDiff, Nat.reduceLT, Nat.reduceSub, decide_true, decide_false, and_self, true_and, and_true, false_and, and_false, not_true_eq_false, not_false_eq_true, false_implies, true_implies, implies_true, ge_iff_le, hg]
  have hG : 0 ≤ g.1 ∧ g.1 ≤ 3 := by
    simp [okG, isIn] at hg
    omega
  simp +contextual -implicitDefEqProofs only [hg, go_sem, eI, eB, ↓reduceIte, Nat.reduceEqDiff, Nat.reduceAdd, Nat.reduceLeDiff, Nat.reduceMul, Nat.reduceBEq, Nat.reduceBneDiff, Nat.reduceLT, Nat.reduceSub, decide_true, decide_false, and_self, true_and, and_true, false_and, and_false, not_true_eq_false, not_false_eq_true, false_implies, true_implies, implies_true, ge_iff_le]
  refine callQ_self ?_ (af31 g w hG) ?_
  · exact rfl
  simp +contextual -implicitDefEqProofs only [eS, go_sem, eI, eB, ↓reduceIte, Nat.reduceEqDiff, Nat.reduceAdd, Nat.reduceLeDiff, Nat.reduceMul, Nat.reduceBEq, Nat.reduceBneDiff, Nat.reduceLT, Nat.reduceSub, decide_true, decide_false, and_self, true_and, and_true, false_and, and_false, not_true_eq_false, not_false_eq_true, false_implies, true_implies, implies_true, ge_iff_le]
theorem af3 (g : Int × Int) (w : W) : AF Try.prog 3 [eG g, eW w] (.own (eB true)) := by
  refine af_of_res res3 mixed rfl fun _ => ?_
  simp +contextual -implicitDefEqProofs only [rc3, eG, eW, eS, go_sem, eI, eB, ↓reduceIte, Nat.reduceEqDiff, Nat.reduceAdd, Nat.reduceLeDiff, Nat.reduceMul, Nat.reduceBEq, Nat.reduceBneDiff, Nat.reduceLT, Nat.reduceSub, decide_true, decide_false, and_self, true_and, and_true, false_and, and_false, not_true_eq_false, not_false_eq_true, false_implies, true_implies, implies_true, ge_iff_le]
  refine callQ_self ?_ (af7 w 1048576 (by omega) (by omega)) ?_
  · exact rfl
  simp +contextual -implicitDefEqProofs only [eS, go_sem, eI, eB, ↓reduceIte, Nat.reduceEqDiff, Nat.reduceAdd, Nat.reduceLeDiff, Nat.reduceMul, Nat.reduceBEq, Nat.reduceBneDiff, Nat.reduceLT, Nat.reduceSub, decide_true, decide_false, and_self, true_and, and_true, false_and, and_false, not_true_eq_false, not_false_eq_true, false_implies, true_implies, implies_true, ge_iff_le]
  intro hs
  obtain ⟨f1, f2, f3⟩ := szW_fits hs
  refine callQ_self ?_ (af9 g) ?_
  · exact rfl
  simp +contextual -implicitDefEqProofs only [eS, eG, go_sem, eI, eB, ↓reduceIte, Nat.reduceEqDiff, Nat.reduceAdd, Nat.reduceLeDiff, Nat.reduceMul, Nat.reduceBEq, Nat.reduceBneDiff, Nat.reduceLT, Nat.reduceSub, decide_true, decide_false, and_self, true_and, and_true, false_and, and_false, not_true_eq_false, not_false_eq_true, false_implies, true_implies, implies_true, ge_iff_le]
  refine callQ_self ?_ (af10 w f1 f2 f3) ?_
  · exact rfl
  simp +contextual -implicitDefEqProofs only [eS, eW, go_sem, eI, eB, ↓reduceIte, Nat.reduceEqDiff, Nat.reduceAdd, Nat.reduceLeDiff, Nat.reduceMul, Nat.reduceBEq, Nat.reduceBneDiff, Nat.reduceLT, Nat.reduceSub, decide_true, decide_false, and_self, true_and, and_true, false_and, and_false, not_true_eq_false, not_false_eq_true, false_implies, true_implies, implies_true, ge_iff_le]
  refine callQ_self ?_ (af8 g (nzW w)) ?_
  · exact rfl
  simp +contextual -implicitDefEqProofs only [eS, eW, nzW, go_sem, eI, eB, ↓reduceIte, Nat.reduceEqDiff, Nat.reduceAdd, Nat.reduceLeDiff, Nat.reduceMul, Nat.reduceBEq, Nat.reduceBneDiff, Nat.reduceLT, Nat.reduceSub, decide_true, decide_false, and_self, true_and, and_true, false_and, and_false, not_true_eq_false, not_false_eq_true, false_implies, true_implies, implies_true, ge_iff_le]
  refine callQ_self ?_ (af10 w f1 f2 f3) ?_
  · exact rfl
  simp +contextual -implicitDefEqProofs only [eS, eW, go_sem, eI, eB, ↓reduceIte, Nat.reduceEqDiff, Nat.reduceAdd, Nat.reduceLeDiff, Nat.reduceMul, Nat.reduceBEq, Nat.reduceBneDiff, Nat.reduceLT, Nat.reduceSub, decide_true, decide_false, and_self, true_and, and_true, false_and, and_false, not_true_eq_false, not_false_eq_true, false_implies, true_implies, implies_true, ge_iff_le]
  refine callQ_self ?_ (af9 g) ?_
  · exact rfl
  simp +contextual -implicitDefEqProofs only [eS, eG, go_sem, eI, eB, ↓reduceIte, Nat.reduceEqDiff, Nat.reduceAdd, Nat.reduceLeDiff, Nat.reduceMul, Nat.reduceBEq, Nat.reduceBneDiff, Nat.reduceLT, Nat.reduceSub, decide_true, decide_false, and_self, true_and, and_true, false_and, and_false, not_true_eq_false, not_false_eq_true, false_implies, true_implies, implies_true, ge_iff_le]
  refine callQ_self ?_ (af11 g (nzW w)) ?_
  · exact rfl
  simp +contextual -implicitDefEqProofs only [eS, eW, nzW, go_sem, eI, eB, ↓reduceIte, Nat.reduceEqDiff, Nat.reduceAdd, Nat.reduceLeDiff, Nat.reduceMul, Nat.reduceBEq, Nat.reduceBneDiff, Nat.reduceLT, Nat.reduceSub, decide_true, decide_false, and_self, true_and, and_true, false_and, and_false, not_true_eq_false, not_false_eq_true, false_implies, true_implies, implies_true, ge_iff_le]
  refine callQ_self ?_ (af10 w f1 f2 f3) ?_
  · exact rfl
  simp +contextual -implicitDefEqProofs only [eS, eW, go_sem, eI, eB, ↓reduceIte, Nat.reduceEqDiff, Nat.reduceAdd, Nat.reduceLeDiff, Nat.reduceMul, Nat.reduceBEq, Nat.reduceBneDiff, Nat.reduceLT, Nat.reduceSub, decide_true, decide_false, and_self, true_and, and_true, false_and, and_false, not_true_eq_false, not_false_eq_true, false_implies, true_implies, implies_true, ge_iff_le]
  refine callQ_self ?_ (af12 (nzW w) (nzW w)) ?_
  · exact rfl
  simp +contextual -implicitDefEqProofs only [eS, eW, nzW, go_sem, eI, eB, ↓reduceIte, Nat.reduceEqDiff, Nat.reduceAdd, Nat.reduceLeDiff, Nat.reduceMul, Nat.reduceBEq, Nat.reduceBneDiff, Nat.reduceLT, Nat.reduceSub, decide_true, decide_false, and_self, true_and, and_true, false_and, and_false, not_true_eq_false, not_false_eq_true, false_implies, true_implies, implies_true, ge_iff_le]
  have q1 : ∀ l : List Int, eqI l l = true := eqL_refl fun x => by simp
  have q2 : ∀ l : List (SL Int), eqII l l = true := eqL_refl fun x => q1 x.2
  rw [q1, q2]
  intro h
  cases h
end Go.Ax
