/- Contracts of functions of the seat, proved over the engine. No condition. -/
import Derived.Test.YtmeajebpmefjcaaU2
import Derived.Test.YtmeajebpmefjcaaAxD
namespace Go.Ax
open Go.Proofs
set_option linter.unusedSimpArgs false
abbrev eq1 (a b : SL Bool) : Bool := eqL (fun x y => x == y) a.2 b.2
abbrev eq2 (a b : SL (SL Bool)) : Bool := eqL eq1 a.2 b.2
abbrev eq3 (a b : SL (SL (SL Bool))) : Bool := eqL eq2 a.2 b.2
def sameMo (a b : Mo) : Bool := qG a.1 b.1 && ((a.2.1 == b.2.1) && (eq2 a.2.2.1 b.2.2.1 && eq3 a.2.2.2 b.2.2.2))
theorem af71 (a b : SL Bool) : AF Try.prog 71 [eS 1 eB a, eS 1 eB b] (.own (eB (eq1 a b))) := af_eqB mixed res71 a b
theorem af52 (a b : SL (SL Bool)) : AF Try.prog 52 [eS 1 (eS 1 eB) a, eS 1 (eS 1 eB) b] (.own (eB (eq2 a b))) := af_eqC mixed (encS eB 1) res52 eq1 a b fun x _ y _ => af71 x y
theorem af73 (a b : SL Bool) : AF Try.prog 73 [eS 1 eB a, eS 1 eB b] (.own (eB (eq1 a b))) := af_seB mixed res73 a b
theorem af72 (a b : SL (SL Bool)) : AF Try.prog 72 [eS 1 (eS 1 eB) a, eS 1 (eS 1 eB) b, .sc (.func (.func 73) #[] #[])] (.own (eB (eq2 a b))) := af_efS mixed (encS eB 1) res72 eq1 a b fun x _ y _ => af73 x y
theorem af53 (a b : SL (SL Bool)) : AF Try.prog 53 [eS 1 (eS 1 eB) a, eS 1 (eS 1 eB) b] (.own (eB (eq2 a b))) := by
  refine af_of_res res53 mixed rfl fun _ => ?_
  simp +contextual -implicitDefEqProofs only [rc53, eS, go_sem, eI, eB, ↓reduceIte, Nat.reduceEqDiff, Nat.reduceAdd, Nat.reduceLeDiff, Nat.reduceMul, Nat.reduceBEq, Nat.reduceBneDiff, Nat.reduceLT, Nat.reduceSub, decide_true, decide_false, and_self, true_and, and_true, false_and, and_false, not_true_eq_false, not_false_eq_true, false_implies, true_implies, implies_true, ge_iff_le, Bool.false_eq_true, List.cons_append, List.nil_append]
  refine callQ_self ?_ (af72 a b) ?_
  · exact rfl
  simp +contextual -implicitDefEqProofs only [eS, go_sem, eI, eB, ↓reduceIte, Nat.reduceEqDiff, Nat.reduceAdd, Nat.reduceLeDiff, Nat.reduceMul, Nat.reduceBEq, Nat.reduceBneDiff, Nat.reduceLT, Nat.reduceSub, decide_true, decide_false, and_self, true_and, and_true, false_and, and_false, not_true_eq_false, not_false_eq_true, false_implies, true_implies, implies_true, ge_iff_le, Bool.false_eq_true, List.cons_append, List.nil_append]
theorem af54 (a b : SL (SL (SL Bool))) : AF Try.prog 54 [eS 1 (eS 1 (eS 1 eB)) a, eS 1 (eS 1 (eS 1 eB)) b, .sc (.func (.func 53) #[] #[])] (.own (eB (eq3 a b))) := af_efS mixed (encS (eS 1 eB) 1) res54 eq2 a b fun x _ y _ => af53 x y
theorem af24 (a b : Mo) : AF Try.prog 24 [eM a, eM b] (.own (eB (sameMo a b))) := by
  refine af_of_res res24 mixed rfl fun hb => ?_
  cases c1 : (a.1.1 == b.1.1) <;> cases c2 : (a.1.2 == b.1.2) <;> cases c3 : (a.2.1 == b.2.1)
  all_goals
    simp +contextual -implicitDefEqProofs only [rc24, eM, eS, c1, c2, c3, qG, sameMo, bne, Bool.not_true, Bool.not_false, Bool.true_and, Bool.false_and, Bool.and_true, Bool.and_false, go_sem, eI, eB, ↓reduceIte, Nat.reduceEqDiff, Nat.reduceAdd, Nat.reduceLeDiff, Nat.reduceMul, Nat.reduceBEq, Nat.reduceBneDiff, Nat.reduceLT, Nat.reduceSub, decide_true, decide_false, and_self, true_and, and_true, false_and, and_false, not_true_eq_false, not_false_eq_true, false_implies, true_implies, implies_true, ge_iff_le, Bool.false_eq_true, List.cons_append, List.nil_append]
  refine callQ_self ?_ (af53 a.2.2.1 b.2.2.1) ?_
  · exact rfl
  cases c4 : eq2 a.2.2.1 b.2.2.1
  · simp +contextual -implicitDefEqProofs only [c1, c2, c3, c4, qG, sameMo, bne, Bool.not_true, Bool.not_false, Bool.true_and, Bool.false_and, Bool.and_true, Bool.and_false, go_sem, eI, eB, ↓reduceIte, Nat.reduceEqDiff, Nat.reduceAdd, Nat.reduceLeDiff, Nat.reduceMul, Nat.reduceBEq, Nat.reduceBneDiff, Nat.reduceLT, Nat.reduceSub, decide_true, decide_false, and_self, true_and, and_true, false_and, and_false, not_true_eq_false, not_false_eq_true, false_implies, true_implies, implies_true, ge_iff_le, Bool.false_eq_true, List.cons_append, List.nil_append]
  simp +contextual -implicitDefEqProofs only [c1, c2, c3, c4, eS, qG, sameMo, bne, Bool.not_true, Bool.not_false, Bool.true_and, Bool.false_and, Bool.and_true, Bool.and_false, go_sem, eI, eB, ↓reduceIte, Nat.reduceEqDiff, Nat.reduceAdd, Nat.reduceLeDiff, Nat.reduceMul, Nat.reduceBEq, Nat.reduceBneDiff, Nat.reduceLT, Nat.reduceSub, decide_true, decide_false, and_self, true_and, and_true, false_and, and_false, not_true_eq_false, not_false_eq_true, false_implies, true_implies, implies_true, ge_iff_le, Bool.false_eq_true, List.cons_append, List.nil_append]
  refine callQ_self ?_ (af54 a.2.2.2 b.2.2.2) ?_
  · exact rfl
  simp +contextual -implicitDefEqProofs only [c1, c2, c3, c4, eS, qG, sameMo, bne, Bool.not_true, Bool.not_false, Bool.true_and, Bool.false_and, Bool.and_true, Bool.and_false, go_sem, eI, eB, ↓reduceIte, Nat.reduceEqDiff, Nat.reduceAdd, Nat.reduceLeDiff, Nat.reduceMul, Nat.reduceBEq, Nat.reduceBneDiff, Nat.reduceLT, Nat.reduceSub, decide_true, decide_false, and_self, true_and, and_true, false_and, and_false, not_true_eq_false, not_false_eq_true, false_implies, true_implies, implies_true, ge_iff_le, Bool.false_eq_true, List.cons_append, List.nil_append]
theorem af23 (a b : Mo) : AF Try.prog 23 [eM a, eM b] (.own (eB (sameMo a b))) := by
  refine af_of_res res23 mixed rfl fun hb => ?_
  have hb1 := hb.1
  have hb2 := hb.2.1
  simp only [eM, eS, D.bd, D.bdL, List.length_map] at hb1 hb2
  have hl := hb1.2.2.2.2.1.1
  unfold maxEl at hl
  cases c1 : (a.1.1 == b.1.1) <;> cases c2 : (a.1.2 == b.1.2) <;> cases c3 : (a.2.1 == b.2.1)
  all_goals
    simp +contextual -implicitDefEqProofs only [rc23, eM, eS, c1, c2, c3, qG, sameMo, bne, Bool.not_true, Bool.not_false, Bool.true_and, Bool.false_and, Bool.and_true, Bool.and_false, go_sem, eI, eB, ↓reduceIte, Nat.reduceEqDiff, Nat.reduceAdd, Nat.reduceLeDiff, Nat.reduceMul, Nat.reduceBEq, Nat.reduceBneDiff, Nat.reduceLT, Nat.reduceSub, decide_true, decide_false, and_self, true_and, and_true, false_and, and_false, not_true_eq_false, not_false_eq_true, false_implies, true_implies, implies_true, ge_iff_le, Bool.false_eq_true, List.cons_append, List.nil_append]
  refine callQ_self ?_ (af52 a.2.2.1 b.2.2.1) ?_
  · exact rfl
  cases c4 : eq2 a.2.2.1 b.2.2.1
  · simp +contextual -implicitDefEqProofs only [c1, c2, c3, c4, qG, sameMo, bne, Bool.not_true, Bool.not_false, Bool.true_and, Bool.false_and, Bool.and_true, Bool.and_false, go_sem, eI, eB, ↓reduceIte, Nat.reduceEqDiff, Nat.reduceAdd, Nat.reduceLeDiff, Nat.reduceMul, Nat.reduceBEq, Nat.reduceBneDiff, Nat.reduceLT, Nat.reduceSub, decide_true, decide_false, and_self, true_and, and_true, false_and, and_false, not_true_eq_false, not_false_eq_true, false_implies, true_implies, implies_true, ge_iff_le, Bool.false_eq_true, List.cons_append, List.nil_append]
  cases h0 : ((a.2.2.2.2.length : Int) == b.2.2.2.2.length)
  · simp +contextual -implicitDefEqProofs only [eS, List.length_map, h0, c1, c2, c3, c4, eq3, eqL_len (show a.2.2.2.2.length ≠ b.2.2.2.2.length by simp at h0; omega), qG, sameMo, bne, Bool.not_true, Bool.not_false, Bool.true_and, Bool.false_and, Bool.and_true, Bool.and_false, go_sem, eI, eB, ↓reduceIte, Nat.reduceEqDiff, Nat.reduceAdd, Nat.reduceLeDiff, Nat.reduceMul, Nat.reduceBEq, Nat.reduceBneDiff, Nat.reduceLT, Nat.reduceSub, decide_true, decide_false, and_self, true_and, and_true, false_and, and_false, not_true_eq_false, not_false_eq_true, false_implies, true_implies, implies_true, ge_iff_le, Bool.false_eq_true, List.cons_append, List.nil_append]
  have hlen : a.2.2.2.2.length = b.2.2.2.2.length := by simp at h0; omega
  simp +contextual -implicitDefEqProofs only [eS, List.length_map, h0, bne, Bool.not_true, Bool.not_false, Bool.true_and, Bool.false_and, Bool.and_true, Bool.and_false, go_sem, eI, eB, ↓reduceIte, Nat.reduceEqDiff, Nat.reduceAdd, Nat.reduceLeDiff, Nat.reduceMul, Nat.reduceBEq, Nat.reduceBneDiff, Nat.reduceLT, Nat.reduceSub, decide_true, decide_false, and_self, true_and, and_true, false_and, and_false, not_true_eq_false, not_false_eq_true, false_implies, true_implies, implies_true, ge_iff_le, Bool.false_eq_true, List.cons_append, List.nil_append]
  refine vc_on (α := Nat) [4, 5, 35, 36, 37, 38, 39, 40, 41, 42, 43, 44, 45, 46, 47, 48, 49, 50, 51, 52, 53] (fun i => [(5, .im none (.sc (.int .i64 i)))]) (fun i => i ≤ a.2.2.2.2.length ∧ eqL eq2 (a.2.2.2.2.drop i) (b.2.2.2.2.drop i) = eq3 a.2.2.2 b.2.2.2) (fun i => a.2.2.2.2.length - i) 0
    (by simp only [subEnv, go_sem, ↓reduceIte, Nat.reduceEqDiff]; simp) ⟨by simp, by simp⟩ ?_
  rintro i ⟨j1, j4⟩
  by_cases hi : i < a.2.2.2.2.length
  · have hi2 : i < b.2.2.2.2.length := by omega
    have e1 := at_map (f := eS 1 (eS 1 eB)) hi
    have e2 := at_map (f := eS 1 (eS 1 eB)) hi2
    rw [List.drop_eq_getElem_cons hi, List.drop_eq_getElem_cons hi2] at j4
    simp only [eqL] at j4
    simp +contextual -implicitDefEqProofs only [eS, e1, e2, hi, hi2, Int.ofNat_lt, List.length_map, Int.natCast_nonneg, go_sem, eI, eB, ↓reduceIte, Nat.reduceEqDiff, Nat.reduceAdd, Nat.reduceLeDiff, Nat.reduceMul, Nat.reduceBEq, Nat.reduceBneDiff, Nat.reduceLT, Nat.reduceSub, decide_true, decide_false, and_self, true_and, and_true, false_and, and_false, not_true_eq_false, not_false_eq_true, false_implies, true_implies, implies_true, ge_iff_le, Bool.false_eq_true, List.cons_append, List.nil_append]
    refine callQ_self ?_ (af52 a.2.2.2.2[i] b.2.2.2.2[i]) ?_
    · exact rfl
    cases h : eq2 a.2.2.2.2[i] b.2.2.2.2[i]
    · simp +contextual -implicitDefEqProofs only [eI, eB, Bool.not_false, go_sem, eI, eB, ↓reduceIte, Nat.reduceEqDiff, Nat.reduceAdd, Nat.reduceLeDiff, Nat.reduceMul, Nat.reduceBEq, Nat.reduceBneDiff, Nat.reduceLT, Nat.reduceSub, decide_true, decide_false, and_self, true_and, and_true, false_and, and_false, not_true_eq_false, not_false_eq_true, false_implies, true_implies, implies_true, ge_iff_le, Bool.false_eq_true, List.cons_append, List.nil_append]
      exact D.Le.sc_eq (by rw [← j4, h]; rfl)
    · simp +contextual -implicitDefEqProofs only [eI, eB, Bool.not_true, go_sem, eI, eB, ↓reduceIte, Nat.reduceEqDiff, Nat.reduceAdd, Nat.reduceLeDiff, Nat.reduceMul, Nat.reduceBEq, Nat.reduceBneDiff, Nat.reduceLT, Nat.reduceSub, decide_true, decide_false, and_self, true_and, and_true, false_and, and_false, not_true_eq_false, not_false_eq_true, false_implies, true_implies, implies_true, ge_iff_le, Bool.false_eq_true, List.cons_append, List.nil_append]
      rw [wrap_i64 (by omega) (by omega)]
      exact ⟨i + 1, ⟨by omega, eqL_step j4 h⟩, by omega, Ent.env (by simp only [subEnv, go_sem, ↓reduceIte, Nat.reduceEqDiff, List.length_map]; simp)⟩
  · simp +contextual -implicitDefEqProofs only [eS, hi, Int.ofNat_lt, List.length_map, Int.natCast_nonneg, go_sem, eI, eB, ↓reduceIte, Nat.reduceEqDiff, Nat.reduceAdd, Nat.reduceLeDiff, Nat.reduceMul, Nat.reduceBEq, Nat.reduceBneDiff, Nat.reduceLT, Nat.reduceSub, decide_true, decide_false, and_self, true_and, and_true, false_and, and_false, not_true_eq_false, not_false_eq_true, false_implies, true_implies, implies_true, ge_iff_le, Bool.false_eq_true, List.cons_append, List.nil_append]
    refine D.Le.sc_eq ?_
    rw [← j4, List.drop_eq_nil_of_le (by omega), List.drop_eq_nil_of_le (by omega)]
    rfl
theorem af6 (a b : Mo) : AF Try.prog 6 [eM a, eM b] (.own (eB true)) := by
  refine af_of_res res6 mixed rfl fun _ => ?_
  simp +contextual -implicitDefEqProofs only [rc6, eM, eS, go_sem, eI, eB, ↓reduceIte, Nat.reduceEqDiff, Nat.reduceAdd, Nat.reduceLeDiff, Nat.reduceMul, Nat.reduceBEq, Nat.reduceBneDiff, Nat.reduceLT, Nat.reduceSub, decide_true, decide_false, and_self, true_and, and_true, false_and, and_false, not_true_eq_false, not_false_eq_true, false_implies, true_implies, implies_true, ge_iff_le, Bool.false_eq_true, List.cons_append, List.nil_append]
  refine callQ_self ?_ (famMo.afS a 1048576 (by omega) (by omega)) ?_
  · exact rfl
  simp +contextual -implicitDefEqProofs only [eS, eM, go_sem, eI, eB, ↓reduceIte, Nat.reduceEqDiff, Nat.reduceAdd, Nat.reduceLeDiff, Nat.reduceMul, Nat.reduceBEq, Nat.reduceBneDiff, Nat.reduceLT, Nat.reduceSub, decide_true, decide_false, and_self, true_and, and_true, false_and, and_false, not_true_eq_false, not_false_eq_true, false_implies, true_implies, implies_true, ge_iff_le, Bool.false_eq_true, List.cons_append, List.nil_append]
  have b1 := famMo.s_in a 1048576 (by omega) (by omega)
  refine fun hs => ?_
  have hf := famMo.s_fit a 1048576 (by omega) (by omega) (by omega)
  refine callQ_self ?_ (famMo.afS b (famMo.s a 1048576) (by omega) (by omega)) ?_
  · exact rfl
  simp +contextual -implicitDefEqProofs only [eS, eM, go_sem, eI, eB, ↓reduceIte, Nat.reduceEqDiff, Nat.reduceAdd, Nat.reduceLeDiff, Nat.reduceMul, Nat.reduceBEq, Nat.reduceBneDiff, Nat.reduceLT, Nat.reduceSub, decide_true, decide_false, and_self, true_and, and_true, false_and, and_false, not_true_eq_false, not_false_eq_true, false_implies, true_implies, implies_true, ge_iff_le, Bool.false_eq_true, List.cons_append, List.nil_append]
  refine fun hs2 => ?_
  have hf2 := famMo.s_fit b (famMo.s a 1048576) (by omega) (by omega) (by omega)
  refine callQ_self ?_ (famMo.afT a hf) ?_
  · exact rfl
  simp +contextual -implicitDefEqProofs only [eM, eS, famMo_t, tMo, famBSS_t, famBSSS_t, go_sem, eI, eB, ↓reduceIte, Nat.reduceEqDiff, Nat.reduceAdd, Nat.reduceLeDiff, Nat.reduceMul, Nat.reduceBEq, Nat.reduceBneDiff, Nat.reduceLT, Nat.reduceSub, decide_true, decide_false, and_self, true_and, and_true, false_and, and_false, not_true_eq_false, not_false_eq_true, false_implies, true_implies, implies_true, ge_iff_le, Bool.false_eq_true, List.cons_append, List.nil_append]
  refine callQ_self ?_ (famMo.afT b hf2) ?_
  · exact rfl
  simp +contextual -implicitDefEqProofs only [eM, eS, famMo_t, tMo, famBSS_t, famBSSS_t, go_sem, eI, eB, ↓reduceIte, Nat.reduceEqDiff, Nat.reduceAdd, Nat.reduceLeDiff, Nat.reduceMul, Nat.reduceBEq, Nat.reduceBneDiff, Nat.reduceLT, Nat.reduceSub, decide_true, decide_false, and_self, true_and, and_true, false_and, and_false, not_true_eq_false, not_false_eq_true, false_implies, true_implies, implies_true, ge_iff_le, Bool.false_eq_true, List.cons_append, List.nil_append]
  refine callQ_self ?_ (af23 (tMo a) (tMo b)) ?_
  · exact rfl
  simp +contextual -implicitDefEqProofs only [eM, eS, famMo_t, tMo, famBSS_t, famBSSS_t, go_sem, eI, eB, ↓reduceIte, Nat.reduceEqDiff, Nat.reduceAdd, Nat.reduceLeDiff, Nat.reduceMul, Nat.reduceBEq, Nat.reduceBneDiff, Nat.reduceLT, Nat.reduceSub, decide_true, decide_false, and_self, true_and, and_true, false_and, and_false, not_true_eq_false, not_false_eq_true, false_implies, true_implies, implies_true, ge_iff_le, Bool.false_eq_true, List.cons_append, List.nil_append]
  refine callQ_self ?_ (famMo.afT a hf) ?_
  · exact rfl
  simp +contextual -implicitDefEqProofs only [eM, eS, famMo_t, tMo, famBSS_t, famBSSS_t, go_sem, eI, eB, ↓reduceIte, Nat.reduceEqDiff, Nat.reduceAdd, Nat.reduceLeDiff, Nat.reduceMul, Nat.reduceBEq, Nat.reduceBneDiff, Nat.reduceLT, Nat.reduceSub, decide_true, decide_false, and_self, true_and, and_true, false_and, and_false, not_true_eq_false, not_false_eq_true, false_implies, true_implies, implies_true, ge_iff_le, Bool.false_eq_true, List.cons_append, List.nil_append]
  refine callQ_self ?_ (famMo.afT b hf2) ?_
  · exact rfl
  simp +contextual -implicitDefEqProofs only [eM, eS, famMo_t, tMo, famBSS_t, famBSSS_t, go_sem, eI, eB, ↓reduceIte, Nat.reduceEqDiff, Nat.reduceAdd, Nat.reduceLeDiff, Nat.reduceMul, Nat.reduceBEq, Nat.reduceBneDiff, Nat.reduceLT, Nat.reduceSub, decide_true, decide_false, and_self, true_and, and_true, false_and, and_false, not_true_eq_false, not_false_eq_true, false_implies, true_implies, implies_true, ge_iff_le, Bool.false_eq_true, List.cons_append, List.nil_append]
  refine callQ_self ?_ (af24 (tMo a) (tMo b)) ?_
  · exact rfl
  simp +contextual -implicitDefEqProofs only [eM, eS, famMo_t, tMo, famBSS_t, famBSSS_t, bne_self_eq_false, go_sem, eI, eB, ↓reduceIte, Nat.reduceEqDiff, Nat.reduceAdd, Nat.reduceLeDiff, Nat.reduceMul, Nat.reduceBEq, Nat.reduceBneDiff, Nat.reduceLT, Nat.reduceSub, decide_true, decide_false, and_self, true_and, and_true, false_and, and_false, not_true_eq_false, not_false_eq_true, false_implies, true_implies, implies_true, ge_iff_le, Bool.false_eq_true, List.cons_append, List.nil_append]
  refine callQ_self ?_ (famMo.afT a hf) ?_
  · exact rfl
  simp +contextual -implicitDefEqProofs only [eM, eS, famMo_t, tMo, famBSS_t, famBSSS_t, go_sem, eI, eB, ↓reduceIte, Nat.reduceEqDiff, Nat.reduceAdd, Nat.reduceLeDiff, Nat.reduceMul, Nat.reduceBEq, Nat.reduceBneDiff, Nat.reduceLT, Nat.reduceSub, decide_true, decide_false, and_self, true_and, and_true, false_and, and_false, not_true_eq_false, not_false_eq_true, false_implies, true_implies, implies_true, ge_iff_le, Bool.false_eq_true, List.cons_append, List.nil_append]
  refine callQ_self ?_ (famMo.afQ (tMo a) (tMo a)) ?_
  · exact rfl
  simp +contextual -implicitDefEqProofs only [eM, eS, famMo_t, tMo, famBSS_t, famBSSS_t, famMo.q_refl, Bool.not_true, go_sem, eI, eB, ↓reduceIte, Nat.reduceEqDiff, Nat.reduceAdd, Nat.reduceLeDiff, Nat.reduceMul, Nat.reduceBEq, Nat.reduceBneDiff, Nat.reduceLT, Nat.reduceSub, decide_true, decide_false, and_self, true_and, and_true, false_and, and_false, not_true_eq_false, not_false_eq_true, false_implies, true_implies, implies_true, ge_iff_le, Bool.false_eq_true, List.cons_append, List.nil_append]
  refine callQ_self ?_ (famMo.afT b hf2) ?_
  · exact rfl
  simp +contextual -implicitDefEqProofs only [eM, eS, famMo_t, tMo, famBSS_t, famBSSS_t, go_sem, eI, eB, ↓reduceIte, Nat.reduceEqDiff, Nat.reduceAdd, Nat.reduceLeDiff, Nat.reduceMul, Nat.reduceBEq, Nat.reduceBneDiff, Nat.reduceLT, Nat.reduceSub, decide_true, decide_false, and_self, true_and, and_true, false_and, and_false, not_true_eq_false, not_false_eq_true, false_implies, true_implies, implies_true, ge_iff_le, Bool.false_eq_true, List.cons_append, List.nil_append]
  refine callQ_self ?_ (famMo.afQ (tMo b) (tMo b)) ?_
  · exact rfl
  simp +contextual -implicitDefEqProofs only [eM, eS, famMo_t, tMo, famBSS_t, famBSSS_t, famMo.q_refl, Bool.not_true, go_sem, eI, eB, ↓reduceIte, Nat.reduceEqDiff, Nat.reduceAdd, Nat.reduceLeDiff, Nat.reduceMul, Nat.reduceBEq, Nat.reduceBneDiff, Nat.reduceLT, Nat.reduceSub, decide_true, decide_false, and_self, true_and, and_true, false_and, and_false, not_true_eq_false, not_false_eq_true, false_implies, true_implies, implies_true, ge_iff_le, Bool.false_eq_true, List.cons_append, List.nil_append]
end Go.Ax
