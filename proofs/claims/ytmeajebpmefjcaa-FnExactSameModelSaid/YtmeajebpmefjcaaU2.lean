/- Contracts of functions of the seat, proved over the engine. No condition. -/
import Derived.Test.YtmeajebpmefjcaaU1
import Derived.Test.YtmeajebpmefjcaaAxD
namespace Go.Ax
open Go.Proofs
set_option linter.unusedSimpArgs false
def eG (g : Int × Int) : D := .ag [eI g.1, eI g.2]
def isIn (n lo hi : Int) : Bool := decide (lo ≤ n) && decide (n ≤ hi)
def okG (g : Int × Int) : Bool := isIn g.1 0 3 && isIn g.2 0 4
abbrev Mo := (Int × Int) × Int × SL (SL Bool) × SL (SL (SL Bool))
def eM (m : Mo) : D := .ag [eI m.1.1, eI m.1.2, eI m.2.1, eS 1 (eS 1 eB) m.2.2.1, eS 1 (eS 1 (eS 1 eB)) m.2.2.2]
theorem af56 (n lo hi : Int) : AF Try.prog 56 [eI n, eI lo, eI hi] (.own (eB (isIn n lo hi))) := by
  refine af_of_res res56 mixed rfl fun _ => ?_
  simp +contextual -implicitDefEqProofs only [rc56, isIn, go_sem, eI, eB, ↓reduceIte, Nat.reduceEqDiff, Nat.reduceAdd, Nat.reduceLeDiff, Nat.reduceMul, Nat.reduceBEq, Nat.reduceBneDiff, Nat.reduceLT, Nat.reduceSub, decide_true, decide_false, and_self, true_and, and_true, false_and, and_false, not_true_eq_false, not_false_eq_true, false_implies, true_implies, implies_true, ge_iff_le, Bool.false_eq_true, List.cons_append, List.nil_append]
theorem af58 (n lo hi : Int) : AF Try.prog 58 [eI n, eI lo, eI hi] (.own (eB (isIn n lo hi))) := by
  refine af_of_res res58 mixed rfl fun _ => ?_
  simp +contextual -implicitDefEqProofs only [rc58, isIn, go_sem, eI, eB, ↓reduceIte, Nat.reduceEqDiff, Nat.reduceAdd, Nat.reduceLeDiff, Nat.reduceMul, Nat.reduceBEq, Nat.reduceBneDiff, Nat.reduceLT, Nat.reduceSub, decide_true, decide_false, and_self, true_and, and_true, false_and, and_false, not_true_eq_false, not_false_eq_true, false_implies, true_implies, implies_true, ge_iff_le, Bool.false_eq_true, List.cons_append, List.nil_append]
theorem af55 (g : Int × Int) : AF Try.prog 55 [eG g] (.own (eB (okG g))) := by
  refine af_of_res res55 mixed rfl fun _ => ?_
  simp +contextual -implicitDefEqProofs only [rc55, eG, go_sem, eI, eB, ↓reduceIte, Nat.reduceEqDiff, Nat.reduceAdd, Nat.reduceLeDiff, Nat.reduceMul, Nat.reduceBEq, Nat.reduceBneDiff, Nat.reduceLT, Nat.reduceSub, decide_true, decide_false, and_self, true_and, and_true, false_and, and_false, not_true_eq_false, not_false_eq_true, false_implies, true_implies, implies_true, ge_iff_le, Bool.false_eq_true, List.cons_append, List.nil_append]
  refine callQ_self ?_ (af56 g.1 0 3) ?_
  · exact rfl
  cases h1 : isIn g.1 0 3 <;> simp +contextual -implicitDefEqProofs only [okG, h1, go_sem, eI, eB, ↓reduceIte, Nat.reduceEqDiff, Nat.reduceAdd, Nat.reduceLeDiff, Nat.reduceMul, Nat.reduceBEq, Nat.reduceBneDiff, Nat.reduceLT, Nat.reduceSub, decide_true, decide_false, and_self, true_and, and_true, false_and, and_false, not_true_eq_false, not_false_eq_true, false_implies, true_implies, implies_true, ge_iff_le, Bool.false_eq_true, List.cons_append, List.nil_append]
  refine callQ_self ?_ (af56 g.2 0 4) ?_
  · exact rfl
  simp +contextual -implicitDefEqProofs only [go_sem, eI, eB, ↓reduceIte, Nat.reduceEqDiff, Nat.reduceAdd, Nat.reduceLeDiff, Nat.reduceMul, Nat.reduceBEq, Nat.reduceBneDiff, Nat.reduceLT, Nat.reduceSub, decide_true, decide_false, and_self, true_and, and_true, false_and, and_false, not_true_eq_false, not_false_eq_true, false_implies, true_implies, implies_true, ge_iff_le, Bool.false_eq_true, List.cons_append, List.nil_append]
theorem af30 (g : Int × Int) : AF Try.prog 30 [eG g] (.own (eB (okG g))) := by
  refine af_of_res res30 mixed rfl fun _ => ?_
  simp +contextual -implicitDefEqProofs only [rc30, eG, go_sem, eI, eB, ↓reduceIte, Nat.reduceEqDiff, Nat.reduceAdd, Nat.reduceLeDiff, Nat.reduceMul, Nat.reduceBEq, Nat.reduceBneDiff, Nat.reduceLT, Nat.reduceSub, decide_true, decide_false, and_self, true_and, and_true, false_and, and_false, not_true_eq_false, not_false_eq_true, false_implies, true_implies, implies_true, ge_iff_le, Bool.false_eq_true, List.cons_append, List.nil_append]
  refine callQ_self ?_ (af58 g.1 0 3) ?_
  · exact rfl
  cases h1 : isIn g.1 0 3 <;> simp +contextual -implicitDefEqProofs only [okG, h1, go_sem, eI, eB, ↓reduceIte, Nat.reduceEqDiff, Nat.reduceAdd, Nat.reduceLeDiff, Nat.reduceMul, Nat.reduceBEq, Nat.reduceBneDiff, Nat.reduceLT, Nat.reduceSub, decide_true, decide_false, and_self, true_and, and_true, false_and, and_false, not_true_eq_false, not_false_eq_true, false_implies, true_implies, implies_true, ge_iff_le, Bool.false_eq_true, List.cons_append, List.nil_append]
  refine callQ_self ?_ (af58 g.2 0 4) ?_
  · exact rfl
  simp +contextual -implicitDefEqProofs only [go_sem, eI, eB, ↓reduceIte, Nat.reduceEqDiff, Nat.reduceAdd, Nat.reduceLeDiff, Nat.reduceMul, Nat.reduceBEq, Nat.reduceBneDiff, Nat.reduceLT, Nat.reduceSub, decide_true, decide_false, and_self, true_and, and_true, false_and, and_false, not_true_eq_false, not_false_eq_true, false_implies, true_implies, implies_true, ge_iff_le, Bool.false_eq_true, List.cons_append, List.nil_append]
theorem af9 (g : Int × Int) : AF Try.prog 9 [eG g] (.own (eG g)) := by
  refine af_of_res res9 mixed rfl fun _ => ?_
  simp +contextual -implicitDefEqProofs only [rc9, eG, go_sem, eI, eB, ↓reduceIte, Nat.reduceEqDiff, Nat.reduceAdd, Nat.reduceLeDiff, Nat.reduceMul, Nat.reduceBEq, Nat.reduceBneDiff, Nat.reduceLT, Nat.reduceSub, decide_true, decide_false, and_self, true_and, and_true, false_and, and_false, not_true_eq_false, not_false_eq_true, false_implies, true_implies, implies_true, ge_iff_le, Bool.false_eq_true, List.cons_append, List.nil_append]
def qG (a b : Int × Int) : Bool := (a.1 == b.1) && (a.2 == b.2)
theorem af49 (a b : Int × Int) : AF Try.prog 49 [eG a, eG b] (.own (eB (qG a b))) := by
  refine af_of_res res49 mixed rfl fun _ => ?_
  cases h1 : (a.1 == b.1) <;> cases h2 : (a.2 == b.2) <;> simp +contextual -implicitDefEqProofs only [rc49, eG, qG, bne, h1, h2, Bool.not_true, Bool.not_false, Bool.true_and, Bool.false_and, go_sem, eI, eB, ↓reduceIte, Nat.reduceEqDiff, Nat.reduceAdd, Nat.reduceLeDiff, Nat.reduceMul, Nat.reduceBEq, Nat.reduceBneDiff, Nat.reduceLT, Nat.reduceSub, decide_true, decide_false, and_self, true_and, and_true, false_and, and_false, not_true_eq_false, not_false_eq_true, false_implies, true_implies, implies_true, ge_iff_le, Bool.false_eq_true, List.cons_append, List.nil_append]
def famBS : Fam Try.prog (eS 1 eB) 66 68 70 := famP mixed encB noB ⟨rfl, rfl, rfl⟩ (by omega) res66 res68 (eqL fun x y => x == y) (fun _ => eqL_refl fun _ _ => by simp) fun a b => af_eqB mixed res70 a b
theorem famBS_t (x) : famBS.t x = (some false, x.2) := rfl
def famBSS : Fam Try.prog (eS 1 (eS 1 eB)) 43 46 50 := famC mixed famBS (encS eB 1) ⟨rfl, rfl, rfl⟩ (by omega) res43 res46 res50
theorem famBSS_t (x) : famBSS.t x = (some false, x.2.map famBS.t) := rfl
def famBSSS : Fam Try.prog (eS 1 (eS 1 (eS 1 eB))) 44 47 51 := famC mixed famBSS (encS (eS 1 eB) 1) ⟨rfl, rfl, rfl⟩ (by omega) res44 res47 res51
theorem famBSSS_t (x) : famBSSS.t x = (some false, x.2.map famBSS.t) := rfl
def szMo (m : Mo) : Int → Int := fun l => nx (famBSS.s m.2.2.1 l) (fun l => nx (famBSSS.s m.2.2.2 l) (fun l => l))
def fitMo (m : Mo) : Prop := famBSS.fit m.2.2.1 ∧ famBSSS.fit m.2.2.2
def tMo (m : Mo) : Mo := (m.1, m.2.1, famBSS.t m.2.2.1, famBSSS.t m.2.2.2)
def qMo (a b : Mo) : Bool := (qG a.1 b.1 && ((a.2.1 == b.2.1) && (famBSS.q a.2.2.1 b.2.2.1 && famBSSS.q a.2.2.2 b.2.2.2)))
theorem szMo_in (m : Mo) (l : Int) (h1 : 0 ≤ l) (h2 : l ≤ 1048576) : -1 ≤ szMo m l ∧ szMo m l ≤ l := by
  refine in_tr (Int.le_refl l) (nx_in (famBSS.s_in m.2.2.1 l h1 (by omega)) h1 (by omega) fun y0 a0 b0 => ?_)
  refine in_tr b0 (nx_in (famBSSS.s_in m.2.2.2 y0 a0 (by omega)) a0 (by omega) fun y1 a1 b1 => ?_)
  exact ⟨by omega, b1⟩
theorem szMo_fit (m : Mo) (l : Int) (h2 : l ≤ 1048576) (h1 : 0 ≤ l) (h : 0 ≤ szMo m l) : fitMo m := by
  obtain ⟨p0, h⟩ := nx_fit h
  have e0 := famBSS.s_fit m.2.2.1 l (by omega) h1 p0
  have b0 := famBSS.s_in m.2.2.1 l h1 (by omega)
  obtain ⟨p1, h⟩ := nx_fit h
  have e1 := famBSSS.s_fit m.2.2.2 _ (by omega) p0 p1
  have b1 := famBSSS.s_in m.2.2.2 (famBSS.s m.2.2.1 l) p0 (by omega)
  exact ⟨e0, e1⟩
theorem af18 (m : Mo) (l : Int) (h1 : 0 ≤ l) (h2 : l ≤ 1048576) : AF Try.prog 18 [eM m, eI l] (.own (eI (szMo m l))) := by
  refine af_of_res res18 mixed rfl fun _ => ?_
  simp +contextual -implicitDefEqProofs only [rc18, eM, eG, eS, go_sem, eI, eB, ↓reduceIte, Nat.reduceEqDiff, Nat.reduceAdd, Nat.reduceLeDiff, Nat.reduceMul, Nat.reduceBEq, Nat.reduceBneDiff, Nat.reduceLT, Nat.reduceSub, decide_true, decide_false, and_self, true_and, and_true, false_and, and_false, not_true_eq_false, not_false_eq_true, false_implies, true_implies, implies_true, ge_iff_le, Bool.false_eq_true, List.cons_append, List.nil_append]
  refine callQ_self ?_ (famBSS.afS m.2.2.1 l (by omega) (by omega)) ?_
  · exact rfl
  simp +contextual -implicitDefEqProofs only [eM, eG, eS, go_sem, eI, eB, ↓reduceIte, Nat.reduceEqDiff, Nat.reduceAdd, Nat.reduceLeDiff, Nat.reduceMul, Nat.reduceBEq, Nat.reduceBneDiff, Nat.reduceLT, Nat.reduceSub, decide_true, decide_false, and_self, true_and, and_true, false_and, and_false, not_true_eq_false, not_false_eq_true, false_implies, true_implies, implies_true, ge_iff_le, Bool.false_eq_true, List.cons_append, List.nil_append]
  have b0 := famBSS.s_in m.2.2.1 l (by omega) (by omega)
  refine ⟨fun h => D.Le.sc_eq (by simp only [szMo]; rw [nx_neg h]), fun g0 => ?_⟩
  refine callQ_self ?_ (famBSSS.afS m.2.2.2 (famBSS.s m.2.2.1 l) (by omega) (by omega)) ?_
  · exact rfl
  simp +contextual -implicitDefEqProofs only [eM, eG, eS, go_sem, eI, eB, ↓reduceIte, Nat.reduceEqDiff, Nat.reduceAdd, Nat.reduceLeDiff, Nat.reduceMul, Nat.reduceBEq, Nat.reduceBneDiff, Nat.reduceLT, Nat.reduceSub, decide_true, decide_false, and_self, true_and, and_true, false_and, and_false, not_true_eq_false, not_false_eq_true, false_implies, true_implies, implies_true, ge_iff_le, Bool.false_eq_true, List.cons_append, List.nil_append]
  have b1 := famBSSS.s_in m.2.2.2 (famBSS.s m.2.2.1 l) (by omega) (by omega)
  refine ⟨fun h => D.Le.sc_eq (by simp only [szMo]; rw [nx_pos g0, nx_neg h]), fun g1 => ?_⟩
  exact D.Le.sc_eq (by simp only [szMo]; rw [nx_pos g0, nx_pos g1])
theorem af20 (m : Mo) (h : fitMo m) : AF Try.prog 20 [eM m] (.own (eM (tMo m))) := by
  refine af_of_res res20 mixed rfl fun _ => ?_
  simp +contextual -implicitDefEqProofs only [rc20, eM, eG, eS, tMo, famBSS_t, famBSSS_t, go_sem, eI, eB, ↓reduceIte, Nat.reduceEqDiff, Nat.reduceAdd, Nat.reduceLeDiff, Nat.reduceMul, Nat.reduceBEq, Nat.reduceBneDiff, Nat.reduceLT, Nat.reduceSub, decide_true, decide_false, and_self, true_and, and_true, false_and, and_false, not_true_eq_false, not_false_eq_true, false_implies, true_implies, implies_true, ge_iff_le, Bool.false_eq_true, List.cons_append, List.nil_append]
  refine callQ_self ?_ (af9 m.1) ?_
  · exact rfl
  simp +contextual -implicitDefEqProofs only [eM, eG, eS, tMo, famBSS_t, famBSSS_t, go_sem, eI, eB, ↓reduceIte, Nat.reduceEqDiff, Nat.reduceAdd, Nat.reduceLeDiff, Nat.reduceMul, Nat.reduceBEq, Nat.reduceBneDiff, Nat.reduceLT, Nat.reduceSub, decide_true, decide_false, and_self, true_and, and_true, false_and, and_false, not_true_eq_false, not_false_eq_true, false_implies, true_implies, implies_true, ge_iff_le, Bool.false_eq_true, List.cons_append, List.nil_append]
  refine callQ_self ?_ (famBSS.afT m.2.2.1 h.1) ?_
  · exact rfl
  simp +contextual -implicitDefEqProofs only [eM, eG, eS, tMo, famBSS_t, famBSSS_t, go_sem, eI, eB, ↓reduceIte, Nat.reduceEqDiff, Nat.reduceAdd, Nat.reduceLeDiff, Nat.reduceMul, Nat.reduceBEq, Nat.reduceBneDiff, Nat.reduceLT, Nat.reduceSub, decide_true, decide_false, and_self, true_and, and_true, false_and, and_false, not_true_eq_false, not_false_eq_true, false_implies, true_implies, implies_true, ge_iff_le, Bool.false_eq_true, List.cons_append, List.nil_append]
  refine callQ_self ?_ (famBSSS.afT m.2.2.2 h.2) ?_
  · exact rfl
  simp +contextual -implicitDefEqProofs only [eM, eG, eS, tMo, famBSS_t, famBSSS_t, go_sem, eI, eB, ↓reduceIte, Nat.reduceEqDiff, Nat.reduceAdd, Nat.reduceLeDiff, Nat.reduceMul, Nat.reduceBEq, Nat.reduceBneDiff, Nat.reduceLT, Nat.reduceSub, decide_true, decide_false, and_self, true_and, and_true, false_and, and_false, not_true_eq_false, not_false_eq_true, false_implies, true_implies, implies_true, ge_iff_le, Bool.false_eq_true, List.cons_append, List.nil_append]
theorem af22 (a b : Mo) : AF Try.prog 22 [eM a, eM b] (.own (eB (qMo a b))) := by
  refine af_of_res res22 mixed rfl fun _ => ?_
  simp +contextual -implicitDefEqProofs only [rc22, qMo, bne, Bool.not_true, Bool.not_false, Bool.true_and, Bool.false_and, Bool.and_true, Bool.and_false, eM, eG, eS, go_sem, eI, eB, ↓reduceIte, Nat.reduceEqDiff, Nat.reduceAdd, Nat.reduceLeDiff, Nat.reduceMul, Nat.reduceBEq, Nat.reduceBneDiff, Nat.reduceLT, Nat.reduceSub, decide_true, decide_false, and_self, true_and, and_true, false_and, and_false, not_true_eq_false, not_false_eq_true, false_implies, true_implies, implies_true, ge_iff_le, Bool.false_eq_true, List.cons_append, List.nil_append]
  refine callQ_self ?_ (af49 a.1 b.1) ?_
  · exact rfl
  cases e0 : qG a.1 b.1
  · simp +contextual -implicitDefEqProofs only [qMo, bne, Bool.not_true, Bool.not_false, Bool.true_and, Bool.false_and, Bool.and_true, Bool.and_false, eM, eG, eS, e0, go_sem, eI, eB, ↓reduceIte, Nat.reduceEqDiff, Nat.reduceAdd, Nat.reduceLeDiff, Nat.reduceMul, Nat.reduceBEq, Nat.reduceBneDiff, Nat.reduceLT, Nat.reduceSub, decide_true, decide_false, and_self, true_and, and_true, false_and, and_false, not_true_eq_false, not_false_eq_true, false_implies, true_implies, implies_true, ge_iff_le, Bool.false_eq_true, List.cons_append, List.nil_append]
  cases e1 : (a.2.1 == b.2.1)
  · simp +contextual -implicitDefEqProofs only [qMo, bne, Bool.not_true, Bool.not_false, Bool.true_and, Bool.false_and, Bool.and_true, Bool.and_false, eM, eG, eS, e0, e1, go_sem, eI, eB, ↓reduceIte, Nat.reduceEqDiff, Nat.reduceAdd, Nat.reduceLeDiff, Nat.reduceMul, Nat.reduceBEq, Nat.reduceBneDiff, Nat.reduceLT, Nat.reduceSub, decide_true, decide_false, and_self, true_and, and_true, false_and, and_false, not_true_eq_false, not_false_eq_true, false_implies, true_implies, implies_true, ge_iff_le, Bool.false_eq_true, List.cons_append, List.nil_append]
  simp +contextual -implicitDefEqProofs only [qMo, bne, Bool.not_true, Bool.not_false, Bool.true_and, Bool.false_and, Bool.and_true, Bool.and_false, eM, eG, eS, e0, e1, go_sem, eI, eB, ↓reduceIte, Nat.reduceEqDiff, Nat.reduceAdd, Nat.reduceLeDiff, Nat.reduceMul, Nat.reduceBEq, Nat.reduceBneDiff, Nat.reduceLT, Nat.reduceSub, decide_true, decide_false, and_self, true_and, and_true, false_and, and_false, not_true_eq_false, not_false_eq_true, false_implies, true_implies, implies_true, ge_iff_le, Bool.false_eq_true, List.cons_append, List.nil_append]
  refine callQ_self ?_ (famBSS.afQ a.2.2.1 b.2.2.1) ?_
  · exact rfl
  cases e2 : famBSS.q a.2.2.1 b.2.2.1
  · simp +contextual -implicitDefEqProofs only [qMo, bne, Bool.not_true, Bool.not_false, Bool.true_and, Bool.false_and, Bool.and_true, Bool.and_false, eM, eG, eS, e0, e1, e2, go_sem, eI, eB, ↓reduceIte, Nat.reduceEqDiff, Nat.reduceAdd, Nat.reduceLeDiff, Nat.reduceMul, Nat.reduceBEq, Nat.reduceBneDiff, Nat.reduceLT, Nat.reduceSub, decide_true, decide_false, and_self, true_and, and_true, false_and, and_false, not_true_eq_false, not_false_eq_true, false_implies, true_implies, implies_true, ge_iff_le, Bool.false_eq_true, List.cons_append, List.nil_append]
  simp +contextual -implicitDefEqProofs only [qMo, bne, Bool.not_true, Bool.not_false, Bool.true_and, Bool.false_and, Bool.and_true, Bool.and_false, eM, eG, eS, e0, e1, e2, go_sem, eI, eB, ↓reduceIte, Nat.reduceEqDiff, Nat.reduceAdd, Nat.reduceLeDiff, Nat.reduceMul, Nat.reduceBEq, Nat.reduceBneDiff, Nat.reduceLT, Nat.reduceSub, decide_true, decide_false, and_self, true_and, and_true, false_and, and_false, not_true_eq_false, not_false_eq_true, false_implies, true_implies, implies_true, ge_iff_le, Bool.false_eq_true, List.cons_append, List.nil_append]
  refine callQ_self ?_ (famBSSS.afQ a.2.2.2 b.2.2.2) ?_
  · exact rfl
  cases e3 : famBSSS.q a.2.2.2 b.2.2.2
  · simp +contextual -implicitDefEqProofs only [qMo, bne, Bool.not_true, Bool.not_false, Bool.true_and, Bool.false_and, Bool.and_true, Bool.and_false, eM, eG, eS, e0, e1, e2, e3, go_sem, eI, eB, ↓reduceIte, Nat.reduceEqDiff, Nat.reduceAdd, Nat.reduceLeDiff, Nat.reduceMul, Nat.reduceBEq, Nat.reduceBneDiff, Nat.reduceLT, Nat.reduceSub, decide_true, decide_false, and_self, true_and, and_true, false_and, and_false, not_true_eq_false, not_false_eq_true, false_implies, true_implies, implies_true, ge_iff_le, Bool.false_eq_true, List.cons_append, List.nil_append]
  · simp +contextual -implicitDefEqProofs only [qMo, bne, Bool.not_true, Bool.not_false, Bool.true_and, Bool.false_and, Bool.and_true, Bool.and_false, eM, eG, eS, e0, e1, e2, e3, go_sem, eI, eB, ↓reduceIte, Nat.reduceEqDiff, Nat.reduceAdd, Nat.reduceLeDiff, Nat.reduceMul, Nat.reduceBEq, Nat.reduceBneDiff, Nat.reduceLT, Nat.reduceSub, decide_true, decide_false, and_self, true_and, and_true, false_and, and_false, not_true_eq_false, not_false_eq_true, false_implies, true_implies, implies_true, ge_iff_le, Bool.false_eq_true, List.cons_append, List.nil_append]
theorem qMo_refl (m : Mo) : qMo m m = true := by simp [qMo, qG, famBSS.q_refl, famBSSS.q_refl]
def famMo : Fam Try.prog eM 18 20 22 := ⟨szMo, tMo, qMo, fitMo, szMo_in, szMo_fit, qMo_refl, af18, af20, af22⟩
theorem famMo_t (x) : famMo.t x = tMo x := rfl
end Go.Ax
