/- Contracts of functions of the seat, proved over the engine. No condition. -/
import Derived.Test.YtcklakmblpkbnaaX10
import Derived.Test.YtcklakmblpkbnaaChecked
set_option linter.unusedSimpArgs false
set_option linter.unusedVariables false
namespace Go.Ax
open Go.Proofs
set_option linter.unusedSimpArgs false
theorem mixed : Try.prog.follows .mixedOrders = true := by kernel_rfl
theorem res115 : resF Try.prog 115 = some (27, cSzC 44 3 true, [.t 4]) := by kernel_rfl
theorem res44 : resF Try.prog 44 = some (12, k_szExpr 115, [.t 4]) := by kernel_rfl

def rc29 : RC :=
 (.seq
  (.reg false [⟨none, .box 2 6 (.t 0)⟩,
    ⟨none, .mv 4 (.c (.sc (.int .i64 0)))⟩])
  ((.seq
   (.reg false [⟨none, .fa 5 0 (.t 2)⟩,
     ⟨none, .ld 6 true 3 (.t 5)⟩,
     ⟨none, .mv 7 (.t 1)⟩,
     ⟨none, .call (some 8) 44 [(.t 6), (.t 7)]⟩,
     ⟨none, .mv 1 (.t 8)⟩])
   ((.seq
    ((.seq
     (.reg false [⟨none, .mv 9 (.t 1)⟩,
       ⟨none, .bin 10 .lss (.t 9) (.c (.sc (.int .i64 0)))⟩])
     (.cond (.t 10)
      ((.seq
       (.reg false [⟨none, .mv 4 (.c (.sc (.int .i64 (-1))))⟩])
       (.ret)))
      (.skip))))
    ((.seq
     (.reg false [⟨none, .fa 11 3 (.t 2)⟩,
       ⟨none, .ld 12 true 3 (.t 11)⟩,
       ⟨none, .mv 13 (.t 1)⟩,
       ⟨none, .call (some 14) 44 [(.t 12), (.t 13)]⟩,
       ⟨none, .mv 1 (.t 14)⟩])
     ((.seq
      ((.seq
       (.reg false [⟨none, .mv 15 (.t 1)⟩,
         ⟨none, .bin 16 .lss (.t 15) (.c (.sc (.int .i64 0)))⟩])
       (.cond (.t 16)
        ((.seq
         (.reg false [⟨none, .mv 4 (.c (.sc (.int .i64 (-1))))⟩])
         (.ret)))
        (.skip))))
      ((.seq
       (.reg false [⟨none, .mv 17 (.t 1)⟩,
         ⟨none, .mv 4 (.t 17)⟩])
       (.ret))))))))))))
theorem res29 : resF Try.prog 29 = some (18, rc29, [.t 4]) := by kernel_rfl
theorem res23 : resF Try.prog 23 = some (11, k_toSig, [.c 2 2 true]) := by kernel_rfl
theorem af23 : K_toSig Try.prog 23 := a_toSig mixed res23
theorem res119 : resF Try.prog 119 = some (23, cToC 46 3 40 true (.ag [(.sc (.int .i64 0)), (.sc (.int .i64 0)), (.ls (some true) 3 [])]), [.t 2]) := by kernel_rfl
theorem res46 : resF Try.prog 46 = some (15, k_toExpr 119, [.c 2 3 true]) := by kernel_rfl

def rc31 : RC :=
 (.seq
  (.reg false [⟨none, .box 1 6 (.t 0)⟩,
    ⟨none, .zer 2 6 (.ag [(.sc (.int .i64 0)), (.sc (.int .i64 0)), (.ls (some true) 3 []), (.sc (.int .i64 0)), (.sc (.int .i64 0)), (.ls (some true) 3 [])])⟩])
  ((.seq
   (.reg false [⟨none, .zer 3 6 (.ag [(.sc (.int .i64 0)), (.sc (.int .i64 0)), (.ls (some true) 3 []), (.sc (.int .i64 0)), (.sc (.int .i64 0)), (.ls (some true) 3 [])])⟩])
   ((.seq
    (.reg false [⟨none, .fa 4 0 (.t 1)⟩,
      ⟨none, .ld 5 true 3 (.t 4)⟩,
      ⟨none, .call (some 6) 46 [(.t 5)]⟩,
      ⟨none, .fa 7 0 (.t 3)⟩,
      ⟨none, .st 3 (.t 7) (.t 6)⟩])
    ((.seq
     (.reg false [⟨none, .fa 8 3 (.t 1)⟩,
       ⟨none, .ld 9 true 3 (.t 8)⟩,
       ⟨none, .call (some 10) 46 [(.t 9)]⟩,
       ⟨none, .fa 11 3 (.t 3)⟩,
       ⟨none, .st 3 (.t 11) (.t 10)⟩])
     ((.seq
      (.reg false [⟨none, .ld 12 true 6 (.t 3)⟩,
        ⟨none, .st 6 (.t 2) (.t 12)⟩])
      (.ret))))))))))
theorem res31 : resF Try.prog 31 = some (13, rc31, [.c 2 6 true]) := by kernel_rfl
theorem res83 : resF Try.prog 83 = some (15, k_l00In, [.t 6]) := by kernel_rfl
theorem af83 : K_l00In Try.prog 83 := a_l00In mixed res83
theorem res162 : resF Try.prog 162 = some (11, k_l01Sig 83, [.t 2]) := by kernel_rfl
theorem af162 : K_l01Sig Try.prog 162 := a_l01Sig mixed res162 af83
theorem res173 : resF Try.prog 173 = some (30, k_l01Left 173, [.t 4]) := by kernel_rfl
theorem af173 : K_l01Left Try.prog 173 := a_l01Left mixed res173
theorem res201 : resF Try.prog 201 = some (10, k_l00Max, [.t 4]) := by kernel_rfl
theorem af201 : K_l00Max Try.prog 201 := a_l00Max mixed res201
theorem res174 : resF Try.prog 174 = some (25, k_l01Depth 174 201, [.t 2]) := by kernel_rfl
theorem af174 : K_l01Depth Try.prog 174 := a_l01Depth mixed res174 af201
theorem res202 : resF Try.prog 202 = some (15, k_l01Kids, [.t 2]) := by kernel_rfl
theorem af202 : K_l01Kids Try.prog 202 := a_l01Kids mixed res202
theorem res140 : resF Try.prog 140 = some (34, k_l01Condition 140 83, [.t 2]) := by kernel_rfl
theorem af140 : K_l01Condition Try.prog 140 := a_l01Condition mixed res140 af83
theorem res175 : resF Try.prog 175 = some (80, k_l01Tree 175 202 83 140, [.t 4]) := by kernel_rfl
theorem af175 : K_l01Tree Try.prog 175 := a_l01Tree mixed res175 af202 af83 af140
theorem res116 : resF Try.prog 116 = some (22, k_l01Ok 162 173 174 175, [.t 4]) := by kernel_rfl
theorem af116 : K_l01Ok Try.prog 116 := a_l01Ok mixed res116 af162 af173 af174 af175
theorem res101 : resF Try.prog 101 = some (17, k_l04Equation 116, [.t 4]) := by kernel_rfl
theorem af101 : K_l04Equation Try.prog 101 := a_l04Equation mixed res101 af116
theorem res30 : resF Try.prog 30 = some (7, k_spValidEquation 101, [.t 4]) := by kernel_rfl
theorem af30 : K_spValidEquation Try.prog 30 := a_spValidEquation mixed res30 af101
theorem res218 : resF Try.prog 218 = some (15, k_kidsOf, [.t 2]) := by kernel_rfl
theorem af218 : K_kidsOf Try.prog 218 := a_kidsOf mixed res218
theorem res88 : resF Try.prog 88 = some (15, k_within, [.t 6]) := by kernel_rfl
theorem af88 : K_within Try.prog 88 := a_within mixed res88
theorem res184 : resF Try.prog 184 = some (25, k_isCondition 184, [.t 2]) := by kernel_rfl
theorem af184 : K_isCondition Try.prog 184 := a_isCondition mixed res184
theorem res200 : resF Try.prog 200 = some (86, k_shaped 200 218 88 184, [.t 8, .t 9]) := by kernel_rfl
theorem af200 : K_shaped Try.prog 200 := a_shaped mixed res200 af218 af88 af184
theorem res167 : resF Try.prog 167 = some (14, k_isExpr 200, [.t 4]) := by kernel_rfl
theorem af167 : K_isExpr Try.prog 167 := a_isExpr mixed res167 af200
theorem res129 : resF Try.prog 129 = some (11, k_validSig 88, [.t 2]) := by kernel_rfl
theorem af129 : K_validSig Try.prog 129 := a_validSig mixed res129 af88
theorem res102 : resF Try.prog 102 = some (20, k_validExprs 167 129, [.t 4]) := by kernel_rfl
theorem af102 : K_validExprs Try.prog 102 := a_validExprs mixed res102 af167 af129
theorem res32 : resF Try.prog 32 = some (12, k_imValidEquation 102, [.t 4]) := by kernel_rfl
theorem af32 : K_imValidEquation Try.prog 32 := a_imValidEquation mixed res32 af102
theorem res123 : resF Try.prog 123 = some (27, cEqC 49 3 true, [.t 4]) := by kernel_rfl
theorem res49 : resF Try.prog 49 = some (21, k_eqExpr 123, [.t 4]) := by kernel_rfl

def rc33 : RC :=
 (.seq
  (.reg false [⟨none, .box 2 6 (.t 0)⟩,
    ⟨none, .box 3 6 (.t 1)⟩,
    ⟨none, .mv 4 (.c (.sc (.bool false)))⟩])
  ((.seq
   ((.seq
    (.reg false [⟨none, .fa 5 0 (.t 2)⟩,
      ⟨none, .ld 6 true 3 (.t 5)⟩,
      ⟨none, .fa 7 0 (.t 3)⟩,
      ⟨none, .ld 8 true 3 (.t 7)⟩,
      ⟨none, .call (some 9) 49 [(.t 6), (.t 8)]⟩,
      ⟨none, .un 10 .not (.t 9)⟩])
    (.cond (.t 10)
     ((.seq
      (.reg false [⟨none, .mv 4 (.c (.sc (.bool false)))⟩])
      (.ret)))
     (.skip))))
   ((.seq
    ((.seq
     (.reg false [⟨none, .fa 11 3 (.t 2)⟩,
       ⟨none, .ld 12 true 3 (.t 11)⟩,
       ⟨none, .fa 13 3 (.t 3)⟩,
       ⟨none, .ld 14 true 3 (.t 13)⟩,
       ⟨none, .call (some 15) 49 [(.t 12), (.t 14)]⟩,
       ⟨none, .un 16 .not (.t 15)⟩])
     (.cond (.t 16)
      ((.seq
       (.reg false [⟨none, .mv 4 (.c (.sc (.bool false)))⟩])
       (.ret)))
      (.skip))))
    ((.seq
     (.reg false [⟨none, .mv 4 (.c (.sc (.bool true)))⟩])
     (.ret))))))))
theorem res33 : resF Try.prog 33 = some (17, rc33, [.t 4]) := by kernel_rfl

def rc5 : RC :=
 (.seq
  (.reg false [⟨none, .box 2 2 (.t 0)⟩,
    ⟨none, .box 3 6 (.t 1)⟩,
    ⟨none, .mv 4 (.c (.sc (.bool false)))⟩])
  ((.seq
   (.reg false [⟨none, .mv 5 (.c (.sc (.int .i64 1048576)))⟩])
   ((.seq
    (.reg false [⟨none, .ld 9 true 6 (.t 3)⟩,
      ⟨none, .mv 10 (.t 5)⟩,
      ⟨none, .call (some 11) 29 [(.t 9), (.t 10)]⟩,
      ⟨none, .mv 5 (.t 11)⟩])
    ((.seq
     ((.seq
      (.reg false [⟨none, .mv 12 (.t 5)⟩,
        ⟨none, .bin 13 .lss (.t 12) (.c (.sc (.int .i64 0)))⟩])
      (.cond (.t 13)
       ((.seq
        (.reg false [⟨none, .mv 4 (.c (.sc (.bool true)))⟩])
        (.ret)))
       (.skip))))
     ((.seq
      (.reg true [⟨none, .ld 14 true 2 (.t 2)⟩,
        ⟨none, .call (some 15) 23 [(.t 14)]⟩,
        ⟨none, .ld 16 true 6 (.t 3)⟩,
        ⟨none, .call (some 17) 31 [(.t 16)]⟩,
        ⟨none, .call (some 18) 30 [(.t 15), (.t 17)]⟩,
        ⟨none, .mv 6 (.t 18)⟩])
      ((.seq
       (.reg false [⟨none, .ld 19 true 6 (.t 3)⟩,
         ⟨none, .call (some 20) 31 [(.t 19)]⟩,
         ⟨none, .zer 7 6 (.ag [(.sc (.int .i64 0)), (.sc (.int .i64 0)), (.ls (some true) 3 []), (.sc (.int .i64 0)), (.sc (.int .i64 0)), (.ls (some true) 3 [])])⟩,
         ⟨none, .st 6 (.t 7) (.t 20)⟩])
       ((.seq
        (.reg true [⟨none, .ld 21 true 2 (.t 2)⟩,
          ⟨none, .call (some 22) 23 [(.t 21)]⟩,
          ⟨none, .ld 23 true 6 (.t 7)⟩,
          ⟨none, .call (some 24) 32 [(.t 22), (.t 23)]⟩,
          ⟨none, .mv 8 (.t 24)⟩])
        ((.seq
         ((.seq
          (.reg false [⟨none, .mv 25 (.t 8)⟩,
            ⟨none, .mv 26 (.t 6)⟩,
            ⟨none, .beq 27 true (.t 25) (.t 26)⟩])
          (.cond (.t 27)
           ((.seq
            (.reg false [⟨none, .mv 4 (.c (.sc (.bool false)))⟩])
            (.ret)))
           (.skip))))
         ((.seq
          ((.seq
           (.reg true [⟨none, .ld 28 true 6 (.t 7)⟩,
             ⟨none, .ld 29 true 6 (.t 3)⟩,
             ⟨none, .call (some 30) 31 [(.t 29)]⟩,
             ⟨none, .call (some 31) 33 [(.t 28), (.t 30)]⟩,
             ⟨none, .un 32 .not (.t 31)⟩])
           (.cond (.t 32)
            ((.seq
             (.reg false [⟨none, .mv 4 (.c (.sc (.bool false)))⟩])
             (.ret)))
            (.skip))))
          ((.seq
           (.reg false [⟨none, .mv 4 (.c (.sc (.bool true)))⟩])
           (.ret))))))))))))))))))))
theorem res5 : resF Try.prog 5 = some (33, rc5, [.t 4]) := by kernel_rfl
noncomputable def famExpr : Fam Try.prog eE 44 46 49 := famE mixed res44 res115 res46 res119 res49 res123
theorem famExpr_t (x) : famExpr.t x = tE x := rfl
noncomputable def szEquation (m : Eq2) : Int → Int := fun l => nx (famExpr.s m.1 l) (fun l => nx (famExpr.s m.2 l) (fun l => l))
def fitEquation (m : Eq2) : Prop := famExpr.fit m.1 ∧ famExpr.fit m.2
noncomputable def tEquation (m : Eq2) : Eq2 := (famExpr.t m.1, famExpr.t m.2)
noncomputable def qEquation (a b : Eq2) : Bool := (famExpr.q a.1 b.1 && famExpr.q a.2 b.2)
theorem szEquation_in (m : Eq2) (l : Int) (h1 : 0 ≤ l) (h2 : l ≤ 1048576) : -1 ≤ szEquation m l ∧ szEquation m l ≤ l := by
  refine in_tr (Int.le_refl l) (nx_in (famExpr.s_in m.1 l h1 (by omega)) h1 (by omega) fun y0 a0 b0 => ?_)
  refine in_tr b0 (nx_in (famExpr.s_in m.2 y0 a0 (by omega)) a0 (by omega) fun y1 a1 b1 => ?_)
  exact ⟨by omega, b1⟩
theorem szEquation_fit (m : Eq2) (l : Int) (h2 : l ≤ 1048576) (h1 : 0 ≤ l) (h : 0 ≤ szEquation m l) : fitEquation m := by
  obtain ⟨p0, h⟩ := nx_fit h
  have e0 := famExpr.s_fit m.1 l (by omega) h1 p0
  have b0 := famExpr.s_in m.1 l h1 (by omega)
  obtain ⟨p1, h⟩ := nx_fit h
  have e1 := famExpr.s_fit m.2 _ (by omega) p0 p1
  have b1 := famExpr.s_in m.2 (famExpr.s m.1 l) p0 (by omega)
  exact ⟨e0, e1⟩
theorem af29 (m : Eq2) (l : Int) (h1 : 0 ≤ l) (h2 : l ≤ 1048576) : AF Try.prog 29 [eQ m, eI l] (.own (eI (szEquation m l))) := by
  refine af_of_res res29 mixed rfl fun _ => ?_
  simp +contextual -implicitDefEqProofs only [rc29, eQ, go_sem, eI, eB, ↓reduceIte, Nat.reduceEqDiff, Nat.reduceAdd, Nat.reduceLeDiff, Nat.reduceMul, Nat.reduceBEq, Nat.reduceBneDiff, Nat.reduceLT, Nat.reduceSub, decide_true, decide_false, and_self, true_and, and_true, false_and, and_false, not_true_eq_false, not_false_eq_true, false_implies, true_implies, implies_true, ge_iff_le, Bool.false_eq_true, List.cons_append, List.nil_append]
  refine callQ_self ?_ (famExpr.afS m.1 l (by omega) (by omega)) ?_
  · first | exact rfl | (simp only [eE_eta]; exact rfl)
  simp +contextual -implicitDefEqProofs only [eQ, go_sem, eI, eB, ↓reduceIte, Nat.reduceEqDiff, Nat.reduceAdd, Nat.reduceLeDiff, Nat.reduceMul, Nat.reduceBEq, Nat.reduceBneDiff, Nat.reduceLT, Nat.reduceSub, decide_true, decide_false, and_self, true_and, and_true, false_and, and_false, not_true_eq_false, not_false_eq_true, false_implies, true_implies, implies_true, ge_iff_le, Bool.false_eq_true, List.cons_append, List.nil_append]
  have b0 := famExpr.s_in m.1 l (by omega) (by omega)
  refine ⟨fun h => D.Le.sc_eq (by simp only [szEquation]; rw [nx_neg h]), fun g0 => ?_⟩
  refine callQ_self ?_ (famExpr.afS m.2 (famExpr.s m.1 l) (by omega) (by omega)) ?_
  · first | exact rfl | (simp only [eE_eta]; exact rfl)
  simp +contextual -implicitDefEqProofs only [eQ, go_sem, eI, eB, ↓reduceIte, Nat.reduceEqDiff, Nat.reduceAdd, Nat.reduceLeDiff, Nat.reduceMul, Nat.reduceBEq, Nat.reduceBneDiff, Nat.reduceLT, Nat.reduceSub, decide_true, decide_false, and_self, true_and, and_true, false_and, and_false, not_true_eq_false, not_false_eq_true, false_implies, true_implies, implies_true, ge_iff_le, Bool.false_eq_true, List.cons_append, List.nil_append]
  have b1 := famExpr.s_in m.2 (famExpr.s m.1 l) (by omega) (by omega)
  refine ⟨fun h => D.Le.sc_eq (by simp only [szEquation]; rw [nx_pos g0, nx_neg h]), fun g1 => ?_⟩
  exact D.Le.sc_eq (by simp only [szEquation]; rw [nx_pos g0, nx_pos g1])
theorem af31 (m : Eq2) (h : fitEquation m) : AF Try.prog 31 [eQ m] (.own (eQ (tEquation m))) := by
  refine af_of_res res31 mixed rfl fun _ => ?_
  simp +contextual -implicitDefEqProofs only [rc31, eQ, tEquation, famExpr_t, famExpr_t, eE_te, tE_k, tE_n, tE_nn, tE_ks, go_sem, eI, eB, ↓reduceIte, Nat.reduceEqDiff, Nat.reduceAdd, Nat.reduceLeDiff, Nat.reduceMul, Nat.reduceBEq, Nat.reduceBneDiff, Nat.reduceLT, Nat.reduceSub, decide_true, decide_false, and_self, true_and, and_true, false_and, and_false, not_true_eq_false, not_false_eq_true, false_implies, true_implies, implies_true, ge_iff_le, Bool.false_eq_true, List.cons_append, List.nil_append]
  refine callQ_self ?_ (famExpr.afT m.1 h.1) ?_
  · first | exact rfl | (simp only [eE_eta]; exact rfl)
  simp +contextual -implicitDefEqProofs only [eQ, tEquation, famExpr_t, famExpr_t, eE_te, tE_k, tE_n, tE_nn, tE_ks, go_sem, eI, eB, ↓reduceIte, Nat.reduceEqDiff, Nat.reduceAdd, Nat.reduceLeDiff, Nat.reduceMul, Nat.reduceBEq, Nat.reduceBneDiff, Nat.reduceLT, Nat.reduceSub, decide_true, decide_false, and_self, true_and, and_true, false_and, and_false, not_true_eq_false, not_false_eq_true, false_implies, true_implies, implies_true, ge_iff_le, Bool.false_eq_true, List.cons_append, List.nil_append]
  refine callQ_self ?_ (famExpr.afT m.2 h.2) ?_
  · first | exact rfl | (simp only [eE_eta]; exact rfl)
  simp +contextual -implicitDefEqProofs only [eQ, tEquation, famExpr_t, famExpr_t, eE_te, tE_k, tE_n, tE_nn, tE_ks, go_sem, eI, eB, ↓reduceIte, Nat.reduceEqDiff, Nat.reduceAdd, Nat.reduceLeDiff, Nat.reduceMul, Nat.reduceBEq, Nat.reduceBneDiff, Nat.reduceLT, Nat.reduceSub, decide_true, decide_false, and_self, true_and, and_true, false_and, and_false, not_true_eq_false, not_false_eq_true, false_implies, true_implies, implies_true, ge_iff_le, Bool.false_eq_true, List.cons_append, List.nil_append]
theorem af33 (a b : Eq2) : AF Try.prog 33 [eQ a, eQ b] (.own (eB (qEquation a b))) := by
  refine af_of_res res33 mixed rfl fun _ => ?_
  simp +contextual -implicitDefEqProofs only [rc33, qEquation, bne, Bool.not_true, Bool.not_false, Bool.true_and, Bool.false_and, Bool.and_true, Bool.and_false, eQ, go_sem, eI, eB, ↓reduceIte, Nat.reduceEqDiff, Nat.reduceAdd, Nat.reduceLeDiff, Nat.reduceMul, Nat.reduceBEq, Nat.reduceBneDiff, Nat.reduceLT, Nat.reduceSub, decide_true, decide_false, and_self, true_and, and_true, false_and, and_false, not_true_eq_false, not_false_eq_true, false_implies, true_implies, implies_true, ge_iff_le, Bool.false_eq_true, List.cons_append, List.nil_append]
  refine callQ_self ?_ (famExpr.afQ a.1 b.1) ?_
  · first | exact rfl | (simp only [eE_eta]; exact rfl)
  cases e0 : famExpr.q a.1 b.1
  · simp +contextual -implicitDefEqProofs only [qEquation, bne, Bool.not_true, Bool.not_false, Bool.true_and, Bool.false_and, Bool.and_true, Bool.and_false, eQ, e0, go_sem, eI, eB, ↓reduceIte, Nat.reduceEqDiff, Nat.reduceAdd, Nat.reduceLeDiff, Nat.reduceMul, Nat.reduceBEq, Nat.reduceBneDiff, Nat.reduceLT, Nat.reduceSub, decide_true, decide_false, and_self, true_and, and_true, false_and, and_false, not_true_eq_false, not_false_eq_true, false_implies, true_implies, implies_true, ge_iff_le, Bool.false_eq_true, List.cons_append, List.nil_append]
  simp +contextual -implicitDefEqProofs only [qEquation, bne, Bool.not_true, Bool.not_false, Bool.true_and, Bool.false_and, Bool.and_true, Bool.and_false, eQ, e0, go_sem, eI, eB, ↓reduceIte, Nat.reduceEqDiff, Nat.reduceAdd, Nat.reduceLeDiff, Nat.reduceMul, Nat.reduceBEq, Nat.reduceBneDiff, Nat.reduceLT, Nat.reduceSub, decide_true, decide_false, and_self, true_and, and_true, false_and, and_false, not_true_eq_false, not_false_eq_true, false_implies, true_implies, implies_true, ge_iff_le, Bool.false_eq_true, List.cons_append, List.nil_append]
  refine callQ_self ?_ (famExpr.afQ a.2 b.2) ?_
  · first | exact rfl | (simp only [eE_eta]; exact rfl)
  cases e1 : famExpr.q a.2 b.2
  · simp +contextual -implicitDefEqProofs only [qEquation, bne, Bool.not_true, Bool.not_false, Bool.true_and, Bool.false_and, Bool.and_true, Bool.and_false, eQ, e0, e1, go_sem, eI, eB, ↓reduceIte, Nat.reduceEqDiff, Nat.reduceAdd, Nat.reduceLeDiff, Nat.reduceMul, Nat.reduceBEq, Nat.reduceBneDiff, Nat.reduceLT, Nat.reduceSub, decide_true, decide_false, and_self, true_and, and_true, false_and, and_false, not_true_eq_false, not_false_eq_true, false_implies, true_implies, implies_true, ge_iff_le, Bool.false_eq_true, List.cons_append, List.nil_append]
  · simp +contextual -implicitDefEqProofs only [qEquation, bne, Bool.not_true, Bool.not_false, Bool.true_and, Bool.false_and, Bool.and_true, Bool.and_false, eQ, e0, e1, go_sem, eI, eB, ↓reduceIte, Nat.reduceEqDiff, Nat.reduceAdd, Nat.reduceLeDiff, Nat.reduceMul, Nat.reduceBEq, Nat.reduceBneDiff, Nat.reduceLT, Nat.reduceSub, decide_true, decide_false, and_self, true_and, and_true, false_and, and_false, not_true_eq_false, not_false_eq_true, false_implies, true_implies, implies_true, ge_iff_le, Bool.false_eq_true, List.cons_append, List.nil_append]
theorem qEquation_refl (m : Eq2) : qEquation m m = true := by simp [qEquation, famExpr.q_refl, famExpr.q_refl]
noncomputable def famEquation : Fam Try.prog eQ 29 31 33 := ⟨szEquation, tEquation, qEquation, fitEquation, szEquation_in, szEquation_fit, qEquation_refl, af29, af31, af33⟩
theorem famEquation_t (x) : famEquation.t x = tEquation x := rfl
theorem law (g : Int × Int) (q : Eq2) : AF Try.prog 5 [eG g, eQ q] (.own (eB true)) := by
  refine af_of_res res5 mixed rfl fun hbd => ?_
  simp +contextual -implicitDefEqProofs only [rc5, eG, eQ, famEquation_t, tEquation, famExpr_t, tE_k, tE_n, tE_nn, tE_ks, bne_self_eq_false, go_sem, eI, eB, ↓reduceIte, Nat.reduceEqDiff, Nat.reduceAdd, Nat.reduceLeDiff, Nat.reduceMul, Nat.reduceBEq, Nat.reduceBneDiff, Nat.reduceLT, Nat.reduceSub, decide_true, decide_false, and_self, true_and, and_true, false_and, and_false, not_true_eq_false, not_false_eq_true, false_implies, true_implies, implies_true, ge_iff_le, Bool.false_eq_true, List.cons_append, List.nil_append]
  refine callQ_self (ds := [eQ q, eI 1048576]) ?_ (famEquation.afS q 1048576 (by omega) (by omega)) ?_
  · simp only [eG, eQ, famEquation_t, tEquation, famExpr_t, tE_k, tE_n, tE_nn, tE_ks, bne_self_eq_false]; exact rfl
  simp +contextual -implicitDefEqProofs only [eG, eQ, famEquation_t, tEquation, famExpr_t, tE_k, tE_n, tE_nn, tE_ks, bne_self_eq_false, go_sem, eI, eB, ↓reduceIte, Nat.reduceEqDiff, Nat.reduceAdd, Nat.reduceLeDiff, Nat.reduceMul, Nat.reduceBEq, Nat.reduceBneDiff, Nat.reduceLT, Nat.reduceSub, decide_true, decide_false, and_self, true_and, and_true, false_and, and_false, not_true_eq_false, not_false_eq_true, false_implies, true_implies, implies_true, ge_iff_le, Bool.false_eq_true, List.cons_append, List.nil_append]
  have sb0 := famEquation.s_in q 1048576 (by omega) (by omega)
  refine fun hs0 => ?_
  have hf0 := famEquation.s_fit q 1048576 (by omega) (by omega) (by omega)
  refine callQ_self (ds := [eG g]) ?_ (af23 g) ?_
  · simp only [eG, eQ, famEquation_t, tEquation, famExpr_t, tE_k, tE_n, tE_nn, tE_ks, bne_self_eq_false]; exact rfl
  simp +contextual -implicitDefEqProofs only [eG, eQ, famEquation_t, tEquation, famExpr_t, tE_k, tE_n, tE_nn, tE_ks, bne_self_eq_false, go_sem, eI, eB, ↓reduceIte, Nat.reduceEqDiff, Nat.reduceAdd, Nat.reduceLeDiff, Nat.reduceMul, Nat.reduceBEq, Nat.reduceBneDiff, Nat.reduceLT, Nat.reduceSub, decide_true, decide_false, and_self, true_and, and_true, false_and, and_false, not_true_eq_false, not_false_eq_true, false_implies, true_implies, implies_true, ge_iff_le, Bool.false_eq_true, List.cons_append, List.nil_append]
  refine callQ_self (ds := [eQ q]) ?_ (famEquation.afT q hf0) ?_
  · simp only [eG, eQ, famEquation_t, tEquation, famExpr_t, tE_k, tE_n, tE_nn, tE_ks, bne_self_eq_false]; exact rfl
  simp +contextual -implicitDefEqProofs only [eG, eQ, famEquation_t, tEquation, famExpr_t, tE_k, tE_n, tE_nn, tE_ks, bne_self_eq_false, go_sem, eI, eB, ↓reduceIte, Nat.reduceEqDiff, Nat.reduceAdd, Nat.reduceLeDiff, Nat.reduceMul, Nat.reduceBEq, Nat.reduceBneDiff, Nat.reduceLT, Nat.reduceSub, decide_true, decide_false, and_self, true_and, and_true, false_and, and_false, not_true_eq_false, not_false_eq_true, false_implies, true_implies, implies_true, ge_iff_le, Bool.false_eq_true, List.cons_append, List.nil_append]
  refine callQ_self (ds := [eG g, eQ (famEquation.t q)]) ?_ (af30 g (famEquation.t q)) ?_
  · simp only [eG, eQ, famEquation_t, tEquation, famExpr_t, tE_k, tE_n, tE_nn, tE_ks, bne_self_eq_false]; exact rfl
  simp +contextual -implicitDefEqProofs only [eG, eQ, famEquation_t, tEquation, famExpr_t, tE_k, tE_n, tE_nn, tE_ks, bne_self_eq_false, go_sem, eI, eB, ↓reduceIte, Nat.reduceEqDiff, Nat.reduceAdd, Nat.reduceLeDiff, Nat.reduceMul, Nat.reduceBEq, Nat.reduceBneDiff, Nat.reduceLT, Nat.reduceSub, decide_true, decide_false, and_self, true_and, and_true, false_and, and_false, not_true_eq_false, not_false_eq_true, false_implies, true_implies, implies_true, ge_iff_le, Bool.false_eq_true, List.cons_append, List.nil_append]
  refine callQ_self (ds := [eQ q]) ?_ (famEquation.afT q hf0) ?_
  · simp only [eG, eQ, famEquation_t, tEquation, famExpr_t, tE_k, tE_n, tE_nn, tE_ks, bne_self_eq_false]; exact rfl
  simp +contextual -implicitDefEqProofs only [eG, eQ, famEquation_t, tEquation, famExpr_t, tE_k, tE_n, tE_nn, tE_ks, bne_self_eq_false, go_sem, eI, eB, ↓reduceIte, Nat.reduceEqDiff, Nat.reduceAdd, Nat.reduceLeDiff, Nat.reduceMul, Nat.reduceBEq, Nat.reduceBneDiff, Nat.reduceLT, Nat.reduceSub, decide_true, decide_false, and_self, true_and, and_true, false_and, and_false, not_true_eq_false, not_false_eq_true, false_implies, true_implies, implies_true, ge_iff_le, Bool.false_eq_true, List.cons_append, List.nil_append]
  refine callQ_self (ds := [eG g]) ?_ (af23 g) ?_
  · simp only [eG, eQ, famEquation_t, tEquation, famExpr_t, tE_k, tE_n, tE_nn, tE_ks, bne_self_eq_false]; exact rfl
  simp +contextual -implicitDefEqProofs only [eG, eQ, famEquation_t, tEquation, famExpr_t, tE_k, tE_n, tE_nn, tE_ks, bne_self_eq_false, go_sem, eI, eB, ↓reduceIte, Nat.reduceEqDiff, Nat.reduceAdd, Nat.reduceLeDiff, Nat.reduceMul, Nat.reduceBEq, Nat.reduceBneDiff, Nat.reduceLT, Nat.reduceSub, decide_true, decide_false, and_self, true_and, and_true, false_and, and_false, not_true_eq_false, not_false_eq_true, false_implies, true_implies, implies_true, ge_iff_le, Bool.false_eq_true, List.cons_append, List.nil_append]
  refine callQ_self (ds := [eG g, eQ (famEquation.t q)]) ?_ (af32 g (famEquation.t q)) ?_
  · simp only [eG, eQ, famEquation_t, tEquation, famExpr_t, tE_k, tE_n, tE_nn, tE_ks, bne_self_eq_false]; exact rfl
  simp +contextual -implicitDefEqProofs only [eG, eQ, famEquation_t, tEquation, famExpr_t, tE_k, tE_n, tE_nn, tE_ks, bne_self_eq_false, go_sem, eI, eB, ↓reduceIte, Nat.reduceEqDiff, Nat.reduceAdd, Nat.reduceLeDiff, Nat.reduceMul, Nat.reduceBEq, Nat.reduceBneDiff, Nat.reduceLT, Nat.reduceSub, decide_true, decide_false, and_self, true_and, and_true, false_and, and_false, not_true_eq_false, not_false_eq_true, false_implies, true_implies, implies_true, ge_iff_le, Bool.false_eq_true, List.cons_append, List.nil_append]
  refine callQ_self (ds := [eQ q]) ?_ (famEquation.afT q hf0) ?_
  · simp only [eG, eQ, famEquation_t, tEquation, famExpr_t, tE_k, tE_n, tE_nn, tE_ks, bne_self_eq_false]; exact rfl
  simp +contextual -implicitDefEqProofs only [eG, eQ, famEquation_t, tEquation, famExpr_t, tE_k, tE_n, tE_nn, tE_ks, bne_self_eq_false, go_sem, eI, eB, ↓reduceIte, Nat.reduceEqDiff, Nat.reduceAdd, Nat.reduceLeDiff, Nat.reduceMul, Nat.reduceBEq, Nat.reduceBneDiff, Nat.reduceLT, Nat.reduceSub, decide_true, decide_false, and_self, true_and, and_true, false_and, and_false, not_true_eq_false, not_false_eq_true, false_implies, true_implies, implies_true, ge_iff_le, Bool.false_eq_true, List.cons_append, List.nil_append]
  refine callQ_self (ds := [eQ (famEquation.t q), eQ (famEquation.t q)]) ?_ (famEquation.afQ (famEquation.t q) (famEquation.t q)) ?_
  · simp only [eG, eQ, famEquation_t, tEquation, famExpr_t, tE_k, tE_n, tE_nn, tE_ks, bne_self_eq_false]; exact rfl
  simp +contextual -implicitDefEqProofs only [famEquation.q_refl, Bool.not_true, eG, eQ, famEquation_t, tEquation, famExpr_t, tE_k, tE_n, tE_nn, tE_ks, bne_self_eq_false, go_sem, eI, eB, ↓reduceIte, Nat.reduceEqDiff, Nat.reduceAdd, Nat.reduceLeDiff, Nat.reduceMul, Nat.reduceBEq, Nat.reduceBneDiff, Nat.reduceLT, Nat.reduceSub, decide_true, decide_false, and_self, true_and, and_true, false_and, and_false, not_true_eq_false, not_false_eq_true, false_implies, true_implies, implies_true, ge_iff_le, Bool.false_eq_true, List.cons_append, List.nil_append]
end Go.Ax
