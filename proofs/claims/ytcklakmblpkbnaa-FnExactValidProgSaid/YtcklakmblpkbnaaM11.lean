/- Contracts of functions of the seat, proved over the engine. No condition. -/
import Derived.Test.YtcklakmblpkbnaaX13
import Derived.Test.YtcklakmblpkbnaaX2
import Derived.Test.YtcklakmblpkbnaaChecked
set_option linter.unusedSimpArgs false
set_option linter.unusedVariables false
namespace Go.Ax
open Go.Proofs
set_option linter.unusedSimpArgs false
theorem mixed : Try.prog.follows .mixedOrders = true := by kernel_rfl
theorem res115 : resF Try.prog 115 = some (27, cSzC 44 3 true, [.t 4]) := by kernel_rfl
theorem res44 : resF Try.prog 44 = some (12, k_szExpr 115, [.t 4]) := by kernel_rfl
theorem res146 : resF Try.prog 146 = some (27, cSzC 70 6 true, [.t 4]) := by kernel_rfl
theorem res70 : resF Try.prog 70 = some (18, k_szProg 44 146, [.t 4]) := by kernel_rfl
theorem res23 : resF Try.prog 23 = some (11, k_toSig, [.c 2 2 true]) := by kernel_rfl
theorem af23 : K_toSig Try.prog 23 := a_toSig mixed res23
theorem res119 : resF Try.prog 119 = some (23, cToC 46 3 40 true (.ag [(.sc (.int .i64 0)), (.sc (.int .i64 0)), (.ls (some true) 3 [])]), [.t 2]) := by kernel_rfl
theorem res46 : resF Try.prog 46 = some (15, k_toExpr 119, [.c 2 3 true]) := by kernel_rfl
theorem res148 : resF Try.prog 148 = some (23, cToC 72 6 80 true (.ag [(.sc (.int .i64 0)), (.sc (.int .i64 0)), (.sc (.int .i64 0)), (.sc (.int .i64 0)), (.ls (some true) 3 []), (.ls (some true) 6 [])]), [.t 2]) := by kernel_rfl
theorem res72 : resF Try.prog 72 = some (19, k_toProg 46 148, [.c 2 6 true]) := by kernel_rfl
theorem res83 : resF Try.prog 83 = some (15, k_l00In, [.t 6]) := by kernel_rfl
theorem af83 : K_l00In Try.prog 83 := a_l00In mixed res83
theorem res162 : resF Try.prog 162 = some (11, k_l01Sig 83, [.t 2]) := by kernel_rfl
theorem af162 : K_l01Sig Try.prog 162 := a_l01Sig mixed res162 af83
theorem res187 : resF Try.prog 187 = some (30, k_l06Left 187, [.t 4]) := by kernel_rfl
theorem af187 : K_l06Left Try.prog 187 := a_l06Left mixed res187
theorem res201 : resF Try.prog 201 = some (10, k_l00Max, [.t 4]) := by kernel_rfl
theorem af201 : K_l00Max Try.prog 201 := a_l00Max mixed res201
theorem res188 : resF Try.prog 188 = some (25, k_l06Depth 188 201, [.t 2]) := by kernel_rfl
theorem af188 : K_l06Depth Try.prog 188 := a_l06Depth mixed res188 af201
theorem res207 : resF Try.prog 207 = some (14, k_l06Kids, [.t 2]) := by kernel_rfl
theorem af207 : K_l06Kids Try.prog 207 := a_l06Kids mixed res207
theorem res208 : resF Try.prog 208 = some (13, k_l06Asks, [.t 2]) := by kernel_rfl
theorem af208 : K_l06Asks Try.prog 208 := a_l06Asks mixed res208
theorem res173 : resF Try.prog 173 = some (30, k_l01Left 173, [.t 4]) := by kernel_rfl
theorem af173 : K_l01Left Try.prog 173 := a_l01Left mixed res173
theorem res174 : resF Try.prog 174 = some (25, k_l01Depth 174 201, [.t 2]) := by kernel_rfl
theorem af174 : K_l01Depth Try.prog 174 := a_l01Depth mixed res174 af201
theorem res202 : resF Try.prog 202 = some (15, k_l01Kids, [.t 2]) := by kernel_rfl
theorem af202 : K_l01Kids Try.prog 202 := a_l01Kids mixed res202
theorem res140 : resF Try.prog 140 = some (34, k_l01Condition 140 83, [.t 2]) := by kernel_rfl
theorem af140 : K_l01Condition Try.prog 140 := a_l01Condition mixed res140 af83
theorem res175 : resF Try.prog 175 = some (80, k_l01Tree 175 202 83 140, [.t 4]) := by kernel_rfl
theorem af175 : K_l01Tree Try.prog 175 := a_l01Tree mixed res175 af202 af83 af140
theorem res116 : resF Try.prog 116 = some (22, k_l01Ok 162 173 174 175, [.t 4]) := by kernel_rfl
theorem af116 : K_l01Ok Try.prog 116 := a_l01Ok mixed res116 af162 af173 af174 af175
theorem res204 : resF Try.prog 204 = some (12, k_l06Cond 116 140, [.t 4]) := by kernel_rfl
theorem af204 : K_l06Cond Try.prog 204 := a_l06Cond mixed res204 af116 af140
theorem res203 : resF Try.prog 203 = some (23, k_l06None, [.t 2]) := by kernel_rfl
theorem af203 : K_l06None Try.prog 203 := a_l06None mixed res203
theorem res189 : resF Try.prog 189 = some (93, k_l06Tree 189 207 83 208 204 203, [.t 4]) := by kernel_rfl
theorem af189 : K_l06Tree Try.prog 189 := a_l06Tree mixed res189 af207 af83 af208 af204 af203
theorem res147 : resF Try.prog 147 = some (22, k_l06Ok 162 187 188 189, [.t 4]) := by kernel_rfl
theorem af147 : K_l06Ok Try.prog 147 := a_l06Ok mixed res147 af162 af187 af188 af189
theorem res71 : resF Try.prog 71 = some (7, k_spValidProg 147, [.t 4]) := by kernel_rfl
theorem af71 : K_spValidProg Try.prog 71 := a_spValidProg mixed res71 af147
theorem res88 : resF Try.prog 88 = some (15, k_within, [.t 6]) := by kernel_rfl
theorem af88 : K_within Try.prog 88 := a_within mixed res88
theorem res129 : resF Try.prog 129 = some (11, k_validSig 88, [.t 2]) := by kernel_rfl
theorem af129 : K_validSig Try.prog 129 := a_validSig mixed res129 af88
theorem res209 : resF Try.prog 209 = some (17, k_progForm, [.t 2, .t 3]) := by kernel_rfl
theorem af209 : K_progForm Try.prog 209 := a_progForm mixed res209
theorem res218 : resF Try.prog 218 = some (15, k_kidsOf, [.t 2]) := by kernel_rfl
theorem af218 : K_kidsOf Try.prog 218 := a_kidsOf mixed res218
theorem res184 : resF Try.prog 184 = some (25, k_isCondition 184, [.t 2]) := by kernel_rfl
theorem af184 : K_isCondition Try.prog 184 := a_isCondition mixed res184
theorem res200 : resF Try.prog 200 = some (86, k_shaped 200 218 88 184, [.t 8, .t 9]) := by kernel_rfl
theorem af200 : K_shaped Try.prog 200 := a_shaped mixed res200 af218 af88 af184
theorem res167 : resF Try.prog 167 = some (14, k_isExpr 200, [.t 4]) := by kernel_rfl
theorem af167 : K_isExpr Try.prog 167 := a_isExpr mixed res167 af200
theorem res180 : resF Try.prog 180 = some (12, k_imCondOk 167 184, [.t 4]) := by kernel_rfl
theorem af180 : K_imCondOk Try.prog 180 := a_imCondOk mixed res180 af167 af184
theorem res179 : resF Try.prog 179 = some (17, k_isNone, [.t 2]) := by kernel_rfl
theorem af179 : K_isNone Try.prog 179 := a_isNone mixed res179
theorem res190 : resF Try.prog 190 = some (98, k_progFits 190 209 180 179 88, [.t 8, .t 9]) := by kernel_rfl
theorem af190 : K_progFits Try.prog 190 := a_progFits mixed res190 af209 af180 af179 af88
theorem res149 : resF Try.prog 149 = some (14, k_isProg 190, [.t 4]) := by kernel_rfl
theorem af149 : K_isProg Try.prog 149 := a_isProg mixed res149 af190
theorem res73 : resF Try.prog 73 = some (12, k_imValidProg 129 149, [.t 4]) := by kernel_rfl
theorem af73 : K_imValidProg Try.prog 73 := a_imValidProg mixed res73 af129 af149
theorem res123 : resF Try.prog 123 = some (27, cEqC 49 3 true, [.t 4]) := by kernel_rfl
theorem res49 : resF Try.prog 49 = some (21, k_eqExpr 123, [.t 4]) := by kernel_rfl
theorem res150 : resF Try.prog 150 = some (27, cEqC 74 6 true, [.t 4]) := by kernel_rfl
theorem res74 : resF Try.prog 74 = some (27, k_eqProg 49 150, [.t 4]) := by kernel_rfl

def rc12 : RC :=
 (.seq
  (.reg false [⟨none, .box 2 2 (.t 0)⟩,
    ⟨none, .box 3 6 (.t 1)⟩,
    ⟨none, .mv 4 (.c (.sc (.bool false)))⟩])
  ((.seq
   (.reg false [⟨none, .mv 5 (.c (.sc (.int .i64 1048576)))⟩])
   ((.seq
    (.reg false [⟨none, .ld 9 true 6 (.t 3)⟩,
      ⟨none, .mv 10 (.t 5)⟩,
      ⟨none, .call (some 11) 70 [(.t 9), (.t 10)]⟩,
      ⟨none, .mv 5 (.t 11)⟩])
    ((.seq
     ((.seq
      (.reg false [⟨none, .mv 12 (.t 5)⟩,
        ⟨none, .bin 13 .lss (.t 12) (.c (.sc (.int .i64 0)))⟩])
      (.cond (.t 13)
       ((.seq
        (.reg false [⟨none, .mv 4 (.c (.sc (.bool true)))⟩])
        (.ret)))
       (.skip))))
     ((.seq
      (.reg true [⟨none, .ld 14 true 2 (.t 2)⟩,
        ⟨none, .call (some 15) 23 [(.t 14)]⟩,
        ⟨none, .ld 16 true 6 (.t 3)⟩,
        ⟨none, .call (some 17) 72 [(.t 16)]⟩,
        ⟨none, .call (some 18) 71 [(.t 15), (.t 17)]⟩,
        ⟨none, .mv 6 (.t 18)⟩])
      ((.seq
       (.reg false [⟨none, .ld 19 true 6 (.t 3)⟩,
         ⟨none, .call (some 20) 72 [(.t 19)]⟩,
         ⟨none, .zer 7 6 (.ag [(.sc (.int .i64 0)), (.sc (.int .i64 0)), (.sc (.int .i64 0)), (.sc (.int .i64 0)), (.ls (some true) 3 []), (.ls (some true) 6 [])])⟩,
         ⟨none, .st 6 (.t 7) (.t 20)⟩])
       ((.seq
        (.reg true [⟨none, .ld 21 true 2 (.t 2)⟩,
          ⟨none, .call (some 22) 23 [(.t 21)]⟩,
          ⟨none, .ld 23 true 6 (.t 7)⟩,
          ⟨none, .call (some 24) 73 [(.t 22), (.t 23)]⟩,
          ⟨none, .mv 8 (.t 24)⟩])
        ((.seq
         ((.seq
          (.reg false [⟨none, .mv 25 (.t 8)⟩,
            ⟨none, .mv 26 (.t 6)⟩,
            ⟨none, .beq 27 true (.t 25) (.t 26)⟩])
          (.cond (.t 27)
           ((.seq
            (.reg false [⟨none, .mv 4 (.c (.sc (.bool false)))⟩])
            (.ret)))
           (.skip))))
         ((.seq
          ((.seq
           (.reg true [⟨none, .ld 28 true 6 (.t 7)⟩,
             ⟨none, .ld 29 true 6 (.t 3)⟩,
             ⟨none, .call (some 30) 72 [(.t 29)]⟩,
             ⟨none, .call (some 31) 74 [(.t 28), (.t 30)]⟩,
             ⟨none, .un 32 .not (.t 31)⟩])
           (.cond (.t 32)
            ((.seq
             (.reg false [⟨none, .mv 4 (.c (.sc (.bool false)))⟩])
             (.ret)))
            (.skip))))
          ((.seq
           (.reg false [⟨none, .mv 4 (.c (.sc (.bool true)))⟩])
           (.ret))))))))))))))))))))
theorem res12 : resF Try.prog 12 = some (33, rc12, [.t 4]) := by kernel_rfl
noncomputable def famExpr : Fam Try.prog eE 44 46 49 := famE mixed res44 res115 res46 res119 res49 res123
theorem famExpr_t (x) : famExpr.t x = tE x := rfl
noncomputable def famProg : Fam Try.prog eP 70 72 74 := famPg mixed famExpr ⟨rfl, rfl, rfl, rfl⟩ res70 res146 res72 res148 res74 res150
theorem famProg_t (x) : famProg.t x = tP x := rfl
theorem tP_nn (e : Pg) : (tP e).nn = some false := by cases e; rw [tP_mk]; rfl
theorem tP_c (e : Pg) : (tP e).c = tE e.c := by cases e; rw [tP_mk]; rfl
theorem law (g : Int × Int) (q : Pg) : AF Try.prog 12 [eG g, eP q] (.own (eB true)) := by
  rw [eP_eta q]
  refine af_of_res res12 mixed rfl fun hbd => ?_
  simp +contextual -implicitDefEqProofs only [rc12, eG, eP_eta, famProg_t, tP_nn, tP_c, tE_k, tE_n, tE_nn, tE_ks, bne_self_eq_false, go_sem, eI, eB, ↓reduceIte, Nat.reduceEqDiff, Nat.reduceAdd, Nat.reduceLeDiff, Nat.reduceMul, Nat.reduceBEq, Nat.reduceBneDiff, Nat.reduceLT, Nat.reduceSub, decide_true, decide_false, and_self, true_and, and_true, false_and, and_false, not_true_eq_false, not_false_eq_true, false_implies, true_implies, implies_true, ge_iff_le, Bool.false_eq_true, List.cons_append, List.nil_append]
  refine callQ_self (ds := [eP q, eI 1048576]) ?_ (famProg.afS q 1048576 (by omega) (by omega)) ?_
  · simp only [eG, eP_eta, famProg_t, tP_nn, tP_c, tE_k, tE_n, tE_nn, tE_ks, bne_self_eq_false]; exact rfl
  simp +contextual -implicitDefEqProofs only [eG, eP_eta, famProg_t, tP_nn, tP_c, tE_k, tE_n, tE_nn, tE_ks, bne_self_eq_false, go_sem, eI, eB, ↓reduceIte, Nat.reduceEqDiff, Nat.reduceAdd, Nat.reduceLeDiff, Nat.reduceMul, Nat.reduceBEq, Nat.reduceBneDiff, Nat.reduceLT, Nat.reduceSub, decide_true, decide_false, and_self, true_and, and_true, false_and, and_false, not_true_eq_false, not_false_eq_true, false_implies, true_implies, implies_true, ge_iff_le, Bool.false_eq_true, List.cons_append, List.nil_append]
  have sb0 := famProg.s_in q 1048576 (by omega) (by omega)
  refine fun hs0 => ?_
  have hf0 := famProg.s_fit q 1048576 (by omega) (by omega) (by omega)
  refine callQ_self (ds := [eG g]) ?_ (af23 g) ?_
  · simp only [eG, eP_eta, famProg_t, tP_nn, tP_c, tE_k, tE_n, tE_nn, tE_ks, bne_self_eq_false]; exact rfl
  simp +contextual -implicitDefEqProofs only [eG, eP_eta, famProg_t, tP_nn, tP_c, tE_k, tE_n, tE_nn, tE_ks, bne_self_eq_false, go_sem, eI, eB, ↓reduceIte, Nat.reduceEqDiff, Nat.reduceAdd, Nat.reduceLeDiff, Nat.reduceMul, Nat.reduceBEq, Nat.reduceBneDiff, Nat.reduceLT, Nat.reduceSub, decide_true, decide_false, and_self, true_and, and_true, false_and, and_false, not_true_eq_false, not_false_eq_true, false_implies, true_implies, implies_true, ge_iff_le, Bool.false_eq_true, List.cons_append, List.nil_append]
  refine callQ_self (ds := [eP q]) ?_ (famProg.afT q hf0) ?_
  · simp only [eG, eP_eta, famProg_t, tP_nn, tP_c, tE_k, tE_n, tE_nn, tE_ks, bne_self_eq_false]; exact rfl
  simp +contextual -implicitDefEqProofs only [eG, eP_eta, famProg_t, tP_nn, tP_c, tE_k, tE_n, tE_nn, tE_ks, bne_self_eq_false, go_sem, eI, eB, ↓reduceIte, Nat.reduceEqDiff, Nat.reduceAdd, Nat.reduceLeDiff, Nat.reduceMul, Nat.reduceBEq, Nat.reduceBneDiff, Nat.reduceLT, Nat.reduceSub, decide_true, decide_false, and_self, true_and, and_true, false_and, and_false, not_true_eq_false, not_false_eq_true, false_implies, true_implies, implies_true, ge_iff_le, Bool.false_eq_true, List.cons_append, List.nil_append]
  refine callQ_self (ds := [eG g, eP (famProg.t q)]) ?_ (af71 g (famProg.t q)) ?_
  · simp only [eG, eP_eta, famProg_t, tP_nn, tP_c, tE_k, tE_n, tE_nn, tE_ks, bne_self_eq_false]; exact rfl
  simp +contextual -implicitDefEqProofs only [eG, eP_eta, famProg_t, tP_nn, tP_c, tE_k, tE_n, tE_nn, tE_ks, bne_self_eq_false, go_sem, eI, eB, ↓reduceIte, Nat.reduceEqDiff, Nat.reduceAdd, Nat.reduceLeDiff, Nat.reduceMul, Nat.reduceBEq, Nat.reduceBneDiff, Nat.reduceLT, Nat.reduceSub, decide_true, decide_false, and_self, true_and, and_true, false_and, and_false, not_true_eq_false, not_false_eq_true, false_implies, true_implies, implies_true, ge_iff_le, Bool.false_eq_true, List.cons_append, List.nil_append]
  refine callQ_self (ds := [eP q]) ?_ (famProg.afT q hf0) ?_
  · simp only [eG, eP_eta, famProg_t, tP_nn, tP_c, tE_k, tE_n, tE_nn, tE_ks, bne_self_eq_false]; exact rfl
  simp +contextual -implicitDefEqProofs only [eG, eP_eta, famProg_t, tP_nn, tP_c, tE_k, tE_n, tE_nn, tE_ks, bne_self_eq_false, go_sem, eI, eB, ↓reduceIte, Nat.reduceEqDiff, Nat.reduceAdd, Nat.reduceLeDiff, Nat.reduceMul, Nat.reduceBEq, Nat.reduceBneDiff, Nat.reduceLT, Nat.reduceSub, decide_true, decide_false, and_self, true_and, and_true, false_and, and_false, not_true_eq_false, not_false_eq_true, false_implies, true_implies, implies_true, ge_iff_le, Bool.false_eq_true, List.cons_append, List.nil_append]
  refine callQ_self (ds := [eG g]) ?_ (af23 g) ?_
  · simp only [eG, eP_eta, famProg_t, tP_nn, tP_c, tE_k, tE_n, tE_nn, tE_ks, bne_self_eq_false]; exact rfl
  simp +contextual -implicitDefEqProofs only [eG, eP_eta, famProg_t, tP_nn, tP_c, tE_k, tE_n, tE_nn, tE_ks, bne_self_eq_false, go_sem, eI, eB, ↓reduceIte, Nat.reduceEqDiff, Nat.reduceAdd, Nat.reduceLeDiff, Nat.reduceMul, Nat.reduceBEq, Nat.reduceBneDiff, Nat.reduceLT, Nat.reduceSub, decide_true, decide_false, and_self, true_and, and_true, false_and, and_false, not_true_eq_false, not_false_eq_true, false_implies, true_implies, implies_true, ge_iff_le, Bool.false_eq_true, List.cons_append, List.nil_append]
  refine callQ_self (ds := [eG g, eP (famProg.t q)]) ?_ (af73 g (famProg.t q)) ?_
  · simp only [eG, eP_eta, famProg_t, tP_nn, tP_c, tE_k, tE_n, tE_nn, tE_ks, bne_self_eq_false]; exact rfl
  simp +contextual -implicitDefEqProofs only [eG, eP_eta, famProg_t, tP_nn, tP_c, tE_k, tE_n, tE_nn, tE_ks, bne_self_eq_false, go_sem, eI, eB, ↓reduceIte, Nat.reduceEqDiff, Nat.reduceAdd, Nat.reduceLeDiff, Nat.reduceMul, Nat.reduceBEq, Nat.reduceBneDiff, Nat.reduceLT, Nat.reduceSub, decide_true, decide_false, and_self, true_and, and_true, false_and, and_false, not_true_eq_false, not_false_eq_true, false_implies, true_implies, implies_true, ge_iff_le, Bool.false_eq_true, List.cons_append, List.nil_append]
  refine callQ_self (ds := [eP q]) ?_ (famProg.afT q hf0) ?_
  · simp only [eG, eP_eta, famProg_t, tP_nn, tP_c, tE_k, tE_n, tE_nn, tE_ks, bne_self_eq_false]; exact rfl
  simp +contextual -implicitDefEqProofs only [eG, eP_eta, famProg_t, tP_nn, tP_c, tE_k, tE_n, tE_nn, tE_ks, bne_self_eq_false, go_sem, eI, eB, ↓reduceIte, Nat.reduceEqDiff, Nat.reduceAdd, Nat.reduceLeDiff, Nat.reduceMul, Nat.reduceBEq, Nat.reduceBneDiff, Nat.reduceLT, Nat.reduceSub, decide_true, decide_false, and_self, true_and, and_true, false_and, and_false, not_true_eq_false, not_false_eq_true, false_implies, true_implies, implies_true, ge_iff_le, Bool.false_eq_true, List.cons_append, List.nil_append]
  refine callQ_self (ds := [eP (famProg.t q), eP (famProg.t q)]) ?_ (famProg.afQ (famProg.t q) (famProg.t q)) ?_
  · simp only [eG, eP_eta, famProg_t, tP_nn, tP_c, tE_k, tE_n, tE_nn, tE_ks, bne_self_eq_false]; exact rfl
  simp +contextual -implicitDefEqProofs only [famProg.q_refl, Bool.not_true, eG, eP_eta, famProg_t, tP_nn, tP_c, tE_k, tE_n, tE_nn, tE_ks, bne_self_eq_false, go_sem, eI, eB, ↓reduceIte, Nat.reduceEqDiff, Nat.reduceAdd, Nat.reduceLeDiff, Nat.reduceMul, Nat.reduceBEq, Nat.reduceBneDiff, Nat.reduceLT, Nat.reduceSub, decide_true, decide_false, and_self, true_and, and_true, false_and, and_false, not_true_eq_false, not_false_eq_true, false_implies, true_implies, implies_true, ge_iff_le, Bool.false_eq_true, List.cons_append, List.nil_append]
end Go.Ax
