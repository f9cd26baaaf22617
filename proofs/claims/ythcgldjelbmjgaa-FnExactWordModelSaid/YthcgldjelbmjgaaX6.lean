/- Contracts of functions of the seat, proved over the engine. No condition. -/
import Derived.Test.YthcgldjelbmjgaaX5
set_option linter.unusedSimpArgs false
set_option linter.unusedVariables false
set_option linter.unnecessarySimpa false
namespace Go.Ax
set_option linter.unusedSimpArgs false
set_option maxRecDepth 20000
set_option maxHeartbeats 4000000

def k_l01Word (f1 f2 f3 : Nat) : RC := (.seq (.reg false [⟨none, .box 2 2 (.t 0)⟩, ⟨none, .mv 4 (.c (.sc (.bool false)))⟩]) ((.seq ((.seq (.reg true [⟨none, .ld 7 true 2 (.t 2)⟩, ⟨none, .call (some 8) f1 [(.t 7)]⟩, ⟨none, .un 9 .not (.t 8)⟩, ⟨none, .mv 10 (.t 9)⟩, ⟨some (10, false), .mv 11 (.t 1)⟩, ⟨some (10, false), .nck 12 (.t 11)⟩, ⟨some (10, false), .fa 13 1 (.t 12)⟩, ⟨some (10, false), .ld 14 false 1 (.t 13)⟩, ⟨some (10, false), .len 15 (.t 14)⟩, ⟨some (10, false), .bin 16 .gtr (.t 15) (.c (.sc (.int .i64 10)))⟩, ⟨none, .pick 17 (.t 10) (.c (.sc (.bool true))) (.t 16)⟩, ⟨none, .mv 18 (.t 17)⟩, ⟨some (18, false), .mv 19 (.t 1)⟩, ⟨some (18, false), .nck 20 (.t 19)⟩, ⟨some (18, false), .fa 21 0 (.t 20)⟩, ⟨some (18, false), .ld 22 false 1 (.t 21)⟩, ⟨some (18, false), .len 23 (.t 22)⟩, ⟨some (18, false), .mv 24 (.t 1)⟩, ⟨some (18, false), .nck 25 (.t 24)⟩, ⟨some (18, false), .fa 26 1 (.t 25)⟩, ⟨some (18, false), .ld 27 false 1 (.t 26)⟩, ⟨some (18, false), .len 28 (.t 27)⟩, ⟨some (18, false), .bin 29 .add (.t 28) (.c (.sc (.int .i64 1)))⟩, ⟨some (18, false), .bin 30 .neq (.t 23) (.t 29)⟩, ⟨none, .pick 31 (.t 18) (.c (.sc (.bool true))) (.t 30)⟩]) (.cond (.t 31) ((.seq (.reg false [⟨none, .mv 4 (.c (.sc (.bool false)))⟩]) (.ret))) (.skip)))) ((.seq ((.seq (.reg false [⟨none, .mv 5 (.c (.sc (.int .i64 0)))⟩]) (.blk 0 (.loop ((.seq ((.seq (.reg false [⟨none, .mv 32 (.t 5)⟩, ⟨none, .mv 33 (.t 1)⟩, ⟨none, .nck 34 (.t 33)⟩, ⟨none, .fa 35 0 (.t 34)⟩, ⟨none, .ld 36 false 1 (.t 35)⟩, ⟨none, .len 37 (.t 36)⟩, ⟨none, .bin 38 .lss (.t 32) (.t 37)⟩]) (.cond (.t 38) (.skip) (.exit 0)))) ((.seq (.blk 1 ((.seq (.reg true [⟨none, .mv 41 (.t 1)⟩, ⟨none, .nck 42 (.t 41)⟩, ⟨none, .fa 43 0 (.t 42)⟩, ⟨none, .ld 44 false 1 (.t 43)⟩, ⟨none, .mv 45 (.t 5)⟩, ⟨none, .ia 46 1 (.t 44) (.t 45)⟩, ⟨none, .ld 47 false 1 (.t 46)⟩, ⟨none, .ld 48 true 2 (.t 2)⟩, ⟨none, .call (some 49) f2 [(.t 48)]⟩, ⟨none, .bin 50 .sub (.t 49) (.c (.sc (.int .i64 1)))⟩, ⟨none, .call (some 51) f3 [(.t 47), (.c (.sc (.int .i64 0))), (.t 50)]⟩, ⟨none, .un 52 .not (.t 51)⟩]) (.cond (.t 52) ((.seq (.reg false [⟨none, .mv 4 (.c (.sc (.bool false)))⟩]) (.ret))) (.skip))))) (.reg false [⟨none, .mv 39 (.t 5)⟩, ⟨none, .bin 40 .add (.t 39) (.c (.sc (.int .i64 1)))⟩, ⟨none, .mv 5 (.t 40)⟩]))))))))) ((.seq ((.seq (.reg false [⟨none, .mv 6 (.c (.sc (.int .i64 0)))⟩]) (.blk 2 (.loop ((.seq ((.seq (.reg false [⟨none, .mv 53 (.t 6)⟩, ⟨none, .mv 54 (.t 1)⟩, ⟨none, .nck 55 (.t 54)⟩, ⟨none, .fa 56 1 (.t 55)⟩, ⟨none, .ld 57 false 1 (.t 56)⟩, ⟨none, .len 58 (.t 57)⟩, ⟨none, .bin 59 .lss (.t 53) (.t 58)⟩]) (.cond (.t 59) (.skip) (.exit 2)))) ((.seq (.blk 3 ((.seq (.reg true [⟨none, .mv 62 (.t 1)⟩, ⟨none, .nck 63 (.t 62)⟩, ⟨none, .fa 64 1 (.t 63)⟩, ⟨none, .ld 65 false 1 (.t 64)⟩, ⟨none, .mv 66 (.t 6)⟩, ⟨none, .ia 67 1 (.t 65) (.t 66)⟩, ⟨none, .ld 68 false 1 (.t 67)⟩, ⟨none, .fa 69 1 (.t 2)⟩, ⟨none, .ld 70 false 1 (.t 69)⟩, ⟨none, .bin 71 .sub (.t 70) (.c (.sc (.int .i64 1)))⟩, ⟨none, .call (some 72) f3 [(.t 68), (.c (.sc (.int .i64 0))), (.t 71)]⟩, ⟨none, .un 73 .not (.t 72)⟩]) (.cond (.t 73) ((.seq (.reg false [⟨none, .mv 4 (.c (.sc (.bool false)))⟩]) (.ret))) (.skip))))) (.reg false [⟨none, .mv 60 (.t 6)⟩, ⟨none, .bin 61 .add (.t 60) (.c (.sc (.int .i64 1)))⟩, ⟨none, .mv 6 (.t 61)⟩]))))))))) ((.seq (.reg false [⟨none, .mv 4 (.c (.sc (.bool true)))⟩]) (.ret))))))))))
def K_l01Word (P : Program) (f : Nat) : Prop := ∀ (g : Int × Int) (v : Wo), AF P f [eG g, .pt (eWo v) 0] (.own (eB (okG g && okWo g v)))
theorem a_l01Word {P : Program} (hm : P.follows .mixedOrders = true) {g f1 f2 f3 : Nat} (hr : resF P g = some (74, k_l01Word f1 f2 f3, [.t 4])) (hc1 : K_l01Sig P f1) (hc2 : K_l01Atoms P f2) (hc3 : K_l00In P f3) : K_l01Word P g := by
  intro g v
  refine af_of_res hr hm rfl fun hb => ?_
  have hb2 := hb.2.1
  simp only [eWo, eS, D.bd, D.bdL, List.length_map, maxEl] at hb2
  have hl := hb2.1.1
  have hl2 := hb2.2.1.1
  simp +contextual -implicitDefEqProofs only [k_l01Word, eG, eWo, eS, List.length_map, go_sem, eI, eB, ↓reduceIte, Nat.reduceEqDiff, Nat.reduceAdd, Nat.reduceLeDiff, Nat.reduceMul, Nat.reduceBEq, Nat.reduceBneDiff, Nat.reduceLT, Nat.reduceSub, Bool.false_eq_true, List.cons_append, List.nil_append]
  refine callQ_self ?_ (hc1 g) ?_
  · exact rfl
  cases hg : okG g
  · simp +contextual -implicitDefEqProofs only [hg, bne, Bool.not_true, Bool.not_false, Bool.true_and, Bool.false_and, Bool.and_true, Bool.and_false, Bool.true_or, Bool.false_or, Bool.or_true, Bool.or_false, go_sem, eI, eB, ↓reduceIte, Nat.reduceEqDiff, Nat.reduceAdd, Nat.reduceLeDiff, Nat.reduceMul, Nat.reduceBEq, Nat.reduceBneDiff, Nat.reduceLT, Nat.reduceSub, Bool.false_eq_true, List.cons_append, List.nil_append]
  have hg' := okG_iff hg
  have hp := atoms_le hg
  by_cases h1 : (v.2.2.length : Int) ≤ 10
  · have h1' : ¬ (v.2.2.length : Int) > 10 := by omega
    have hw := wrap_i64 (x := (v.2.2.length : Int) + 1) (by omega) (by omega)
    cases h2 : lenIs (v.2.2.length + 1) v.1
    · have h2' := h2
      simp only [lenIs] at h2'
      simp +contextual -implicitDefEqProofs only [okWo, traceOk, h1, h2, h1', hw, h2', gt_iff_lt, eS, List.length_map, bne, Bool.not_true, Bool.not_false, Bool.true_and, Bool.false_and, Bool.and_true, Bool.and_false, Bool.true_or, Bool.false_or, Bool.or_true, Bool.or_false, go_sem, eI, eB, ↓reduceIte, Nat.reduceEqDiff, Nat.reduceAdd, Nat.reduceLeDiff, Nat.reduceMul, Nat.reduceBEq, Nat.reduceBneDiff, Nat.reduceLT, Nat.reduceSub, Bool.false_eq_true, List.cons_append, List.nil_append]
    have h2' := h2
    simp only [lenIs] at h2'
    simp +contextual -implicitDefEqProofs only [h1', hw, h2', gt_iff_lt, eS, List.length_map, bne, Bool.not_true, Bool.not_false, Bool.true_and, Bool.false_and, Bool.and_true, Bool.and_false, Bool.true_or, Bool.false_or, Bool.or_true, Bool.or_false, go_sem, eI, eB, ↓reduceIte, Nat.reduceEqDiff, Nat.reduceAdd, Nat.reduceLeDiff, Nat.reduceMul, Nat.reduceBEq, Nat.reduceBneDiff, Nat.reduceLT, Nat.reduceSub, Bool.false_eq_true, List.cons_append, List.nil_append]
    refine vc_on (α := Nat) [4, 5, 32, 33, 34, 35, 36, 37, 38, 39, 40, 41, 42, 43, 44, 45, 46, 47, 48, 49, 50, 51, 52] (fun i => [(5, .im none (.sc (.int .i64 i)))]) (fun i => i ≤ v.1.2.length ∧ (v.1.2.take i).all ((fun x => isIn x 0 (atomsOf g - 1))) = true) (fun i => v.1.2.length - i) 0 (by simp only [subEnv, go_sem, ↓reduceIte, Nat.reduceEqDiff, List.length_map]; simp) ⟨Nat.zero_le _, rfl⟩ ?_
    rintro i ⟨j1, j2⟩
    by_cases hi : i < v.1.2.length
    · have e1 := at_map (f := eI) hi
      simp +contextual -implicitDefEqProofs only [eS, e1, hi, Int.ofNat_lt, List.length_map, Int.natCast_nonneg, go_sem, eI, eB, ↓reduceIte, Nat.reduceEqDiff, Nat.reduceAdd, Nat.reduceLeDiff, Nat.reduceMul, Nat.reduceBEq, Nat.reduceBneDiff, Nat.reduceLT, Nat.reduceSub, Bool.false_eq_true, List.cons_append, List.nil_append]
      refine callQ_self ?_ (hc2 g hg) ?_
      · exact rfl
      simp +contextual -implicitDefEqProofs only [bne, Bool.not_true, Bool.not_false, Bool.true_and, Bool.false_and, Bool.and_true, Bool.and_false, Bool.true_or, Bool.false_or, Bool.or_true, Bool.or_false, go_sem, eI, eB, ↓reduceIte, Nat.reduceEqDiff, Nat.reduceAdd, Nat.reduceLeDiff, Nat.reduceMul, Nat.reduceBEq, Nat.reduceBneDiff, Nat.reduceLT, Nat.reduceSub, Bool.false_eq_true, List.cons_append, List.nil_append]
      rw [wrap_i64 (by omega) (by omega)]
      refine callQ_self ?_ (hc3 v.1.2[i] 0 (atomsOf g - 1)) ?_
      · exact rfl
      cases hx : isIn v.1.2[i] 0 (atomsOf g - 1)
      · simp +contextual -implicitDefEqProofs only [bne, Bool.not_true, Bool.not_false, Bool.true_and, Bool.false_and, Bool.and_true, Bool.and_false, Bool.true_or, Bool.false_or, Bool.or_true, Bool.or_false, go_sem, eI, eB, ↓reduceIte, Nat.reduceEqDiff, Nat.reduceAdd, Nat.reduceLeDiff, Nat.reduceMul, Nat.reduceBEq, Nat.reduceBneDiff, Nat.reduceLT, Nat.reduceSub, Bool.false_eq_true, List.cons_append, List.nil_append]
        have hr2 := all_fail (p := (fun x => isIn x 0 (atomsOf g - 1))) hi hx
        exact D.Le.sc_eq (by simp only [okWo, traceOk, allIn, h1, h2, hr2, Bool.and_false, Bool.false_and])
      · simp +contextual -implicitDefEqProofs only [bne, Bool.not_true, Bool.not_false, Bool.true_and, Bool.false_and, Bool.and_true, Bool.and_false, Bool.true_or, Bool.false_or, Bool.or_true, Bool.or_false, go_sem, eI, eB, ↓reduceIte, Nat.reduceEqDiff, Nat.reduceAdd, Nat.reduceLeDiff, Nat.reduceMul, Nat.reduceBEq, Nat.reduceBneDiff, Nat.reduceLT, Nat.reduceSub, Bool.false_eq_true, List.cons_append, List.nil_append]
        rw [wrap_i64 (by omega) (by omega)]
        exact ⟨i + 1, ⟨by omega, all_take_succ hi j2 hx⟩, by omega, Ent.env (by simp only [subEnv, go_sem, ↓reduceIte, Nat.reduceEqDiff, List.length_map]; simp)⟩
    · simp +contextual -implicitDefEqProofs only [eS, hi, Int.ofNat_lt, List.length_map, Int.natCast_nonneg, go_sem, eI, eB, ↓reduceIte, Nat.reduceEqDiff, Nat.reduceAdd, Nat.reduceLeDiff, Nat.reduceMul, Nat.reduceBEq, Nat.reduceBneDiff, Nat.reduceLT, Nat.reduceSub, Bool.false_eq_true, List.cons_append, List.nil_append]
      have hr1 := all_of_take hi j2
      refine vc_on (α := Nat) [4, 6, 53, 54, 55, 56, 57, 58, 59, 60, 61, 62, 63, 64, 65, 66, 67, 68, 69, 70, 71, 72, 73] (fun i => [(6, .im none (.sc (.int .i64 i)))]) (fun i => i ≤ v.2.2.length ∧ (v.2.2.take i).all ((fun x => isIn x 0 (g.2 - 1))) = true) (fun i => v.2.2.length - i) 0 (by simp only [subEnv, go_sem, ↓reduceIte, Nat.reduceEqDiff, List.length_map]; simp) ⟨Nat.zero_le _, rfl⟩ ?_
      rintro i ⟨j1, j2⟩
      by_cases hi : i < v.2.2.length
      · have e1 := at_map (f := eI) hi
        simp +contextual -implicitDefEqProofs only [eS, e1, hi, Int.ofNat_lt, List.length_map, Int.natCast_nonneg, go_sem, eI, eB, ↓reduceIte, Nat.reduceEqDiff, Nat.reduceAdd, Nat.reduceLeDiff, Nat.reduceMul, Nat.reduceBEq, Nat.reduceBneDiff, Nat.reduceLT, Nat.reduceSub, Bool.false_eq_true, List.cons_append, List.nil_append]
        rw [wrap_i64 (by omega) (by omega)]
        refine callQ_self ?_ (hc3 v.2.2[i] 0 (g.2 - 1)) ?_
        · exact rfl
        cases hx : isIn v.2.2[i] 0 (g.2 - 1)
        · simp +contextual -implicitDefEqProofs only [bne, Bool.not_true, Bool.not_false, Bool.true_and, Bool.false_and, Bool.and_true, Bool.and_false, Bool.true_or, Bool.false_or, Bool.or_true, Bool.or_false, go_sem, eI, eB, ↓reduceIte, Nat.reduceEqDiff, Nat.reduceAdd, Nat.reduceLeDiff, Nat.reduceMul, Nat.reduceBEq, Nat.reduceBneDiff, Nat.reduceLT, Nat.reduceSub, Bool.false_eq_true, List.cons_append, List.nil_append]
          have hr2 := all_fail (p := (fun x => isIn x 0 (g.2 - 1))) hi hx
          exact D.Le.sc_eq (by simp only [okWo, traceOk, allIn, h1, h2, hr2, Bool.and_false, Bool.false_and])
        · simp +contextual -implicitDefEqProofs only [bne, Bool.not_true, Bool.not_false, Bool.true_and, Bool.false_and, Bool.and_true, Bool.and_false, Bool.true_or, Bool.false_or, Bool.or_true, Bool.or_false, go_sem, eI, eB, ↓reduceIte, Nat.reduceEqDiff, Nat.reduceAdd, Nat.reduceLeDiff, Nat.reduceMul, Nat.reduceBEq, Nat.reduceBneDiff, Nat.reduceLT, Nat.reduceSub, Bool.false_eq_true, List.cons_append, List.nil_append]
          rw [wrap_i64 (by omega) (by omega)]
          exact ⟨i + 1, ⟨by omega, all_take_succ hi j2 hx⟩, by omega, Ent.env (by simp only [subEnv, go_sem, ↓reduceIte, Nat.reduceEqDiff, List.length_map]; simp)⟩
      · simp +contextual -implicitDefEqProofs only [eS, hi, Int.ofNat_lt, List.length_map, Int.natCast_nonneg, go_sem, eI, eB, ↓reduceIte, Nat.reduceEqDiff, Nat.reduceAdd, Nat.reduceLeDiff, Nat.reduceMul, Nat.reduceBEq, Nat.reduceBneDiff, Nat.reduceLT, Nat.reduceSub, Bool.false_eq_true, List.cons_append, List.nil_append]
        have hr2 := all_of_take hi j2
        exact D.Le.sc_eq (by simp only [okWo, traceOk, allIn, h1, h2, hr1, hr2, Bool.and_self, Bool.and_true, decide_true])
  · have h1' : (v.2.2.length : Int) > 10 := by omega
    simp +contextual -implicitDefEqProofs only [okWo, h1, h1', eS, List.length_map, bne, Bool.not_true, Bool.not_false, Bool.true_and, Bool.false_and, Bool.and_true, Bool.and_false, Bool.true_or, Bool.false_or, Bool.or_true, Bool.or_false, go_sem, eI, eB, ↓reduceIte, Nat.reduceEqDiff, Nat.reduceAdd, Nat.reduceLeDiff, Nat.reduceMul, Nat.reduceBEq, Nat.reduceBneDiff, Nat.reduceLT, Nat.reduceSub, Bool.false_eq_true, List.cons_append, List.nil_append]
end Go.Ax
