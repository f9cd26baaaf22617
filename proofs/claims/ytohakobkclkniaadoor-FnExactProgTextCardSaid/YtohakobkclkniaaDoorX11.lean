/- Contracts of functions of the seat, proved over the engine. No condition. -/
import Derived.Test.YtohakobkclkniaaDoorX10
set_option linter.unusedSimpArgs false
set_option linter.unusedVariables false
set_option linter.unnecessarySimpa false
namespace Go.Ax
set_option linter.unusedSimpArgs false
set_option maxRecDepth 20000
set_option maxHeartbeats 4000000
def noneE (e : Ex) : Bool := (e.k == 0) && ((e.n == 0) && ((e.ks.length : Int) == 0))
def condOk (g : Int × Int) (e : Ex) : Bool := okE g e && condE e
def k_isNone : RC := (.seq (.reg false [⟨none, .box 1 3 (.t 0)⟩, ⟨none, .mv 2 (.c (.sc (.bool false)))⟩]) ((.seq (.reg false [⟨none, .fa 3 0 (.t 1)⟩, ⟨none, .ld 4 false 1 (.t 3)⟩, ⟨none, .bin 5 .eql (.t 4) (.c (.sc (.int .i64 0)))⟩, ⟨none, .mv 6 (.t 5)⟩, ⟨some (6, true), .fa 7 1 (.t 1)⟩, ⟨some (6, true), .ld 8 false 1 (.t 7)⟩, ⟨some (6, true), .bin 9 .eql (.t 8) (.c (.sc (.int .i64 0)))⟩, ⟨none, .pick 10 (.t 6) (.t 9) (.c (.sc (.bool false)))⟩, ⟨none, .mv 11 (.t 10)⟩, ⟨some (11, true), .fa 12 2 (.t 1)⟩, ⟨some (11, true), .ld 13 false 1 (.t 12)⟩, ⟨some (11, true), .len 14 (.t 13)⟩, ⟨some (11, true), .bin 15 .eql (.t 14) (.c (.sc (.int .i64 0)))⟩, ⟨none, .pick 16 (.t 11) (.t 15) (.c (.sc (.bool false)))⟩, ⟨none, .mv 2 (.t 16)⟩]) (.ret))))
def K_isNone (P : Program) (f : Nat) : Prop := ∀ (e : Ex), AF P f [eE e] (.own (eB (noneE e)))
theorem a_isNone {P : Program} (hm : P.follows .mixedOrders = true) {g : Nat} (hr : resF P g = some (17, k_isNone, [.t 2])) : K_isNone P g := by
 intro e
 rw [eE_eta]
 refine af_of_res hr hm rfl fun hb => ?_
 cases q1 : (e.k == 0)
 ·simp +contextual -implicitDefEqProofs only [k_isNone, noneE, List.length_map, q1, bne, Bool.not_true, Bool.not_false, Bool.true_and, Bool.false_and, Bool.and_true, Bool.and_false, Bool.true_or, Bool.false_or, Bool.or_true, Bool.or_false, go_sem, eI, eB, ↓reduceIte, Nat.reduceEqDiff, Nat.reduceAdd, Nat.reduceLeDiff, Nat.reduceMul, Nat.reduceBEq, Nat.reduceBneDiff, Nat.reduceLT, Nat.reduceSub]
 cases q2 : (e.n == 0)
 ·simp +contextual -implicitDefEqProofs only [k_isNone, noneE, List.length_map, q1, q2, bne, Bool.not_true, Bool.not_false, Bool.true_and, Bool.false_and, Bool.and_true, Bool.and_false, Bool.true_or, Bool.false_or, Bool.or_true, Bool.or_false, go_sem, eI, eB, ↓reduceIte, Nat.reduceEqDiff, Nat.reduceAdd, Nat.reduceLeDiff, Nat.reduceMul, Nat.reduceBEq, Nat.reduceBneDiff, Nat.reduceLT, Nat.reduceSub]
 cases q3 : ((e.ks.length : Int) == 0)
 ·simp +contextual -implicitDefEqProofs only [k_isNone, noneE, List.length_map, q1, q2, q3, bne, Bool.not_true, Bool.not_false, Bool.true_and, Bool.false_and, Bool.and_true, Bool.and_false, Bool.true_or, Bool.false_or, Bool.or_true, Bool.or_false, go_sem, eI, eB, ↓reduceIte, Nat.reduceEqDiff, Nat.reduceAdd, Nat.reduceLeDiff, Nat.reduceMul, Nat.reduceBEq, Nat.reduceBneDiff, Nat.reduceLT, Nat.reduceSub]
 simp +contextual -implicitDefEqProofs only [k_isNone, noneE, List.length_map, q1, q2, q3, bne, Bool.not_true, Bool.not_false, Bool.true_and, Bool.false_and, Bool.and_true, Bool.and_false, Bool.true_or, Bool.false_or, Bool.or_true, Bool.or_false, go_sem, eI, eB, ↓reduceIte, Nat.reduceEqDiff, Nat.reduceAdd, Nat.reduceLeDiff, Nat.reduceMul, Nat.reduceBEq, Nat.reduceBneDiff, Nat.reduceLT, Nat.reduceSub]

def k_l06None : RC := (.seq (.reg false [⟨none, .mv 2 (.c (.sc (.bool false)))⟩]) ((.seq (.reg false [⟨none, .mv 3 (.t 0)⟩, ⟨none, .nck 4 (.t 3)⟩, ⟨none, .fa 5 0 (.t 4)⟩, ⟨none, .ld 6 false 1 (.t 5)⟩, ⟨none, .bin 7 .eql (.t 6) (.c (.sc (.int .i64 0)))⟩, ⟨none, .mv 8 (.t 7)⟩, ⟨some (8, true), .mv 9 (.t 0)⟩, ⟨some (8, true), .nck 10 (.t 9)⟩, ⟨some (8, true), .fa 11 1 (.t 10)⟩, ⟨some (8, true), .ld 12 false 1 (.t 11)⟩, ⟨some (8, true), .bin 13 .eql (.t 12) (.c (.sc (.int .i64 0)))⟩, ⟨none, .pick 14 (.t 8) (.t 13) (.c (.sc (.bool false)))⟩, ⟨none, .mv 15 (.t 14)⟩, ⟨some (15, true), .mv 16 (.t 0)⟩, ⟨some (15, true), .nck 17 (.t 16)⟩, ⟨some (15, true), .fa 18 2 (.t 17)⟩, ⟨some (15, true), .ld 19 false 1 (.t 18)⟩, ⟨some (15, true), .len 20 (.t 19)⟩, ⟨some (15, true), .bin 21 .eql (.t 20) (.c (.sc (.int .i64 0)))⟩, ⟨none, .pick 22 (.t 15) (.t 21) (.c (.sc (.bool false)))⟩, ⟨none, .mv 2 (.t 22)⟩]) (.ret))))
def K_l06None (P : Program) (f : Nat) : Prop := ∀ (e : Ex), AF P f [.pt (eE e) 0] (.own (eB (noneE e)))
theorem a_l06None {P : Program} (hm : P.follows .mixedOrders = true) {g : Nat} (hr : resF P g = some (23, k_l06None, [.t 2])) : K_l06None P g := by
 intro e
 rw [eE_eta]
 refine af_of_res hr hm rfl fun hb => ?_
 cases q1 : (e.k == 0)
 ·simp +contextual -implicitDefEqProofs only [k_l06None, noneE, List.length_map, q1, bne, Bool.not_true, Bool.not_false, Bool.true_and, Bool.false_and, Bool.and_true, Bool.and_false, Bool.true_or, Bool.false_or, Bool.or_true, Bool.or_false, go_sem, eI, eB, ↓reduceIte, Nat.reduceEqDiff, Nat.reduceAdd, Nat.reduceLeDiff, Nat.reduceMul, Nat.reduceBEq, Nat.reduceBneDiff, Nat.reduceLT, Nat.reduceSub]
 cases q2 : (e.n == 0)
 ·simp +contextual -implicitDefEqProofs only [k_l06None, noneE, List.length_map, q1, q2, bne, Bool.not_true, Bool.not_false, Bool.true_and, Bool.false_and, Bool.and_true, Bool.and_false, Bool.true_or, Bool.false_or, Bool.or_true, Bool.or_false, go_sem, eI, eB, ↓reduceIte, Nat.reduceEqDiff, Nat.reduceAdd, Nat.reduceLeDiff, Nat.reduceMul, Nat.reduceBEq, Nat.reduceBneDiff, Nat.reduceLT, Nat.reduceSub]
 cases q3 : ((e.ks.length : Int) == 0)
 ·simp +contextual -implicitDefEqProofs only [k_l06None, noneE, List.length_map, q1, q2, q3, bne, Bool.not_true, Bool.not_false, Bool.true_and, Bool.false_and, Bool.and_true, Bool.and_false, Bool.true_or, Bool.false_or, Bool.or_true, Bool.or_false, go_sem, eI, eB, ↓reduceIte, Nat.reduceEqDiff, Nat.reduceAdd, Nat.reduceLeDiff, Nat.reduceMul, Nat.reduceBEq, Nat.reduceBneDiff, Nat.reduceLT, Nat.reduceSub]
 simp +contextual -implicitDefEqProofs only [k_l06None, noneE, List.length_map, q1, q2, q3, bne, Bool.not_true, Bool.not_false, Bool.true_and, Bool.false_and, Bool.and_true, Bool.and_false, Bool.true_or, Bool.false_or, Bool.or_true, Bool.or_false, go_sem, eI, eB, ↓reduceIte, Nat.reduceEqDiff, Nat.reduceAdd, Nat.reduceLeDiff, Nat.reduceMul, Nat.reduceBEq, Nat.reduceBneDiff, Nat.reduceLT, Nat.reduceSub]

def k_imCondOk (f1 f2 : Nat) : RC := (.seq (.reg false [⟨none, .box 2 2 (.t 0)⟩, ⟨none, .box 3 3 (.t 1)⟩, ⟨none, .mv 4 (.c (.sc (.bool false)))⟩]) ((.seq (.reg false [⟨none, .ld 5 true 2 (.t 2)⟩, ⟨none, .ld 6 true 3 (.t 3)⟩, ⟨none, .call (some 7) f1 [(.t 5), (.t 6)]⟩, ⟨none, .mv 8 (.t 7)⟩, ⟨some (8, true), .ld 9 true 3 (.t 3)⟩, ⟨some (8, true), .call (some 10) f2 [(.t 9)]⟩, ⟨none, .pick 11 (.t 8) (.t 10) (.c (.sc (.bool false)))⟩, ⟨none, .mv 4 (.t 11)⟩]) (.ret))))
def K_imCondOk (P : Program) (f : Nat) : Prop := ∀ (g : Int × Int) (e : Ex), AF P f [eG g, eE e] (.own (eB (condOk g e)))
theorem a_imCondOk {P : Program} (hm : P.follows .mixedOrders = true) {g f1 f2 : Nat} (hr : resF P g = some (12, k_imCondOk f1 f2, [.t 4])) (hc1 : K_isExpr P f1) (hc2 : K_isCondition P f2) : K_imCondOk P g := by
 intro g e
 rw [eE_eta]
 refine af_of_res hr hm rfl fun hb => ?_
 simp +contextual -implicitDefEqProofs only [k_imCondOk, eG, condOk, bne, Bool.not_true, Bool.not_false, Bool.true_and, Bool.false_and, Bool.and_true, Bool.and_false, Bool.true_or, Bool.false_or, Bool.or_true, Bool.or_false, go_sem, eI, eB, ↓reduceIte, Nat.reduceEqDiff, Nat.reduceAdd, Nat.reduceLeDiff, Nat.reduceMul, Nat.reduceBEq, Nat.reduceBneDiff, Nat.reduceLT, Nat.reduceSub]
 refine callQ_self (ds := [eG g, eE e]) ?_ (hc1 g e) ?_
 ·first | exact rfl | (simp only [eE_eta]; exact rfl)
 cases q1 : okE g e
 ·simp +contextual -implicitDefEqProofs only [k_imCondOk, eG, condOk, q1, bne, Bool.not_true, Bool.not_false, Bool.true_and, Bool.false_and, Bool.and_true, Bool.and_false, Bool.true_or, Bool.false_or, Bool.or_true, Bool.or_false, go_sem, eI, eB, ↓reduceIte, Nat.reduceEqDiff, Nat.reduceAdd, Nat.reduceLeDiff, Nat.reduceMul, Nat.reduceBEq, Nat.reduceBneDiff, Nat.reduceLT, Nat.reduceSub]
 simp +contextual -implicitDefEqProofs only [k_imCondOk, eG, condOk, q1, bne, Bool.not_true, Bool.not_false, Bool.true_and, Bool.false_and, Bool.and_true, Bool.and_false, Bool.true_or, Bool.false_or, Bool.or_true, Bool.or_false, go_sem, eI, eB, ↓reduceIte, Nat.reduceEqDiff, Nat.reduceAdd, Nat.reduceLeDiff, Nat.reduceMul, Nat.reduceBEq, Nat.reduceBneDiff, Nat.reduceLT, Nat.reduceSub]
 refine callQ_self (ds := [eE e]) ?_ (hc2 e) ?_
 ·first | exact rfl | (simp only [eE_eta]; exact rfl)
 cases q2 : condE e
 ·simp +contextual -implicitDefEqProofs only [k_imCondOk, eG, condOk, q1, q2, bne, Bool.not_true, Bool.not_false, Bool.true_and, Bool.false_and, Bool.and_true, Bool.and_false, Bool.true_or, Bool.false_or, Bool.or_true, Bool.or_false, go_sem, eI, eB, ↓reduceIte, Nat.reduceEqDiff, Nat.reduceAdd, Nat.reduceLeDiff, Nat.reduceMul, Nat.reduceBEq, Nat.reduceBneDiff, Nat.reduceLT, Nat.reduceSub]
 simp +contextual -implicitDefEqProofs only [k_imCondOk, eG, condOk, q1, q2, bne, Bool.not_true, Bool.not_false, Bool.true_and, Bool.false_and, Bool.and_true, Bool.and_false, Bool.true_or, Bool.false_or, Bool.or_true, Bool.or_false, go_sem, eI, eB, ↓reduceIte, Nat.reduceEqDiff, Nat.reduceAdd, Nat.reduceLeDiff, Nat.reduceMul, Nat.reduceBEq, Nat.reduceBneDiff, Nat.reduceLT, Nat.reduceSub]

def k_l06Cond (f1 f2 : Nat) : RC := (.seq (.reg false [⟨none, .box 2 2 (.t 0)⟩, ⟨none, .mv 4 (.c (.sc (.bool false)))⟩]) ((.seq (.reg false [⟨none, .ld 5 true 2 (.t 2)⟩, ⟨none, .mv 6 (.t 1)⟩, ⟨none, .call (some 7) f1 [(.t 5), (.t 6)]⟩, ⟨none, .mv 8 (.t 7)⟩, ⟨some (8, true), .mv 9 (.t 1)⟩, ⟨some (8, true), .call (some 10) f2 [(.t 9)]⟩, ⟨none, .pick 11 (.t 8) (.t 10) (.c (.sc (.bool false)))⟩, ⟨none, .mv 4 (.t 11)⟩]) (.ret))))
def K_l06Cond (P : Program) (f : Nat) : Prop := ∀ (g : Int × Int) (e : Ex) (hg : okG g = true), AF P f [eG g, .pt (eE e) 0] (.own (eB (condOk g e)))
theorem a_l06Cond {P : Program} (hm : P.follows .mixedOrders = true) {g f1 f2 : Nat} (hr : resF P g = some (12, k_l06Cond f1 f2, [.t 4])) (hc1 : K_l01Ok P f1) (hc2 : K_l01Condition P f2) : K_l06Cond P g := by
 intro g e hg
 refine af_of_res hr hm rfl fun hb => ?_
 simp +contextual -implicitDefEqProofs only [k_l06Cond, eG, go_sem, eI, eB, ↓reduceIte, Nat.reduceEqDiff, Nat.reduceAdd, Nat.reduceLeDiff, Nat.reduceMul, Nat.reduceBEq, Nat.reduceBneDiff, Nat.reduceLT, Nat.reduceSub]
 refine callQ_self ?_ (hc1 g e) ?_
 ·exact rfl
 rw [hg, Bool.true_and]
 cases q1 : okE g e
 ·simp +contextual -implicitDefEqProofs only [condOk, q1, bne, Bool.not_true, Bool.not_false, Bool.true_and, Bool.false_and, Bool.and_true, Bool.and_false, Bool.true_or, Bool.false_or, Bool.or_true, Bool.or_false, go_sem, eI, eB, ↓reduceIte, Nat.reduceEqDiff, Nat.reduceAdd, Nat.reduceLeDiff, Nat.reduceMul, Nat.reduceBEq, Nat.reduceBneDiff, Nat.reduceLT, Nat.reduceSub]
 simp +contextual -implicitDefEqProofs only [condOk, q1, bne, Bool.not_true, Bool.not_false, Bool.true_and, Bool.false_and, Bool.and_true, Bool.and_false, Bool.true_or, Bool.false_or, Bool.or_true, Bool.or_false, go_sem, eI, eB, ↓reduceIte, Nat.reduceEqDiff, Nat.reduceAdd, Nat.reduceLeDiff, Nat.reduceMul, Nat.reduceBEq, Nat.reduceBneDiff, Nat.reduceLT, Nat.reduceSub]
 refine callQ_self ?_ (hc2 e) ?_
 ·exact rfl
 simp +contextual -implicitDefEqProofs only [q1, bne, Bool.not_true, Bool.not_false, Bool.true_and, Bool.false_and, Bool.and_true, Bool.and_false, Bool.true_or, Bool.false_or, Bool.or_true, Bool.or_false, go_sem, eI, eB, ↓reduceIte, Nat.reduceEqDiff, Nat.reduceAdd, Nat.reduceLeDiff, Nat.reduceMul, Nat.reduceBEq, Nat.reduceBneDiff, Nat.reduceLT, Nat.reduceSub]
end Go.Ax
