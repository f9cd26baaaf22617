/- Contracts of functions of the seat, proved over the engine. No condition. -/
import Derived.Test.YtohakobkclkniaaDoorX10
set_option linter.unusedSimpArgs false
set_option linter.unusedVariables false
set_option linter.unnecessarySimpa false
namespace Go.Ax
set_option linter.unusedSimpArgs false
set_option maxRecDepth 20000
set_option maxHeartbeats 4000000
def noneE (e : Ex) : Bool := (e.k == 0) && ((e.n == 0) && ((e.ks.length : Int) == 0))
def condOk (g : Int × Int) (e : Ex) : Bool := okE g e && condE e
abbrev Sp := Int × Int × Ex × Int × Int
def eSp (s : Sp) : D := .ag [eI s.1, eI s.2.1, eI s.2.2.1.k, eI s.2.2.1.n, .ls s.2.2.1.nn 3 (s.2.2.1.ks.map eE), eI s.2.2.2.1, eI s.2.2.2.2]
theorem encSp : Enc eSp 7 true := ⟨by omega, fun _ => rfl, fun _ => rfl, fun _ => rfl⟩
abbrev Fl := Int × SL Sp
def eFl (f : Fl) : D := .ag [eI f.1, eS 7 eSp f.2]
def spOk (g : Int × Int) (n : Int) (s : Sp) : Bool :=
 if s.1 = 1 then noneE s.2.2.1 && ((s.2.2.2.2 == 0) && (isIn s.2.1 0 (g.2 - 1) && isIn s.2.2.2.1 0 (n - 1)))
 else if s.1 = 2 then (s.2.1 == 0) && (condOk g s.2.2.1 && (isIn s.2.2.2.1 0 (n - 1) && isIn s.2.2.2.2 0 (n - 1)))
 else if s.1 = 3 then (s.2.1 == 0) && (noneE s.2.2.1 && ((s.2.2.2.1 == 0) && (s.2.2.2.2 == 0)))
 else if s.1 = 4 then (s.2.1 == 0) && (noneE s.2.2.1 && ((s.2.2.2.1 == 0) && (s.2.2.2.2 == 0)))
 else false
def okFl (g : Int × Int) (f : Fl) : Bool := okG g && (isIn f.2.2.length 1 60 && (isIn f.1 0 (f.2.2.length - 1) && f.2.2.all (spOk g f.2.2.length)))

def k_isNone : RC := (.seq (.reg false [⟨none, .box 1 3 (.t 0)⟩, ⟨none, .mv 2 (.c (.sc (.bool false)))⟩]) ((.seq (.reg false [⟨none, .fa 3 0 (.t 1)⟩, ⟨none, .ld 4 false 1 (.t 3)⟩, ⟨none, .bin 5 .eql (.t 4) (.c (.sc (.int .i64 0)))⟩, ⟨none, .mv 6 (.t 5)⟩, ⟨some (6, true), .fa 7 1 (.t 1)⟩, ⟨some (6, true), .ld 8 false 1 (.t 7)⟩, ⟨some (6, true), .bin 9 .eql (.t 8) (.c (.sc (.int .i64 0)))⟩, ⟨none, .pick 10 (.t 6) (.t 9) (.c (.sc (.bool false)))⟩, ⟨none, .mv 11 (.t 10)⟩, ⟨some (11, true), .fa 12 2 (.t 1)⟩, ⟨some (11, true), .ld 13 false 1 (.t 12)⟩, ⟨some (11, true), .len 14 (.t 13)⟩, ⟨some (11, true), .bin 15 .eql (.t 14) (.c (.sc (.int .i64 0)))⟩, ⟨none, .pick 16 (.t 11) (.t 15) (.c (.sc (.bool false)))⟩, ⟨none, .mv 2 (.t 16)⟩]) (.ret))))
def K_isNone (P : Program) (f : Nat) : Prop := ∀ (e : Ex), AF P f [eE e] (.own (eB (noneE e)))
theorem a_isNone {P : Program} (hm : P.follows .mixedOrders = true) {g : Nat} (hr : resF P g = some (17, k_isNone, [.t 2])) : K_isNone P g := by
 intro e
 rw [eE_eta]
 refine af_of_res hr hm rfl fun hb => ?_
 cases q1 : (e.k == 0)
 ·simp +contextual -implicitDefEqProofs only [k_isNone, noneE, List.length_map, q1, bne, Bool.not_true, Bool.not_false, Bool.true_and, Bool.false_and, Bool.and_true, Bool.and_false, Bool.true_or, Bool.false_or, Bool.or_true, Bool.or_false, go_sem, eI, eB, ↓reduceIte, Nat.reduceEqDiff, Nat.reduceAdd, Nat.reduceLeDiff, Nat.reduceMul, Nat.reduceBEq, Nat.reduceBneDiff, Nat.reduceLT, Nat.reduceSub]
 cases q2 : (e.n == 0)
 ·simp +contextual -implicitDefEqProofs only [k_isNone, noneE, List.length_map, q1, q2, bne, Bool.not_true, Bool.not_false, Bool.true_and, Bool.false_and, Bool.and_true, Bool.and_false, Bool.true_or, Bool.false_or, Bool.or_true, Bool.or_false, go_sem, eI, eB, ↓reduceIte, Nat.reduceEqDiff, Nat.reduceAdd, Nat.reduceLeDiff, Nat.reduceMul, Nat.reduceBEq, Nat.reduceBneDiff, Nat.reduceLT, Nat.reduceSub]
 cases q3 : ((e.ks.length : Int) == 0)
 ·simp +contextual -implicitDefEqProofs only [k_isNone, noneE, List.length_map, q1, q2, q3, bne, Bool.not_true, Bool.not_false, Bool.true_and, Bool.false_and, Bool.and_true, Bool.and_false, Bool.true_or, Bool.false_or, Bool.or_true, Bool.or_false, go_sem, eI, eB, ↓reduceIte, Nat.reduceEqDiff, Nat.reduceAdd, Nat.reduceLeDiff, Nat.reduceMul, Nat.reduceBEq, Nat.reduceBneDiff, Nat.reduceLT, Nat.reduceSub]
 simp +contextual -implicitDefEqProofs only [k_isNone, noneE, List.length_map, q1, q2, q3, bne, Bool.not_true, Bool.not_false, Bool.true_and, Bool.false_and, Bool.and_true, Bool.and_false, Bool.true_or, Bool.false_or, Bool.or_true, Bool.or_false, go_sem, eI, eB, ↓reduceIte, Nat.reduceEqDiff, Nat.reduceAdd, Nat.reduceLeDiff, Nat.reduceMul, Nat.reduceBEq, Nat.reduceBneDiff, Nat.reduceLT, Nat.reduceSub]

def k_l06None : RC := (.seq (.reg false [⟨none, .mv 2 (.c (.sc (.bool false)))⟩]) ((.seq (.reg false [⟨none, .mv 3 (.t 0)⟩, ⟨none, .nck 4 (.t 3)⟩, ⟨none, .fa 5 0 (.t 4)⟩, ⟨none, .ld 6 false 1 (.t 5)⟩, ⟨none, .bin 7 .eql (.t 6) (.c (.sc (.int .i64 0)))⟩, ⟨none, .mv 8 (.t 7)⟩, ⟨some (8, true), .mv 9 (.t 0)⟩, ⟨some (8, true), .nck 10 (.t 9)⟩, ⟨some (8, true), .fa 11 1 (.t 10)⟩, ⟨some (8, true), .ld 12 false 1 (.t 11)⟩, ⟨some (8, true), .bin 13 .eql (.t 12) (.c (.sc (.int .i64 0)))⟩, ⟨none, .pick 14 (.t 8) (.t 13) (.c (.sc (.bool false)))⟩, ⟨none, .mv 15 (.t 14)⟩, ⟨some (15, true), .mv 16 (.t 0)⟩, ⟨some (15, true), .nck 17 (.t 16)⟩, ⟨some (15, true), .fa 18 2 (.t 17)⟩, ⟨some (15, true), .ld 19 false 1 (.t 18)⟩, ⟨some (15, true), .len 20 (.t 19)⟩, ⟨some (15, true), .bin 21 .eql (.t 20) (.c (.sc (.int .i64 0)))⟩, ⟨none, .pick 22 (.t 15) (.t 21) (.c (.sc (.bool false)))⟩, ⟨none, .mv 2 (.t 22)⟩]) (.ret))))
def K_l06None (P : Program) (f : Nat) : Prop := ∀ (e : Ex), AF P f [.pt (eE e) 0] (.own (eB (noneE e)))
theorem a_l06None {P : Program} (hm : P.follows .mixedOrders = true) {g : Nat} (hr : resF P g = some (23, k_l06None, [.t 2])) : K_l06None P g := by
 intro e
 rw [eE_eta]
 refine af_of_res hr hm rfl fun hb => ?_
 cases q1 : (e.k == 0)
 ·simp +contextual -implicitDefEqProofs only [k_l06None, noneE, List.length_map, q1, bne, Bool.not_true, Bool.not_false, Bool.true_and, Bool.false_and, Bool.and_true, Bool.and_false, Bool.true_or, Bool.false_or, Bool.or_true, Bool.or_false, go_sem, eI, eB, ↓reduceIte, Nat.reduceEqDiff, Nat.reduceAdd, Nat.reduceLeDiff, Nat.reduceMul, Nat.reduceBEq, Nat.reduceBneDiff, Nat.reduceLT, Nat.reduceSub]
 cases q2 : (e.n == 0)
 ·simp +contextual -implicitDefEqProofs only [k_l06None, noneE, List.length_map, q1, q2, bne, Bool.not_true, Bool.not_false, Bool.true_and, Bool.false_and, Bool.and_true, Bool.and_false, Bool.true_or, Bool.false_or, Bool.or_true, Bool.or_false, go_sem, eI, eB, ↓reduceIte, Nat.reduceEqDiff, Nat.reduceAdd, Nat.reduceLeDiff, Nat.reduceMul, Nat.reduceBEq, Nat.reduceBneDiff, Nat.reduceLT, Nat.reduceSub]
 cases q3 : ((e.ks.length : Int) == 0)
 ·simp +contextual -implicitDefEqProofs only [k_l06None, noneE, List.length_map, q1, q2, q3, bne, Bool.not_true, Bool.not_false, Bool.true_and, Bool.false_and, Bool.and_true, Bool.and_false, Bool.true_or, Bool.false_or, Bool.or_true, Bool.or_false, go_sem, eI, eB, ↓reduceIte, Nat.reduceEqDiff, Nat.reduceAdd, Nat.reduceLeDiff, Nat.reduceMul, Nat.reduceBEq, Nat.reduceBneDiff, Nat.reduceLT, Nat.reduceSub]
 simp +contextual -implicitDefEqProofs only [k_l06None, noneE, List.length_map, q1, q2, q3, bne, Bool.not_true, Bool.not_false, Bool.true_and, Bool.false_and, Bool.and_true, Bool.and_false, Bool.true_or, Bool.false_or, Bool.or_true, Bool.or_false, go_sem, eI, eB, ↓reduceIte, Nat.reduceEqDiff, Nat.reduceAdd, Nat.reduceLeDiff, Nat.reduceMul, Nat.reduceBEq, Nat.reduceBneDiff, Nat.reduceLT, Nat.reduceSub]

def k_imCondOk (f1 f2 : Nat) : RC := (.seq (.reg false [⟨none, .box 2 2 (.t 0)⟩, ⟨none, .box 3 3 (.t 1)⟩, ⟨none, .mv 4 (.c (.sc (.bool false)))⟩]) ((.seq (.reg false [⟨none, .ld 5 true 2 (.t 2)⟩, ⟨none, .ld 6 true 3 (.t 3)⟩, ⟨none, .call (some 7) f1 [(.t 5), (.t 6)]⟩, ⟨none, .mv 8 (.t 7)⟩, ⟨some (8, true), .ld 9 true 3 (.t 3)⟩, ⟨some (8, true), .call (some 10) f2 [(.t 9)]⟩, ⟨none, .pick 11 (.t 8) (.t 10) (.c (.sc (.bool false)))⟩, ⟨none, .mv 4 (.t 11)⟩]) (.ret))))
def K_imCondOk (P : Program) (f : Nat) : Prop := ∀ (g : Int × Int) (e : Ex), AF P f [eG g, eE e] (.own (eB (condOk g e)))
theorem a_imCondOk {P : Program} (hm : P.follows .mixedOrders = true) {g f1 f2 : Nat} (hr : resF P g = some (12, k_imCondOk f1 f2, [.t 4])) (hc1 : K_isExpr P f1) (hc2 : K_isCondition P f2) : K_imCondOk P g := by
 intro g e
 rw [eE_eta]
 refine af_of_res hr hm rfl fun hb => ?_
 simp +contextual -implicitDefEqProofs only [k_imCondOk, eG, condOk, bne, Bool.not_true, Bool.not_false, Bool.true_and, Bool.false_and, Bool.and_true, Bool.and_false, Bool.true_or, Bool.false_or, Bool.or_true, Bool.or_false, go_sem, eI, eB, ↓reduceIte, Nat.reduceEqDiff, Nat.reduceAdd, Nat.reduceLeDiff, Nat.reduceMul, Nat.reduceBEq, Nat.reduceBneDiff, Nat.reduceLT, Nat.reduceSub]
 refine callQ_self (ds := [eG g, eE e]) ?_ (hc1 g e) ?_
 ·first | exact rfl | (simp only [eE_eta]; exact rfl)
 cases q1 : okE g e
 ·simp +contextual -implicitDefEqProofs only [k_imCondOk, eG, condOk, q1, bne, Bool.not_true, Bool.not_false, Bool.true_and, Bool.false_and, Bool.and_true, Bool.and_false, Bool.true_or, Bool.false_or, Bool.or_true, Bool.or_false, go_sem, eI, eB, ↓reduceIte, Nat.reduceEqDiff, Nat.reduceAdd, Nat.reduceLeDiff, Nat.reduceMul, Nat.reduceBEq, Nat.reduceBneDiff, Nat.reduceLT, Nat.reduceSub]
 simp +contextual -implicitDefEqProofs only [k_imCondOk, eG, condOk, q1, bne, Bool.not_true, Bool.not_false, Bool.true_and, Bool.false_and, Bool.and_true, Bool.and_false, Bool.true_or, Bool.false_or, Bool.or_true, Bool.or_false, go_sem, eI, eB, ↓reduceIte, Nat.reduceEqDiff, Nat.reduceAdd, Nat.reduceLeDiff, Nat.reduceMul, Nat.reduceBEq, Nat.reduceBneDiff, Nat.reduceLT, Nat.reduceSub]
 refine callQ_self (ds := [eE e]) ?_ (hc2 e) ?_
 ·first | exact rfl | (simp only [eE_eta]; exact rfl)
 cases q2 : condE e
 ·simp +contextual -implicitDefEqProofs only [k_imCondOk, eG, condOk, q1, q2, bne, Bool.not_true, Bool.not_false, Bool.true_and, Bool.false_and, Bool.and_true, Bool.and_false, Bool.true_or, Bool.false_or, Bool.or_true, Bool.or_false, go_sem, eI, eB, ↓reduceIte, Nat.reduceEqDiff, Nat.reduceAdd, Nat.reduceLeDiff, Nat.reduceMul, Nat.reduceBEq, Nat.reduceBneDiff, Nat.reduceLT, Nat.reduceSub]
 simp +contextual -implicitDefEqProofs only [k_imCondOk, eG, condOk, q1, q2, bne, Bool.not_true, Bool.not_false, Bool.true_and, Bool.false_and, Bool.and_true, Bool.and_false, Bool.true_or, Bool.false_or, Bool.or_true, Bool.or_false, go_sem, eI, eB, ↓reduceIte, Nat.reduceEqDiff, Nat.reduceAdd, Nat.reduceLeDiff, Nat.reduceMul, Nat.reduceBEq, Nat.reduceBneDiff, Nat.reduceLT, Nat.reduceSub]

def k_l06Cond (f1 f2 : Nat) : RC := (.seq (.reg false [⟨none, .box 2 2 (.t 0)⟩, ⟨none, .mv 4 (.c (.sc (.bool false)))⟩]) ((.seq (.reg false [⟨none, .ld 5 true 2 (.t 2)⟩, ⟨none, .mv 6 (.t 1)⟩, ⟨none, .call (some 7) f1 [(.t 5), (.t 6)]⟩, ⟨none, .mv 8 (.t 7)⟩, ⟨some (8, true), .mv 9 (.t 1)⟩, ⟨some (8, true), .call (some 10) f2 [(.t 9)]⟩, ⟨none, .pick 11 (.t 8) (.t 10) (.c (.sc (.bool false)))⟩, ⟨none, .mv 4 (.t 11)⟩]) (.ret))))
def K_l06Cond (P : Program) (f : Nat) : Prop := ∀ (g : Int × Int) (e : Ex) (hg : okG g = true), AF P f [eG g, .pt (eE e) 0] (.own (eB (condOk g e)))
theorem a_l06Cond {P : Program} (hm : P.follows .mixedOrders = true) {g f1 f2 : Nat} (hr : resF P g = some (12, k_l06Cond f1 f2, [.t 4])) (hc1 : K_l01Ok P f1) (hc2 : K_l01Condition P f2) : K_l06Cond P g := by
 intro g e hg
 refine af_of_res hr hm rfl fun hb => ?_
 simp +contextual -implicitDefEqProofs only [k_l06Cond, eG, go_sem, eI, eB, ↓reduceIte, Nat.reduceEqDiff, Nat.reduceAdd, Nat.reduceLeDiff, Nat.reduceMul, Nat.reduceBEq, Nat.reduceBneDiff, Nat.reduceLT, Nat.reduceSub]
 refine callQ_self ?_ (hc1 g e) ?_
 ·exact rfl
 rw [hg, Bool.true_and]
 cases q1 : okE g e
 ·simp +contextual -implicitDefEqProofs only [condOk, q1, bne, Bool.not_true, Bool.not_false, Bool.true_and, Bool.false_and, Bool.and_true, Bool.and_false, Bool.true_or, Bool.false_or, Bool.or_true, Bool.or_false, go_sem, eI, eB, ↓reduceIte, Nat.reduceEqDiff, Nat.reduceAdd, Nat.reduceLeDiff, Nat.reduceMul, Nat.reduceBEq, Nat.reduceBneDiff, Nat.reduceLT, Nat.reduceSub]
 simp +contextual -implicitDefEqProofs only [condOk, q1, bne, Bool.not_true, Bool.not_false, Bool.true_and, Bool.false_and, Bool.and_true, Bool.and_false, Bool.true_or, Bool.false_or, Bool.or_true, Bool.or_false, go_sem, eI, eB, ↓reduceIte, Nat.reduceEqDiff, Nat.reduceAdd, Nat.reduceLeDiff, Nat.reduceMul, Nat.reduceBEq, Nat.reduceBneDiff, Nat.reduceLT, Nat.reduceSub]
 refine callQ_self ?_ (hc2 e) ?_
 ·exact rfl
 simp +contextual -implicitDefEqProofs only [q1, bne, Bool.not_true, Bool.not_false, Bool.true_and, Bool.false_and, Bool.and_true, Bool.and_false, Bool.true_or, Bool.false_or, Bool.or_true, Bool.or_false, go_sem, eI, eB, ↓reduceIte, Nat.reduceEqDiff, Nat.reduceAdd, Nat.reduceLeDiff, Nat.reduceMul, Nat.reduceBEq, Nat.reduceBneDiff, Nat.reduceLT, Nat.reduceSub]
theorem okG_iff' {g : Int × Int} (h : okG g = true) : (0 ≤ g.1 ∧ g.1 ≤ 3) ∧ 0 ≤ g.2 ∧ g.2 ≤ 4 := by simpa [okG, isIn] using h

def k_isSpot (f1 f2 f3 : Nat) : RC := (.seq (.reg false [⟨none, .box 3 2 (.t 0)⟩, ⟨none, .box 4 7 (.t 1)⟩, ⟨none, .mv 6 (.c (.sc (.bool false)))⟩]) ((.seq ((.seq (.reg false [⟨none, .fa 7 0 (.t 4)⟩, ⟨none, .ld 8 false 1 (.t 7)⟩]) (.blk 0 ((.seq (.reg false [⟨none, .bin 10 .eql (.t 8) (.c (.sc (.int .i64 1)))⟩, ⟨none, .mv 9 (.t 10)⟩]) (.cond (.t 9) ((.seq (.reg false [⟨none, .fa 11 1 (.t 4)⟩, ⟨none, .ld 12 false 1 (.t 11)⟩, ⟨none, .fa 13 1 (.t 3)⟩, ⟨none, .ld 14 false 1 (.t 13)⟩, ⟨none, .bin 15 .sub (.t 14) (.c (.sc (.int .i64 1)))⟩, ⟨none, .call (some 16) f1 [(.t 12), (.c (.sc (.int .i64 0))), (.t 15)]⟩, ⟨none, .mv 17 (.t 16)⟩, ⟨some (17, true), .fa 18 2 (.t 4)⟩, ⟨some (17, true), .ld 19 true 3 (.t 18)⟩, ⟨some (17, true), .call (some 20) f2 [(.t 19)]⟩, ⟨none, .pick 21 (.t 17) (.t 20) (.c (.sc (.bool false)))⟩, ⟨none, .mv 22 (.t 21)⟩, ⟨some (22, true), .fa 23 5 (.t 4)⟩, ⟨some (22, true), .ld 24 false 1 (.t 23)⟩, ⟨some (22, true), .mv 25 (.t 2)⟩, ⟨some (22, true), .bin 26 .sub (.t 25) (.c (.sc (.int .i64 1)))⟩, ⟨some (22, true), .call (some 27) f1 [(.t 24), (.c (.sc (.int .i64 0))), (.t 26)]⟩, ⟨none, .pick 28 (.t 22) (.t 27) (.c (.sc (.bool false)))⟩, ⟨none, .mv 29 (.t 28)⟩, ⟨some (29, true), .fa 30 6 (.t 4)⟩, ⟨some (29, true), .ld 31 false 1 (.t 30)⟩, ⟨some (29, true), .bin 32 .eql (.t 31) (.c (.sc (.int .i64 0)))⟩, ⟨none, .pick 33 (.t 29) (.t 32) (.c (.sc (.bool false)))⟩, ⟨none, .mv 6 (.t 33)⟩]) (.ret))) ((.seq (.reg false [⟨none, .bin 35 .eql (.t 8) (.c (.sc (.int .i64 2)))⟩, ⟨none, .mv 34 (.t 35)⟩]) (.cond (.t 34) ((.seq (.reg false [⟨none, .fa 36 1 (.t 4)⟩, ⟨none, .ld 37 false 1 (.t 36)⟩, ⟨none, .bin 38 .eql (.t 37) (.c (.sc (.int .i64 0)))⟩, ⟨none, .mv 39 (.t 38)⟩, ⟨some (39, true), .ld 40 true 2 (.t 3)⟩, ⟨some (39, true), .fa 41 2 (.t 4)⟩, ⟨some (39, true), .ld 42 true 3 (.t 41)⟩, ⟨some (39, true), .call (some 43) f3 [(.t 40), (.t 42)]⟩, ⟨none, .pick 44 (.t 39) (.t 43) (.c (.sc (.bool false)))⟩, ⟨none, .mv 45 (.t 44)⟩, ⟨some (45, true), .fa 46 5 (.t 4)⟩, ⟨some (45, true), .ld 47 false 1 (.t 46)⟩, ⟨some (45, true), .mv 48 (.t 2)⟩, ⟨some (45, true), .bin 49 .sub (.t 48) (.c (.sc (.int .i64 1)))⟩, ⟨some (45, true), .call (some 50) f1 [(.t 47), (.c (.sc (.int .i64 0))), (.t 49)]⟩, ⟨none, .pick 51 (.t 45) (.t 50) (.c (.sc (.bool false)))⟩, ⟨none, .mv 52 (.t 51)⟩, ⟨some (52, true), .fa 53 6 (.t 4)⟩, ⟨some (52, true), .ld 54 false 1 (.t 53)⟩, ⟨some (52, true), .mv 55 (.t 2)⟩, ⟨some (52, true), .bin 56 .sub (.t 55) (.c (.sc (.int .i64 1)))⟩, ⟨some (52, true), .call (some 57) f1 [(.t 54), (.c (.sc (.int .i64 0))), (.t 56)]⟩, ⟨none, .pick 58 (.t 52) (.t 57) (.c (.sc (.bool false)))⟩, ⟨none, .mv 6 (.t 58)⟩]) (.ret))) ((.seq ((.seq (.reg false [⟨none, .bin 60 .eql (.t 8) (.c (.sc (.int .i64 3)))⟩, ⟨none, .mv 59 (.t 60)⟩]) (.cond (.t 59) (.skip) (.reg false [⟨none, .bin 61 .eql (.t 8) (.c (.sc (.int .i64 4)))⟩, ⟨none, .mv 59 (.t 61)⟩])))) (.cond (.t 59) ((.seq (.reg false [⟨none, .fa 62 1 (.t 4)⟩, ⟨none, .ld 63 false 1 (.t 62)⟩, ⟨none, .bin 64 .eql (.t 63) (.c (.sc (.int .i64 0)))⟩, ⟨none, .mv 65 (.t 64)⟩, ⟨some (65, true), .fa 66 2 (.t 4)⟩, ⟨some (65, true), .ld 67 true 3 (.t 66)⟩, ⟨some (65, true), .call (some 68) f2 [(.t 67)]⟩, ⟨none, .pick 69 (.t 65) (.t 68) (.c (.sc (.bool false)))⟩, ⟨none, .mv 70 (.t 69)⟩, ⟨some (70, true), .fa 71 5 (.t 4)⟩, ⟨some (70, true), .ld 72 false 1 (.t 71)⟩, ⟨some (70, true), .bin 73 .eql (.t 72) (.c (.sc (.int .i64 0)))⟩, ⟨none, .pick 74 (.t 70) (.t 73) (.c (.sc (.bool false)))⟩, ⟨none, .mv 75 (.t 74)⟩, ⟨some (75, true), .fa 76 6 (.t 4)⟩, ⟨some (75, true), .ld 77 false 1 (.t 76)⟩, ⟨some (75, true), .bin 78 .eql (.t 77) (.c (.sc (.int .i64 0)))⟩, ⟨none, .pick 79 (.t 75) (.t 78) (.c (.sc (.bool false)))⟩, ⟨none, .mv 6 (.t 79)⟩]) (.ret))) (.skip))))))))))))) ((.seq (.reg false [⟨none, .mv 6 (.c (.sc (.bool false)))⟩]) (.ret))))))
def K_isSpot (P : Program) (f : Nat) : Prop := ∀ (g : Int × Int) (s : Sp) (n : Int) (hg : okG g = true) (h1 : 1 ≤ n) (h2 : n ≤ 60), AF P f [eG g, eSp s, eI n] (.own (eB (spOk g n s)))
theorem a_isSpot {P : Program} (hm : P.follows .mixedOrders = true) {g f1 f2 f3 : Nat} (hr : resF P g = some (80, k_isSpot f1 f2 f3, [.t 6])) (hc1 : K_within P f1) (hc2 : K_isNone P f2) (hc3 : K_imCondOk P f3) : K_isSpot P g := by
 intro g s n hg h1 h2
 refine af_of_res hr hm rfl fun hb => ?_
 simp +contextual -implicitDefEqProofs only [k_isSpot, eG, eSp, go_sem, eI, eB, ↓reduceIte, Nat.reduceEqDiff, Nat.reduceAdd, Nat.reduceLeDiff, Nat.reduceMul, Nat.reduceBEq, Nat.reduceBneDiff, Nat.reduceLT, Nat.reduceSub]
 have hG := okG_iff' hg
 have w1 : IntKind.i64.wrap (g.2 - 1) = g.2 - 1 := wrap_i64 (by omega) (by omega)
 have w2 : IntKind.i64.wrap (n - 1) = n - 1 := wrap_i64 (by omega) (by omega)
 by_cases c1 : s.1 = 1
 ·have er : spOk g n s = (noneE s.2.2.1 && ((s.2.2.2.2 == 0) && (isIn s.2.1 0 (g.2 - 1) && isIn s.2.2.2.1 0 (n - 1)))) := by unfold spOk; rw [if_pos c1]
  rw [er]
  have d1 : (s.1 == 1) = true := by simp [c1]
  have d2 : (s.1 == 2) = false := by simp [c1]
  have d3 : (s.1 == 3) = false := by simp [c1]
  have d4 : (s.1 == 4) = false := by simp [c1]
  simp +contextual -implicitDefEqProofs only [d1, d2, d3, d4, w1, w2, eSp, bne, Bool.not_true, Bool.not_false, Bool.true_and, Bool.false_and, Bool.and_true, Bool.and_false, Bool.true_or, Bool.false_or, Bool.or_true, Bool.or_false, go_sem, eI, eB, ↓reduceIte, Nat.reduceEqDiff, Nat.reduceAdd, Nat.reduceLeDiff, Nat.reduceMul, Nat.reduceBEq, Nat.reduceBneDiff, Nat.reduceLT, Nat.reduceSub]
  refine callQ_self (ds := [eI s.2.1, eI 0, eI (g.2 - 1)]) ?_ (hc1 s.2.1 0 (g.2 - 1)) ?_
  ·first | exact rfl | (simp only [eE_eta]; exact rfl)
  cases a1 : isIn s.2.1 0 (g.2 - 1)
  ·simp +contextual -implicitDefEqProofs only [d1, d2, d3, d4, w1, w2, eSp, a1, bne, Bool.not_true, Bool.not_false, Bool.true_and, Bool.false_and, Bool.and_true, Bool.and_false, Bool.true_or, Bool.false_or, Bool.or_true, Bool.or_false, go_sem, eI, eB, ↓reduceIte, Nat.reduceEqDiff, Nat.reduceAdd, Nat.reduceLeDiff, Nat.reduceMul, Nat.reduceBEq, Nat.reduceBneDiff, Nat.reduceLT, Nat.reduceSub]
  simp +contextual -implicitDefEqProofs only [d1, d2, d3, d4, w1, w2, eSp, a1, bne, Bool.not_true, Bool.not_false, Bool.true_and, Bool.false_and, Bool.and_true, Bool.and_false, Bool.true_or, Bool.false_or, Bool.or_true, Bool.or_false, go_sem, eI, eB, ↓reduceIte, Nat.reduceEqDiff, Nat.reduceAdd, Nat.reduceLeDiff, Nat.reduceMul, Nat.reduceBEq, Nat.reduceBneDiff, Nat.reduceLT, Nat.reduceSub]
  refine callQ_self (ds := [eE s.2.2.1]) ?_ (hc2 s.2.2.1) ?_
  ·first | exact rfl | (simp only [eE_eta]; exact rfl)
  cases a2 : noneE s.2.2.1
  ·simp +contextual -implicitDefEqProofs only [d1, d2, d3, d4, w1, w2, eSp, a1, a2, bne, Bool.not_true, Bool.not_false, Bool.true_and, Bool.false_and, Bool.and_true, Bool.and_false, Bool.true_or, Bool.false_or, Bool.or_true, Bool.or_false, go_sem, eI, eB, ↓reduceIte, Nat.reduceEqDiff, Nat.reduceAdd, Nat.reduceLeDiff, Nat.reduceMul, Nat.reduceBEq, Nat.reduceBneDiff, Nat.reduceLT, Nat.reduceSub]
  simp +contextual -implicitDefEqProofs only [d1, d2, d3, d4, w1, w2, eSp, a1, a2, bne, Bool.not_true, Bool.not_false, Bool.true_and, Bool.false_and, Bool.and_true, Bool.and_false, Bool.true_or, Bool.false_or, Bool.or_true, Bool.or_false, go_sem, eI, eB, ↓reduceIte, Nat.reduceEqDiff, Nat.reduceAdd, Nat.reduceLeDiff, Nat.reduceMul, Nat.reduceBEq, Nat.reduceBneDiff, Nat.reduceLT, Nat.reduceSub]
  refine callQ_self (ds := [eI s.2.2.2.1, eI 0, eI (n - 1)]) ?_ (hc1 s.2.2.2.1 0 (n - 1)) ?_
  ·first | exact rfl | (simp only [eE_eta]; exact rfl)
  cases a3 : isIn s.2.2.2.1 0 (n - 1)
  ·simp +contextual -implicitDefEqProofs only [d1, d2, d3, d4, w1, w2, eSp, a1, a2, a3, bne, Bool.not_true, Bool.not_false, Bool.true_and, Bool.false_and, Bool.and_true, Bool.and_false, Bool.true_or, Bool.false_or, Bool.or_true, Bool.or_false, go_sem, eI, eB, ↓reduceIte, Nat.reduceEqDiff, Nat.reduceAdd, Nat.reduceLeDiff, Nat.reduceMul, Nat.reduceBEq, Nat.reduceBneDiff, Nat.reduceLT, Nat.reduceSub]
  cases a4 : (s.2.2.2.2 == 0)
  ·simp +contextual -implicitDefEqProofs only [d1, d2, d3, d4, w1, w2, eSp, a1, a2, a3, a4, bne, Bool.not_true, Bool.not_false, Bool.true_and, Bool.false_and, Bool.and_true, Bool.and_false, Bool.true_or, Bool.false_or, Bool.or_true, Bool.or_false, go_sem, eI, eB, ↓reduceIte, Nat.reduceEqDiff, Nat.reduceAdd, Nat.reduceLeDiff, Nat.reduceMul, Nat.reduceBEq, Nat.reduceBneDiff, Nat.reduceLT, Nat.reduceSub]
  simp +contextual -implicitDefEqProofs only [d1, d2, d3, d4, w1, w2, eSp, a1, a2, a3, a4, bne, Bool.not_true, Bool.not_false, Bool.true_and, Bool.false_and, Bool.and_true, Bool.and_false, Bool.true_or, Bool.false_or, Bool.or_true, Bool.or_false, go_sem, eI, eB, ↓reduceIte, Nat.reduceEqDiff, Nat.reduceAdd, Nat.reduceLeDiff, Nat.reduceMul, Nat.reduceBEq, Nat.reduceBneDiff, Nat.reduceLT, Nat.reduceSub]
 by_cases c2 : s.1 = 2
 ·have er : spOk g n s = ((s.2.1 == 0) && (condOk g s.2.2.1 && (isIn s.2.2.2.1 0 (n - 1) && isIn s.2.2.2.2 0 (n - 1)))) := by unfold spOk; rw [if_neg c1, if_pos c2]
  rw [er]
  have d1 : (s.1 == 1) = false := by simp [c2]
  have d2 : (s.1 == 2) = true := by simp [c2]
  have d3 : (s.1 == 3) = false := by simp [c2]
  have d4 : (s.1 == 4) = false := by simp [c2]
  cases a7 : (s.2.1 == 0)
  ·simp +contextual -implicitDefEqProofs only [d1, d2, d3, d4, w1, w2, eSp, a7, bne, Bool.not_true, Bool.not_false, Bool.true_and, Bool.false_and, Bool.and_true, Bool.and_false, Bool.true_or, Bool.false_or, Bool.or_true, Bool.or_false, go_sem, eI, eB, ↓reduceIte, Nat.reduceEqDiff, Nat.reduceAdd, Nat.reduceLeDiff, Nat.reduceMul, Nat.reduceBEq, Nat.reduceBneDiff, Nat.reduceLT, Nat.reduceSub]
  simp +contextual -implicitDefEqProofs only [d1, d2, d3, d4, w1, w2, eSp, a7, bne, Bool.not_true, Bool.not_false, Bool.true_and, Bool.false_and, Bool.and_true, Bool.and_false, Bool.true_or, Bool.false_or, Bool.or_true, Bool.or_false, go_sem, eI, eB, ↓reduceIte, Nat.reduceEqDiff, Nat.reduceAdd, Nat.reduceLeDiff, Nat.reduceMul, Nat.reduceBEq, Nat.reduceBneDiff, Nat.reduceLT, Nat.reduceSub]
  refine callQ_self (ds := [eG g, eE s.2.2.1]) ?_ (hc3 g s.2.2.1) ?_
  ·first | exact rfl | (simp only [eE_eta]; exact rfl)
  cases a5 : condOk g s.2.2.1
  ·simp +contextual -implicitDefEqProofs only [d1, d2, d3, d4, w1, w2, eSp, a7, a5, bne, Bool.not_true, Bool.not_false, Bool.true_and, Bool.false_and, Bool.and_true, Bool.and_false, Bool.true_or, Bool.false_or, Bool.or_true, Bool.or_false, go_sem, eI, eB, ↓reduceIte, Nat.reduceEqDiff, Nat.reduceAdd, Nat.reduceLeDiff, Nat.reduceMul, Nat.reduceBEq, Nat.reduceBneDiff, Nat.reduceLT, Nat.reduceSub]
  simp +contextual -implicitDefEqProofs only [d1, d2, d3, d4, w1, w2, eSp, a7, a5, bne, Bool.not_true, Bool.not_false, Bool.true_and, Bool.false_and, Bool.and_true, Bool.and_false, Bool.true_or, Bool.false_or, Bool.or_true, Bool.or_false, go_sem, eI, eB, ↓reduceIte, Nat.reduceEqDiff, Nat.reduceAdd, Nat.reduceLeDiff, Nat.reduceMul, Nat.reduceBEq, Nat.reduceBneDiff, Nat.reduceLT, Nat.reduceSub]
  refine callQ_self (ds := [eI s.2.2.2.1, eI 0, eI (n - 1)]) ?_ (hc1 s.2.2.2.1 0 (n - 1)) ?_
  ·first | exact rfl | (simp only [eE_eta]; exact rfl)
  cases a3 : isIn s.2.2.2.1 0 (n - 1)
  ·simp +contextual -implicitDefEqProofs only [d1, d2, d3, d4, w1, w2, eSp, a7, a5, a3, bne, Bool.not_true, Bool.not_false, Bool.true_and, Bool.false_and, Bool.and_true, Bool.and_false, Bool.true_or, Bool.false_or, Bool.or_true, Bool.or_false, go_sem, eI, eB, ↓reduceIte, Nat.reduceEqDiff, Nat.reduceAdd, Nat.reduceLeDiff, Nat.reduceMul, Nat.reduceBEq, Nat.reduceBneDiff, Nat.reduceLT, Nat.reduceSub]
  simp +contextual -implicitDefEqProofs only [d1, d2, d3, d4, w1, w2, eSp, a7, a5, a3, bne, Bool.not_true, Bool.not_false, Bool.true_and, Bool.false_and, Bool.and_true, Bool.and_false, Bool.true_or, Bool.false_or, Bool.or_true, Bool.or_false, go_sem, eI, eB, ↓reduceIte, Nat.reduceEqDiff, Nat.reduceAdd, Nat.reduceLeDiff, Nat.reduceMul, Nat.reduceBEq, Nat.reduceBneDiff, Nat.reduceLT, Nat.reduceSub]
  refine callQ_self (ds := [eI s.2.2.2.2, eI 0, eI (n - 1)]) ?_ (hc1 s.2.2.2.2 0 (n - 1)) ?_
  ·first | exact rfl | (simp only [eE_eta]; exact rfl)
  cases a6 : isIn s.2.2.2.2 0 (n - 1)
  ·simp +contextual -implicitDefEqProofs only [d1, d2, d3, d4, w1, w2, eSp, a7, a5, a3, a6, bne, Bool.not_true, Bool.not_false, Bool.true_and, Bool.false_and, Bool.and_true, Bool.and_false, Bool.true_or, Bool.false_or, Bool.or_true, Bool.or_false, go_sem, eI, eB, ↓reduceIte, Nat.reduceEqDiff, Nat.reduceAdd, Nat.reduceLeDiff, Nat.reduceMul, Nat.reduceBEq, Nat.reduceBneDiff, Nat.reduceLT, Nat.reduceSub]
  simp +contextual -implicitDefEqProofs only [d1, d2, d3, d4, w1, w2, eSp, a7, a5, a3, a6, bne, Bool.not_true, Bool.not_false, Bool.true_and, Bool.false_and, Bool.and_true, Bool.and_false, Bool.true_or, Bool.false_or, Bool.or_true, Bool.or_false, go_sem, eI, eB, ↓reduceIte, Nat.reduceEqDiff, Nat.reduceAdd, Nat.reduceLeDiff, Nat.reduceMul, Nat.reduceBEq, Nat.reduceBneDiff, Nat.reduceLT, Nat.reduceSub]
 by_cases c3 : s.1 = 3
 ·have er : spOk g n s = ((s.2.1 == 0) && (noneE s.2.2.1 && ((s.2.2.2.1 == 0) && (s.2.2.2.2 == 0)))) := by unfold spOk; rw [if_neg c1, if_neg c2, if_pos c3]
  rw [er]
  have d1 : (s.1 == 1) = false := by simp [c3]
  have d2 : (s.1 == 2) = false := by simp [c3]
  have d3 : (s.1 == 3) = true := by simp [c3]
  have d4 : (s.1 == 4) = false := by simp [c3]
  cases a7 : (s.2.1 == 0)
  ·simp +contextual -implicitDefEqProofs only [d1, d2, d3, d4, w1, w2, eSp, a7, bne, Bool.not_true, Bool.not_false, Bool.true_and, Bool.false_and, Bool.and_true, Bool.and_false, Bool.true_or, Bool.false_or, Bool.or_true, Bool.or_false, go_sem, eI, eB, ↓reduceIte, Nat.reduceEqDiff, Nat.reduceAdd, Nat.reduceLeDiff, Nat.reduceMul, Nat.reduceBEq, Nat.reduceBneDiff, Nat.reduceLT, Nat.reduceSub]
  simp +contextual -implicitDefEqProofs only [d1, d2, d3, d4, w1, w2, eSp, a7, bne, Bool.not_true, Bool.not_false, Bool.true_and, Bool.false_and, Bool.and_true, Bool.and_false, Bool.true_or, Bool.false_or, Bool.or_true, Bool.or_false, go_sem, eI, eB, ↓reduceIte, Nat.reduceEqDiff, Nat.reduceAdd, Nat.reduceLeDiff, Nat.reduceMul, Nat.reduceBEq, Nat.reduceBneDiff, Nat.reduceLT, Nat.reduceSub]
  refine callQ_self (ds := [eE s.2.2.1]) ?_ (hc2 s.2.2.1) ?_
  ·first | exact rfl | (simp only [eE_eta]; exact rfl)
  cases a2 : noneE s.2.2.1
  ·simp +contextual -implicitDefEqProofs only [d1, d2, d3, d4, w1, w2, eSp, a7, a2, bne, Bool.not_true, Bool.not_false, Bool.true_and, Bool.false_and, Bool.and_true, Bool.and_false, Bool.true_or, Bool.false_or, Bool.or_true, Bool.or_false, go_sem, eI, eB, ↓reduceIte, Nat.reduceEqDiff, Nat.reduceAdd, Nat.reduceLeDiff, Nat.reduceMul, Nat.reduceBEq, Nat.reduceBneDiff, Nat.reduceLT, Nat.reduceSub]
  cases a8 : (s.2.2.2.1 == 0)
  ·simp +contextual -implicitDefEqProofs only [d1, d2, d3, d4, w1, w2, eSp, a7, a2, a8, bne, Bool.not_true, Bool.not_false, Bool.true_and, Bool.false_and, Bool.and_true, Bool.and_false, Bool.true_or, Bool.false_or, Bool.or_true, Bool.or_false, go_sem, eI, eB, ↓reduceIte, Nat.reduceEqDiff, Nat.reduceAdd, Nat.reduceLeDiff, Nat.reduceMul, Nat.reduceBEq, Nat.reduceBneDiff, Nat.reduceLT, Nat.reduceSub]
  cases a4 : (s.2.2.2.2 == 0)
  ·simp +contextual -implicitDefEqProofs only [d1, d2, d3, d4, w1, w2, eSp, a7, a2, a8, a4, bne, Bool.not_true, Bool.not_false, Bool.true_and, Bool.false_and, Bool.and_true, Bool.and_false, Bool.true_or, Bool.false_or, Bool.or_true, Bool.or_false, go_sem, eI, eB, ↓reduceIte, Nat.reduceEqDiff, Nat.reduceAdd, Nat.reduceLeDiff, Nat.reduceMul, Nat.reduceBEq, Nat.reduceBneDiff, Nat.reduceLT, Nat.reduceSub]
  simp +contextual -implicitDefEqProofs only [d1, d2, d3, d4, w1, w2, eSp, a7, a2, a8, a4, bne, Bool.not_true, Bool.not_false, Bool.true_and, Bool.false_and, Bool.and_true, Bool.and_false, Bool.true_or, Bool.false_or, Bool.or_true, Bool.or_false, go_sem, eI, eB, ↓reduceIte, Nat.reduceEqDiff, Nat.reduceAdd, Nat.reduceLeDiff, Nat.reduceMul, Nat.reduceBEq, Nat.reduceBneDiff, Nat.reduceLT, Nat.reduceSub]
 by_cases c4 : s.1 = 4
 ·have er : spOk g n s = ((s.2.1 == 0) && (noneE s.2.2.1 && ((s.2.2.2.1 == 0) && (s.2.2.2.2 == 0)))) := by unfold spOk; rw [if_neg c1, if_neg c2, if_neg c3, if_pos c4]
  rw [er]
  have d1 : (s.1 == 1) = false := by simp [c4]
  have d2 : (s.1 == 2) = false := by simp [c4]
  have d3 : (s.1 == 3) = false := by simp [c4]
  have d4 : (s.1 == 4) = true := by simp [c4]
  cases a7 : (s.2.1 == 0)
  ·simp +contextual -implicitDefEqProofs only [d1, d2, d3, d4, w1, w2, eSp, a7, bne, Bool.not_true, Bool.not_false, Bool.true_and, Bool.false_and, Bool.and_true, Bool.and_false, Bool.true_or, Bool.false_or, Bool.or_true, Bool.or_false, go_sem, eI, eB, ↓reduceIte, Nat.reduceEqDiff, Nat.reduceAdd, Nat.reduceLeDiff, Nat.reduceMul, Nat.reduceBEq, Nat.reduceBneDiff, Nat.reduceLT, Nat.reduceSub]
  simp +contextual -implicitDefEqProofs only [d1, d2, d3, d4, w1, w2, eSp, a7, bne, Bool.not_true, Bool.not_false, Bool.true_and, Bool.false_and, Bool.and_true, Bool.and_false, Bool.true_or, Bool.false_or, Bool.or_true, Bool.or_false, go_sem, eI, eB, ↓reduceIte, Nat.reduceEqDiff, Nat.reduceAdd, Nat.reduceLeDiff, Nat.reduceMul, Nat.reduceBEq, Nat.reduceBneDiff, Nat.reduceLT, Nat.reduceSub]
  refine callQ_self (ds := [eE s.2.2.1]) ?_ (hc2 s.2.2.1) ?_
  ·first | exact rfl | (simp only [eE_eta]; exact rfl)
  cases a2 : noneE s.2.2.1
  ·simp +contextual -implicitDefEqProofs only [d1, d2, d3, d4, w1, w2, eSp, a7, a2, bne, Bool.not_true, Bool.not_false, Bool.true_and, Bool.false_and, Bool.and_true, Bool.and_false, Bool.true_or, Bool.false_or, Bool.or_true, Bool.or_false, go_sem, eI, eB, ↓reduceIte, Nat.reduceEqDiff, Nat.reduceAdd, Nat.reduceLeDiff, Nat.reduceMul, Nat.reduceBEq, Nat.reduceBneDiff, Nat.reduceLT, Nat.reduceSub]
  cases a8 : (s.2.2.2.1 == 0)
  ·simp +contextual -implicitDefEqProofs only [d1, d2, d3, d4, w1, w2, eSp, a7, a2, a8, bne, Bool.not_true, Bool.not_false, Bool.true_and, Bool.false_and, Bool.and_true, Bool.and_false, Bool.true_or, Bool.false_or, Bool.or_true, Bool.or_false, go_sem, eI, eB, ↓reduceIte, Nat.reduceEqDiff, Nat.reduceAdd, Nat.reduceLeDiff, Nat.reduceMul, Nat.reduceBEq, Nat.reduceBneDiff, Nat.reduceLT, Nat.reduceSub]
  cases a4 : (s.2.2.2.2 == 0)
  ·simp +contextual -implicitDefEqProofs only [d1, d2, d3, d4, w1, w2, eSp, a7, a2, a8, a4, bne, Bool.not_true, Bool.not_false, Bool.true_and, Bool.false_and, Bool.and_true, Bool.and_false, Bool.true_or, Bool.false_or, Bool.or_true, Bool.or_false, go_sem, eI, eB, ↓reduceIte, Nat.reduceEqDiff, Nat.reduceAdd, Nat.reduceLeDiff, Nat.reduceMul, Nat.reduceBEq, Nat.reduceBneDiff, Nat.reduceLT, Nat.reduceSub]
  simp +contextual -implicitDefEqProofs only [d1, d2, d3, d4, w1, w2, eSp, a7, a2, a8, a4, bne, Bool.not_true, Bool.not_false, Bool.true_and, Bool.false_and, Bool.and_true, Bool.and_false, Bool.true_or, Bool.false_or, Bool.or_true, Bool.or_false, go_sem, eI, eB, ↓reduceIte, Nat.reduceEqDiff, Nat.reduceAdd, Nat.reduceLeDiff, Nat.reduceMul, Nat.reduceBEq, Nat.reduceBneDiff, Nat.reduceLT, Nat.reduceSub]
 have er : spOk g n s = false := by unfold spOk; rw [if_neg c1, if_neg c2, if_neg c3, if_neg c4]
 rw [er]
 have d1 : (s.1 == 1) = false := by simpa using c1
 have d2 : (s.1 == 2) = false := by simpa using c2
 have d3 : (s.1 == 3) = false := by simpa using c3
 have d4 : (s.1 == 4) = false := by simpa using c4
 simp +contextual -implicitDefEqProofs only [d1, d2, d3, d4, bne, Bool.not_true, Bool.not_false, Bool.true_and, Bool.false_and, Bool.and_true, Bool.and_false, Bool.true_or, Bool.false_or, Bool.or_true, Bool.or_false, go_sem, eI, eB, ↓reduceIte, Nat.reduceEqDiff, Nat.reduceAdd, Nat.reduceLeDiff, Nat.reduceMul, Nat.reduceBEq, Nat.reduceBneDiff, Nat.reduceLT, Nat.reduceSub]

def k_l06Spot (f1 f2 f3 : Nat) : RC := (.seq (.reg false [⟨none, .box 3 2 (.t 0)⟩, ⟨none, .mv 6 (.c (.sc (.bool false)))⟩]) ((.seq (.reg false [⟨none, .mv 8 (.t 1)⟩, ⟨none, .nck 9 (.t 8)⟩, ⟨none, .fa 10 2 (.t 9)⟩, ⟨none, .call (some 11) f1 [(.t 10)]⟩, ⟨none, .mv 12 (.t 11)⟩, ⟨some (12, true), .mv 13 (.t 1)⟩, ⟨some (12, true), .nck 14 (.t 13)⟩, ⟨some (12, true), .fa 15 1 (.t 14)⟩, ⟨some (12, true), .ld 16 false 1 (.t 15)⟩, ⟨some (12, true), .bin 17 .eql (.t 16) (.c (.sc (.int .i64 0)))⟩, ⟨none, .pick 18 (.t 12) (.t 17) (.c (.sc (.bool false)))⟩, ⟨none, .mv 19 (.t 18)⟩, ⟨some (19, true), .mv 20 (.t 1)⟩, ⟨some (19, true), .nck 21 (.t 20)⟩, ⟨some (19, true), .fa 22 6 (.t 21)⟩, ⟨some (19, true), .ld 23 false 1 (.t 22)⟩, ⟨some (19, true), .bin 24 .eql (.t 23) (.c (.sc (.int .i64 0)))⟩, ⟨none, .pick 25 (.t 19) (.t 24) (.c (.sc (.bool false)))⟩, ⟨none, .mv 7 (.t 25)⟩]) ((.seq ((.seq (.reg false [⟨none, .mv 26 (.t 1)⟩, ⟨none, .nck 27 (.t 26)⟩, ⟨none, .fa 28 0 (.t 27)⟩, ⟨none, .ld 29 false 1 (.t 28)⟩]) (.blk 0 ((.seq (.reg false [⟨none, .bin 31 .eql (.t 29) (.c (.sc (.int .i64 1)))⟩, ⟨none, .mv 30 (.t 31)⟩]) (.cond (.t 30) ((.seq (.reg true [⟨none, .mv 32 (.t 1)⟩, ⟨none, .nck 33 (.t 32)⟩, ⟨none, .fa 34 2 (.t 33)⟩, ⟨none, .call (some 35) f1 [(.t 34)]⟩, ⟨none, .mv 36 (.t 35)⟩, ⟨some (36, true), .mv 37 (.t 1)⟩, ⟨some (36, true), .nck 38 (.t 37)⟩, ⟨some (36, true), .fa 39 6 (.t 38)⟩, ⟨some (36, true), .ld 40 false 1 (.t 39)⟩, ⟨some (36, true), .bin 41 .eql (.t 40) (.c (.sc (.int .i64 0)))⟩, ⟨none, .pick 42 (.t 36) (.t 41) (.c (.sc (.bool false)))⟩, ⟨none, .mv 43 (.t 42)⟩, ⟨some (43, true), .mv 44 (.t 1)⟩, ⟨some (43, true), .nck 45 (.t 44)⟩, ⟨some (43, true), .fa 46 1 (.t 45)⟩, ⟨some (43, true), .ld 47 false 1 (.t 46)⟩, ⟨some (43, true), .fa 48 1 (.t 3)⟩, ⟨some (43, true), .ld 49 false 1 (.t 48)⟩, ⟨some (43, true), .bin 50 .sub (.t 49) (.c (.sc (.int .i64 1)))⟩, ⟨some (43, true), .call (some 51) f2 [(.t 47), (.c (.sc (.int .i64 0))), (.t 50)]⟩, ⟨none, .pick 52 (.t 43) (.t 51) (.c (.sc (.bool false)))⟩, ⟨none, .mv 53 (.t 52)⟩, ⟨some (53, true), .mv 54 (.t 1)⟩, ⟨some (53, true), .nck 55 (.t 54)⟩, ⟨some (53, true), .fa 56 5 (.t 55)⟩, ⟨some (53, true), .ld 57 false 1 (.t 56)⟩, ⟨some (53, true), .mv 58 (.t 2)⟩, ⟨some (53, true), .bin 59 .sub (.t 58) (.c (.sc (.int .i64 1)))⟩, ⟨some (53, true), .call (some 60) f2 [(.t 57), (.c (.sc (.int .i64 0))), (.t 59)]⟩, ⟨none, .pick 61 (.t 53) (.t 60) (.c (.sc (.bool false)))⟩, ⟨none, .mv 6 (.t 61)⟩]) (.ret))) ((.seq (.reg false [⟨none, .bin 63 .eql (.t 29) (.c (.sc (.int .i64 2)))⟩, ⟨none, .mv 62 (.t 63)⟩]) (.cond (.t 62) ((.seq (.reg true [⟨none, .mv 64 (.t 1)⟩, ⟨none, .nck 65 (.t 64)⟩, ⟨none, .fa 66 1 (.t 65)⟩, ⟨none, .ld 67 false 1 (.t 66)⟩, ⟨none, .bin 68 .eql (.t 67) (.c (.sc (.int .i64 0)))⟩, ⟨none, .mv 69 (.t 68)⟩, ⟨some (69, true), .ld 70 true 2 (.t 3)⟩, ⟨some (69, true), .mv 71 (.t 1)⟩, ⟨some (69, true), .nck 72 (.t 71)⟩, ⟨some (69, true), .fa 73 2 (.t 72)⟩, ⟨some (69, true), .call (some 74) f3 [(.t 70), (.t 73)]⟩, ⟨none, .pick 75 (.t 69) (.t 74) (.c (.sc (.bool false)))⟩, ⟨none, .mv 76 (.t 75)⟩, ⟨some (76, true), .mv 77 (.t 1)⟩, ⟨some (76, true), .nck 78 (.t 77)⟩, ⟨some (76, true), .fa 79 5 (.t 78)⟩, ⟨some (76, true), .ld 80 false 1 (.t 79)⟩, ⟨some (76, true), .mv 81 (.t 2)⟩, ⟨some (76, true), .bin 82 .sub (.t 81) (.c (.sc (.int .i64 1)))⟩, ⟨some (76, true), .call (some 83) f2 [(.t 80), (.c (.sc (.int .i64 0))), (.t 82)]⟩, ⟨none, .pick 84 (.t 76) (.t 83) (.c (.sc (.bool false)))⟩, ⟨none, .mv 85 (.t 84)⟩, ⟨some (85, true), .mv 86 (.t 1)⟩, ⟨some (85, true), .nck 87 (.t 86)⟩, ⟨some (85, true), .fa 88 6 (.t 87)⟩, ⟨some (85, true), .ld 89 false 1 (.t 88)⟩, ⟨some (85, true), .mv 90 (.t 2)⟩, ⟨some (85, true), .bin 91 .sub (.t 90) (.c (.sc (.int .i64 1)))⟩, ⟨some (85, true), .call (some 92) f2 [(.t 89), (.c (.sc (.int .i64 0))), (.t 91)]⟩, ⟨none, .pick 93 (.t 85) (.t 92) (.c (.sc (.bool false)))⟩, ⟨none, .mv 6 (.t 93)⟩]) (.ret))) ((.seq ((.seq (.reg false [⟨none, .bin 95 .eql (.t 29) (.c (.sc (.int .i64 3)))⟩, ⟨none, .mv 94 (.t 95)⟩]) (.cond (.t 94) (.skip) (.reg false [⟨none, .bin 96 .eql (.t 29) (.c (.sc (.int .i64 4)))⟩, ⟨none, .mv 94 (.t 96)⟩])))) (.cond (.t 94) ((.seq (.reg false [⟨none, .mv 97 (.t 7)⟩, ⟨none, .mv 98 (.t 97)⟩, ⟨some (98, true), .mv 99 (.t 1)⟩, ⟨some (98, true), .nck 100 (.t 99)⟩, ⟨some (98, true), .fa 101 5 (.t 100)⟩, ⟨some (98, true), .ld 102 false 1 (.t 101)⟩, ⟨some (98, true), .bin 103 .eql (.t 102) (.c (.sc (.int .i64 0)))⟩, ⟨none, .pick 104 (.t 98) (.t 103) (.c (.sc (.bool false)))⟩, ⟨none, .mv 6 (.t 104)⟩]) (.ret))) (.skip))))))))))))) ((.seq (.reg false [⟨none, .mv 6 (.c (.sc (.bool false)))⟩]) (.ret))))))))
def K_l06Spot (P : Program) (f : Nat) : Prop := ∀ (g : Int × Int) (s : Sp) (n : Int) (hg : okG g = true) (h1 : 1 ≤ n) (h2 : n ≤ 60), AF P f [eG g, .pt (eSp s) 0, eI n] (.own (eB (spOk g n s)))
theorem a_l06Spot {P : Program} (hm : P.follows .mixedOrders = true) {g f1 f2 f3 : Nat} (hr : resF P g = some (105, k_l06Spot f1 f2 f3, [.t 6])) (hc1 : K_l06None P f1) (hc2 : K_l00In P f2) (hc3 : K_l06Cond P f3) : K_l06Spot P g := by
 intro g s n hg h1 h2
 refine af_of_res hr hm rfl fun hb => ?_
 have hG := okG_iff' hg
 have w1 : IntKind.i64.wrap (g.2 - 1) = g.2 - 1 := wrap_i64 (by omega) (by omega)
 have w2 : IntKind.i64.wrap (n - 1) = n - 1 := wrap_i64 (by omega) (by omega)
 simp +contextual -implicitDefEqProofs only [k_l06Spot, eG, eSp, go_sem, eI, eB, ↓reduceIte, Nat.reduceEqDiff, Nat.reduceAdd, Nat.reduceLeDiff, Nat.reduceMul, Nat.reduceBEq, Nat.reduceBneDiff, Nat.reduceLT, Nat.reduceSub]
 refine callQ_le (es := [.pt (eE s.2.2.1) 0]) rfl ⟨D.LeA.sub (sz := 3) (by simp [D.size, D.sizeL, eI]) rfl (by omega) (by rw [eE_eta]; rfl), trivial⟩ (hc1 s.2.2.1) ?_
 cases a2 : noneE s.2.2.1 <;> cases a7 : (s.2.1 == 0) <;> cases a4 : (s.2.2.2.2 == 0) <;> cases a8 : (s.2.2.2.1 == 0)
 all_goals
  by_cases c1 : s.1 = 1
  ·have er : spOk g n s = (noneE s.2.2.1 && ((s.2.2.2.2 == 0) && (isIn s.2.1 0 (g.2 - 1) && isIn s.2.2.2.1 0 (n - 1)))) := by unfold spOk; rw [if_pos c1]
   rw [er]
   have d1 : (s.1 == 1) = true := by simp [c1]
   have d2 : (s.1 == 2) = false := by simp [c1]
   have d3 : (s.1 == 3) = false := by simp [c1]
   have d4 : (s.1 == 4) = false := by simp [c1]
   simp +contextual -implicitDefEqProofs only [a2, a7, a4, a8, d1, d2, d3, d4, w1, w2, bne, Bool.not_true, Bool.not_false, Bool.true_and, Bool.false_and, Bool.and_true, Bool.and_false, Bool.true_or, Bool.false_or, Bool.or_true, Bool.or_false, go_sem, eI, eB, ↓reduceIte, Nat.reduceEqDiff, Nat.reduceAdd, Nat.reduceLeDiff, Nat.reduceMul, Nat.reduceBEq, Nat.reduceBneDiff, Nat.reduceLT, Nat.reduceSub]
   refine callQ_le (es := [.pt (eE s.2.2.1) 0]) rfl ⟨D.LeA.sub (sz := 3) (by simp [D.size, D.sizeL, eI]) rfl (by omega) (by rw [eE_eta]; rfl), trivial⟩ (hc1 s.2.2.1) ?_
   simp +contextual -implicitDefEqProofs only [a2, a7, a4, a8, d1, d2, d3, d4, w1, w2, bne, Bool.not_true, Bool.not_false, Bool.true_and, Bool.false_and, Bool.and_true, Bool.and_false, Bool.true_or, Bool.false_or, Bool.or_true, Bool.or_false, go_sem, eI, eB, ↓reduceIte, Nat.reduceEqDiff, Nat.reduceAdd, Nat.reduceLeDiff, Nat.reduceMul, Nat.reduceBEq, Nat.reduceBneDiff, Nat.reduceLT, Nat.reduceSub]
   try
    refine callQ_self ?_ (hc2 s.2.1 0 (g.2 - 1)) ?_
    ·exact rfl
    cases a1 : isIn s.2.1 0 (g.2 - 1)
    ·simp +contextual -implicitDefEqProofs only [a2, a7, a4, a8, d1, d2, d3, d4, w1, w2, a1, bne, Bool.not_true, Bool.not_false, Bool.true_and, Bool.false_and, Bool.and_true, Bool.and_false, Bool.true_or, Bool.false_or, Bool.or_true, Bool.or_false, go_sem, eI, eB, ↓reduceIte, Nat.reduceEqDiff, Nat.reduceAdd, Nat.reduceLeDiff, Nat.reduceMul, Nat.reduceBEq, Nat.reduceBneDiff, Nat.reduceLT, Nat.reduceSub]
    simp +contextual -implicitDefEqProofs only [a2, a7, a4, a8, d1, d2, d3, d4, w1, w2, a1, bne, Bool.not_true, Bool.not_false, Bool.true_and, Bool.false_and, Bool.and_true, Bool.and_false, Bool.true_or, Bool.false_or, Bool.or_true, Bool.or_false, go_sem, eI, eB, ↓reduceIte, Nat.reduceEqDiff, Nat.reduceAdd, Nat.reduceLeDiff, Nat.reduceMul, Nat.reduceBEq, Nat.reduceBneDiff, Nat.reduceLT, Nat.reduceSub]
    refine callQ_self ?_ (hc2 s.2.2.2.1 0 (n - 1)) ?_
    ·exact rfl
    cases a3 : isIn s.2.2.2.1 0 (n - 1)
    ·simp +contextual -implicitDefEqProofs only [a2, a7, a4, a8, d1, d2, d3, d4, w1, w2, a1, a3, bne, Bool.not_true, Bool.not_false, Bool.true_and, Bool.false_and, Bool.and_true, Bool.and_false, Bool.true_or, Bool.false_or, Bool.or_true, Bool.or_false, go_sem, eI, eB, ↓reduceIte, Nat.reduceEqDiff, Nat.reduceAdd, Nat.reduceLeDiff, Nat.reduceMul, Nat.reduceBEq, Nat.reduceBneDiff, Nat.reduceLT, Nat.reduceSub]
    ·simp +contextual -implicitDefEqProofs only [a2, a7, a4, a8, d1, d2, d3, d4, w1, w2, a1, a3, bne, Bool.not_true, Bool.not_false, Bool.true_and, Bool.false_and, Bool.and_true, Bool.and_false, Bool.true_or, Bool.false_or, Bool.or_true, Bool.or_false, go_sem, eI, eB, ↓reduceIte, Nat.reduceEqDiff, Nat.reduceAdd, Nat.reduceLeDiff, Nat.reduceMul, Nat.reduceBEq, Nat.reduceBneDiff, Nat.reduceLT, Nat.reduceSub]
  by_cases c2 : s.1 = 2
  ·have er : spOk g n s = ((s.2.1 == 0) && (condOk g s.2.2.1 && (isIn s.2.2.2.1 0 (n - 1) && isIn s.2.2.2.2 0 (n - 1)))) := by unfold spOk; rw [if_neg c1, if_pos c2]
   rw [er]
   have d1 : (s.1 == 1) = false := by simp [c2]
   have d2 : (s.1 == 2) = true := by simp [c2]
   have d3 : (s.1 == 3) = false := by simp [c2]
   have d4 : (s.1 == 4) = false := by simp [c2]
   simp +contextual -implicitDefEqProofs only [a2, a7, a4, a8, d1, d2, d3, d4, w1, w2, bne, Bool.not_true, Bool.not_false, Bool.true_and, Bool.false_and, Bool.and_true, Bool.and_false, Bool.true_or, Bool.false_or, Bool.or_true, Bool.or_false, go_sem, eI, eB, ↓reduceIte, Nat.reduceEqDiff, Nat.reduceAdd, Nat.reduceLeDiff, Nat.reduceMul, Nat.reduceBEq, Nat.reduceBneDiff, Nat.reduceLT, Nat.reduceSub]
   try
    refine callQ_le (es := [eG g, .pt (eE s.2.2.1) 0]) rfl ⟨D.LeA.refl _, D.LeA.sub (sz := 3) (by simp [D.size, D.sizeL, eI]) rfl (by omega) (by rw [eE_eta]; rfl), trivial⟩ (hc3 g s.2.2.1 hg) ?_
    cases a5 : condOk g s.2.2.1
    ·simp +contextual -implicitDefEqProofs only [a2, a7, a4, a8, d1, d2, d3, d4, w1, w2, a5, bne, Bool.not_true, Bool.not_false, Bool.true_and, Bool.false_and, Bool.and_true, Bool.and_false, Bool.true_or, Bool.false_or, Bool.or_true, Bool.or_false, go_sem, eI, eB, ↓reduceIte, Nat.reduceEqDiff, Nat.reduceAdd, Nat.reduceLeDiff, Nat.reduceMul, Nat.reduceBEq, Nat.reduceBneDiff, Nat.reduceLT, Nat.reduceSub]
    simp +contextual -implicitDefEqProofs only [a2, a7, a4, a8, d1, d2, d3, d4, w1, w2, a5, bne, Bool.not_true, Bool.not_false, Bool.true_and, Bool.false_and, Bool.and_true, Bool.and_false, Bool.true_or, Bool.false_or, Bool.or_true, Bool.or_false, go_sem, eI, eB, ↓reduceIte, Nat.reduceEqDiff, Nat.reduceAdd, Nat.reduceLeDiff, Nat.reduceMul, Nat.reduceBEq, Nat.reduceBneDiff, Nat.reduceLT, Nat.reduceSub]
    refine callQ_self ?_ (hc2 s.2.2.2.1 0 (n - 1)) ?_
    ·exact rfl
    cases a3 : isIn s.2.2.2.1 0 (n - 1)
    ·simp +contextual -implicitDefEqProofs only [a2, a7, a4, a8, d1, d2, d3, d4, w1, w2, a5, a3, bne, Bool.not_true, Bool.not_false, Bool.true_and, Bool.false_and, Bool.and_true, Bool.and_false, Bool.true_or, Bool.false_or, Bool.or_true, Bool.or_false, go_sem, eI, eB, ↓reduceIte, Nat.reduceEqDiff, Nat.reduceAdd, Nat.reduceLeDiff, Nat.reduceMul, Nat.reduceBEq, Nat.reduceBneDiff, Nat.reduceLT, Nat.reduceSub]
    simp +contextual -implicitDefEqProofs only [a2, a7, a4, a8, d1, d2, d3, d4, w1, w2, a5, a3, bne, Bool.not_true, Bool.not_false, Bool.true_and, Bool.false_and, Bool.and_true, Bool.and_false, Bool.true_or, Bool.false_or, Bool.or_true, Bool.or_false, go_sem, eI, eB, ↓reduceIte, Nat.reduceEqDiff, Nat.reduceAdd, Nat.reduceLeDiff, Nat.reduceMul, Nat.reduceBEq, Nat.reduceBneDiff, Nat.reduceLT, Nat.reduceSub]
    refine callQ_self ?_ (hc2 s.2.2.2.2 0 (n - 1)) ?_
    ·exact rfl
    cases a6 : isIn s.2.2.2.2 0 (n - 1)
    ·simp +contextual -implicitDefEqProofs only [a2, a7, a4, a8, d1, d2, d3, d4, w1, w2, a5, a3, a6, bne, Bool.not_true, Bool.not_false, Bool.true_and, Bool.false_and, Bool.and_true, Bool.and_false, Bool.true_or, Bool.false_or, Bool.or_true, Bool.or_false, go_sem, eI, eB, ↓reduceIte, Nat.reduceEqDiff, Nat.reduceAdd, Nat.reduceLeDiff, Nat.reduceMul, Nat.reduceBEq, Nat.reduceBneDiff, Nat.reduceLT, Nat.reduceSub]
    ·simp +contextual -implicitDefEqProofs only [a2, a7, a4, a8, d1, d2, d3, d4, w1, w2, a5, a3, a6, bne, Bool.not_true, Bool.not_false, Bool.true_and, Bool.false_and, Bool.and_true, Bool.and_false, Bool.true_or, Bool.false_or, Bool.or_true, Bool.or_false, go_sem, eI, eB, ↓reduceIte, Nat.reduceEqDiff, Nat.reduceAdd, Nat.reduceLeDiff, Nat.reduceMul, Nat.reduceBEq, Nat.reduceBneDiff, Nat.reduceLT, Nat.reduceSub]
  by_cases c3 : s.1 = 3
  ·have er : spOk g n s = ((s.2.1 == 0) && (noneE s.2.2.1 && ((s.2.2.2.1 == 0) && (s.2.2.2.2 == 0)))) := by unfold spOk; rw [if_neg c1, if_neg c2, if_pos c3]
   rw [er]
   have d1 : (s.1 == 1) = false := by simp [c3]
   have d2 : (s.1 == 2) = false := by simp [c3]
   have d3 : (s.1 == 3) = true := by simp [c3]
   have d4 : (s.1 == 4) = false := by simp [c3]
   simp +contextual -implicitDefEqProofs only [a2, a7, a4, a8, d1, d2, d3, d4, w1, w2, bne, Bool.not_true, Bool.not_false, Bool.true_and, Bool.false_and, Bool.and_true, Bool.and_false, Bool.true_or, Bool.false_or, Bool.or_true, Bool.or_false, go_sem, eI, eB, ↓reduceIte, Nat.reduceEqDiff, Nat.reduceAdd, Nat.reduceLeDiff, Nat.reduceMul, Nat.reduceBEq, Nat.reduceBneDiff, Nat.reduceLT, Nat.reduceSub]
  by_cases c4 : s.1 = 4
  ·have er : spOk g n s = ((s.2.1 == 0) && (noneE s.2.2.1 && ((s.2.2.2.1 == 0) && (s.2.2.2.2 == 0)))) := by unfold spOk; rw [if_neg c1, if_neg c2, if_neg c3, if_pos c4]
   rw [er]
   have d1 : (s.1 == 1) = false := by simp [c4]
   have d2 : (s.1 == 2) = false := by simp [c4]
   have d3 : (s.1 == 3) = false := by simp [c4]
   have d4 : (s.1 == 4) = true := by simp [c4]
   simp +contextual -implicitDefEqProofs only [a2, a7, a4, a8, d1, d2, d3, d4, w1, w2, bne, Bool.not_true, Bool.not_false, Bool.true_and, Bool.false_and, Bool.and_true, Bool.and_false, Bool.true_or, Bool.false_or, Bool.or_true, Bool.or_false, go_sem, eI, eB, ↓reduceIte, Nat.reduceEqDiff, Nat.reduceAdd, Nat.reduceLeDiff, Nat.reduceMul, Nat.reduceBEq, Nat.reduceBneDiff, Nat.reduceLT, Nat.reduceSub]
  have er : spOk g n s = false := by unfold spOk; rw [if_neg c1, if_neg c2, if_neg c3, if_neg c4]
  rw [er]
  have d1 : (s.1 == 1) = false := by simpa using c1
  have d2 : (s.1 == 2) = false := by simpa using c2
  have d3 : (s.1 == 3) = false := by simpa using c3
  have d4 : (s.1 == 4) = false := by simpa using c4
  simp +contextual -implicitDefEqProofs only [a2, a7, a4, a8, d1, d2, d3, d4, bne, Bool.not_true, Bool.not_false, Bool.true_and, Bool.false_and, Bool.and_true, Bool.and_false, Bool.true_or, Bool.false_or, Bool.or_true, Bool.or_false, go_sem, eI, eB, ↓reduceIte, Nat.reduceEqDiff, Nat.reduceAdd, Nat.reduceLeDiff, Nat.reduceMul, Nat.reduceBEq, Nat.reduceBneDiff, Nat.reduceLT, Nat.reduceSub]
end Go.Ax
