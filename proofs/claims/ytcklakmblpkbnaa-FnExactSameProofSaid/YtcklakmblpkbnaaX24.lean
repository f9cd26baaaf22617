/- Contracts of functions of the seat, proved over the engine. No condition. -/
import Derived.Test.YtcklakmblpkbnaaX2
set_option linter.unusedSimpArgs false
set_option linter.unusedVariables false
set_option linter.unnecessarySimpa false
namespace Go.Ax
set_option linter.unusedSimpArgs false
set_option maxRecDepth 20000
set_option maxHeartbeats 4000000
abbrev Stp := Int × Bool × SL Int × SL Ex × SL Ex
def eSt (p : Stp) : D := .ag [eI p.1, eB p.2.1, .ls p.2.2.1.1 1 (p.2.2.1.2.map eI), .ls p.2.2.2.1.1 3 (p.2.2.2.1.2.map eE), .ls p.2.2.2.2.1 3 (p.2.2.2.2.2.map eE)]
theorem encSt : Enc eSt 5 true := ⟨by omega, fun _ => rfl, fun _ => rfl, fun _ => rfl⟩
abbrev Cl := Ex × Ex × Int × Int × SL Stp
def eCl (c : Cl) : D := .ag [.sc (.int .i64 c.1.k), .sc (.int .i64 c.1.n), .ls c.1.nn 3 (c.1.ks.map eE), .sc (.int .i64 c.2.1.k), .sc (.int .i64 c.2.1.n), .ls c.2.1.nn 3 (c.2.1.ks.map eE), eI c.2.2.1, eI c.2.2.2.1, .ls c.2.2.2.2.1 5 (c.2.2.2.2.2.map eSt)]
theorem encCl : Enc eCl 9 true := ⟨by omega, fun _ => rfl, fun _ => rfl, fun _ => rfl⟩
abbrev Pf := (Int × Int) × SL Cl
def ePf (p : Pf) : D := .ag [eI p.1.1, eI p.1.2, .ls p.2.1 9 (p.2.2.map eCl)]
def qSt (a b : Stp) : Bool := (a.1 == b.1) && ((a.2.1 == b.2.1) && (eqL (fun x y => x == y) a.2.2.1.2 b.2.2.1.2 && (eqL qE a.2.2.2.1.2 b.2.2.2.1.2 && eqL qE a.2.2.2.2.2 b.2.2.2.2.2)))
def qCl (a b : Cl) : Bool := qE a.1 b.1 && (qE a.2.1 b.2.1 && ((a.2.2.1 == b.2.2.1) && ((a.2.2.2.1 == b.2.2.2.1) && eqL qSt a.2.2.2.2.2 b.2.2.2.2.2)))
def qPf (a b : Pf) : Bool := (a.1.1 == b.1.1) && ((a.1.2 == b.1.2) && eqL qCl a.2.2 b.2.2)
theorem eSt_size (p : Stp) : (eSt p).size = 5 := rfl
theorem eCl_size (p : Cl) : (eCl p).size = 9 := rfl

def k_l04SameList (f1 : Nat) : RC :=
 (.seq
  (.reg false [⟨none, .mv 4 (.c (.sc (.bool false)))⟩])
  ((.seq
   ((.seq
    (.reg false [⟨none, .mv 6 (.t 0)⟩,
      ⟨none, .len 7 (.t 6)⟩,
      ⟨none, .mv 8 (.t 1)⟩,
      ⟨none, .len 9 (.t 8)⟩,
      ⟨none, .bin 10 .neq (.t 7) (.t 9)⟩])
    (.cond (.t 10)
     ((.seq
      (.reg false [⟨none, .mv 4 (.c (.sc (.bool false)))⟩])
      (.ret)))
     (.skip))))
   ((.seq
    ((.seq
     (.reg false [⟨none, .mv 5 (.c (.sc (.int .i64 0)))⟩])
     (.blk 0
      (.loop
       ((.seq
        ((.seq
         (.reg false [⟨none, .mv 11 (.t 5)⟩,
           ⟨none, .mv 12 (.t 0)⟩,
           ⟨none, .len 13 (.t 12)⟩,
           ⟨none, .bin 14 .lss (.t 11) (.t 13)⟩])
         (.cond (.t 14)
          (.skip)
          (.exit 0))))
        ((.seq
         (.blk 1
          ((.seq
           (.reg true [⟨none, .mv 17 (.t 0)⟩,
             ⟨none, .mv 18 (.t 5)⟩,
             ⟨none, .ia 19 3 (.t 17) (.t 18)⟩,
             ⟨none, .mv 20 (.t 1)⟩,
             ⟨none, .mv 21 (.t 5)⟩,
             ⟨none, .ia 22 3 (.t 20) (.t 21)⟩,
             ⟨none, .call (some 23) f1 [(.t 19), (.t 22)]⟩,
             ⟨none, .un 24 .not (.t 23)⟩])
           (.cond (.t 24)
            ((.seq
             (.reg false [⟨none, .mv 4 (.c (.sc (.bool false)))⟩])
             (.ret)))
            (.skip)))))
         (.reg false [⟨none, .mv 15 (.t 5)⟩,
           ⟨none, .bin 16 .add (.t 15) (.c (.sc (.int .i64 1)))⟩,
           ⟨none, .mv 5 (.t 16)⟩])))))))))
    ((.seq
     (.reg false [⟨none, .mv 4 (.c (.sc (.bool true)))⟩])
     (.ret))))))))
def K_l04SameList (P : Program) (fno : Nat) : Prop := ∀ (a b : SL Ex), AF P fno [eS 3 eE a, eS 3 eE b] (.own (eB (eqL qE a.2 b.2)))
theorem a_l04SameList {P : Program} (hm : P.follows .mixedOrders = true) {g f1 : Nat} (hr : resF P g = some (25, k_l04SameList f1, [.t 4])) (hc1 : K_l01Same P f1) : K_l04SameList P g := by
  intro a b
  obtain ⟨nn, ks⟩ := a
  obtain ⟨nn', ks'⟩ := b
  refine af_of_res hr hm rfl fun hb => ?_
  have hl := len_of_bd hb
  unfold maxEl at hl
  simp only [List.length_map] at hl
  cases h0 : ((ks.length : Int) == ks'.length)
  · simp +contextual -implicitDefEqProofs only [k_l04SameList, eS, h0, List.length_map, eqL_len (show ks.length ≠ ks'.length by simp at h0; omega), bne, Bool.not_true, Bool.not_false, Bool.true_and, Bool.false_and, Bool.and_true, Bool.and_false, Bool.true_or, Bool.false_or, Bool.or_true, Bool.or_false, go_sem, eI, eB, ↓reduceIte, Nat.reduceEqDiff, Nat.reduceAdd, Nat.reduceLeDiff, Nat.reduceMul, Nat.reduceBEq, Nat.reduceBneDiff, Nat.reduceLT, Nat.reduceSub, decide_true, decide_false, and_self, true_and, and_true, false_and, and_false, not_true_eq_false, not_false_eq_true, false_implies, true_implies, implies_true, ge_iff_le, Bool.false_eq_true, List.cons_append, List.nil_append]
  have hlen : ks.length = ks'.length := by simp at h0; omega
  simp +contextual -implicitDefEqProofs only [k_l04SameList, eS, h0, List.length_map, bne, Bool.not_true, Bool.not_false, Bool.true_and, Bool.false_and, Bool.and_true, Bool.and_false, Bool.true_or, Bool.false_or, Bool.or_true, Bool.or_false, go_sem, eI, eB, ↓reduceIte, Nat.reduceEqDiff, Nat.reduceAdd, Nat.reduceLeDiff, Nat.reduceMul, Nat.reduceBEq, Nat.reduceBneDiff, Nat.reduceLT, Nat.reduceSub, decide_true, decide_false, and_self, true_and, and_true, false_and, and_false, not_true_eq_false, not_false_eq_true, false_implies, true_implies, implies_true, ge_iff_le, Bool.false_eq_true, List.cons_append, List.nil_append]
  refine vc_on (α := Nat) [4, 5, 11, 12, 13, 14, 15, 16, 17, 18, 19, 20, 21, 22, 23, 24] (fun i => [(5, .im none (.sc (.int .i64 i)))]) (fun i => i ≤ ks.length ∧ eqL qE (ks.drop i) (ks'.drop i) = eqL qE ks ks') (fun i => ks.length - i) 0
    (by simp only [subEnv, go_sem, ↓reduceIte, Nat.reduceEqDiff]; simp) ⟨by simp, by simp⟩ ?_
  rintro i ⟨j1, j4⟩
  by_cases hi : i < ks.length
  · have hi2 : i < ks'.length := by omega
    have e1 := at_map (f := eE) hi
    have e2 := at_map (f := eE) hi2
    rw [List.drop_eq_getElem_cons hi, List.drop_eq_getElem_cons hi2] at j4
    simp only [eqL] at j4
    simp +contextual -implicitDefEqProofs only [e1, e2, hi, hi2, eE_size, Int.ofNat_lt, List.length_map, Int.natCast_nonneg, Nat.zero_lt_one, go_sem, eI, eB, ↓reduceIte, Nat.reduceEqDiff, Nat.reduceAdd, Nat.reduceLeDiff, Nat.reduceMul, Nat.reduceBEq, Nat.reduceBneDiff, Nat.reduceLT, Nat.reduceSub, decide_true, decide_false, and_self, true_and, and_true, false_and, and_false, not_true_eq_false, not_false_eq_true, false_implies, true_implies, implies_true, ge_iff_le, Bool.false_eq_true, List.cons_append, List.nil_append]
    refine callQ_self ?_ (hc1 ks[i] ks'[i]) ?_
    · exact rfl
    cases h : qE ks[i] ks'[i]
    · simp +contextual -implicitDefEqProofs only [eI, eB, Bool.not_false, go_sem, eI, eB, ↓reduceIte, Nat.reduceEqDiff, Nat.reduceAdd, Nat.reduceLeDiff, Nat.reduceMul, Nat.reduceBEq, Nat.reduceBneDiff, Nat.reduceLT, Nat.reduceSub, decide_true, decide_false, and_self, true_and, and_true, false_and, and_false, not_true_eq_false, not_false_eq_true, false_implies, true_implies, implies_true, ge_iff_le, Bool.false_eq_true, List.cons_append, List.nil_append]
      exact D.Le.sc_eq (by rw [← j4, h]; rfl)
    · simp +contextual -implicitDefEqProofs only [eI, eB, Bool.not_true, go_sem, eI, eB, ↓reduceIte, Nat.reduceEqDiff, Nat.reduceAdd, Nat.reduceLeDiff, Nat.reduceMul, Nat.reduceBEq, Nat.reduceBneDiff, Nat.reduceLT, Nat.reduceSub, decide_true, decide_false, and_self, true_and, and_true, false_and, and_false, not_true_eq_false, not_false_eq_true, false_implies, true_implies, implies_true, ge_iff_le, Bool.false_eq_true, List.cons_append, List.nil_append]
      rw [wrap_i64 (by omega) (by omega)]
      exact ⟨i + 1, ⟨by omega, eqL_step j4 h⟩, by omega, Ent.env (by simp only [subEnv, go_sem, ↓reduceIte, Nat.reduceEqDiff, List.length_map]; simp)⟩
  · simp +contextual -implicitDefEqProofs only [hi, Int.ofNat_lt, List.length_map, Int.natCast_nonneg, go_sem, eI, eB, ↓reduceIte, Nat.reduceEqDiff, Nat.reduceAdd, Nat.reduceLeDiff, Nat.reduceMul, Nat.reduceBEq, Nat.reduceBneDiff, Nat.reduceLT, Nat.reduceSub, decide_true, decide_false, and_self, true_and, and_true, false_and, and_false, not_true_eq_false, not_false_eq_true, false_implies, true_implies, implies_true, ge_iff_le, Bool.false_eq_true, List.cons_append, List.nil_append]
    refine D.Le.sc_eq ?_
    rw [← j4, List.drop_eq_nil_of_le (by omega), List.drop_eq_nil_of_le (by omega)]
    rfl

def k_l04SameStep (f1 f2 : Nat) : RC :=
 (.seq
  (.reg false [⟨none, .mv 4 (.c (.sc (.bool false)))⟩])
  ((.seq
   (.reg true [⟨none, .mv 5 (.t 0)⟩,
     ⟨none, .nck 6 (.t 5)⟩,
     ⟨none, .fa 7 0 (.t 6)⟩,
     ⟨none, .ld 8 false 1 (.t 7)⟩,
     ⟨none, .mv 9 (.t 1)⟩,
     ⟨none, .nck 10 (.t 9)⟩,
     ⟨none, .fa 11 0 (.t 10)⟩,
     ⟨none, .ld 12 false 1 (.t 11)⟩,
     ⟨none, .bin 13 .eql (.t 8) (.t 12)⟩,
     ⟨none, .mv 14 (.t 13)⟩,
     ⟨some (14, true), .mv 15 (.t 0)⟩,
     ⟨some (14, true), .nck 16 (.t 15)⟩,
     ⟨some (14, true), .fa 17 1 (.t 16)⟩,
     ⟨some (14, true), .ld 18 false 1 (.t 17)⟩,
     ⟨some (14, true), .mv 19 (.t 1)⟩,
     ⟨some (14, true), .nck 20 (.t 19)⟩,
     ⟨some (14, true), .fa 21 1 (.t 20)⟩,
     ⟨some (14, true), .ld 22 false 1 (.t 21)⟩,
     ⟨some (14, true), .beq 23 false (.t 18) (.t 22)⟩,
     ⟨none, .pick 24 (.t 14) (.t 23) (.c (.sc (.bool false)))⟩,
     ⟨none, .mv 25 (.t 24)⟩,
     ⟨some (25, true), .mv 26 (.t 0)⟩,
     ⟨some (25, true), .nck 27 (.t 26)⟩,
     ⟨some (25, true), .fa 28 2 (.t 27)⟩,
     ⟨some (25, true), .ld 29 false 1 (.t 28)⟩,
     ⟨some (25, true), .mv 30 (.t 1)⟩,
     ⟨some (25, true), .nck 31 (.t 30)⟩,
     ⟨some (25, true), .fa 32 2 (.t 31)⟩,
     ⟨some (25, true), .ld 33 false 1 (.t 32)⟩,
     ⟨some (25, true), .call (some 34) f1 [(.t 29), (.t 33)]⟩,
     ⟨none, .pick 35 (.t 25) (.t 34) (.c (.sc (.bool false)))⟩,
     ⟨none, .mv 36 (.t 35)⟩,
     ⟨some (36, true), .mv 37 (.t 0)⟩,
     ⟨some (36, true), .nck 38 (.t 37)⟩,
     ⟨some (36, true), .fa 39 3 (.t 38)⟩,
     ⟨some (36, true), .ld 40 false 1 (.t 39)⟩,
     ⟨some (36, true), .mv 41 (.t 1)⟩,
     ⟨some (36, true), .nck 42 (.t 41)⟩,
     ⟨some (36, true), .fa 43 3 (.t 42)⟩,
     ⟨some (36, true), .ld 44 false 1 (.t 43)⟩,
     ⟨some (36, true), .call (some 45) f2 [(.t 40), (.t 44)]⟩,
     ⟨none, .pick 46 (.t 36) (.t 45) (.c (.sc (.bool false)))⟩,
     ⟨none, .mv 47 (.t 46)⟩,
     ⟨some (47, true), .mv 48 (.t 0)⟩,
     ⟨some (47, true), .nck 49 (.t 48)⟩,
     ⟨some (47, true), .fa 50 4 (.t 49)⟩,
     ⟨some (47, true), .ld 51 false 1 (.t 50)⟩,
     ⟨some (47, true), .mv 52 (.t 1)⟩,
     ⟨some (47, true), .nck 53 (.t 52)⟩,
     ⟨some (47, true), .fa 54 4 (.t 53)⟩,
     ⟨some (47, true), .ld 55 false 1 (.t 54)⟩,
     ⟨some (47, true), .call (some 56) f2 [(.t 51), (.t 55)]⟩,
     ⟨none, .pick 57 (.t 47) (.t 56) (.c (.sc (.bool false)))⟩,
     ⟨none, .mv 4 (.t 57)⟩])
   (.ret))))
def K_l04SameStep (P : Program) (fno : Nat) : Prop := ∀ (a b : Stp), AF P fno [.pt (eSt a) 0, .pt (eSt b) 0] (.own (eB (qSt a b)))
theorem a_l04SameStep {P : Program} (hm : P.follows .mixedOrders = true) {g f1 f2 : Nat} (hr : resF P g = some (58, k_l04SameStep f1 f2, [.t 4])) (hc1 : resF P f1 = some (26, cEqS, [.t 4])) (hc2 : K_l04SameList P f2) : K_l04SameStep P g := by
  intro a b
  refine af_of_res hr hm rfl fun hb => ?_
  cases q1 : (a.1 == b.1)
  · simp +contextual -implicitDefEqProofs only [k_l04SameStep, eSt, qSt, q1, bne, Bool.not_true, Bool.not_false, Bool.true_and, Bool.false_and, Bool.and_true, Bool.and_false, Bool.true_or, Bool.false_or, Bool.or_true, Bool.or_false, go_sem, eI, eB, ↓reduceIte, Nat.reduceEqDiff, Nat.reduceAdd, Nat.reduceLeDiff, Nat.reduceMul, Nat.reduceBEq, Nat.reduceBneDiff, Nat.reduceLT, Nat.reduceSub, decide_true, decide_false, and_self, true_and, and_true, false_and, and_false, not_true_eq_false, not_false_eq_true, false_implies, true_implies, implies_true, ge_iff_le, Bool.false_eq_true, List.cons_append, List.nil_append]
  cases q2 : (a.2.1 == b.2.1)
  · simp +contextual -implicitDefEqProofs only [k_l04SameStep, eSt, qSt, q1, q2, bne, Bool.not_true, Bool.not_false, Bool.true_and, Bool.false_and, Bool.and_true, Bool.and_false, Bool.true_or, Bool.false_or, Bool.or_true, Bool.or_false, go_sem, eI, eB, ↓reduceIte, Nat.reduceEqDiff, Nat.reduceAdd, Nat.reduceLeDiff, Nat.reduceMul, Nat.reduceBEq, Nat.reduceBneDiff, Nat.reduceLT, Nat.reduceSub, decide_true, decide_false, and_self, true_and, and_true, false_and, and_false, not_true_eq_false, not_false_eq_true, false_implies, true_implies, implies_true, ge_iff_le, Bool.false_eq_true, List.cons_append, List.nil_append]
  simp +contextual -implicitDefEqProofs only [k_l04SameStep, eSt, qSt, q1, q2, bne, Bool.not_true, Bool.not_false, Bool.true_and, Bool.false_and, Bool.and_true, Bool.and_false, Bool.true_or, Bool.false_or, Bool.or_true, Bool.or_false, go_sem, eI, eB, ↓reduceIte, Nat.reduceEqDiff, Nat.reduceAdd, Nat.reduceLeDiff, Nat.reduceMul, Nat.reduceBEq, Nat.reduceBneDiff, Nat.reduceLT, Nat.reduceSub, decide_true, decide_false, and_self, true_and, and_true, false_and, and_false, not_true_eq_false, not_false_eq_true, false_implies, true_implies, implies_true, ge_iff_le, Bool.false_eq_true, List.cons_append, List.nil_append]
  refine callQ_self (ds := [eS 1 eI a.2.2.1, eS 1 eI b.2.2.1]) ?_ (af_eqS hm hc1 a.2.2.1 b.2.2.1) ?_
  · first | exact rfl | (simp only [eE_eta]; exact rfl)
  cases q3 : eqL (fun x y => x == y) a.2.2.1.2 b.2.2.1.2
  · simp +contextual -implicitDefEqProofs only [k_l04SameStep, eSt, qSt, q1, q2, q3, bne, Bool.not_true, Bool.not_false, Bool.true_and, Bool.false_and, Bool.and_true, Bool.and_false, Bool.true_or, Bool.false_or, Bool.or_true, Bool.or_false, go_sem, eI, eB, ↓reduceIte, Nat.reduceEqDiff, Nat.reduceAdd, Nat.reduceLeDiff, Nat.reduceMul, Nat.reduceBEq, Nat.reduceBneDiff, Nat.reduceLT, Nat.reduceSub, decide_true, decide_false, and_self, true_and, and_true, false_and, and_false, not_true_eq_false, not_false_eq_true, false_implies, true_implies, implies_true, ge_iff_le, Bool.false_eq_true, List.cons_append, List.nil_append]
  simp +contextual -implicitDefEqProofs only [k_l04SameStep, eSt, qSt, q1, q2, q3, bne, Bool.not_true, Bool.not_false, Bool.true_and, Bool.false_and, Bool.and_true, Bool.and_false, Bool.true_or, Bool.false_or, Bool.or_true, Bool.or_false, go_sem, eI, eB, ↓reduceIte, Nat.reduceEqDiff, Nat.reduceAdd, Nat.reduceLeDiff, Nat.reduceMul, Nat.reduceBEq, Nat.reduceBneDiff, Nat.reduceLT, Nat.reduceSub, decide_true, decide_false, and_self, true_and, and_true, false_and, and_false, not_true_eq_false, not_false_eq_true, false_implies, true_implies, implies_true, ge_iff_le, Bool.false_eq_true, List.cons_append, List.nil_append]
  refine callQ_self (ds := [eS 3 eE a.2.2.2.1, eS 3 eE b.2.2.2.1]) ?_ (hc2 a.2.2.2.1 b.2.2.2.1) ?_
  · first | exact rfl | (simp only [eE_eta]; exact rfl)
  cases q4 : eqL qE a.2.2.2.1.2 b.2.2.2.1.2
  · simp +contextual -implicitDefEqProofs only [k_l04SameStep, eSt, qSt, q1, q2, q3, q4, bne, Bool.not_true, Bool.not_false, Bool.true_and, Bool.false_and, Bool.and_true, Bool.and_false, Bool.true_or, Bool.false_or, Bool.or_true, Bool.or_false, go_sem, eI, eB, ↓reduceIte, Nat.reduceEqDiff, Nat.reduceAdd, Nat.reduceLeDiff, Nat.reduceMul, Nat.reduceBEq, Nat.reduceBneDiff, Nat.reduceLT, Nat.reduceSub, decide_true, decide_false, and_self, true_and, and_true, false_and, and_false, not_true_eq_false, not_false_eq_true, false_implies, true_implies, implies_true, ge_iff_le, Bool.false_eq_true, List.cons_append, List.nil_append]
  simp +contextual -implicitDefEqProofs only [k_l04SameStep, eSt, qSt, q1, q2, q3, q4, bne, Bool.not_true, Bool.not_false, Bool.true_and, Bool.false_and, Bool.and_true, Bool.and_false, Bool.true_or, Bool.false_or, Bool.or_true, Bool.or_false, go_sem, eI, eB, ↓reduceIte, Nat.reduceEqDiff, Nat.reduceAdd, Nat.reduceLeDiff, Nat.reduceMul, Nat.reduceBEq, Nat.reduceBneDiff, Nat.reduceLT, Nat.reduceSub, decide_true, decide_false, and_self, true_and, and_true, false_and, and_false, not_true_eq_false, not_false_eq_true, false_implies, true_implies, implies_true, ge_iff_le, Bool.false_eq_true, List.cons_append, List.nil_append]
  refine callQ_self (ds := [eS 3 eE a.2.2.2.2, eS 3 eE b.2.2.2.2]) ?_ (hc2 a.2.2.2.2 b.2.2.2.2) ?_
  · first | exact rfl | (simp only [eE_eta]; exact rfl)
  cases q5 : eqL qE a.2.2.2.2.2 b.2.2.2.2.2
  · simp +contextual -implicitDefEqProofs only [k_l04SameStep, eSt, qSt, q1, q2, q3, q4, q5, bne, Bool.not_true, Bool.not_false, Bool.true_and, Bool.false_and, Bool.and_true, Bool.and_false, Bool.true_or, Bool.false_or, Bool.or_true, Bool.or_false, go_sem, eI, eB, ↓reduceIte, Nat.reduceEqDiff, Nat.reduceAdd, Nat.reduceLeDiff, Nat.reduceMul, Nat.reduceBEq, Nat.reduceBneDiff, Nat.reduceLT, Nat.reduceSub, decide_true, decide_false, and_self, true_and, and_true, false_and, and_false, not_true_eq_false, not_false_eq_true, false_implies, true_implies, implies_true, ge_iff_le, Bool.false_eq_true, List.cons_append, List.nil_append]
  simp +contextual -implicitDefEqProofs only [k_l04SameStep, eSt, qSt, q1, q2, q3, q4, q5, bne, Bool.not_true, Bool.not_false, Bool.true_and, Bool.false_and, Bool.and_true, Bool.and_false, Bool.true_or, Bool.false_or, Bool.or_true, Bool.or_false, go_sem, eI, eB, ↓reduceIte, Nat.reduceEqDiff, Nat.reduceAdd, Nat.reduceLeDiff, Nat.reduceMul, Nat.reduceBEq, Nat.reduceBneDiff, Nat.reduceLT, Nat.reduceSub, decide_true, decide_false, and_self, true_and, and_true, false_and, and_false, not_true_eq_false, not_false_eq_true, false_implies, true_implies, implies_true, ge_iff_le, Bool.false_eq_true, List.cons_append, List.nil_append]

def k_l04SameSteps (f1 : Nat) : RC :=
 (.seq
  (.reg false [⟨none, .mv 4 (.c (.sc (.bool false)))⟩])
  ((.seq
   ((.seq
    (.reg false [⟨none, .mv 6 (.t 0)⟩,
      ⟨none, .len 7 (.t 6)⟩,
      ⟨none, .mv 8 (.t 1)⟩,
      ⟨none, .len 9 (.t 8)⟩,
      ⟨none, .bin 10 .neq (.t 7) (.t 9)⟩])
    (.cond (.t 10)
     ((.seq
      (.reg false [⟨none, .mv 4 (.c (.sc (.bool false)))⟩])
      (.ret)))
     (.skip))))
   ((.seq
    ((.seq
     (.reg false [⟨none, .mv 5 (.c (.sc (.int .i64 0)))⟩])
     (.blk 0
      (.loop
       ((.seq
        ((.seq
         (.reg false [⟨none, .mv 11 (.t 5)⟩,
           ⟨none, .mv 12 (.t 0)⟩,
           ⟨none, .len 13 (.t 12)⟩,
           ⟨none, .bin 14 .lss (.t 11) (.t 13)⟩])
         (.cond (.t 14)
          (.skip)
          (.exit 0))))
        ((.seq
         (.blk 1
          ((.seq
           (.reg true [⟨none, .mv 17 (.t 0)⟩,
             ⟨none, .mv 18 (.t 5)⟩,
             ⟨none, .ia 19 5 (.t 17) (.t 18)⟩,
             ⟨none, .mv 20 (.t 1)⟩,
             ⟨none, .mv 21 (.t 5)⟩,
             ⟨none, .ia 22 5 (.t 20) (.t 21)⟩,
             ⟨none, .call (some 23) f1 [(.t 19), (.t 22)]⟩,
             ⟨none, .un 24 .not (.t 23)⟩])
           (.cond (.t 24)
            ((.seq
             (.reg false [⟨none, .mv 4 (.c (.sc (.bool false)))⟩])
             (.ret)))
            (.skip)))))
         (.reg false [⟨none, .mv 15 (.t 5)⟩,
           ⟨none, .bin 16 .add (.t 15) (.c (.sc (.int .i64 1)))⟩,
           ⟨none, .mv 5 (.t 16)⟩])))))))))
    ((.seq
     (.reg false [⟨none, .mv 4 (.c (.sc (.bool true)))⟩])
     (.ret))))))))
def K_l04SameSteps (P : Program) (fno : Nat) : Prop := ∀ (a b : SL Stp), AF P fno [eS 5 eSt a, eS 5 eSt b] (.own (eB (eqL qSt a.2 b.2)))
theorem a_l04SameSteps {P : Program} (hm : P.follows .mixedOrders = true) {g f1 : Nat} (hr : resF P g = some (25, k_l04SameSteps f1, [.t 4])) (hc1 : K_l04SameStep P f1) : K_l04SameSteps P g := by
  intro a b
  obtain ⟨nn, ks⟩ := a
  obtain ⟨nn', ks'⟩ := b
  refine af_of_res hr hm rfl fun hb => ?_
  have hl := len_of_bd hb
  unfold maxEl at hl
  simp only [List.length_map] at hl
  cases h0 : ((ks.length : Int) == ks'.length)
  · simp +contextual -implicitDefEqProofs only [k_l04SameSteps, eS, h0, List.length_map, eqL_len (show ks.length ≠ ks'.length by simp at h0; omega), bne, Bool.not_true, Bool.not_false, Bool.true_and, Bool.false_and, Bool.and_true, Bool.and_false, Bool.true_or, Bool.false_or, Bool.or_true, Bool.or_false, go_sem, eI, eB, ↓reduceIte, Nat.reduceEqDiff, Nat.reduceAdd, Nat.reduceLeDiff, Nat.reduceMul, Nat.reduceBEq, Nat.reduceBneDiff, Nat.reduceLT, Nat.reduceSub, decide_true, decide_false, and_self, true_and, and_true, false_and, and_false, not_true_eq_false, not_false_eq_true, false_implies, true_implies, implies_true, ge_iff_le, Bool.false_eq_true, List.cons_append, List.nil_append]
  have hlen : ks.length = ks'.length := by simp at h0; omega
  simp +contextual -implicitDefEqProofs only [k_l04SameSteps, eS, h0, List.length_map, bne, Bool.not_true, Bool.not_false, Bool.true_and, Bool.false_and, Bool.and_true, Bool.and_false, Bool.true_or, Bool.false_or, Bool.or_true, Bool.or_false, go_sem, eI, eB, ↓reduceIte, Nat.reduceEqDiff, Nat.reduceAdd, Nat.reduceLeDiff, Nat.reduceMul, Nat.reduceBEq, Nat.reduceBneDiff, Nat.reduceLT, Nat.reduceSub, decide_true, decide_false, and_self, true_and, and_true, false_and, and_false, not_true_eq_false, not_false_eq_true, false_implies, true_implies, implies_true, ge_iff_le, Bool.false_eq_true, List.cons_append, List.nil_append]
  refine vc_on (α := Nat) [4, 5, 11, 12, 13, 14, 15, 16, 17, 18, 19, 20, 21, 22, 23, 24] (fun i => [(5, .im none (.sc (.int .i64 i)))]) (fun i => i ≤ ks.length ∧ eqL qSt (ks.drop i) (ks'.drop i) = eqL qSt ks ks') (fun i => ks.length - i) 0
    (by simp only [subEnv, go_sem, ↓reduceIte, Nat.reduceEqDiff]; simp) ⟨by simp, by simp⟩ ?_
  rintro i ⟨j1, j4⟩
  by_cases hi : i < ks.length
  · have hi2 : i < ks'.length := by omega
    have e1 := at_map (f := eSt) hi
    have e2 := at_map (f := eSt) hi2
    rw [List.drop_eq_getElem_cons hi, List.drop_eq_getElem_cons hi2] at j4
    simp only [eqL] at j4
    simp +contextual -implicitDefEqProofs only [e1, e2, hi, hi2, eSt_size, Int.ofNat_lt, List.length_map, Int.natCast_nonneg, Nat.zero_lt_one, go_sem, eI, eB, ↓reduceIte, Nat.reduceEqDiff, Nat.reduceAdd, Nat.reduceLeDiff, Nat.reduceMul, Nat.reduceBEq, Nat.reduceBneDiff, Nat.reduceLT, Nat.reduceSub, decide_true, decide_false, and_self, true_and, and_true, false_and, and_false, not_true_eq_false, not_false_eq_true, false_implies, true_implies, implies_true, ge_iff_le, Bool.false_eq_true, List.cons_append, List.nil_append]
    refine callQ_self ?_ (hc1 ks[i] ks'[i]) ?_
    · exact rfl
    cases h : qSt ks[i] ks'[i]
    · simp +contextual -implicitDefEqProofs only [eI, eB, Bool.not_false, go_sem, eI, eB, ↓reduceIte, Nat.reduceEqDiff, Nat.reduceAdd, Nat.reduceLeDiff, Nat.reduceMul, Nat.reduceBEq, Nat.reduceBneDiff, Nat.reduceLT, Nat.reduceSub, decide_true, decide_false, and_self, true_and, and_true, false_and, and_false, not_true_eq_false, not_false_eq_true, false_implies, true_implies, implies_true, ge_iff_le, Bool.false_eq_true, List.cons_append, List.nil_append]
      exact D.Le.sc_eq (by rw [← j4, h]; rfl)
    · simp +contextual -implicitDefEqProofs only [eI, eB, Bool.not_true, go_sem, eI, eB, ↓reduceIte, Nat.reduceEqDiff, Nat.reduceAdd, Nat.reduceLeDiff, Nat.reduceMul, Nat.reduceBEq, Nat.reduceBneDiff, Nat.reduceLT, Nat.reduceSub, decide_true, decide_false, and_self, true_and, and_true, false_and, and_false, not_true_eq_false, not_false_eq_true, false_implies, true_implies, implies_true, ge_iff_le, Bool.false_eq_true, List.cons_append, List.nil_append]
      rw [wrap_i64 (by omega) (by omega)]
      exact ⟨i + 1, ⟨by omega, eqL_step j4 h⟩, by omega, Ent.env (by simp only [subEnv, go_sem, ↓reduceIte, Nat.reduceEqDiff, List.length_map]; simp)⟩
  · simp +contextual -implicitDefEqProofs only [hi, Int.ofNat_lt, List.length_map, Int.natCast_nonneg, go_sem, eI, eB, ↓reduceIte, Nat.reduceEqDiff, Nat.reduceAdd, Nat.reduceLeDiff, Nat.reduceMul, Nat.reduceBEq, Nat.reduceBneDiff, Nat.reduceLT, Nat.reduceSub, decide_true, decide_false, and_self, true_and, and_true, false_and, and_false, not_true_eq_false, not_false_eq_true, false_implies, true_implies, implies_true, ge_iff_le, Bool.false_eq_true, List.cons_append, List.nil_append]
    refine D.Le.sc_eq ?_
    rw [← j4, List.drop_eq_nil_of_le (by omega), List.drop_eq_nil_of_le (by omega)]
    rfl

def k_sameExprs (f1 f2 : Nat) : RC :=
 (.seq
  (.reg false [⟨none, .mv 4 (.c (.sc (.bool false)))⟩])
  ((.seq
   (.reg false [⟨none, .mv 5 (.t 0)⟩,
     ⟨none, .mv 6 (.t 1)⟩,
     ⟨none, .call (some 7) f1 [(.t 5), (.t 6), (.c (.sc (.func (.func f2) #[] #[])))]⟩,
     ⟨none, .mv 4 (.t 7)⟩])
   (.ret))))
def K_sameExprs (P : Program) (fno : Nat) : Prop := ∀ (a b : SL Ex), AF P fno [eS 3 eE a, eS 3 eE b] (.own (eB (eqL qE a.2 b.2)))
theorem a_sameExprs {P : Program} (hm : P.follows .mixedOrders = true) {g f1 f2 : Nat} (hr : resF P g = some (8, k_sameExprs f1 f2, [.t 4])) (hc1 : resF P f1 = some (32, cEfA 3 (.ag [(.sc (.int .i64 0)), (.sc (.int .i64 0)), (.ls (some true) 3 [])]), [.t 6])) (hc2 : K_sameExpr P f2) : K_sameExprs P g := by
  intro a b
  refine af_of_res hr hm rfl fun hb => ?_
  simp +contextual -implicitDefEqProofs only [k_sameExprs, go_sem, eI, eB, ↓reduceIte, Nat.reduceEqDiff, Nat.reduceAdd, Nat.reduceLeDiff, Nat.reduceMul, Nat.reduceBEq, Nat.reduceBneDiff, Nat.reduceLT, Nat.reduceSub, decide_true, decide_false, and_self, true_and, and_true, false_and, and_false, not_true_eq_false, not_false_eq_true, false_implies, true_implies, implies_true, ge_iff_le, Bool.false_eq_true, List.cons_append, List.nil_append]
  refine callQ_self (ds := [eS 3 eE a, eS 3 eE b, .sc (.func (.func f2) #[] #[])]) ?_ (af_efA hm encE ⟨rfl, rfl⟩ rfl hc1 qE a b fun x _ y _ => hc2 x y) ?_
  · exact rfl
  simp +contextual -implicitDefEqProofs only [go_sem, eI, eB, ↓reduceIte, Nat.reduceEqDiff, Nat.reduceAdd, Nat.reduceLeDiff, Nat.reduceMul, Nat.reduceBEq, Nat.reduceBneDiff, Nat.reduceLT, Nat.reduceSub, decide_true, decide_false, and_self, true_and, and_true, false_and, and_false, not_true_eq_false, not_false_eq_true, false_implies, true_implies, implies_true, ge_iff_le, Bool.false_eq_true, List.cons_append, List.nil_append]

def k_sameStep (f1 f2 : Nat) : RC :=
 (.seq
  (.reg false [⟨none, .box 2 5 (.t 0)⟩,
    ⟨none, .box 3 5 (.t 1)⟩,
    ⟨none, .mv 4 (.c (.sc (.bool false)))⟩])
  ((.seq
   (.reg false [⟨none, .fa 5 0 (.t 2)⟩,
     ⟨none, .ld 6 false 1 (.t 5)⟩,
     ⟨none, .fa 7 0 (.t 3)⟩,
     ⟨none, .ld 8 false 1 (.t 7)⟩,
     ⟨none, .bin 9 .eql (.t 6) (.t 8)⟩,
     ⟨none, .mv 10 (.t 9)⟩,
     ⟨some (10, true), .fa 11 1 (.t 2)⟩,
     ⟨some (10, true), .ld 12 false 1 (.t 11)⟩,
     ⟨some (10, true), .fa 13 1 (.t 3)⟩,
     ⟨some (10, true), .ld 14 false 1 (.t 13)⟩,
     ⟨some (10, true), .beq 15 false (.t 12) (.t 14)⟩,
     ⟨none, .pick 16 (.t 10) (.t 15) (.c (.sc (.bool false)))⟩,
     ⟨none, .mv 17 (.t 16)⟩,
     ⟨some (17, true), .fa 18 2 (.t 2)⟩,
     ⟨some (17, true), .ld 19 false 1 (.t 18)⟩,
     ⟨some (17, true), .fa 20 2 (.t 3)⟩,
     ⟨some (17, true), .ld 21 false 1 (.t 20)⟩,
     ⟨some (17, true), .call (some 22) f1 [(.t 19), (.t 21)]⟩,
     ⟨none, .pick 23 (.t 17) (.t 22) (.c (.sc (.bool false)))⟩,
     ⟨none, .mv 24 (.t 23)⟩,
     ⟨some (24, true), .fa 25 3 (.t 2)⟩,
     ⟨some (24, true), .ld 26 false 1 (.t 25)⟩,
     ⟨some (24, true), .fa 27 3 (.t 3)⟩,
     ⟨some (24, true), .ld 28 false 1 (.t 27)⟩,
     ⟨some (24, true), .call (some 29) f2 [(.t 26), (.t 28)]⟩,
     ⟨none, .pick 30 (.t 24) (.t 29) (.c (.sc (.bool false)))⟩,
     ⟨none, .mv 31 (.t 30)⟩,
     ⟨some (31, true), .fa 32 4 (.t 2)⟩,
     ⟨some (31, true), .ld 33 false 1 (.t 32)⟩,
     ⟨some (31, true), .fa 34 4 (.t 3)⟩,
     ⟨some (31, true), .ld 35 false 1 (.t 34)⟩,
     ⟨some (31, true), .call (some 36) f2 [(.t 33), (.t 35)]⟩,
     ⟨none, .pick 37 (.t 31) (.t 36) (.c (.sc (.bool false)))⟩,
     ⟨none, .mv 4 (.t 37)⟩])
   (.ret))))
def K_sameStep (P : Program) (fno : Nat) : Prop := ∀ (a b : Stp), AF P fno [eSt a, eSt b] (.own (eB (qSt a b)))
theorem a_sameStep {P : Program} (hm : P.follows .mixedOrders = true) {g f1 f2 : Nat} (hr : resF P g = some (38, k_sameStep f1 f2, [.t 4])) (hc1 : resF P f1 = some (26, cSeI, [.t 4])) (hc2 : K_sameExprs P f2) : K_sameStep P g := by
  intro a b
  refine af_of_res hr hm rfl fun hb => ?_
  cases q1 : (a.1 == b.1)
  · simp +contextual -implicitDefEqProofs only [k_sameStep, eSt, qSt, q1, bne, Bool.not_true, Bool.not_false, Bool.true_and, Bool.false_and, Bool.and_true, Bool.and_false, Bool.true_or, Bool.false_or, Bool.or_true, Bool.or_false, go_sem, eI, eB, ↓reduceIte, Nat.reduceEqDiff, Nat.reduceAdd, Nat.reduceLeDiff, Nat.reduceMul, Nat.reduceBEq, Nat.reduceBneDiff, Nat.reduceLT, Nat.reduceSub, decide_true, decide_false, and_self, true_and, and_true, false_and, and_false, not_true_eq_false, not_false_eq_true, false_implies, true_implies, implies_true, ge_iff_le, Bool.false_eq_true, List.cons_append, List.nil_append]
  cases q2 : (a.2.1 == b.2.1)
  · simp +contextual -implicitDefEqProofs only [k_sameStep, eSt, qSt, q1, q2, bne, Bool.not_true, Bool.not_false, Bool.true_and, Bool.false_and, Bool.and_true, Bool.and_false, Bool.true_or, Bool.false_or, Bool.or_true, Bool.or_false, go_sem, eI, eB, ↓reduceIte, Nat.reduceEqDiff, Nat.reduceAdd, Nat.reduceLeDiff, Nat.reduceMul, Nat.reduceBEq, Nat.reduceBneDiff, Nat.reduceLT, Nat.reduceSub, decide_true, decide_false, and_self, true_and, and_true, false_and, and_false, not_true_eq_false, not_false_eq_true, false_implies, true_implies, implies_true, ge_iff_le, Bool.false_eq_true, List.cons_append, List.nil_append]
  simp +contextual -implicitDefEqProofs only [k_sameStep, eSt, qSt, q1, q2, bne, Bool.not_true, Bool.not_false, Bool.true_and, Bool.false_and, Bool.and_true, Bool.and_false, Bool.true_or, Bool.false_or, Bool.or_true, Bool.or_false, go_sem, eI, eB, ↓reduceIte, Nat.reduceEqDiff, Nat.reduceAdd, Nat.reduceLeDiff, Nat.reduceMul, Nat.reduceBEq, Nat.reduceBneDiff, Nat.reduceLT, Nat.reduceSub, decide_true, decide_false, and_self, true_and, and_true, false_and, and_false, not_true_eq_false, not_false_eq_true, false_implies, true_implies, implies_true, ge_iff_le, Bool.false_eq_true, List.cons_append, List.nil_append]
  refine callQ_self (ds := [eS 1 eI a.2.2.1, eS 1 eI b.2.2.1]) ?_ (af_seI hm hc1 a.2.2.1 b.2.2.1) ?_
  · first | exact rfl | (simp only [eE_eta]; exact rfl)
  cases q3 : eqL (fun x y => x == y) a.2.2.1.2 b.2.2.1.2
  · simp +contextual -implicitDefEqProofs only [k_sameStep, eSt, qSt, q1, q2, q3, bne, Bool.not_true, Bool.not_false, Bool.true_and, Bool.false_and, Bool.and_true, Bool.and_false, Bool.true_or, Bool.false_or, Bool.or_true, Bool.or_false, go_sem, eI, eB, ↓reduceIte, Nat.reduceEqDiff, Nat.reduceAdd, Nat.reduceLeDiff, Nat.reduceMul, Nat.reduceBEq, Nat.reduceBneDiff, Nat.reduceLT, Nat.reduceSub, decide_true, decide_false, and_self, true_and, and_true, false_and, and_false, not_true_eq_false, not_false_eq_true, false_implies, true_implies, implies_true, ge_iff_le, Bool.false_eq_true, List.cons_append, List.nil_append]
  simp +contextual -implicitDefEqProofs only [k_sameStep, eSt, qSt, q1, q2, q3, bne, Bool.not_true, Bool.not_false, Bool.true_and, Bool.false_and, Bool.and_true, Bool.and_false, Bool.true_or, Bool.false_or, Bool.or_true, Bool.or_false, go_sem, eI, eB, ↓reduceIte, Nat.reduceEqDiff, Nat.reduceAdd, Nat.reduceLeDiff, Nat.reduceMul, Nat.reduceBEq, Nat.reduceBneDiff, Nat.reduceLT, Nat.reduceSub, decide_true, decide_false, and_self, true_and, and_true, false_and, and_false, not_true_eq_false, not_false_eq_true, false_implies, true_implies, implies_true, ge_iff_le, Bool.false_eq_true, List.cons_append, List.nil_append]
  refine callQ_self (ds := [eS 3 eE a.2.2.2.1, eS 3 eE b.2.2.2.1]) ?_ (hc2 a.2.2.2.1 b.2.2.2.1) ?_
  · first | exact rfl | (simp only [eE_eta]; exact rfl)
  cases q4 : eqL qE a.2.2.2.1.2 b.2.2.2.1.2
  · simp +contextual -implicitDefEqProofs only [k_sameStep, eSt, qSt, q1, q2, q3, q4, bne, Bool.not_true, Bool.not_false, Bool.true_and, Bool.false_and, Bool.and_true, Bool.and_false, Bool.true_or, Bool.false_or, Bool.or_true, Bool.or_false, go_sem, eI, eB, ↓reduceIte, Nat.reduceEqDiff, Nat.reduceAdd, Nat.reduceLeDiff, Nat.reduceMul, Nat.reduceBEq, Nat.reduceBneDiff, Nat.reduceLT, Nat.reduceSub, decide_true, decide_false, and_self, true_and, and_true, false_and, and_false, not_true_eq_false, not_false_eq_true, false_implies, true_implies, implies_true, ge_iff_le, Bool.false_eq_true, List.cons_append, List.nil_append]
  simp +contextual -implicitDefEqProofs only [k_sameStep, eSt, qSt, q1, q2, q3, q4, bne, Bool.not_true, Bool.not_false, Bool.true_and, Bool.false_and, Bool.and_true, Bool.and_false, Bool.true_or, Bool.false_or, Bool.or_true, Bool.or_false, go_sem, eI, eB, ↓reduceIte, Nat.reduceEqDiff, Nat.reduceAdd, Nat.reduceLeDiff, Nat.reduceMul, Nat.reduceBEq, Nat.reduceBneDiff, Nat.reduceLT, Nat.reduceSub, decide_true, decide_false, and_self, true_and, and_true, false_and, and_false, not_true_eq_false, not_false_eq_true, false_implies, true_implies, implies_true, ge_iff_le, Bool.false_eq_true, List.cons_append, List.nil_append]
  refine callQ_self (ds := [eS 3 eE a.2.2.2.2, eS 3 eE b.2.2.2.2]) ?_ (hc2 a.2.2.2.2 b.2.2.2.2) ?_
  · first | exact rfl | (simp only [eE_eta]; exact rfl)
  cases q5 : eqL qE a.2.2.2.2.2 b.2.2.2.2.2
  · simp +contextual -implicitDefEqProofs only [k_sameStep, eSt, qSt, q1, q2, q3, q4, q5, bne, Bool.not_true, Bool.not_false, Bool.true_and, Bool.false_and, Bool.and_true, Bool.and_false, Bool.true_or, Bool.false_or, Bool.or_true, Bool.or_false, go_sem, eI, eB, ↓reduceIte, Nat.reduceEqDiff, Nat.reduceAdd, Nat.reduceLeDiff, Nat.reduceMul, Nat.reduceBEq, Nat.reduceBneDiff, Nat.reduceLT, Nat.reduceSub, decide_true, decide_false, and_self, true_and, and_true, false_and, and_false, not_true_eq_false, not_false_eq_true, false_implies, true_implies, implies_true, ge_iff_le, Bool.false_eq_true, List.cons_append, List.nil_append]
  simp +contextual -implicitDefEqProofs only [k_sameStep, eSt, qSt, q1, q2, q3, q4, q5, bne, Bool.not_true, Bool.not_false, Bool.true_and, Bool.false_and, Bool.and_true, Bool.and_false, Bool.true_or, Bool.false_or, Bool.or_true, Bool.or_false, go_sem, eI, eB, ↓reduceIte, Nat.reduceEqDiff, Nat.reduceAdd, Nat.reduceLeDiff, Nat.reduceMul, Nat.reduceBEq, Nat.reduceBneDiff, Nat.reduceLT, Nat.reduceSub, decide_true, decide_false, and_self, true_and, and_true, false_and, and_false, not_true_eq_false, not_false_eq_true, false_implies, true_implies, implies_true, ge_iff_le, Bool.false_eq_true, List.cons_append, List.nil_append]

def k_sameClaim (f1 f2 f3 : Nat) : RC :=
 (.seq
  (.reg false [⟨none, .box 2 9 (.t 0)⟩,
    ⟨none, .box 3 9 (.t 1)⟩,
    ⟨none, .mv 4 (.c (.sc (.bool false)))⟩])
  ((.seq
   (.reg false [⟨none, .fa 5 0 (.t 2)⟩,
     ⟨none, .ld 6 true 3 (.t 5)⟩,
     ⟨none, .fa 7 0 (.t 3)⟩,
     ⟨none, .ld 8 true 3 (.t 7)⟩,
     ⟨none, .call (some 9) f1 [(.t 6), (.t 8)]⟩,
     ⟨none, .mv 10 (.t 9)⟩,
     ⟨some (10, true), .fa 11 3 (.t 2)⟩,
     ⟨some (10, true), .ld 12 true 3 (.t 11)⟩,
     ⟨some (10, true), .fa 13 3 (.t 3)⟩,
     ⟨some (10, true), .ld 14 true 3 (.t 13)⟩,
     ⟨some (10, true), .call (some 15) f1 [(.t 12), (.t 14)]⟩,
     ⟨none, .pick 16 (.t 10) (.t 15) (.c (.sc (.bool false)))⟩,
     ⟨none, .mv 17 (.t 16)⟩,
     ⟨some (17, true), .fa 18 6 (.t 2)⟩,
     ⟨some (17, true), .ld 19 false 1 (.t 18)⟩,
     ⟨some (17, true), .fa 20 6 (.t 3)⟩,
     ⟨some (17, true), .ld 21 false 1 (.t 20)⟩,
     ⟨some (17, true), .bin 22 .eql (.t 19) (.t 21)⟩,
     ⟨none, .pick 23 (.t 17) (.t 22) (.c (.sc (.bool false)))⟩,
     ⟨none, .mv 24 (.t 23)⟩,
     ⟨some (24, true), .fa 25 7 (.t 2)⟩,
     ⟨some (24, true), .ld 26 false 1 (.t 25)⟩,
     ⟨some (24, true), .fa 27 7 (.t 3)⟩,
     ⟨some (24, true), .ld 28 false 1 (.t 27)⟩,
     ⟨some (24, true), .bin 29 .eql (.t 26) (.t 28)⟩,
     ⟨none, .pick 30 (.t 24) (.t 29) (.c (.sc (.bool false)))⟩,
     ⟨none, .mv 31 (.t 30)⟩,
     ⟨some (31, true), .fa 32 8 (.t 2)⟩,
     ⟨some (31, true), .ld 33 false 1 (.t 32)⟩,
     ⟨some (31, true), .fa 34 8 (.t 3)⟩,
     ⟨some (31, true), .ld 35 false 1 (.t 34)⟩,
     ⟨some (31, true), .call (some 36) f2 [(.t 33), (.t 35), (.c (.sc (.func (.func f3) #[] #[])))]⟩,
     ⟨none, .pick 37 (.t 31) (.t 36) (.c (.sc (.bool false)))⟩,
     ⟨none, .mv 4 (.t 37)⟩])
   (.ret))))
def K_sameClaim (P : Program) (fno : Nat) : Prop := ∀ (a b : Cl), AF P fno [eCl a, eCl b] (.own (eB (qCl a b)))
theorem a_sameClaim {P : Program} (hm : P.follows .mixedOrders = true) {g f1 f2 f3 : Nat} (hr : resF P g = some (38, k_sameClaim f1 f2 f3, [.t 4])) (hc1 : K_sameExpr P f1) (hc2 : resF P f2 = some (32, cEfA 5 (.ag [(.sc (.int .i64 0)), (.sc (.bool false)), (.ls (some true) 1 []), (.ls (some true) 3 []), (.ls (some true) 3 [])]), [.t 6])) (hc3 : K_sameStep P f3) : K_sameClaim P g := by
  intro a b
  refine af_of_res hr hm rfl fun hb => ?_
  simp +contextual -implicitDefEqProofs only [k_sameClaim, eCl, qCl, bne, Bool.not_true, Bool.not_false, Bool.true_and, Bool.false_and, Bool.and_true, Bool.and_false, Bool.true_or, Bool.false_or, Bool.or_true, Bool.or_false, go_sem, eI, eB, ↓reduceIte, Nat.reduceEqDiff, Nat.reduceAdd, Nat.reduceLeDiff, Nat.reduceMul, Nat.reduceBEq, Nat.reduceBneDiff, Nat.reduceLT, Nat.reduceSub, decide_true, decide_false, and_self, true_and, and_true, false_and, and_false, not_true_eq_false, not_false_eq_true, false_implies, true_implies, implies_true, ge_iff_le, Bool.false_eq_true, List.cons_append, List.nil_append]
  refine callQ_self (ds := [eE a.1, eE b.1]) ?_ (hc1 a.1 b.1) ?_
  · first | exact rfl | (simp only [eE_eta]; exact rfl)
  cases q1 : qE a.1 b.1
  · simp +contextual -implicitDefEqProofs only [k_sameClaim, eCl, qCl, q1, bne, Bool.not_true, Bool.not_false, Bool.true_and, Bool.false_and, Bool.and_true, Bool.and_false, Bool.true_or, Bool.false_or, Bool.or_true, Bool.or_false, go_sem, eI, eB, ↓reduceIte, Nat.reduceEqDiff, Nat.reduceAdd, Nat.reduceLeDiff, Nat.reduceMul, Nat.reduceBEq, Nat.reduceBneDiff, Nat.reduceLT, Nat.reduceSub, decide_true, decide_false, and_self, true_and, and_true, false_and, and_false, not_true_eq_false, not_false_eq_true, false_implies, true_implies, implies_true, ge_iff_le, Bool.false_eq_true, List.cons_append, List.nil_append]
  simp +contextual -implicitDefEqProofs only [k_sameClaim, eCl, qCl, q1, bne, Bool.not_true, Bool.not_false, Bool.true_and, Bool.false_and, Bool.and_true, Bool.and_false, Bool.true_or, Bool.false_or, Bool.or_true, Bool.or_false, go_sem, eI, eB, ↓reduceIte, Nat.reduceEqDiff, Nat.reduceAdd, Nat.reduceLeDiff, Nat.reduceMul, Nat.reduceBEq, Nat.reduceBneDiff, Nat.reduceLT, Nat.reduceSub, decide_true, decide_false, and_self, true_and, and_true, false_and, and_false, not_true_eq_false, not_false_eq_true, false_implies, true_implies, implies_true, ge_iff_le, Bool.false_eq_true, List.cons_append, List.nil_append]
  refine callQ_self (ds := [eE a.2.1, eE b.2.1]) ?_ (hc1 a.2.1 b.2.1) ?_
  · first | exact rfl | (simp only [eE_eta]; exact rfl)
  cases q2 : qE a.2.1 b.2.1
  · simp +contextual -implicitDefEqProofs only [k_sameClaim, eCl, qCl, q1, q2, bne, Bool.not_true, Bool.not_false, Bool.true_and, Bool.false_and, Bool.and_true, Bool.and_false, Bool.true_or, Bool.false_or, Bool.or_true, Bool.or_false, go_sem, eI, eB, ↓reduceIte, Nat.reduceEqDiff, Nat.reduceAdd, Nat.reduceLeDiff, Nat.reduceMul, Nat.reduceBEq, Nat.reduceBneDiff, Nat.reduceLT, Nat.reduceSub, decide_true, decide_false, and_self, true_and, and_true, false_and, and_false, not_true_eq_false, not_false_eq_true, false_implies, true_implies, implies_true, ge_iff_le, Bool.false_eq_true, List.cons_append, List.nil_append]
  cases q3 : (a.2.2.1 == b.2.2.1)
  · simp +contextual -implicitDefEqProofs only [k_sameClaim, eCl, qCl, q1, q2, q3, bne, Bool.not_true, Bool.not_false, Bool.true_and, Bool.false_and, Bool.and_true, Bool.and_false, Bool.true_or, Bool.false_or, Bool.or_true, Bool.or_false, go_sem, eI, eB, ↓reduceIte, Nat.reduceEqDiff, Nat.reduceAdd, Nat.reduceLeDiff, Nat.reduceMul, Nat.reduceBEq, Nat.reduceBneDiff, Nat.reduceLT, Nat.reduceSub, decide_true, decide_false, and_self, true_and, and_true, false_and, and_false, not_true_eq_false, not_false_eq_true, false_implies, true_implies, implies_true, ge_iff_le, Bool.false_eq_true, List.cons_append, List.nil_append]
  cases q4 : (a.2.2.2.1 == b.2.2.2.1)
  · simp +contextual -implicitDefEqProofs only [k_sameClaim, eCl, qCl, q1, q2, q3, q4, bne, Bool.not_true, Bool.not_false, Bool.true_and, Bool.false_and, Bool.and_true, Bool.and_false, Bool.true_or, Bool.false_or, Bool.or_true, Bool.or_false, go_sem, eI, eB, ↓reduceIte, Nat.reduceEqDiff, Nat.reduceAdd, Nat.reduceLeDiff, Nat.reduceMul, Nat.reduceBEq, Nat.reduceBneDiff, Nat.reduceLT, Nat.reduceSub, decide_true, decide_false, and_self, true_and, and_true, false_and, and_false, not_true_eq_false, not_false_eq_true, false_implies, true_implies, implies_true, ge_iff_le, Bool.false_eq_true, List.cons_append, List.nil_append]
  simp +contextual -implicitDefEqProofs only [k_sameClaim, eCl, qCl, q1, q2, q3, q4, bne, Bool.not_true, Bool.not_false, Bool.true_and, Bool.false_and, Bool.and_true, Bool.and_false, Bool.true_or, Bool.false_or, Bool.or_true, Bool.or_false, go_sem, eI, eB, ↓reduceIte, Nat.reduceEqDiff, Nat.reduceAdd, Nat.reduceLeDiff, Nat.reduceMul, Nat.reduceBEq, Nat.reduceBneDiff, Nat.reduceLT, Nat.reduceSub, decide_true, decide_false, and_self, true_and, and_true, false_and, and_false, not_true_eq_false, not_false_eq_true, false_implies, true_implies, implies_true, ge_iff_le, Bool.false_eq_true, List.cons_append, List.nil_append]
  refine callQ_self (ds := [eS 5 eSt a.2.2.2.2, eS 5 eSt b.2.2.2.2, .sc (.func (.func f3) #[] #[])]) ?_ (af_efA hm encSt ⟨rfl, rfl⟩ rfl hc2 qSt a.2.2.2.2 b.2.2.2.2 fun x _ y _ => hc3 x y) ?_
  · first | exact rfl | (simp only [eE_eta]; exact rfl)
  cases q5 : eqL qSt a.2.2.2.2.2 b.2.2.2.2.2
  · simp +contextual -implicitDefEqProofs only [k_sameClaim, eCl, qCl, q1, q2, q3, q4, q5, bne, Bool.not_true, Bool.not_false, Bool.true_and, Bool.false_and, Bool.and_true, Bool.and_false, Bool.true_or, Bool.false_or, Bool.or_true, Bool.or_false, go_sem, eI, eB, ↓reduceIte, Nat.reduceEqDiff, Nat.reduceAdd, Nat.reduceLeDiff, Nat.reduceMul, Nat.reduceBEq, Nat.reduceBneDiff, Nat.reduceLT, Nat.reduceSub, decide_true, decide_false, and_self, true_and, and_true, false_and, and_false, not_true_eq_false, not_false_eq_true, false_implies, true_implies, implies_true, ge_iff_le, Bool.false_eq_true, List.cons_append, List.nil_append]
  simp +contextual -implicitDefEqProofs only [k_sameClaim, eCl, qCl, q1, q2, q3, q4, q5, bne, Bool.not_true, Bool.not_false, Bool.true_and, Bool.false_and, Bool.and_true, Bool.and_false, Bool.true_or, Bool.false_or, Bool.or_true, Bool.or_false, go_sem, eI, eB, ↓reduceIte, Nat.reduceEqDiff, Nat.reduceAdd, Nat.reduceLeDiff, Nat.reduceMul, Nat.reduceBEq, Nat.reduceBneDiff, Nat.reduceLT, Nat.reduceSub, decide_true, decide_false, and_self, true_and, and_true, false_and, and_false, not_true_eq_false, not_false_eq_true, false_implies, true_implies, implies_true, ge_iff_le, Bool.false_eq_true, List.cons_append, List.nil_append]

def k_imSameProof (f1 f2 : Nat) : RC :=
 (.seq
  (.reg false [⟨none, .box 2 3 (.t 0)⟩,
    ⟨none, .box 3 3 (.t 1)⟩,
    ⟨none, .mv 4 (.c (.sc (.bool false)))⟩])
  ((.seq
   (.reg false [⟨none, .fa 5 0 (.t 2)⟩,
     ⟨none, .ld 6 true 2 (.t 5)⟩,
     ⟨none, .fa 7 0 (.t 3)⟩,
     ⟨none, .ld 8 true 2 (.t 7)⟩,
     ⟨none, .ceq 9 false 2 (.t 6) (.t 8)⟩,
     ⟨none, .mv 10 (.t 9)⟩,
     ⟨some (10, true), .fa 11 2 (.t 2)⟩,
     ⟨some (10, true), .ld 12 false 1 (.t 11)⟩,
     ⟨some (10, true), .fa 13 2 (.t 3)⟩,
     ⟨some (10, true), .ld 14 false 1 (.t 13)⟩,
     ⟨some (10, true), .call (some 15) f1 [(.t 12), (.t 14), (.c (.sc (.func (.func f2) #[] #[])))]⟩,
     ⟨none, .pick 16 (.t 10) (.t 15) (.c (.sc (.bool false)))⟩,
     ⟨none, .mv 4 (.t 16)⟩])
   (.ret))))
def K_imSameProof (P : Program) (fno : Nat) : Prop := ∀ (a b : Pf), AF P fno [ePf a, ePf b] (.own (eB (qPf a b)))
theorem a_imSameProof {P : Program} (hm : P.follows .mixedOrders = true) {g f1 f2 : Nat} (hr : resF P g = some (17, k_imSameProof f1 f2, [.t 4])) (hc1 : resF P f1 = some (32, cEfA 9 (.ag [(.sc (.int .i64 0)), (.sc (.int .i64 0)), (.ls (some true) 3 []), (.sc (.int .i64 0)), (.sc (.int .i64 0)), (.ls (some true) 3 []), (.sc (.int .i64 0)), (.sc (.int .i64 0)), (.ls (some true) 5 [])]), [.t 6])) (hc2 : K_sameClaim P f2) : K_imSameProof P g := by
  intro a b
  refine af_of_res hr hm rfl fun hb => ?_
  cases q1 : (a.1.1 == b.1.1)
  · simp +contextual -implicitDefEqProofs only [k_imSameProof, ePf, qPf, q1, bne, Bool.not_true, Bool.not_false, Bool.true_and, Bool.false_and, Bool.and_true, Bool.and_false, Bool.true_or, Bool.false_or, Bool.or_true, Bool.or_false, go_sem, eI, eB, ↓reduceIte, Nat.reduceEqDiff, Nat.reduceAdd, Nat.reduceLeDiff, Nat.reduceMul, Nat.reduceBEq, Nat.reduceBneDiff, Nat.reduceLT, Nat.reduceSub, decide_true, decide_false, and_self, true_and, and_true, false_and, and_false, not_true_eq_false, not_false_eq_true, false_implies, true_implies, implies_true, ge_iff_le, Bool.false_eq_true, List.cons_append, List.nil_append]
  cases q2 : (a.1.2 == b.1.2)
  · simp +contextual -implicitDefEqProofs only [k_imSameProof, ePf, qPf, q1, q2, bne, Bool.not_true, Bool.not_false, Bool.true_and, Bool.false_and, Bool.and_true, Bool.and_false, Bool.true_or, Bool.false_or, Bool.or_true, Bool.or_false, go_sem, eI, eB, ↓reduceIte, Nat.reduceEqDiff, Nat.reduceAdd, Nat.reduceLeDiff, Nat.reduceMul, Nat.reduceBEq, Nat.reduceBneDiff, Nat.reduceLT, Nat.reduceSub, decide_true, decide_false, and_self, true_and, and_true, false_and, and_false, not_true_eq_false, not_false_eq_true, false_implies, true_implies, implies_true, ge_iff_le, Bool.false_eq_true, List.cons_append, List.nil_append]
  simp +contextual -implicitDefEqProofs only [k_imSameProof, ePf, qPf, q1, q2, bne, Bool.not_true, Bool.not_false, Bool.true_and, Bool.false_and, Bool.and_true, Bool.and_false, Bool.true_or, Bool.false_or, Bool.or_true, Bool.or_false, go_sem, eI, eB, ↓reduceIte, Nat.reduceEqDiff, Nat.reduceAdd, Nat.reduceLeDiff, Nat.reduceMul, Nat.reduceBEq, Nat.reduceBneDiff, Nat.reduceLT, Nat.reduceSub, decide_true, decide_false, and_self, true_and, and_true, false_and, and_false, not_true_eq_false, not_false_eq_true, false_implies, true_implies, implies_true, ge_iff_le, Bool.false_eq_true, List.cons_append, List.nil_append]
  refine callQ_self (ds := [eS 9 eCl a.2, eS 9 eCl b.2, .sc (.func (.func f2) #[] #[])]) ?_ (af_efA hm encCl ⟨rfl, rfl⟩ rfl hc1 qCl a.2 b.2 fun x _ y _ => hc2 x y) ?_
  · first | exact rfl | (simp only [eE_eta]; exact rfl)
  cases q3 : eqL qCl a.2.2 b.2.2
  · simp +contextual -implicitDefEqProofs only [k_imSameProof, ePf, qPf, q1, q2, q3, bne, Bool.not_true, Bool.not_false, Bool.true_and, Bool.false_and, Bool.and_true, Bool.and_false, Bool.true_or, Bool.false_or, Bool.or_true, Bool.or_false, go_sem, eI, eB, ↓reduceIte, Nat.reduceEqDiff, Nat.reduceAdd, Nat.reduceLeDiff, Nat.reduceMul, Nat.reduceBEq, Nat.reduceBneDiff, Nat.reduceLT, Nat.reduceSub, decide_true, decide_false, and_self, true_and, and_true, false_and, and_false, not_true_eq_false, not_false_eq_true, false_implies, true_implies, implies_true, ge_iff_le, Bool.false_eq_true, List.cons_append, List.nil_append]
  simp +contextual -implicitDefEqProofs only [k_imSameProof, ePf, qPf, q1, q2, q3, bne, Bool.not_true, Bool.not_false, Bool.true_and, Bool.false_and, Bool.and_true, Bool.and_false, Bool.true_or, Bool.false_or, Bool.or_true, Bool.or_false, go_sem, eI, eB, ↓reduceIte, Nat.reduceEqDiff, Nat.reduceAdd, Nat.reduceLeDiff, Nat.reduceMul, Nat.reduceBEq, Nat.reduceBneDiff, Nat.reduceLT, Nat.reduceSub, decide_true, decide_false, and_self, true_and, and_true, false_and, and_false, not_true_eq_false, not_false_eq_true, false_implies, true_implies, implies_true, ge_iff_le, Bool.false_eq_true, List.cons_append, List.nil_append]

def k_spSameProof (f1 f2 : Nat) : RC :=
 (.seq
  (.reg false [⟨none, .box 2 3 (.t 0)⟩,
    ⟨none, .box 3 3 (.t 1)⟩,
    ⟨none, .mv 4 (.c (.sc (.bool false)))⟩])
  ((.seq
   ((.seq
    (.reg false [⟨none, .fa 8 0 (.t 2)⟩,
      ⟨none, .ld 9 true 2 (.t 8)⟩,
      ⟨none, .fa 10 0 (.t 3)⟩,
      ⟨none, .ld 11 true 2 (.t 10)⟩,
      ⟨none, .ceq 12 true 2 (.t 9) (.t 11)⟩,
      ⟨none, .mv 13 (.t 12)⟩,
      ⟨some (13, false), .fa 14 2 (.t 2)⟩,
      ⟨some (13, false), .ld 15 false 1 (.t 14)⟩,
      ⟨some (13, false), .len 16 (.t 15)⟩,
      ⟨some (13, false), .fa 17 2 (.t 3)⟩,
      ⟨some (13, false), .ld 18 false 1 (.t 17)⟩,
      ⟨some (13, false), .len 19 (.t 18)⟩,
      ⟨some (13, false), .bin 20 .neq (.t 16) (.t 19)⟩,
      ⟨none, .pick 21 (.t 13) (.c (.sc (.bool true))) (.t 20)⟩])
    (.cond (.t 21)
     ((.seq
      (.reg false [⟨none, .mv 4 (.c (.sc (.bool false)))⟩])
      (.ret)))
     (.skip))))
   ((.seq
    ((.seq
     (.reg false [⟨none, .mv 5 (.c (.sc (.int .i64 0)))⟩])
     (.blk 0
      (.loop
       ((.seq
        ((.seq
         (.reg false [⟨none, .mv 22 (.t 5)⟩,
           ⟨none, .fa 23 2 (.t 2)⟩,
           ⟨none, .ld 24 false 1 (.t 23)⟩,
           ⟨none, .len 25 (.t 24)⟩,
           ⟨none, .bin 26 .lss (.t 22) (.t 25)⟩])
         (.cond (.t 26)
          (.skip)
          (.exit 0))))
        ((.seq
         (.blk 1
          ((.seq
           (.reg false [⟨none, .fa 29 2 (.t 2)⟩,
             ⟨none, .ld 30 false 1 (.t 29)⟩,
             ⟨none, .mv 31 (.t 5)⟩,
             ⟨none, .ia 32 9 (.t 30) (.t 31)⟩,
             ⟨none, .mv 6 (.t 32)⟩])
           ((.seq
            (.reg false [⟨none, .fa 33 2 (.t 3)⟩,
              ⟨none, .ld 34 false 1 (.t 33)⟩,
              ⟨none, .mv 35 (.t 5)⟩,
              ⟨none, .ia 36 9 (.t 34) (.t 35)⟩,
              ⟨none, .mv 7 (.t 36)⟩])
            ((.seq
             (.reg true [⟨none, .mv 37 (.t 6)⟩,
               ⟨none, .nck 38 (.t 37)⟩,
               ⟨none, .fa 39 0 (.t 38)⟩,
               ⟨none, .mv 40 (.t 7)⟩,
               ⟨none, .nck 41 (.t 40)⟩,
               ⟨none, .fa 42 0 (.t 41)⟩,
               ⟨none, .call (some 43) f1 [(.t 39), (.t 42)]⟩,
               ⟨none, .un 44 .not (.t 43)⟩,
               ⟨none, .mv 45 (.t 44)⟩,
               ⟨some (45, false), .mv 46 (.t 6)⟩,
               ⟨some (45, false), .nck 47 (.t 46)⟩,
               ⟨some (45, false), .fa 48 3 (.t 47)⟩,
               ⟨some (45, false), .mv 49 (.t 7)⟩,
               ⟨some (45, false), .nck 50 (.t 49)⟩,
               ⟨some (45, false), .fa 51 3 (.t 50)⟩,
               ⟨some (45, false), .call (some 52) f1 [(.t 48), (.t 51)]⟩,
               ⟨some (45, false), .un 53 .not (.t 52)⟩,
               ⟨none, .pick 54 (.t 45) (.c (.sc (.bool true))) (.t 53)⟩,
               ⟨none, .mv 55 (.t 54)⟩,
               ⟨some (55, false), .mv 56 (.t 6)⟩,
               ⟨some (55, false), .nck 57 (.t 56)⟩,
               ⟨some (55, false), .fa 58 6 (.t 57)⟩,
               ⟨some (55, false), .ld 59 false 1 (.t 58)⟩,
               ⟨some (55, false), .mv 60 (.t 7)⟩,
               ⟨some (55, false), .nck 61 (.t 60)⟩,
               ⟨some (55, false), .fa 62 6 (.t 61)⟩,
               ⟨some (55, false), .ld 63 false 1 (.t 62)⟩,
               ⟨some (55, false), .bin 64 .neq (.t 59) (.t 63)⟩,
               ⟨none, .pick 65 (.t 55) (.c (.sc (.bool true))) (.t 64)⟩,
               ⟨none, .mv 66 (.t 65)⟩,
               ⟨some (66, false), .mv 67 (.t 6)⟩,
               ⟨some (66, false), .nck 68 (.t 67)⟩,
               ⟨some (66, false), .fa 69 7 (.t 68)⟩,
               ⟨some (66, false), .ld 70 false 1 (.t 69)⟩,
               ⟨some (66, false), .mv 71 (.t 7)⟩,
               ⟨some (66, false), .nck 72 (.t 71)⟩,
               ⟨some (66, false), .fa 73 7 (.t 72)⟩,
               ⟨some (66, false), .ld 74 false 1 (.t 73)⟩,
               ⟨some (66, false), .bin 75 .neq (.t 70) (.t 74)⟩,
               ⟨none, .pick 76 (.t 66) (.c (.sc (.bool true))) (.t 75)⟩,
               ⟨none, .mv 77 (.t 76)⟩,
               ⟨some (77, false), .mv 78 (.t 6)⟩,
               ⟨some (77, false), .nck 79 (.t 78)⟩,
               ⟨some (77, false), .fa 80 8 (.t 79)⟩,
               ⟨some (77, false), .ld 81 false 1 (.t 80)⟩,
               ⟨some (77, false), .mv 82 (.t 7)⟩,
               ⟨some (77, false), .nck 83 (.t 82)⟩,
               ⟨some (77, false), .fa 84 8 (.t 83)⟩,
               ⟨some (77, false), .ld 85 false 1 (.t 84)⟩,
               ⟨some (77, false), .call (some 86) f2 [(.t 81), (.t 85)]⟩,
               ⟨some (77, false), .un 87 .not (.t 86)⟩,
               ⟨none, .pick 88 (.t 77) (.c (.sc (.bool true))) (.t 87)⟩])
             (.cond (.t 88)
              ((.seq
               (.reg false [⟨none, .mv 4 (.c (.sc (.bool false)))⟩])
               (.ret)))
              (.skip)))))))))
         (.reg false [⟨none, .mv 27 (.t 5)⟩,
           ⟨none, .bin 28 .add (.t 27) (.c (.sc (.int .i64 1)))⟩,
           ⟨none, .mv 5 (.t 28)⟩])))))))))
    ((.seq
     (.reg false [⟨none, .mv 4 (.c (.sc (.bool true)))⟩])
     (.ret))))))))
def K_spSameProof (P : Program) (fno : Nat) : Prop := ∀ (a b : Pf), AF P fno [ePf a, ePf b] (.own (eB (qPf a b)))
theorem a_spSameProof {P : Program} (hm : P.follows .mixedOrders = true) {g f1 f2 : Nat} (hr : resF P g = some (89, k_spSameProof f1 f2, [.t 4])) (hc1 : K_l01Same P f1) (hc2 : K_l04SameSteps P f2) : K_spSameProof P g := by
  intro a b
  obtain ⟨⟨g1, g2⟩, nn, ks⟩ := a
  obtain ⟨⟨g1', g2'⟩, nn', ks'⟩ := b
  refine af_of_res hr hm rfl fun hb => ?_
  have hl : ks.length ≤ 9223372036854775807 := by
    have := hb.1
    simp only [ePf, D.bd, D.bdL, List.length_map, maxEl] at this
    exact this.2.2.1.1
  simp only [qPf]
  cases h1 : (g1 == g1')
  · simp +contextual -implicitDefEqProofs only [k_spSameProof, ePf, h1, bne, Bool.not_true, Bool.not_false, Bool.true_and, Bool.false_and, Bool.and_true, Bool.and_false, Bool.true_or, Bool.false_or, Bool.or_true, Bool.or_false, go_sem, eI, eB, ↓reduceIte, Nat.reduceEqDiff, Nat.reduceAdd, Nat.reduceLeDiff, Nat.reduceMul, Nat.reduceBEq, Nat.reduceBneDiff, Nat.reduceLT, Nat.reduceSub, decide_true, decide_false, and_self, true_and, and_true, false_and, and_false, not_true_eq_false, not_false_eq_true, false_implies, true_implies, implies_true, ge_iff_le, Bool.false_eq_true, List.cons_append, List.nil_append]
  cases h2 : (g2 == g2')
  · simp +contextual -implicitDefEqProofs only [k_spSameProof, ePf, h1, h2, bne, Bool.not_true, Bool.not_false, Bool.true_and, Bool.false_and, Bool.and_true, Bool.and_false, Bool.true_or, Bool.false_or, Bool.or_true, Bool.or_false, go_sem, eI, eB, ↓reduceIte, Nat.reduceEqDiff, Nat.reduceAdd, Nat.reduceLeDiff, Nat.reduceMul, Nat.reduceBEq, Nat.reduceBneDiff, Nat.reduceLT, Nat.reduceSub, decide_true, decide_false, and_self, true_and, and_true, false_and, and_false, not_true_eq_false, not_false_eq_true, false_implies, true_implies, implies_true, ge_iff_le, Bool.false_eq_true, List.cons_append, List.nil_append]
  cases h0 : ((ks.length : Int) == ks'.length)
  · simp +contextual -implicitDefEqProofs only [k_spSameProof, ePf, h1, h2, h0, List.length_map, eqL_len (show ks.length ≠ ks'.length by simp at h0; omega), bne, Bool.not_true, Bool.not_false, Bool.true_and, Bool.false_and, Bool.and_true, Bool.and_false, Bool.true_or, Bool.false_or, Bool.or_true, Bool.or_false, go_sem, eI, eB, ↓reduceIte, Nat.reduceEqDiff, Nat.reduceAdd, Nat.reduceLeDiff, Nat.reduceMul, Nat.reduceBEq, Nat.reduceBneDiff, Nat.reduceLT, Nat.reduceSub, decide_true, decide_false, and_self, true_and, and_true, false_and, and_false, not_true_eq_false, not_false_eq_true, false_implies, true_implies, implies_true, ge_iff_le, Bool.false_eq_true, List.cons_append, List.nil_append]
  have hlen : ks.length = ks'.length := by simp at h0; omega
  simp +contextual -implicitDefEqProofs only [k_spSameProof, ePf, h1, h2, h0, List.length_map, bne, Bool.not_true, Bool.not_false, Bool.true_and, Bool.false_and, Bool.and_true, Bool.and_false, Bool.true_or, Bool.false_or, Bool.or_true, Bool.or_false, go_sem, eI, eB, ↓reduceIte, Nat.reduceEqDiff, Nat.reduceAdd, Nat.reduceLeDiff, Nat.reduceMul, Nat.reduceBEq, Nat.reduceBneDiff, Nat.reduceLT, Nat.reduceSub, decide_true, decide_false, and_self, true_and, and_true, false_and, and_false, not_true_eq_false, not_false_eq_true, false_implies, true_implies, implies_true, ge_iff_le, Bool.false_eq_true, List.cons_append, List.nil_append]
  refine vc_on (α := Nat) [4, 5, 6, 7, 22, 23, 24, 25, 26, 27, 28, 29, 30, 31, 32, 33, 34, 35, 36, 37, 38, 39, 40, 41, 42, 43, 44, 45, 46, 47, 48, 49, 50, 51, 52, 53, 54, 55, 56, 57, 58, 59, 60, 61, 62, 63, 64, 65, 66, 67, 68, 69, 70, 71, 72, 73, 74, 75, 76, 77, 78, 79, 80, 81, 82, 83, 84, 85, 86, 87, 88] (fun i => [(5, .im none (.sc (.int .i64 i)))]) (fun i => i ≤ ks.length ∧ eqL qCl (ks.drop i) (ks'.drop i) = eqL qCl ks ks') (fun i => ks.length - i) 0
    (by simp only [subEnv, go_sem, ↓reduceIte, Nat.reduceEqDiff]; simp) ⟨by simp, by simp⟩ ?_
  rintro i ⟨j1, j4⟩
  by_cases hi : i < ks.length
  rotate_left
  · simp +contextual -implicitDefEqProofs only [hi, Int.ofNat_lt, List.length_map, Int.natCast_nonneg, go_sem, eI, eB, ↓reduceIte, Nat.reduceEqDiff, Nat.reduceAdd, Nat.reduceLeDiff, Nat.reduceMul, Nat.reduceBEq, Nat.reduceBneDiff, Nat.reduceLT, Nat.reduceSub, decide_true, decide_false, and_self, true_and, and_true, false_and, and_false, not_true_eq_false, not_false_eq_true, false_implies, true_implies, implies_true, ge_iff_le, Bool.false_eq_true, List.cons_append, List.nil_append]
    refine D.Le.sc_eq ?_
    rw [← j4, List.drop_eq_nil_of_le (by omega), List.drop_eq_nil_of_le (by omega)]
    rfl
  · have hi2 : i < ks'.length := by omega
    have e1 := at_map (f := eCl) hi
    have e2 := at_map (f := eCl) hi2
    rw [List.drop_eq_getElem_cons hi, List.drop_eq_getElem_cons hi2] at j4
    simp only [eqL] at j4
    simp +contextual -implicitDefEqProofs only [e1, e2, hi, hi2, eCl, eCl_size, List.length_map, Int.ofNat_lt, Int.natCast_nonneg, Nat.zero_lt_one, bne, Bool.not_true, Bool.not_false, Bool.true_and, Bool.false_and, Bool.and_true, Bool.and_false, Bool.true_or, Bool.false_or, Bool.or_true, Bool.or_false, go_sem, eI, eB, ↓reduceIte, Nat.reduceEqDiff, Nat.reduceAdd, Nat.reduceLeDiff, Nat.reduceMul, Nat.reduceBEq, Nat.reduceBneDiff, Nat.reduceLT, Nat.reduceSub, decide_true, decide_false, and_self, true_and, and_true, false_and, and_false, not_true_eq_false, not_false_eq_true, false_implies, true_implies, implies_true, ge_iff_le, Bool.false_eq_true, List.cons_append, List.nil_append]
    refine callQ_le (es := [.pt (eE ks[i].1) 0, .pt (eE ks'[i].1) 0]) rfl ⟨D.LeA.sub (sz := 3) (by simp [eCl, D.size, D.sizeL]) rfl (by omega) (by rw [eE_eta]; rfl), D.LeA.sub (sz := 3) (by simp [eCl, D.size, D.sizeL]) rfl (by omega) (by rw [eE_eta]; rfl), trivial⟩ (hc1 ks[i].1 ks'[i].1) ?_
    cases q1 : qE ks[i].1 ks'[i].1
    · simp +contextual -implicitDefEqProofs only [e1, e2, hi, hi2, eCl, eCl_size, List.length_map, Int.ofNat_lt, Int.natCast_nonneg, Nat.zero_lt_one, q1, bne, Bool.not_true, Bool.not_false, Bool.true_and, Bool.false_and, Bool.and_true, Bool.and_false, Bool.true_or, Bool.false_or, Bool.or_true, Bool.or_false, go_sem, eI, eB, ↓reduceIte, Nat.reduceEqDiff, Nat.reduceAdd, Nat.reduceLeDiff, Nat.reduceMul, Nat.reduceBEq, Nat.reduceBneDiff, Nat.reduceLT, Nat.reduceSub, decide_true, decide_false, and_self, true_and, and_true, false_and, and_false, not_true_eq_false, not_false_eq_true, false_implies, true_implies, implies_true, ge_iff_le, Bool.false_eq_true, List.cons_append, List.nil_append]
      exact D.Le.sc_eq (by rw [← j4, qCl, q1]; rfl)
    simp +contextual -implicitDefEqProofs only [e1, e2, hi, hi2, eCl, eCl_size, List.length_map, Int.ofNat_lt, Int.natCast_nonneg, Nat.zero_lt_one, q1, bne, Bool.not_true, Bool.not_false, Bool.true_and, Bool.false_and, Bool.and_true, Bool.and_false, Bool.true_or, Bool.false_or, Bool.or_true, Bool.or_false, go_sem, eI, eB, ↓reduceIte, Nat.reduceEqDiff, Nat.reduceAdd, Nat.reduceLeDiff, Nat.reduceMul, Nat.reduceBEq, Nat.reduceBneDiff, Nat.reduceLT, Nat.reduceSub, decide_true, decide_false, and_self, true_and, and_true, false_and, and_false, not_true_eq_false, not_false_eq_true, false_implies, true_implies, implies_true, ge_iff_le, Bool.false_eq_true, List.cons_append, List.nil_append]
    refine callQ_le (es := [.pt (eE ks[i].2.1) 0, .pt (eE ks'[i].2.1) 0]) rfl ⟨D.LeA.sub (sz := 3) (by simp [eCl, D.size, D.sizeL]) rfl (by omega) (by rw [eE_eta]; rfl), D.LeA.sub (sz := 3) (by simp [eCl, D.size, D.sizeL]) rfl (by omega) (by rw [eE_eta]; rfl), trivial⟩ (hc1 ks[i].2.1 ks'[i].2.1) ?_
    cases q2 : qE ks[i].2.1 ks'[i].2.1
    · simp +contextual -implicitDefEqProofs only [e1, e2, hi, hi2, eCl, eCl_size, List.length_map, Int.ofNat_lt, Int.natCast_nonneg, Nat.zero_lt_one, q1, q2, bne, Bool.not_true, Bool.not_false, Bool.true_and, Bool.false_and, Bool.and_true, Bool.and_false, Bool.true_or, Bool.false_or, Bool.or_true, Bool.or_false, go_sem, eI, eB, ↓reduceIte, Nat.reduceEqDiff, Nat.reduceAdd, Nat.reduceLeDiff, Nat.reduceMul, Nat.reduceBEq, Nat.reduceBneDiff, Nat.reduceLT, Nat.reduceSub, decide_true, decide_false, and_self, true_and, and_true, false_and, and_false, not_true_eq_false, not_false_eq_true, false_implies, true_implies, implies_true, ge_iff_le, Bool.false_eq_true, List.cons_append, List.nil_append]
      exact D.Le.sc_eq (by rw [← j4, qCl, q1, q2]; rfl)
    cases q3 : (ks[i].2.2.1 == ks'[i].2.2.1)
    · simp +contextual -implicitDefEqProofs only [e1, e2, hi, hi2, eCl, eCl_size, List.length_map, Int.ofNat_lt, Int.natCast_nonneg, Nat.zero_lt_one, q1, q2, q3, bne, Bool.not_true, Bool.not_false, Bool.true_and, Bool.false_and, Bool.and_true, Bool.and_false, Bool.true_or, Bool.false_or, Bool.or_true, Bool.or_false, go_sem, eI, eB, ↓reduceIte, Nat.reduceEqDiff, Nat.reduceAdd, Nat.reduceLeDiff, Nat.reduceMul, Nat.reduceBEq, Nat.reduceBneDiff, Nat.reduceLT, Nat.reduceSub, decide_true, decide_false, and_self, true_and, and_true, false_and, and_false, not_true_eq_false, not_false_eq_true, false_implies, true_implies, implies_true, ge_iff_le, Bool.false_eq_true, List.cons_append, List.nil_append]
      exact D.Le.sc_eq (by rw [← j4, qCl, q1, q2, q3]; rfl)
    cases q4 : (ks[i].2.2.2.1 == ks'[i].2.2.2.1)
    · simp +contextual -implicitDefEqProofs only [e1, e2, hi, hi2, eCl, eCl_size, List.length_map, Int.ofNat_lt, Int.natCast_nonneg, Nat.zero_lt_one, q1, q2, q3, q4, bne, Bool.not_true, Bool.not_false, Bool.true_and, Bool.false_and, Bool.and_true, Bool.and_false, Bool.true_or, Bool.false_or, Bool.or_true, Bool.or_false, go_sem, eI, eB, ↓reduceIte, Nat.reduceEqDiff, Nat.reduceAdd, Nat.reduceLeDiff, Nat.reduceMul, Nat.reduceBEq, Nat.reduceBneDiff, Nat.reduceLT, Nat.reduceSub, decide_true, decide_false, and_self, true_and, and_true, false_and, and_false, not_true_eq_false, not_false_eq_true, false_implies, true_implies, implies_true, ge_iff_le, Bool.false_eq_true, List.cons_append, List.nil_append]
      exact D.Le.sc_eq (by rw [← j4, qCl, q1, q2, q3, q4]; rfl)
    simp +contextual -implicitDefEqProofs only [e1, e2, hi, hi2, eCl, eCl_size, List.length_map, Int.ofNat_lt, Int.natCast_nonneg, Nat.zero_lt_one, q1, q2, q3, q4, bne, Bool.not_true, Bool.not_false, Bool.true_and, Bool.false_and, Bool.and_true, Bool.and_false, Bool.true_or, Bool.false_or, Bool.or_true, Bool.or_false, go_sem, eI, eB, ↓reduceIte, Nat.reduceEqDiff, Nat.reduceAdd, Nat.reduceLeDiff, Nat.reduceMul, Nat.reduceBEq, Nat.reduceBneDiff, Nat.reduceLT, Nat.reduceSub, decide_true, decide_false, and_self, true_and, and_true, false_and, and_false, not_true_eq_false, not_false_eq_true, false_implies, true_implies, implies_true, ge_iff_le, Bool.false_eq_true, List.cons_append, List.nil_append]
    refine callQ_self (ds := [eS 5 eSt ks[i].2.2.2.2, eS 5 eSt ks'[i].2.2.2.2]) ?_ (hc2 ks[i].2.2.2.2 ks'[i].2.2.2.2) ?_
    · first | exact rfl | (simp only [eE_eta]; exact rfl)
    cases q5 : eqL qSt ks[i].2.2.2.2.2 ks'[i].2.2.2.2.2
    · simp +contextual -implicitDefEqProofs only [e1, e2, hi, hi2, eCl, eCl_size, List.length_map, Int.ofNat_lt, Int.natCast_nonneg, Nat.zero_lt_one, q1, q2, q3, q4, q5, bne, Bool.not_true, Bool.not_false, Bool.true_and, Bool.false_and, Bool.and_true, Bool.and_false, Bool.true_or, Bool.false_or, Bool.or_true, Bool.or_false, go_sem, eI, eB, ↓reduceIte, Nat.reduceEqDiff, Nat.reduceAdd, Nat.reduceLeDiff, Nat.reduceMul, Nat.reduceBEq, Nat.reduceBneDiff, Nat.reduceLT, Nat.reduceSub, decide_true, decide_false, and_self, true_and, and_true, false_and, and_false, not_true_eq_false, not_false_eq_true, false_implies, true_implies, implies_true, ge_iff_le, Bool.false_eq_true, List.cons_append, List.nil_append]
      exact D.Le.sc_eq (by rw [← j4, qCl, q1, q2, q3, q4, q5]; rfl)
    simp +contextual -implicitDefEqProofs only [e1, e2, hi, hi2, eCl, eCl_size, List.length_map, Int.ofNat_lt, Int.natCast_nonneg, Nat.zero_lt_one, q1, q2, q3, q4, q5, bne, Bool.not_true, Bool.not_false, Bool.true_and, Bool.false_and, Bool.and_true, Bool.and_false, Bool.true_or, Bool.false_or, Bool.or_true, Bool.or_false, go_sem, eI, eB, ↓reduceIte, Nat.reduceEqDiff, Nat.reduceAdd, Nat.reduceLeDiff, Nat.reduceMul, Nat.reduceBEq, Nat.reduceBneDiff, Nat.reduceLT, Nat.reduceSub, decide_true, decide_false, and_self, true_and, and_true, false_and, and_false, not_true_eq_false, not_false_eq_true, false_implies, true_implies, implies_true, ge_iff_le, Bool.false_eq_true, List.cons_append, List.nil_append]
    rw [wrap_i64 (by omega) (by omega)]
    have hq : qCl ks[i] ks'[i] = true := by rw [qCl, q1, q2, q3, q4, q5]; rfl
    exact ⟨i + 1, ⟨by omega, eqL_step j4 hq⟩, by omega, Ent.env (by simp only [subEnv, go_sem, ↓reduceIte, Nat.reduceEqDiff, List.length_map]; simp)⟩
end Go.Ax
