/- Contracts of functions of the seat, proved over the engine. No condition. -/
import Derived.Test.YtbnlielpckndkaaAxX
set_option linter.unusedSimpArgs false
set_option linter.unusedVariables false
set_option linter.unnecessarySimpa false
namespace Go.Ax
set_option linter.unusedSimpArgs false
def eG (g : Int × Int) : D := .ag [eI g.1, eI g.2]
def isIn (n lo hi : Int) : Bool := decide (lo ≤ n) && decide (n ≤ hi)
def okG (g : Int × Int) : Bool := isIn g.1 0 3 && isIn g.2 0 4

def k_within : RC :=
 (.seq
  (.reg false [⟨none, .mv 6 (.c (.sc (.bool false)))⟩])
  ((.seq
   (.reg false [⟨none, .mv 7 (.t 1)⟩,
     ⟨none, .mv 8 (.t 0)⟩,
     ⟨none, .bin 9 .leq (.t 7) (.t 8)⟩,
     ⟨none, .mv 10 (.t 9)⟩,
     ⟨some (10, true), .mv 11 (.t 0)⟩,
     ⟨some (10, true), .mv 12 (.t 2)⟩,
     ⟨some (10, true), .bin 13 .leq (.t 11) (.t 12)⟩,
     ⟨none, .pick 14 (.t 10) (.t 13) (.c (.sc (.bool false)))⟩,
     ⟨none, .mv 6 (.t 14)⟩])
   (.ret))))
def K_within (P : Program) (f : Nat) : Prop := ∀ (n lo hi : Int), AF P f [eI n, eI lo, eI hi] (.own (eB (isIn n lo hi)))
theorem a_within {P : Program} (hm : P.follows .mixedOrders = true) {g : Nat} (hr : resF P g = some (15, k_within, [.t 6])) : K_within P g := by
  intro n lo hi
  refine af_of_res hr hm rfl fun hb => ?_
  simp +contextual -implicitDefEqProofs only [k_within, isIn, go_sem, eI, eB, ↓reduceIte, Nat.reduceEqDiff, Nat.reduceAdd, Nat.reduceLeDiff, Nat.reduceMul, Nat.reduceBEq, Nat.reduceBneDiff, Nat.reduceLT, Nat.reduceSub, decide_true, decide_false, and_self, true_and, and_true, false_and, and_false, not_true_eq_false, not_false_eq_true, false_implies, true_implies, implies_true, ge_iff_le, Bool.false_eq_true, List.cons_append, List.nil_append]

def k_l00In : RC :=
 (.seq
  (.reg false [⟨none, .mv 6 (.c (.sc (.bool false)))⟩])
  ((.seq
   (.reg false [⟨none, .mv 7 (.t 0)⟩,
     ⟨none, .mv 8 (.t 1)⟩,
     ⟨none, .bin 9 .geq (.t 7) (.t 8)⟩,
     ⟨none, .mv 10 (.t 9)⟩,
     ⟨some (10, true), .mv 11 (.t 0)⟩,
     ⟨some (10, true), .mv 12 (.t 2)⟩,
     ⟨some (10, true), .bin 13 .leq (.t 11) (.t 12)⟩,
     ⟨none, .pick 14 (.t 10) (.t 13) (.c (.sc (.bool false)))⟩,
     ⟨none, .mv 6 (.t 14)⟩])
   (.ret))))
def K_l00In (P : Program) (f : Nat) : Prop := ∀ (n lo hi : Int), AF P f [eI n, eI lo, eI hi] (.own (eB (isIn n lo hi)))
theorem a_l00In {P : Program} (hm : P.follows .mixedOrders = true) {g : Nat} (hr : resF P g = some (15, k_l00In, [.t 6])) : K_l00In P g := by
  intro n lo hi
  refine af_of_res hr hm rfl fun hb => ?_
  simp +contextual -implicitDefEqProofs only [k_l00In, isIn, go_sem, eI, eB, ↓reduceIte, Nat.reduceEqDiff, Nat.reduceAdd, Nat.reduceLeDiff, Nat.reduceMul, Nat.reduceBEq, Nat.reduceBneDiff, Nat.reduceLT, Nat.reduceSub, decide_true, decide_false, and_self, true_and, and_true, false_and, and_false, not_true_eq_false, not_false_eq_true, false_implies, true_implies, implies_true, ge_iff_le, Bool.false_eq_true, List.cons_append, List.nil_append]

def k_validSig (f1 : Nat) : RC :=
 (.seq
  (.reg false [⟨none, .box 1 2 (.t 0)⟩,
    ⟨none, .mv 2 (.c (.sc (.bool false)))⟩])
  ((.seq
   (.reg false [⟨none, .fa 3 0 (.t 1)⟩,
     ⟨none, .ld 4 false 1 (.t 3)⟩,
     ⟨none, .call (some 5) f1 [(.t 4), (.c (.sc (.int .i64 0))), (.c (.sc (.int .i64 3)))]⟩,
     ⟨none, .mv 6 (.t 5)⟩,
     ⟨some (6, true), .fa 7 1 (.t 1)⟩,
     ⟨some (6, true), .ld 8 false 1 (.t 7)⟩,
     ⟨some (6, true), .call (some 9) f1 [(.t 8), (.c (.sc (.int .i64 0))), (.c (.sc (.int .i64 4)))]⟩,
     ⟨none, .pick 10 (.t 6) (.t 9) (.c (.sc (.bool false)))⟩,
     ⟨none, .mv 2 (.t 10)⟩])
   (.ret))))
def K_validSig (P : Program) (f : Nat) : Prop := ∀ (g : Int × Int), AF P f [eG g] (.own (eB (okG g)))
theorem a_validSig {P : Program} (hm : P.follows .mixedOrders = true) {g f1 : Nat} (hr : resF P g = some (11, k_validSig f1, [.t 2])) (hc1 : K_within P f1) : K_validSig P g := by
  intro g
  refine af_of_res hr hm rfl fun hb => ?_
  simp +contextual -implicitDefEqProofs only [k_validSig, eG, go_sem, eI, eB, ↓reduceIte, Nat.reduceEqDiff, Nat.reduceAdd, Nat.reduceLeDiff, Nat.reduceMul, Nat.reduceBEq, Nat.reduceBneDiff, Nat.reduceLT, Nat.reduceSub, decide_true, decide_false, and_self, true_and, and_true, false_and, and_false, not_true_eq_false, not_false_eq_true, false_implies, true_implies, implies_true, ge_iff_le, Bool.false_eq_true, List.cons_append, List.nil_append]
  refine callQ_self ?_ (hc1 g.1 0 3) ?_
  · exact rfl
  cases h1 : isIn g.1 0 3 <;> simp +contextual -implicitDefEqProofs only [okG, h1, go_sem, eI, eB, ↓reduceIte, Nat.reduceEqDiff, Nat.reduceAdd, Nat.reduceLeDiff, Nat.reduceMul, Nat.reduceBEq, Nat.reduceBneDiff, Nat.reduceLT, Nat.reduceSub, decide_true, decide_false, and_self, true_and, and_true, false_and, and_false, not_true_eq_false, not_false_eq_true, false_implies, true_implies, implies_true, ge_iff_le, Bool.false_eq_true, List.cons_append, List.nil_append]
  refine callQ_self ?_ (hc1 g.2 0 4) ?_
  · exact rfl
  simp +contextual -implicitDefEqProofs only [go_sem, eI, eB, ↓reduceIte, Nat.reduceEqDiff, Nat.reduceAdd, Nat.reduceLeDiff, Nat.reduceMul, Nat.reduceBEq, Nat.reduceBneDiff, Nat.reduceLT, Nat.reduceSub, decide_true, decide_false, and_self, true_and, and_true, false_and, and_false, not_true_eq_false, not_false_eq_true, false_implies, true_implies, implies_true, ge_iff_le, Bool.false_eq_true, List.cons_append, List.nil_append]

def k_l01Sig (f1 : Nat) : RC :=
 (.seq
  (.reg false [⟨none, .box 1 2 (.t 0)⟩,
    ⟨none, .mv 2 (.c (.sc (.bool false)))⟩])
  ((.seq
   (.reg false [⟨none, .fa 3 0 (.t 1)⟩,
     ⟨none, .ld 4 false 1 (.t 3)⟩,
     ⟨none, .call (some 5) f1 [(.t 4), (.c (.sc (.int .i64 0))), (.c (.sc (.int .i64 3)))]⟩,
     ⟨none, .mv 6 (.t 5)⟩,
     ⟨some (6, true), .fa 7 1 (.t 1)⟩,
     ⟨some (6, true), .ld 8 false 1 (.t 7)⟩,
     ⟨some (6, true), .call (some 9) f1 [(.t 8), (.c (.sc (.int .i64 0))), (.c (.sc (.int .i64 4)))]⟩,
     ⟨none, .pick 10 (.t 6) (.t 9) (.c (.sc (.bool false)))⟩,
     ⟨none, .mv 2 (.t 10)⟩])
   (.ret))))
def K_l01Sig (P : Program) (f : Nat) : Prop := ∀ (g : Int × Int), AF P f [eG g] (.own (eB (okG g)))
theorem a_l01Sig {P : Program} (hm : P.follows .mixedOrders = true) {g f1 : Nat} (hr : resF P g = some (11, k_l01Sig f1, [.t 2])) (hc1 : K_l00In P f1) : K_l01Sig P g := by
  intro g
  refine af_of_res hr hm rfl fun hb => ?_
  simp +contextual -implicitDefEqProofs only [k_l01Sig, eG, go_sem, eI, eB, ↓reduceIte, Nat.reduceEqDiff, Nat.reduceAdd, Nat.reduceLeDiff, Nat.reduceMul, Nat.reduceBEq, Nat.reduceBneDiff, Nat.reduceLT, Nat.reduceSub, decide_true, decide_false, and_self, true_and, and_true, false_and, and_false, not_true_eq_false, not_false_eq_true, false_implies, true_implies, implies_true, ge_iff_le, Bool.false_eq_true, List.cons_append, List.nil_append]
  refine callQ_self ?_ (hc1 g.1 0 3) ?_
  · exact rfl
  cases h1 : isIn g.1 0 3 <;> simp +contextual -implicitDefEqProofs only [okG, h1, go_sem, eI, eB, ↓reduceIte, Nat.reduceEqDiff, Nat.reduceAdd, Nat.reduceLeDiff, Nat.reduceMul, Nat.reduceBEq, Nat.reduceBneDiff, Nat.reduceLT, Nat.reduceSub, decide_true, decide_false, and_self, true_and, and_true, false_and, and_false, not_true_eq_false, not_false_eq_true, false_implies, true_implies, implies_true, ge_iff_le, Bool.false_eq_true, List.cons_append, List.nil_append]
  refine callQ_self ?_ (hc1 g.2 0 4) ?_
  · exact rfl
  simp +contextual -implicitDefEqProofs only [go_sem, eI, eB, ↓reduceIte, Nat.reduceEqDiff, Nat.reduceAdd, Nat.reduceLeDiff, Nat.reduceMul, Nat.reduceBEq, Nat.reduceBneDiff, Nat.reduceLT, Nat.reduceSub, decide_true, decide_false, and_self, true_and, and_true, false_and, and_false, not_true_eq_false, not_false_eq_true, false_implies, true_implies, implies_true, ge_iff_le, Bool.false_eq_true, List.cons_append, List.nil_append]

def k_toSig : RC :=
 (.seq
  (.reg false [⟨none, .box 1 2 (.t 0)⟩,
    ⟨none, .zer 2 2 (.ag [(.sc (.int .i64 0)), (.sc (.int .i64 0))])⟩])
  ((.seq
   (.reg false [⟨none, .zer 3 2 (.ag [(.sc (.int .i64 0)), (.sc (.int .i64 0))])⟩])
   ((.seq
    (.reg false [⟨none, .fa 4 0 (.t 1)⟩,
      ⟨none, .ld 5 false 1 (.t 4)⟩,
      ⟨none, .fa 6 0 (.t 3)⟩,
      ⟨none, .st 1 (.t 6) (.t 5)⟩])
    ((.seq
     (.reg false [⟨none, .fa 7 1 (.t 1)⟩,
       ⟨none, .ld 8 false 1 (.t 7)⟩,
       ⟨none, .fa 9 1 (.t 3)⟩,
       ⟨none, .st 1 (.t 9) (.t 8)⟩])
     ((.seq
      (.reg false [⟨none, .ld 10 true 2 (.t 3)⟩,
        ⟨none, .st 2 (.t 2) (.t 10)⟩])
      (.ret))))))))))
def K_toSig (P : Program) (f : Nat) : Prop := ∀ (g : Int × Int), AF P f [eG g] (.own (eG g))
theorem a_toSig {P : Program} (hm : P.follows .mixedOrders = true) {g : Nat} (hr : resF P g = some (11, k_toSig, [.c 2 2 true])) : K_toSig P g := by
  intro g
  refine af_of_res hr hm rfl fun hb => ?_
  simp +contextual -implicitDefEqProofs only [k_toSig, eG, go_sem, eI, eB, ↓reduceIte, Nat.reduceEqDiff, Nat.reduceAdd, Nat.reduceLeDiff, Nat.reduceMul, Nat.reduceBEq, Nat.reduceBneDiff, Nat.reduceLT, Nat.reduceSub, decide_true, decide_false, and_self, true_and, and_true, false_and, and_false, not_true_eq_false, not_false_eq_true, false_implies, true_implies, implies_true, ge_iff_le, Bool.false_eq_true, List.cons_append, List.nil_append]
def qG (a b : Int × Int) : Bool := (a.1 == b.1) && (a.2 == b.2)

def k_eqSig : RC :=
 (.seq
  (.reg false [⟨none, .box 2 2 (.t 0)⟩,
    ⟨none, .box 3 2 (.t 1)⟩,
    ⟨none, .mv 4 (.c (.sc (.bool false)))⟩])
  ((.seq
   ((.seq
    (.reg false [⟨none, .fa 5 0 (.t 2)⟩,
      ⟨none, .ld 6 false 1 (.t 5)⟩,
      ⟨none, .fa 7 0 (.t 3)⟩,
      ⟨none, .ld 8 false 1 (.t 7)⟩,
      ⟨none, .bin 9 .neq (.t 6) (.t 8)⟩])
    (.cond (.t 9)
     ((.seq
      (.reg false [⟨none, .mv 4 (.c (.sc (.bool false)))⟩])
      (.ret)))
     (.skip))))
   ((.seq
    ((.seq
     (.reg false [⟨none, .fa 10 1 (.t 2)⟩,
       ⟨none, .ld 11 false 1 (.t 10)⟩,
       ⟨none, .fa 12 1 (.t 3)⟩,
       ⟨none, .ld 13 false 1 (.t 12)⟩,
       ⟨none, .bin 14 .neq (.t 11) (.t 13)⟩])
     (.cond (.t 14)
      ((.seq
       (.reg false [⟨none, .mv 4 (.c (.sc (.bool false)))⟩])
       (.ret)))
      (.skip))))
    ((.seq
     (.reg false [⟨none, .mv 4 (.c (.sc (.bool true)))⟩])
     (.ret))))))))
def K_eqSig (P : Program) (f : Nat) : Prop := ∀ (a b : Int × Int), AF P f [eG a, eG b] (.own (eB (qG a b)))
theorem a_eqSig {P : Program} (hm : P.follows .mixedOrders = true) {g : Nat} (hr : resF P g = some (15, k_eqSig, [.t 4])) : K_eqSig P g := by
  intro a b
  refine af_of_res hr hm rfl fun hb => ?_
  cases h1 : (a.1 == b.1) <;> cases h2 : (a.2 == b.2) <;> simp +contextual -implicitDefEqProofs only [k_eqSig, eG, qG, h1, h2, bne, Bool.not_true, Bool.not_false, Bool.true_and, Bool.false_and, Bool.and_true, Bool.and_false, Bool.true_or, Bool.false_or, Bool.or_true, Bool.or_false, go_sem, eI, eB, ↓reduceIte, Nat.reduceEqDiff, Nat.reduceAdd, Nat.reduceLeDiff, Nat.reduceMul, Nat.reduceBEq, Nat.reduceBneDiff, Nat.reduceLT, Nat.reduceSub, decide_true, decide_false, and_self, true_and, and_true, false_and, and_false, not_true_eq_false, not_false_eq_true, false_implies, true_implies, implies_true, ge_iff_le, Bool.false_eq_true, List.cons_append, List.nil_append]
def k_szExpr (f1 : Nat) : RC :=
 (.seq
  (.reg false [⟨none, .box 2 3 (.t 0)⟩,
    ⟨none, .mv 4 (.c (.sc (.int .i64 0)))⟩])
  ((.seq
   (.reg false [⟨none, .fa 5 2 (.t 2)⟩,
     ⟨none, .ld 6 false 1 (.t 5)⟩,
     ⟨none, .mv 7 (.t 1)⟩,
     ⟨none, .call (some 8) f1 [(.t 6), (.t 7)]⟩,
     ⟨none, .mv 1 (.t 8)⟩])
   ((.seq
    ((.seq
     (.reg false [⟨none, .mv 9 (.t 1)⟩,
       ⟨none, .bin 10 .lss (.t 9) (.c (.sc (.int .i64 0)))⟩])
     (.cond (.t 10)
      ((.seq
       (.reg false [⟨none, .mv 4 (.c (.sc (.int .i64 (-1))))⟩])
       (.ret)))
      (.skip))))
    ((.seq
     (.reg false [⟨none, .mv 11 (.t 1)⟩,
       ⟨none, .mv 4 (.t 11)⟩])
     (.ret))))))))
def k_toExpr (f1 : Nat) : RC :=
 (.seq
  (.reg false [⟨none, .box 1 3 (.t 0)⟩,
    ⟨none, .zer 2 3 (.ag [(.sc (.int .i64 0)), (.sc (.int .i64 0)), (.ls (some true) 3 [])])⟩])
  ((.seq
   (.reg false [⟨none, .zer 3 3 (.ag [(.sc (.int .i64 0)), (.sc (.int .i64 0)), (.ls (some true) 3 [])])⟩])
   ((.seq
    (.reg false [⟨none, .fa 4 0 (.t 1)⟩,
      ⟨none, .ld 5 false 1 (.t 4)⟩,
      ⟨none, .fa 6 0 (.t 3)⟩,
      ⟨none, .st 1 (.t 6) (.t 5)⟩])
    ((.seq
     (.reg false [⟨none, .fa 7 1 (.t 1)⟩,
       ⟨none, .ld 8 false 1 (.t 7)⟩,
       ⟨none, .fa 9 1 (.t 3)⟩,
       ⟨none, .st 1 (.t 9) (.t 8)⟩])
     ((.seq
      (.reg false [⟨none, .fa 10 2 (.t 1)⟩,
        ⟨none, .ld 11 false 1 (.t 10)⟩,
        ⟨none, .call (some 12) f1 [(.t 11)]⟩,
        ⟨none, .fa 13 2 (.t 3)⟩,
        ⟨none, .st 1 (.t 13) (.t 12)⟩])
      ((.seq
       (.reg false [⟨none, .ld 14 true 3 (.t 3)⟩,
         ⟨none, .st 3 (.t 2) (.t 14)⟩])
       (.ret))))))))))))
def k_eqExpr (f1 : Nat) : RC :=
 (.seq
  (.reg false [⟨none, .box 2 3 (.t 0)⟩,
    ⟨none, .box 3 3 (.t 1)⟩,
    ⟨none, .mv 4 (.c (.sc (.bool false)))⟩])
  ((.seq
   ((.seq
    (.reg false [⟨none, .fa 5 0 (.t 2)⟩,
      ⟨none, .ld 6 false 1 (.t 5)⟩,
      ⟨none, .fa 7 0 (.t 3)⟩,
      ⟨none, .ld 8 false 1 (.t 7)⟩,
      ⟨none, .bin 9 .neq (.t 6) (.t 8)⟩])
    (.cond (.t 9)
     ((.seq
      (.reg false [⟨none, .mv 4 (.c (.sc (.bool false)))⟩])
      (.ret)))
     (.skip))))
   ((.seq
    ((.seq
     (.reg false [⟨none, .fa 10 1 (.t 2)⟩,
       ⟨none, .ld 11 false 1 (.t 10)⟩,
       ⟨none, .fa 12 1 (.t 3)⟩,
       ⟨none, .ld 13 false 1 (.t 12)⟩,
       ⟨none, .bin 14 .neq (.t 11) (.t 13)⟩])
     (.cond (.t 14)
      ((.seq
       (.reg false [⟨none, .mv 4 (.c (.sc (.bool false)))⟩])
       (.ret)))
      (.skip))))
    ((.seq
     ((.seq
      (.reg false [⟨none, .fa 15 2 (.t 2)⟩,
        ⟨none, .ld 16 false 1 (.t 15)⟩,
        ⟨none, .fa 17 2 (.t 3)⟩,
        ⟨none, .ld 18 false 1 (.t 17)⟩,
        ⟨none, .call (some 19) f1 [(.t 16), (.t 18)]⟩,
        ⟨none, .un 20 .not (.t 19)⟩])
      (.cond (.t 20)
       ((.seq
        (.reg false [⟨none, .mv 4 (.c (.sc (.bool false)))⟩])
        (.ret)))
       (.skip))))
     ((.seq
      (.reg false [⟨none, .mv 4 (.c (.sc (.bool true)))⟩])
      (.ret))))))))))
section
variable {P : Program} (hm : P.follows .mixedOrders = true)
include hm
theorem af_szExpr {g f1 : Nat} (rs : resF P g = some (12, k_szExpr f1, [.t 4])) (rss : resF P f1 = some (27, cSzC g 3 true, [.t 4])) :
    ∀ (e : Ex) (l : Int), 0 ≤ l → l ≤ 1048576 → AF P g [eE e, eI l] (.own (eI (szE e l))) :=
  Ex.ind fun k n nn ks ih l h1 h2 => by
    have hs : AF P f1 [eS 3 eE (nn, ks), eI l] (.own (eI (szS szE (nn, ks) l))) := af_szC hm encE rss szE (nn, ks) (fun x hx l g1 g2 => ⟨ih x hx l g1 g2, (szE_in x l g1 g2).1, by have := (szE_in x l g1 g2).2; omega⟩) l (by omega) h2
    rw [eE_mk, szE_mk]
    refine af_of_res rs hm rfl fun _ => ?_
    simp +contextual -implicitDefEqProofs only [k_szExpr, eS, go_sem, eI, eB, ↓reduceIte, Nat.reduceEqDiff, Nat.reduceAdd, Nat.reduceLeDiff, Nat.reduceMul, Nat.reduceBEq, Nat.reduceBneDiff, Nat.reduceLT, Nat.reduceSub, decide_true, decide_false, and_self, true_and, and_true, false_and, and_false, not_true_eq_false, not_false_eq_true, false_implies, true_implies, implies_true, ge_iff_le, Bool.false_eq_true, List.cons_append, List.nil_append]
    refine callQ_self ?_ hs ?_
    · exact rfl
    simp +contextual -implicitDefEqProofs only [eS, go_sem, eI, eB, ↓reduceIte, Nat.reduceEqDiff, Nat.reduceAdd, Nat.reduceLeDiff, Nat.reduceMul, Nat.reduceBEq, Nat.reduceBneDiff, Nat.reduceLT, Nat.reduceSub, decide_true, decide_false, and_self, true_and, and_true, false_and, and_false, not_true_eq_false, not_false_eq_true, false_implies, true_implies, implies_true, ge_iff_le, Bool.false_eq_true, List.cons_append, List.nil_append]
    exact ⟨fun h => D.Le.sc_eq (by rw [nx_neg h]), fun h => D.Le.sc_eq (by rw [nx_pos h])⟩
theorem af_toExpr {g f1 : Nat} (rs : resF P g = some (15, k_toExpr f1, [.c 2 3 true])) (rss : resF P f1 = some (23, cToC g 3 40 true (.ag [(.sc (.int .i64 0)), (.sc (.int .i64 0)), (.ls (some true) 3 [])]), [.t 2])) :
    ∀ e : Ex, fitE e → AF P g [eE e] (.own (eE (tE e))) :=
  Ex.ind fun k n nn ks ih h => by
    rw [fitE_mk] at h
    have hs : AF P f1 [eS 3 eE (nn, ks)] (.own (eS 3 eE (some false, ks.map tE))) := af_toC hm encE encE ⟨rfl, rfl, rfl⟩ rss (nn, ks) (by have := h.1; simp only; omega) fun x hx => ih x hx (h.2 x hx)
    rw [tE_mk, eE_mk, eE_mk]
    refine af_of_res rs hm rfl fun _ => ?_
    simp +contextual -implicitDefEqProofs only [k_toExpr, eS, go_sem, eI, eB, ↓reduceIte, Nat.reduceEqDiff, Nat.reduceAdd, Nat.reduceLeDiff, Nat.reduceMul, Nat.reduceBEq, Nat.reduceBneDiff, Nat.reduceLT, Nat.reduceSub, decide_true, decide_false, and_self, true_and, and_true, false_and, and_false, not_true_eq_false, not_false_eq_true, false_implies, true_implies, implies_true, ge_iff_le, Bool.false_eq_true, List.cons_append, List.nil_append]
    refine callQ_self ?_ hs ?_
    · exact rfl
    simp +contextual -implicitDefEqProofs only [eS, go_sem, eI, eB, ↓reduceIte, Nat.reduceEqDiff, Nat.reduceAdd, Nat.reduceLeDiff, Nat.reduceMul, Nat.reduceBEq, Nat.reduceBneDiff, Nat.reduceLT, Nat.reduceSub, decide_true, decide_false, and_self, true_and, and_true, false_and, and_false, not_true_eq_false, not_false_eq_true, false_implies, true_implies, implies_true, ge_iff_le, Bool.false_eq_true, List.cons_append, List.nil_append]

theorem af_eqExpr {g f1 : Nat} (rs : resF P g = some (21, k_eqExpr f1, [.t 4])) (rss : resF P f1 = some (27, cEqC g 3 true, [.t 4])) :
    ∀ a b : Ex, AF P g [eE a, eE b] (.own (eB (qE a b))) :=
  Ex.ind fun k n nn ks ih b => by
    cases b with
    | mk k' n' nn' ks' =>
    have hs : AF P f1 [eS 3 eE (nn, ks), eS 3 eE (nn', ks')] (.own (eB (eqL qE ks ks'))) := af_eqC hm encE rss qE (nn, ks) (nn', ks') fun x hx y _ => ih x hx y
    rw [eE_mk, eE_mk, qE_mk]
    refine af_of_res rs hm rfl fun _ => ?_
    cases h1 : (k == k')
    · simp +contextual -implicitDefEqProofs only [k_eqExpr, eS, h1, bne, Bool.not_true, Bool.not_false, Bool.true_and, Bool.false_and, Bool.and_true, Bool.and_false, Bool.true_or, Bool.false_or, Bool.or_true, Bool.or_false, go_sem, eI, eB, ↓reduceIte, Nat.reduceEqDiff, Nat.reduceAdd, Nat.reduceLeDiff, Nat.reduceMul, Nat.reduceBEq, Nat.reduceBneDiff, Nat.reduceLT, Nat.reduceSub, decide_true, decide_false, and_self, true_and, and_true, false_and, and_false, not_true_eq_false, not_false_eq_true, false_implies, true_implies, implies_true, ge_iff_le, Bool.false_eq_true, List.cons_append, List.nil_append]
    cases h2 : (n == n')
    · simp +contextual -implicitDefEqProofs only [k_eqExpr, eS, h1, h2, bne, Bool.not_true, Bool.not_false, Bool.true_and, Bool.false_and, Bool.and_true, Bool.and_false, Bool.true_or, Bool.false_or, Bool.or_true, Bool.or_false, go_sem, eI, eB, ↓reduceIte, Nat.reduceEqDiff, Nat.reduceAdd, Nat.reduceLeDiff, Nat.reduceMul, Nat.reduceBEq, Nat.reduceBneDiff, Nat.reduceLT, Nat.reduceSub, decide_true, decide_false, and_self, true_and, and_true, false_and, and_false, not_true_eq_false, not_false_eq_true, false_implies, true_implies, implies_true, ge_iff_le, Bool.false_eq_true, List.cons_append, List.nil_append]
    simp +contextual -implicitDefEqProofs only [k_eqExpr, eS, h1, h2, bne, Bool.not_true, Bool.not_false, Bool.true_and, Bool.false_and, Bool.and_true, Bool.and_false, Bool.true_or, Bool.false_or, Bool.or_true, Bool.or_false, go_sem, eI, eB, ↓reduceIte, Nat.reduceEqDiff, Nat.reduceAdd, Nat.reduceLeDiff, Nat.reduceMul, Nat.reduceBEq, Nat.reduceBneDiff, Nat.reduceLT, Nat.reduceSub, decide_true, decide_false, and_self, true_and, and_true, false_and, and_false, not_true_eq_false, not_false_eq_true, false_implies, true_implies, implies_true, ge_iff_le, Bool.false_eq_true, List.cons_append, List.nil_append]
    refine callQ_self ?_ hs ?_
    · exact rfl
    cases h3 : eqL qE ks ks'
    · simp +contextual -implicitDefEqProofs only [eS, h3, bne, Bool.not_true, Bool.not_false, Bool.true_and, Bool.false_and, Bool.and_true, Bool.and_false, Bool.true_or, Bool.false_or, Bool.or_true, Bool.or_false, go_sem, eI, eB, ↓reduceIte, Nat.reduceEqDiff, Nat.reduceAdd, Nat.reduceLeDiff, Nat.reduceMul, Nat.reduceBEq, Nat.reduceBneDiff, Nat.reduceLT, Nat.reduceSub, decide_true, decide_false, and_self, true_and, and_true, false_and, and_false, not_true_eq_false, not_false_eq_true, false_implies, true_implies, implies_true, ge_iff_le, Bool.false_eq_true, List.cons_append, List.nil_append]
    · simp +contextual -implicitDefEqProofs only [eS, h3, bne, Bool.not_true, Bool.not_false, Bool.true_and, Bool.false_and, Bool.and_true, Bool.and_false, Bool.true_or, Bool.false_or, Bool.or_true, Bool.or_false, go_sem, eI, eB, ↓reduceIte, Nat.reduceEqDiff, Nat.reduceAdd, Nat.reduceLeDiff, Nat.reduceMul, Nat.reduceBEq, Nat.reduceBneDiff, Nat.reduceLT, Nat.reduceSub, decide_true, decide_false, and_self, true_and, and_true, false_and, and_false, not_true_eq_false, not_false_eq_true, false_implies, true_implies, implies_true, ge_iff_le, Bool.false_eq_true, List.cons_append, List.nil_append]

def famE {sF tF qF sG tG qG : Nat} (r1 : resF P sF = some (12, k_szExpr sG, [.t 4])) (r2 : resF P sG = some (27, cSzC sF 3 true, [.t 4]))
    (r3 : resF P tF = some (15, k_toExpr tG, [.c 2 3 true])) (r4 : resF P tG = some (23, cToC tF 3 40 true (.ag [(.sc (.int .i64 0)), (.sc (.int .i64 0)), (.ls (some true) 3 [])]), [.t 2]))
    (r5 : resF P qF = some (21, k_eqExpr qG, [.t 4])) (r6 : resF P qG = some (27, cEqC qF 3 true, [.t 4])) : Fam P eE sF tF qF where
  s := szE
  t := tE
  q := qE
  fit := fitE
  s_in := szE_in
  s_fit := szE_fit
  q_refl := qE_refl
  afS := af_szExpr hm r1 r2
  afT := af_toExpr hm r3 r4
  afQ := af_eqExpr hm r5 r6
end

def k_l01Same (g : Nat) : RC :=
 (.seq
  (.reg false [⟨none, .mv 4 (.c (.sc (.bool false)))⟩])
  ((.seq
   ((.seq
    (.reg true [⟨none, .mv 6 (.t 0)⟩,
      ⟨none, .nck 7 (.t 6)⟩,
      ⟨none, .fa 8 0 (.t 7)⟩,
      ⟨none, .ld 9 false 1 (.t 8)⟩,
      ⟨none, .mv 10 (.t 1)⟩,
      ⟨none, .nck 11 (.t 10)⟩,
      ⟨none, .fa 12 0 (.t 11)⟩,
      ⟨none, .ld 13 false 1 (.t 12)⟩,
      ⟨none, .bin 14 .neq (.t 9) (.t 13)⟩,
      ⟨none, .mv 15 (.t 14)⟩,
      ⟨some (15, false), .mv 16 (.t 0)⟩,
      ⟨some (15, false), .nck 17 (.t 16)⟩,
      ⟨some (15, false), .fa 18 1 (.t 17)⟩,
      ⟨some (15, false), .ld 19 false 1 (.t 18)⟩,
      ⟨some (15, false), .mv 20 (.t 1)⟩,
      ⟨some (15, false), .nck 21 (.t 20)⟩,
      ⟨some (15, false), .fa 22 1 (.t 21)⟩,
      ⟨some (15, false), .ld 23 false 1 (.t 22)⟩,
      ⟨some (15, false), .bin 24 .neq (.t 19) (.t 23)⟩,
      ⟨none, .pick 25 (.t 15) (.c (.sc (.bool true))) (.t 24)⟩,
      ⟨none, .mv 26 (.t 25)⟩,
      ⟨some (26, false), .mv 27 (.t 0)⟩,
      ⟨some (26, false), .nck 28 (.t 27)⟩,
      ⟨some (26, false), .fa 29 2 (.t 28)⟩,
      ⟨some (26, false), .ld 30 false 1 (.t 29)⟩,
      ⟨some (26, false), .len 31 (.t 30)⟩,
      ⟨some (26, false), .mv 32 (.t 1)⟩,
      ⟨some (26, false), .nck 33 (.t 32)⟩,
      ⟨some (26, false), .fa 34 2 (.t 33)⟩,
      ⟨some (26, false), .ld 35 false 1 (.t 34)⟩,
      ⟨some (26, false), .len 36 (.t 35)⟩,
      ⟨some (26, false), .bin 37 .neq (.t 31) (.t 36)⟩,
      ⟨none, .pick 38 (.t 26) (.c (.sc (.bool true))) (.t 37)⟩])
    (.cond (.t 38)
     ((.seq
      (.reg false [⟨none, .mv 4 (.c (.sc (.bool false)))⟩])
      (.ret)))
     (.skip))))
   ((.seq
    ((.seq
     (.reg false [⟨none, .mv 5 (.c (.sc (.int .i64 0)))⟩])
     (.blk 0
      (.loop
       ((.seq
        ((.seq
         (.reg false [⟨none, .mv 39 (.t 5)⟩,
           ⟨none, .mv 40 (.t 0)⟩,
           ⟨none, .nck 41 (.t 40)⟩,
           ⟨none, .fa 42 2 (.t 41)⟩,
           ⟨none, .ld 43 false 1 (.t 42)⟩,
           ⟨none, .len 44 (.t 43)⟩,
           ⟨none, .bin 45 .lss (.t 39) (.t 44)⟩])
         (.cond (.t 45)
          (.skip)
          (.exit 0))))
        ((.seq
         (.blk 1
          ((.seq
           (.reg true [⟨none, .mv 48 (.t 0)⟩,
             ⟨none, .nck 49 (.t 48)⟩,
             ⟨none, .fa 50 2 (.t 49)⟩,
             ⟨none, .ld 51 false 1 (.t 50)⟩,
             ⟨none, .mv 52 (.t 5)⟩,
             ⟨none, .ia 53 3 (.t 51) (.t 52)⟩,
             ⟨none, .mv 54 (.t 1)⟩,
             ⟨none, .nck 55 (.t 54)⟩,
             ⟨none, .fa 56 2 (.t 55)⟩,
             ⟨none, .ld 57 false 1 (.t 56)⟩,
             ⟨none, .mv 58 (.t 5)⟩,
             ⟨none, .ia 59 3 (.t 57) (.t 58)⟩,
             ⟨none, .call (some 60) g [(.t 53), (.t 59)]⟩,
             ⟨none, .un 61 .not (.t 60)⟩])
           (.cond (.t 61)
            ((.seq
             (.reg false [⟨none, .mv 4 (.c (.sc (.bool false)))⟩])
             (.ret)))
            (.skip)))))
         (.reg false [⟨none, .mv 46 (.t 5)⟩,
           ⟨none, .bin 47 .add (.t 46) (.c (.sc (.int .i64 1)))⟩,
           ⟨none, .mv 5 (.t 47)⟩])))))))))
    ((.seq
     (.reg false [⟨none, .mv 4 (.c (.sc (.bool true)))⟩])
     (.ret))))))))
def K_l01Same (P : Program) (f : Nat) : Prop := ∀ (a b : Ex), AF P f [.pt (eE a) 0, .pt (eE b) 0] (.own (eB (qE a b)))
theorem a_l01Same {P : Program} (hm : P.follows .mixedOrders = true) {g : Nat} (hr : resF P g = some (62, k_l01Same g, [.t 4])) : K_l01Same P g := by
  intro a b
  revert b
  refine Ex.ind (p := fun a => ∀ b : Ex, AF P g [.pt (eE a) 0, .pt (eE b) 0] (.own (eB (qE a b)))) (fun k n nn ks ih b => ?_) a
  cases b with
  | mk k' n' nn' ks' =>
  rw [eE_mk, eE_mk, qE_mk]
  refine af_of_res hr hm rfl fun hb => ?_
  have hl : ks.length ≤ 9223372036854775807 := by
    have := hb.1
    simp only [D.bd, D.bdL, List.length_map, maxEl] at this
    exact this.2.2.1.1
  cases h1 : (k == k')
  · simp +contextual -implicitDefEqProofs only [k_l01Same, h1, bne, Bool.not_true, Bool.not_false, Bool.true_and, Bool.false_and, Bool.and_true, Bool.and_false, Bool.true_or, Bool.false_or, Bool.or_true, Bool.or_false, go_sem, eI, eB, ↓reduceIte, Nat.reduceEqDiff, Nat.reduceAdd, Nat.reduceLeDiff, Nat.reduceMul, Nat.reduceBEq, Nat.reduceBneDiff, Nat.reduceLT, Nat.reduceSub, decide_true, decide_false, and_self, true_and, and_true, false_and, and_false, not_true_eq_false, not_false_eq_true, false_implies, true_implies, implies_true, ge_iff_le, Bool.false_eq_true, List.cons_append, List.nil_append]
  cases h2 : (n == n')
  · simp +contextual -implicitDefEqProofs only [k_l01Same, h1, h2, bne, Bool.not_true, Bool.not_false, Bool.true_and, Bool.false_and, Bool.and_true, Bool.and_false, Bool.true_or, Bool.false_or, Bool.or_true, Bool.or_false, go_sem, eI, eB, ↓reduceIte, Nat.reduceEqDiff, Nat.reduceAdd, Nat.reduceLeDiff, Nat.reduceMul, Nat.reduceBEq, Nat.reduceBneDiff, Nat.reduceLT, Nat.reduceSub, decide_true, decide_false, and_self, true_and, and_true, false_and, and_false, not_true_eq_false, not_false_eq_true, false_implies, true_implies, implies_true, ge_iff_le, Bool.false_eq_true, List.cons_append, List.nil_append]
  cases h0 : ((ks.length : Int) == ks'.length)
  · simp +contextual -implicitDefEqProofs only [k_l01Same, h0, h1, h2, List.length_map, eqL_len (show ks.length ≠ ks'.length by simp at h0; omega), bne, Bool.not_true, Bool.not_false, Bool.true_and, Bool.false_and, Bool.and_true, Bool.and_false, Bool.true_or, Bool.false_or, Bool.or_true, Bool.or_false, go_sem, eI, eB, ↓reduceIte, Nat.reduceEqDiff, Nat.reduceAdd, Nat.reduceLeDiff, Nat.reduceMul, Nat.reduceBEq, Nat.reduceBneDiff, Nat.reduceLT, Nat.reduceSub, decide_true, decide_false, and_self, true_and, and_true, false_and, and_false, not_true_eq_false, not_false_eq_true, false_implies, true_implies, implies_true, ge_iff_le, Bool.false_eq_true, List.cons_append, List.nil_append]
  have hlen : ks.length = ks'.length := by simp at h0; omega
  simp +contextual -implicitDefEqProofs only [k_l01Same, h0, h1, h2, List.length_map, bne, Bool.not_true, Bool.not_false, Bool.true_and, Bool.false_and, Bool.and_true, Bool.and_false, Bool.true_or, Bool.false_or, Bool.or_true, Bool.or_false, go_sem, eI, eB, ↓reduceIte, Nat.reduceEqDiff, Nat.reduceAdd, Nat.reduceLeDiff, Nat.reduceMul, Nat.reduceBEq, Nat.reduceBneDiff, Nat.reduceLT, Nat.reduceSub, decide_true, decide_false, and_self, true_and, and_true, false_and, and_false, not_true_eq_false, not_false_eq_true, false_implies, true_implies, implies_true, ge_iff_le, Bool.false_eq_true, List.cons_append, List.nil_append]
  refine vc_on (α := Nat) [4, 5, 39, 40, 41, 42, 43, 44, 45, 46, 47, 48, 49, 50, 51, 52, 53, 54, 55, 56, 57, 58, 59, 60, 61] (fun i => [(5, .im none (.sc (.int .i64 i)))]) (fun i => i ≤ ks.length ∧ eqL qE (ks.drop i) (ks'.drop i) = eqL qE ks ks') (fun i => ks.length - i) 0
    (by simp only [subEnv, go_sem, ↓reduceIte, Nat.reduceEqDiff]; simp) ⟨by simp, by simp⟩ ?_
  rintro i ⟨j1, j4⟩
  by_cases hi : i < ks.length
  · have hi2 : i < ks'.length := by omega
    have e1 := at_map (f := eE) hi
    have e2 := at_map (f := eE) hi2
    rw [List.drop_eq_getElem_cons hi, List.drop_eq_getElem_cons hi2] at j4
    simp only [eqL] at j4
    simp +contextual -implicitDefEqProofs only [e1, e2, hi, hi2, eE_size, Int.ofNat_lt, List.length_map, Int.natCast_nonneg, Nat.zero_lt_one, go_sem, eI, eB, ↓reduceIte, Nat.reduceEqDiff, Nat.reduceAdd, Nat.reduceLeDiff, Nat.reduceMul, Nat.reduceBEq, Nat.reduceBneDiff, Nat.reduceLT, Nat.reduceSub, decide_true, decide_false, and_self, true_and, and_true, false_and, and_false, not_true_eq_false, not_false_eq_true, false_implies, true_implies, implies_true, ge_iff_le, Bool.false_eq_true, List.cons_append, List.nil_append]
    refine callQ_self ?_ (ih ks[i] (List.getElem_mem _) ks'[i]) ?_
    · exact rfl
    cases h : qE ks[i] ks'[i]
    · simp +contextual -implicitDefEqProofs only [eI, eB, Bool.not_false, go_sem, eI, eB, ↓reduceIte, Nat.reduceEqDiff, Nat.reduceAdd, Nat.reduceLeDiff, Nat.reduceMul, Nat.reduceBEq, Nat.reduceBneDiff, Nat.reduceLT, Nat.reduceSub, decide_true, decide_false, and_self, true_and, and_true, false_and, and_false, not_true_eq_false, not_false_eq_true, false_implies, true_implies, implies_true, ge_iff_le, Bool.false_eq_true, List.cons_append, List.nil_append]
      exact D.Le.sc_eq (by rw [← j4, h]; rfl)
    · simp +contextual -implicitDefEqProofs only [eI, eB, Bool.not_true, go_sem, eI, eB, ↓reduceIte, Nat.reduceEqDiff, Nat.reduceAdd, Nat.reduceLeDiff, Nat.reduceMul, Nat.reduceBEq, Nat.reduceBneDiff, Nat.reduceLT, Nat.reduceSub, decide_true, decide_false, and_self, true_and, and_true, false_and, and_false, not_true_eq_false, not_false_eq_true, false_implies, true_implies, implies_true, ge_iff_le, Bool.false_eq_true, List.cons_append, List.nil_append]
      rw [wrap_i64 (by omega) (by omega)]
      exact ⟨i + 1, ⟨by omega, eqL_step j4 h⟩, by omega, Ent.env (by simp only [subEnv, go_sem, ↓reduceIte, Nat.reduceEqDiff, List.length_map]; simp)⟩
  · simp +contextual -implicitDefEqProofs only [hi, Int.ofNat_lt, List.length_map, Int.natCast_nonneg, go_sem, eI, eB, ↓reduceIte, Nat.reduceEqDiff, Nat.reduceAdd, Nat.reduceLeDiff, Nat.reduceMul, Nat.reduceBEq, Nat.reduceBneDiff, Nat.reduceLT, Nat.reduceSub, decide_true, decide_false, and_self, true_and, and_true, false_and, and_false, not_true_eq_false, not_false_eq_true, false_implies, true_implies, implies_true, ge_iff_le, Bool.false_eq_true, List.cons_append, List.nil_append]
    refine D.Le.sc_eq ?_
    rw [← j4, List.drop_eq_nil_of_le (by omega), List.drop_eq_nil_of_le (by omega)]
    rfl
end Go.Ax
