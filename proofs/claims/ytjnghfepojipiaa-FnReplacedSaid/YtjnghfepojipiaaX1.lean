/- Contracts of functions of the seat, proved over the engine. No condition. -/
import Derived.Test.YtjnghfepojipiaaAxX
set_option linter.unusedSimpArgs false
set_option linter.unusedVariables false
set_option linter.unnecessarySimpa false
namespace Go.Ax
set_option linter.unusedSimpArgs false
def eG (g : Int × Int) : D := .ag [eI g.1, eI g.2]
def isIn (n lo hi : Int) : Bool := decide (lo ≤ n) && decide (n ≤ hi)
def okG (g : Int × Int) : Bool := isIn g.1 0 3 && isIn g.2 0 4

def k_within : RC := (.seq (.reg false [⟨none, .mv 6 (.c (.sc (.bool false)))⟩]) ((.seq (.reg false [⟨none, .mv 7 (.t 1)⟩, ⟨none, .mv 8 (.t 0)⟩, ⟨none, .bin 9 .leq (.t 7) (.t 8)⟩, ⟨none, .mv 10 (.t 9)⟩, ⟨some (10, true), .mv 11 (.t 0)⟩, ⟨some (10, true), .mv 12 (.t 2)⟩, ⟨some (10, true), .bin 13 .leq (.t 11) (.t 12)⟩, ⟨none, .pick 14 (.t 10) (.t 13) (.c (.sc (.bool false)))⟩, ⟨none, .mv 6 (.t 14)⟩]) (.ret))))
def K_within (P : Program) (f : Nat) : Prop := ∀ (n lo hi : Int), AF P f [eI n, eI lo, eI hi] (.own (eB (isIn n lo hi)))
theorem a_within {P : Program} (hm : P.follows .mixedOrders = true) {g : Nat} (hr : resF P g = some (15, k_within, [.t 6])) : K_within P g := by
 intro n lo hi
 refine af_of_res hr hm rfl fun hb => ?_
 simp +contextual -implicitDefEqProofs only [k_within, isIn, go_sem, eI, eB, ↓reduceIte, Nat.reduceEqDiff, Nat.reduceAdd, Nat.reduceLeDiff, Nat.reduceMul, Nat.reduceBEq, Nat.reduceBneDiff, Nat.reduceLT, Nat.reduceSub]

def k_l00In : RC := (.seq (.reg false [⟨none, .mv 6 (.c (.sc (.bool false)))⟩]) ((.seq (.reg false [⟨none, .mv 7 (.t 0)⟩, ⟨none, .mv 8 (.t 1)⟩, ⟨none, .bin 9 .geq (.t 7) (.t 8)⟩, ⟨none, .mv 10 (.t 9)⟩, ⟨some (10, true), .mv 11 (.t 0)⟩, ⟨some (10, true), .mv 12 (.t 2)⟩, ⟨some (10, true), .bin 13 .leq (.t 11) (.t 12)⟩, ⟨none, .pick 14 (.t 10) (.t 13) (.c (.sc (.bool false)))⟩, ⟨none, .mv 6 (.t 14)⟩]) (.ret))))
def K_l00In (P : Program) (f : Nat) : Prop := ∀ (n lo hi : Int), AF P f [eI n, eI lo, eI hi] (.own (eB (isIn n lo hi)))
theorem a_l00In {P : Program} (hm : P.follows .mixedOrders = true) {g : Nat} (hr : resF P g = some (15, k_l00In, [.t 6])) : K_l00In P g := by
 intro n lo hi
 refine af_of_res hr hm rfl fun hb => ?_
 simp +contextual -implicitDefEqProofs only [k_l00In, isIn, go_sem, eI, eB, ↓reduceIte, Nat.reduceEqDiff, Nat.reduceAdd, Nat.reduceLeDiff, Nat.reduceMul, Nat.reduceBEq, Nat.reduceBneDiff, Nat.reduceLT, Nat.reduceSub]

def k_validSig (f1 : Nat) : RC := (.seq (.reg false [⟨none, .box 1 2 (.t 0)⟩, ⟨none, .mv 2 (.c (.sc (.bool false)))⟩]) ((.seq (.reg false [⟨none, .fa 3 0 (.t 1)⟩, ⟨none, .ld 4 false 1 (.t 3)⟩, ⟨none, .call (some 5) f1 [(.t 4), (.c (.sc (.int .i64 0))), (.c (.sc (.int .i64 3)))]⟩, ⟨none, .mv 6 (.t 5)⟩, ⟨some (6, true), .fa 7 1 (.t 1)⟩, ⟨some (6, true), .ld 8 false 1 (.t 7)⟩, ⟨some (6, true), .call (some 9) f1 [(.t 8), (.c (.sc (.int .i64 0))), (.c (.sc (.int .i64 4)))]⟩, ⟨none, .pick 10 (.t 6) (.t 9) (.c (.sc (.bool false)))⟩, ⟨none, .mv 2 (.t 10)⟩]) (.ret))))
def K_validSig (P : Program) (f : Nat) : Prop := ∀ (g : Int × Int), AF P f [eG g] (.own (eB (okG g)))
theorem a_validSig {P : Program} (hm : P.follows .mixedOrders = true) {g f1 : Nat} (hr : resF P g = some (11, k_validSig f1, [.t 2])) (hc1 : K_within P f1) : K_validSig P g := by
 intro g
 refine af_of_res hr hm rfl fun hb => ?_
 simp +contextual -implicitDefEqProofs only [k_validSig, eG, go_sem, eI, eB, ↓reduceIte, Nat.reduceEqDiff, Nat.reduceAdd, Nat.reduceLeDiff, Nat.reduceMul, Nat.reduceBEq, Nat.reduceBneDiff, Nat.reduceLT, Nat.reduceSub]
 refine callQ_self ?_ (hc1 g.1 0 3) ?_
 ·exact rfl
 cases h1 : isIn g.1 0 3 <;> simp +contextual -implicitDefEqProofs only [okG, h1, go_sem, eI, eB, ↓reduceIte, Nat.reduceEqDiff, Nat.reduceAdd, Nat.reduceLeDiff, Nat.reduceMul, Nat.reduceBEq, Nat.reduceBneDiff, Nat.reduceLT, Nat.reduceSub]
 refine callQ_self ?_ (hc1 g.2 0 4) ?_
 ·exact rfl
 simp +contextual -implicitDefEqProofs only [go_sem, eI, eB, ↓reduceIte, Nat.reduceEqDiff, Nat.reduceAdd, Nat.reduceLeDiff, Nat.reduceMul, Nat.reduceBEq, Nat.reduceBneDiff, Nat.reduceLT, Nat.reduceSub]

def k_l01Sig (f1 : Nat) : RC := (.seq (.reg false [⟨none, .box 1 2 (.t 0)⟩, ⟨none, .mv 2 (.c (.sc (.bool false)))⟩]) ((.seq (.reg false [⟨none, .fa 3 0 (.t 1)⟩, ⟨none, .ld 4 false 1 (.t 3)⟩, ⟨none, .call (some 5) f1 [(.t 4), (.c (.sc (.int .i64 0))), (.c (.sc (.int .i64 3)))]⟩, ⟨none, .mv 6 (.t 5)⟩, ⟨some (6, true), .fa 7 1 (.t 1)⟩, ⟨some (6, true), .ld 8 false 1 (.t 7)⟩, ⟨some (6, true), .call (some 9) f1 [(.t 8), (.c (.sc (.int .i64 0))), (.c (.sc (.int .i64 4)))]⟩, ⟨none, .pick 10 (.t 6) (.t 9) (.c (.sc (.bool false)))⟩, ⟨none, .mv 2 (.t 10)⟩]) (.ret))))
def K_l01Sig (P : Program) (f : Nat) : Prop := ∀ (g : Int × Int), AF P f [eG g] (.own (eB (okG g)))
theorem a_l01Sig {P : Program} (hm : P.follows .mixedOrders = true) {g f1 : Nat} (hr : resF P g = some (11, k_l01Sig f1, [.t 2])) (hc1 : K_l00In P f1) : K_l01Sig P g := by
 intro g
 refine af_of_res hr hm rfl fun hb => ?_
 simp +contextual -implicitDefEqProofs only [k_l01Sig, eG, go_sem, eI, eB, ↓reduceIte, Nat.reduceEqDiff, Nat.reduceAdd, Nat.reduceLeDiff, Nat.reduceMul, Nat.reduceBEq, Nat.reduceBneDiff, Nat.reduceLT, Nat.reduceSub]
 refine callQ_self ?_ (hc1 g.1 0 3) ?_
 ·exact rfl
 cases h1 : isIn g.1 0 3 <;> simp +contextual -implicitDefEqProofs only [okG, h1, go_sem, eI, eB, ↓reduceIte, Nat.reduceEqDiff, Nat.reduceAdd, Nat.reduceLeDiff, Nat.reduceMul, Nat.reduceBEq, Nat.reduceBneDiff, Nat.reduceLT, Nat.reduceSub]
 refine callQ_self ?_ (hc1 g.2 0 4) ?_
 ·exact rfl
 simp +contextual -implicitDefEqProofs only [go_sem, eI, eB, ↓reduceIte, Nat.reduceEqDiff, Nat.reduceAdd, Nat.reduceLeDiff, Nat.reduceMul, Nat.reduceBEq, Nat.reduceBneDiff, Nat.reduceLT, Nat.reduceSub]

section
variable {P : Program} (hm : P.follows .mixedOrders = true)
include hm
end

def k_l01Same (g : Nat) : RC := (.seq (.reg false [⟨none, .mv 4 (.c (.sc (.bool false)))⟩]) ((.seq ((.seq (.reg true [⟨none, .mv 6 (.t 0)⟩, ⟨none, .nck 7 (.t 6)⟩, ⟨none, .fa 8 0 (.t 7)⟩, ⟨none, .ld 9 false 1 (.t 8)⟩, ⟨none, .mv 10 (.t 1)⟩, ⟨none, .nck 11 (.t 10)⟩, ⟨none, .fa 12 0 (.t 11)⟩, ⟨none, .ld 13 false 1 (.t 12)⟩, ⟨none, .bin 14 .neq (.t 9) (.t 13)⟩, ⟨none, .mv 15 (.t 14)⟩, ⟨some (15, false), .mv 16 (.t 0)⟩, ⟨some (15, false), .nck 17 (.t 16)⟩, ⟨some (15, false), .fa 18 1 (.t 17)⟩, ⟨some (15, false), .ld 19 false 1 (.t 18)⟩, ⟨some (15, false), .mv 20 (.t 1)⟩, ⟨some (15, false), .nck 21 (.t 20)⟩, ⟨some (15, false), .fa 22 1 (.t 21)⟩, ⟨some (15, false), .ld 23 false 1 (.t 22)⟩, ⟨some (15, false), .bin 24 .neq (.t 19) (.t 23)⟩, ⟨none, .pick 25 (.t 15) (.c (.sc (.bool true))) (.t 24)⟩, ⟨none, .mv 26 (.t 25)⟩, ⟨some (26, false), .mv 27 (.t 0)⟩, ⟨some (26, false), .nck 28 (.t 27)⟩, ⟨some (26, false), .fa 29 2 (.t 28)⟩, ⟨some (26, false), .ld 30 false 1 (.t 29)⟩, ⟨some (26, false), .len 31 (.t 30)⟩, ⟨some (26, false), .mv 32 (.t 1)⟩, ⟨some (26, false), .nck 33 (.t 32)⟩, ⟨some (26, false), .fa 34 2 (.t 33)⟩, ⟨some (26, false), .ld 35 false 1 (.t 34)⟩, ⟨some (26, false), .len 36 (.t 35)⟩, ⟨some (26, false), .bin 37 .neq (.t 31) (.t 36)⟩, ⟨none, .pick 38 (.t 26) (.c (.sc (.bool true))) (.t 37)⟩]) (.cond (.t 38) ((.seq (.reg false [⟨none, .mv 4 (.c (.sc (.bool false)))⟩]) (.ret))) (.skip)))) ((.seq ((.seq (.reg false [⟨none, .mv 5 (.c (.sc (.int .i64 0)))⟩]) (.blk 0 (.loop ((.seq ((.seq (.reg false [⟨none, .mv 39 (.t 5)⟩, ⟨none, .mv 40 (.t 0)⟩, ⟨none, .nck 41 (.t 40)⟩, ⟨none, .fa 42 2 (.t 41)⟩, ⟨none, .ld 43 false 1 (.t 42)⟩, ⟨none, .len 44 (.t 43)⟩, ⟨none, .bin 45 .lss (.t 39) (.t 44)⟩]) (.cond (.t 45) (.skip) (.exit 0)))) ((.seq (.blk 1 ((.seq (.reg true [⟨none, .mv 48 (.t 0)⟩, ⟨none, .nck 49 (.t 48)⟩, ⟨none, .fa 50 2 (.t 49)⟩, ⟨none, .ld 51 false 1 (.t 50)⟩, ⟨none, .mv 52 (.t 5)⟩, ⟨none, .ia 53 3 (.t 51) (.t 52)⟩, ⟨none, .mv 54 (.t 1)⟩, ⟨none, .nck 55 (.t 54)⟩, ⟨none, .fa 56 2 (.t 55)⟩, ⟨none, .ld 57 false 1 (.t 56)⟩, ⟨none, .mv 58 (.t 5)⟩, ⟨none, .ia 59 3 (.t 57) (.t 58)⟩, ⟨none, .call (some 60) g [(.t 53), (.t 59)]⟩, ⟨none, .un 61 .not (.t 60)⟩]) (.cond (.t 61) ((.seq (.reg false [⟨none, .mv 4 (.c (.sc (.bool false)))⟩]) (.ret))) (.skip))))) (.reg false [⟨none, .mv 46 (.t 5)⟩, ⟨none, .bin 47 .add (.t 46) (.c (.sc (.int .i64 1)))⟩, ⟨none, .mv 5 (.t 47)⟩]))))))))) ((.seq (.reg false [⟨none, .mv 4 (.c (.sc (.bool true)))⟩]) (.ret))))))))
def K_l01Same (P : Program) (f : Nat) : Prop := ∀ (a b : Ex), AF P f [.pt (eE a) 0, .pt (eE b) 0] (.own (eB (qE a b)))
theorem a_l01Same {P : Program} (hm : P.follows .mixedOrders = true) {g : Nat} (hr : resF P g = some (62, k_l01Same g, [.t 4])) : K_l01Same P g := by
 intro a b
 revert b
 refine Ex.ind (p := fun a => ∀ b : Ex, AF P g [.pt (eE a) 0, .pt (eE b) 0] (.own (eB (qE a b)))) (fun k n nn ks ih b => ?_) a
 cases b with
 | mk k' n' nn' ks' =>
 rw [eE_mk, eE_mk, qE_mk]
 refine af_of_res hr hm rfl fun hb => ?_
 have hl : ks.length ≤ 9223372036854775807 := by
  have := hb.1
  simp only [D.bd, D.bdL, List.length_map, maxEl] at this
  exact this.2.2.1.1
 cases h1 : (k == k')
 ·simp +contextual -implicitDefEqProofs only [k_l01Same, h1, bne, Bool.not_true, Bool.not_false, Bool.true_and, Bool.false_and, Bool.and_true, Bool.and_false, Bool.true_or, Bool.false_or, Bool.or_true, Bool.or_false, go_sem, eI, eB, ↓reduceIte, Nat.reduceEqDiff, Nat.reduceAdd, Nat.reduceLeDiff, Nat.reduceMul, Nat.reduceBEq, Nat.reduceBneDiff, Nat.reduceLT, Nat.reduceSub]
 cases h2 : (n == n')
 ·simp +contextual -implicitDefEqProofs only [k_l01Same, h1, h2, bne, Bool.not_true, Bool.not_false, Bool.true_and, Bool.false_and, Bool.and_true, Bool.and_false, Bool.true_or, Bool.false_or, Bool.or_true, Bool.or_false, go_sem, eI, eB, ↓reduceIte, Nat.reduceEqDiff, Nat.reduceAdd, Nat.reduceLeDiff, Nat.reduceMul, Nat.reduceBEq, Nat.reduceBneDiff, Nat.reduceLT, Nat.reduceSub]
 cases h0 : ((ks.length : Int) == ks'.length)
 ·simp +contextual -implicitDefEqProofs only [k_l01Same, h0, h1, h2, List.length_map, eqL_len (show ks.length ≠ ks'.length by simp at h0; omega), bne, Bool.not_true, Bool.not_false, Bool.true_and, Bool.false_and, Bool.and_true, Bool.and_false, Bool.true_or, Bool.false_or, Bool.or_true, Bool.or_false, go_sem, eI, eB, ↓reduceIte, Nat.reduceEqDiff, Nat.reduceAdd, Nat.reduceLeDiff, Nat.reduceMul, Nat.reduceBEq, Nat.reduceBneDiff, Nat.reduceLT, Nat.reduceSub]
 have hlen : ks.length = ks'.length := by simp at h0; omega
 simp +contextual -implicitDefEqProofs only [k_l01Same, h0, h1, h2, List.length_map, bne, Bool.not_true, Bool.not_false, Bool.true_and, Bool.false_and, Bool.and_true, Bool.and_false, Bool.true_or, Bool.false_or, Bool.or_true, Bool.or_false, go_sem, eI, eB, ↓reduceIte, Nat.reduceEqDiff, Nat.reduceAdd, Nat.reduceLeDiff, Nat.reduceMul, Nat.reduceBEq, Nat.reduceBneDiff, Nat.reduceLT, Nat.reduceSub]
 refine vc_on (α := Nat) [4, 5, 39, 40, 41, 42, 43, 44, 45, 46, 47, 48, 49, 50, 51, 52, 53, 54, 55, 56, 57, 58, 59, 60, 61] (fun i => [(5, .im none (.sc (.int .i64 i)))]) (fun i => i ≤ ks.length ∧ eqL qE (ks.drop i) (ks'.drop i) = eqL qE ks ks') (fun i => ks.length - i) 0
  (by simp only [subEnv, go_sem, ↓reduceIte, Nat.reduceEqDiff]; simp) ⟨by simp, by simp⟩ ?_
 rintro i ⟨j1, j4⟩
 by_cases hi : i < ks.length
 ·have hi2 : i < ks'.length := by omega
  have e1 := at_map (f := eE) hi
  have e2 := at_map (f := eE) hi2
  rw [List.drop_eq_getElem_cons hi, List.drop_eq_getElem_cons hi2] at j4
  simp only [eqL] at j4
  simp +contextual -implicitDefEqProofs only [e1, e2, hi, hi2, eE_size, Int.ofNat_lt, List.length_map, Int.natCast_nonneg, Nat.zero_lt_one, go_sem, eI, eB, ↓reduceIte, Nat.reduceEqDiff, Nat.reduceAdd, Nat.reduceLeDiff, Nat.reduceMul, Nat.reduceBEq, Nat.reduceBneDiff, Nat.reduceLT, Nat.reduceSub]
  refine callQ_self ?_ (ih ks[i] (List.getElem_mem _) ks'[i]) ?_
  ·exact rfl
  cases h : qE ks[i] ks'[i]
  ·simp +contextual -implicitDefEqProofs only [eI, eB, Bool.not_false, go_sem, ↓reduceIte, Nat.reduceEqDiff, Nat.reduceAdd, Nat.reduceLeDiff, Nat.reduceMul, Nat.reduceBEq, Nat.reduceBneDiff, Nat.reduceLT, Nat.reduceSub]
   exact D.Le.sc_eq (by rw [← j4, h]; rfl)
  ·simp +contextual -implicitDefEqProofs only [eI, eB, Bool.not_true, go_sem, ↓reduceIte, Nat.reduceEqDiff, Nat.reduceAdd, Nat.reduceLeDiff, Nat.reduceMul, Nat.reduceBEq, Nat.reduceBneDiff, Nat.reduceLT, Nat.reduceSub]
   rw [wrap_i64 (by omega) (by omega)]
   exact ⟨i + 1, ⟨by omega, eqL_step j4 h⟩, by omega, Ent.env (by simp only [subEnv, go_sem, ↓reduceIte, Nat.reduceEqDiff, List.length_map]; simp)⟩
 ·simp +contextual -implicitDefEqProofs only [hi, Int.ofNat_lt, List.length_map, Int.natCast_nonneg, go_sem, eI, eB, ↓reduceIte, Nat.reduceEqDiff, Nat.reduceAdd, Nat.reduceLeDiff, Nat.reduceMul, Nat.reduceBEq, Nat.reduceBneDiff, Nat.reduceLT, Nat.reduceSub]
  refine D.Le.sc_eq ?_
  rw [← j4, List.drop_eq_nil_of_le (by omega), List.drop_eq_nil_of_le (by omega)]
  rfl
end Go.Ax
