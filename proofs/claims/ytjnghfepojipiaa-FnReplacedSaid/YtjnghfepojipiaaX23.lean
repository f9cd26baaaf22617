/- Contracts of functions of the seat, proved over the engine. No condition. -/
import Derived.Test.YtjnghfepojipiaaX22
set_option linter.unusedSimpArgs false
set_option linter.unusedVariables false
set_option linter.unnecessarySimpa false
namespace Go.Ax
set_option linter.unusedSimpArgs false
set_option maxRecDepth 20000
set_option maxHeartbeats 4000000

def subAt (g : Int × Int) (e : Ex) (xs : List Int) : Ex × Int :=
 if (okG g && okE g e) = true then (if (atE e xs false).2.2 = true then (cpE (atE e xs false).1, 0) else (E0, 2)) else (E0, 1)

def k_imSubtermAt (f1 f2 f3 : Nat) : RC := (.seq (.reg false [⟨none, .box 3 2 (.t 0)⟩, ⟨none, .box 4 3 (.t 1)⟩, ⟨none, .zer 6 3 (.ag [(.sc (.int .i64 0)), (.sc (.int .i64 0)), (.ls (some true) 3 [])])⟩, ⟨none, .mv 7 (.c (.sc (.int .i64 0)))⟩]) ((.seq ((.seq (.reg false [⟨none, .ld 11 true 2 (.t 3)⟩, ⟨none, .ld 12 true 3 (.t 4)⟩, ⟨none, .call (some 13) f1 [(.t 11), (.t 12)]⟩, ⟨none, .un 14 .not (.t 13)⟩]) (.cond (.t 14) ((.seq (.reg false [⟨none, .bld 15 (.ag [(.sc (.int .i64 0)), (.sc (.int .i64 0)), (.ls (some true) 3 [])]) []⟩, ⟨none, .st 3 (.t 6) (.t 15)⟩, ⟨none, .mv 7 (.c (.sc (.int .i64 1)))⟩]) (.ret))) (.skip)))) ((.seq (.reg false [⟨none, .ld 17 true 3 (.t 4)⟩, ⟨none, .mv 18 (.t 2)⟩, ⟨none, .call (some 19) f2 [(.t 17), (.t 18)]⟩, ⟨none, .mv 16 (.t 19)⟩, ⟨none, .ext 20 (.t 16) 0⟩, ⟨none, .ext 21 (.t 16) 1⟩, ⟨none, .ext 22 (.t 16) 2⟩, ⟨none, .zer 8 3 (.ag [(.sc (.int .i64 0)), (.sc (.int .i64 0)), (.ls (some true) 3 [])])⟩, ⟨none, .st 3 (.t 8) (.t 20)⟩, ⟨none, .mv 9 (.t 21)⟩, ⟨none, .mv 10 (.t 22)⟩]) ((.seq ((.seq (.reg false [⟨none, .mv 23 (.t 10)⟩, ⟨none, .un 24 .not (.t 23)⟩]) (.cond (.t 24) ((.seq (.reg false [⟨none, .bld 25 (.ag [(.sc (.int .i64 0)), (.sc (.int .i64 0)), (.ls (some true) 3 [])]) []⟩, ⟨none, .st 3 (.t 6) (.t 25)⟩, ⟨none, .mv 7 (.c (.sc (.int .i64 2)))⟩]) (.ret))) (.skip)))) ((.seq (.reg false [⟨none, .ld 26 true 3 (.t 8)⟩, ⟨none, .call (some 27) f3 [(.t 26)]⟩, ⟨none, .st 3 (.t 6) (.t 27)⟩, ⟨none, .mv 7 (.c (.sc (.int .i64 0)))⟩]) (.ret))))))))))
def K_imSubtermAt (P : Program) (fno : Nat) : Prop := ∀ (g : Int × Int) (e : Ex) (nn : Option Bool) (xs : List Int) (hf : fitE e), AF P fno [eG g, eE e, .ls nn 1 (xs.map eI)] (.tup ([.own (eE (subAt g e xs).1), .own (eI (subAt g e xs).2)]))
theorem a_imSubtermAt {P : Program} (hm : P.follows .mixedOrders = true) {g f1 f2 f3 : Nat} (hr : resF P g = some (28, k_imSubtermAt f1 f2 f3, [.c 6 3 true, .t 7])) (hc1 : K_validExpr P f1) (hc2 : K_nodeAt P f2) (hc3 : K_copyExpr P f3) : K_imSubtermAt P g := by
 intro g e nn xs hf
 obtain ⟨k, n, en, ks, rfl⟩ := Ex.ex e
 rw [eE_mk]
 refine af_of_res hr hm rfl fun hb => ?_
 simp +contextual -implicitDefEqProofs only [k_imSubtermAt, eG, go_sem, eI, eB, ↓reduceIte, Nat.reduceEqDiff, Nat.reduceAdd, Nat.reduceLeDiff, Nat.reduceMul, Nat.reduceBEq, Nat.reduceBneDiff, Nat.reduceLT, Nat.reduceSub, Int.ofNat_lt, List.length_map, Int.natCast_nonneg, Nat.zero_lt_one]
 refine callQ_self (ds := [eG g, eE (.mk k n en ks)]) ?_ (hc1 g (.mk k n en ks)) ?_
 ·rw [eE_mk]; exact rfl
 cases hv : (okG g && okE g (.mk k n en ks))
 ·simp +contextual -implicitDefEqProofs only [hv, bne, Bool.not_true, Bool.not_false, Bool.true_and, Bool.false_and, Bool.and_true, Bool.and_false, Bool.true_or, Bool.false_or, Bool.or_true, Bool.or_false, go_sem, eI, eB, ↓reduceIte, Nat.reduceEqDiff, Nat.reduceAdd, Nat.reduceLeDiff, Nat.reduceMul, Nat.reduceBEq, Nat.reduceBneDiff, Nat.reduceLT, Nat.reduceSub, Int.ofNat_lt, List.length_map, Int.natCast_nonneg, Nat.zero_lt_one]
  simp only [subAt, hv, Bool.false_eq_true, if_false, eE_E0]
  exact ⟨D.Le.refl _, D.Le.refl _⟩
 have hl := hc2 (.mk k n en ks) nn xs hf
 have hfa := fitE_atE xs _ false hf
 unfold nodeE at hl
 generalize hat : atE (.mk k n en ks) xs false = q at hl hfa
 obtain ⟨node, bl, ok⟩ := q
 simp only at hl hfa
 simp +contextual -implicitDefEqProofs only [hv, bne, Bool.not_true, Bool.not_false, Bool.true_and, Bool.false_and, Bool.and_true, Bool.and_false, Bool.true_or, Bool.false_or, Bool.or_true, Bool.or_false, go_sem, eI, eB, ↓reduceIte, Nat.reduceEqDiff, Nat.reduceAdd, Nat.reduceLeDiff, Nat.reduceMul, Nat.reduceBEq, Nat.reduceBneDiff, Nat.reduceLT, Nat.reduceSub, Int.ofNat_lt, List.length_map, Int.natCast_nonneg, Nat.zero_lt_one]
 refine callQ_self (ds := [eE (.mk k n en ks), .ls nn 1 (xs.map eI)]) (by rw [eE_mk]; rfl) hl ?_
 cases ok
 ·simp +contextual -implicitDefEqProofs only [bne, Bool.not_true, Bool.not_false, Bool.true_and, Bool.false_and, Bool.and_true, Bool.and_false, Bool.true_or, Bool.false_or, Bool.or_true, Bool.or_false, eB, eE_E0, go_sem, eI, ↓reduceIte, Nat.reduceEqDiff, Nat.reduceAdd, Nat.reduceLeDiff, Nat.reduceMul, Nat.reduceBEq, Nat.reduceBneDiff, Nat.reduceLT, Nat.reduceSub, Int.ofNat_lt, List.length_map, Int.natCast_nonneg, Nat.zero_lt_one]
  simp only [subAt, hv, hat, Bool.false_eq_true, if_false, if_true, eE_E0]
  exact ⟨D.Le.refl _, D.Le.refl _⟩
 cases n2 : (eE node).noPtr
 all_goals
  simp +contextual -implicitDefEqProofs only [bne, Bool.not_true, Bool.not_false, Bool.true_and, Bool.false_and, Bool.and_true, Bool.and_false, Bool.true_or, Bool.false_or, Bool.or_true, Bool.or_false, eB, n2, encE.sub, eE_size, eE_isAg, go_sem, eI, ↓reduceIte, Nat.reduceEqDiff, Nat.reduceAdd, Nat.reduceLeDiff, Nat.reduceMul, Nat.reduceBEq, Nat.reduceBneDiff, Nat.reduceLT, Nat.reduceSub, Int.ofNat_lt, List.length_map, Int.natCast_nonneg, Nat.zero_lt_one]
  refine callQ_self ?_ (hc3 node hfa) ?_
  ·exact rfl
  simp only [subAt, hv, hat, if_true]
  cases n1 : (eE (cpE node)).noPtr
  all_goals
   simp +contextual -implicitDefEqProofs only [n1, encE.sub, eE_size, eE_isAg, bne, Bool.not_true, Bool.not_false, Bool.true_and, Bool.false_and, Bool.and_true, Bool.and_false, Bool.true_or, Bool.false_or, Bool.or_true, Bool.or_false, go_sem, eI, eB, ↓reduceIte, Nat.reduceEqDiff, Nat.reduceAdd, Nat.reduceLeDiff, Nat.reduceMul, Nat.reduceBEq, Nat.reduceBneDiff, Nat.reduceLT, Nat.reduceSub, Int.ofNat_lt, List.length_map, Int.natCast_nonneg, Nat.zero_lt_one]

end Go.Ax
