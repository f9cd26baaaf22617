/- Contracts of functions of the seat, proved over the engine. No condition. -/
import Derived.Test.YtjnghfepojipiaaX96
set_option linter.unusedSimpArgs false
set_option linter.unusedVariables false
set_option linter.unnecessarySimpa false
namespace Go.Ax
set_option linter.unusedSimpArgs false
set_option maxRecDepth 20000
set_option maxHeartbeats 4000000
theorem putAt_sp {xs : List Int} {as : List (Nat × Nat)} {p : Nat × Nat} {t v : Ex} {bo : Bool} (hl : as.length = xs.length) (hx : xs ≠ []) (ha : (atE t xs bo).2.2 = true) :
  PutAt (spE xs as t) (locE p xs as t).1 (locE p xs as t).2 3 (eE v) (eE (setE xs t v)) := by
 refine ⟨by rw [eE_size, spE_size.1], eE_size v, fun h F G cs cv h1 hF h2 hG hd => ?_⟩
 obtain ⟨b', o', c, e, fr, l1, l2, l3, l4, l5⟩ := loc_set h2 hG xs t bo F cs hx (spE_un _ _ _ _ _ h1) hF ha hd
 obtain ⟨e1, e2⟩ := loc_uniq _ _ _ _ _ _ l1 (spE_loc xs as p t bo F cs hl hx ha h1)
 subst e1 e2
 exact ⟨c, e, fr, l2, l3, l4, l5⟩
theorem cov_sp {xs : List Int} {t : Ex} : Cov (eE t) (fun a : {l : List (Nat × Nat) // l.length = xs.length} => spE xs a.1 t) :=
 ⟨fun a => by rw [spE_size.1, eE_size], fun h F cs hr => by
  obtain ⟨as, h1, h2⟩ := spE_ex xs t F cs hr
  exact ⟨⟨as, h1⟩, h2⟩⟩
theorem fitE_cpE : ∀ e : Ex, fitE e → fitE (cpE e) :=
 Ex.ind fun k n nn ks ih h => by
  rw [fitE_mk] at h
  rw [cpE_mk, fitE_mk]
  refine ⟨by simpa using h.1, fun x hx => ?_⟩
  obtain ⟨y, hy, rfl⟩ := List.mem_map.1 hx
  exact ih y hy (h.2 y hy)

def k_spL04Replace (f1 f2 f3 f4 : Nat) : RC := (.seq (.reg false [⟨none, .box 4 2 (.t 0)⟩, ⟨none, .zer 8 3 (.ag [(.sc (.int .i64 0)), (.sc (.int .i64 0)), (.ls (some true) 3 [])])⟩, ⟨none, .mv 9 (.c (.sc (.int .i64 0)))⟩]) ((.seq (.reg false [⟨none, .mv 14 (.t 1)⟩, ⟨none, .call (some 15) f1 [(.t 14)]⟩, ⟨none, .zer 10 3 (.ag [(.sc (.int .i64 0)), (.sc (.int .i64 0)), (.ls (some true) 3 [])])⟩, ⟨none, .st 3 (.t 10) (.t 15)⟩]) ((.seq (.reg false [⟨none, .mv 17 (.t 2)⟩, ⟨none, .cls 18 f4 (.t 10) [(.t 17)]⟩, ⟨none, .mv 16 (.t 18)⟩, ⟨none, .ext 19 (.t 16) 0⟩, ⟨none, .ext 20 (.t 16) 1⟩, ⟨none, .ext 21 (.t 16) 2⟩, ⟨none, .mv 11 (.t 19)⟩, ⟨none, .mv 12 (.t 20)⟩, ⟨none, .mv 13 (.t 21)⟩]) ((.seq ((.seq (.reg false [⟨none, .mv 22 (.t 13)⟩, ⟨none, .un 23 .not (.t 22)⟩]) (.cond (.t 23) ((.seq (.reg false [⟨none, .bld 24 (.ag [(.sc (.int .i64 0)), (.sc (.int .i64 0)), (.ls (some true) 3 [])]) []⟩, ⟨none, .st 3 (.t 8) (.t 24)⟩, ⟨none, .mv 9 (.c (.sc (.int .i64 2)))⟩]) (.ret))) (.skip)))) ((.seq ((.seq (.reg false [⟨none, .mv 25 (.t 12)⟩, ⟨none, .mv 26 (.t 25)⟩, ⟨some (26, true), .mv 27 (.t 3)⟩, ⟨some (26, true), .call (some 28) f2 [(.t 27)]⟩, ⟨some (26, true), .un 29 .not (.t 28)⟩, ⟨none, .pick 30 (.t 26) (.t 29) (.c (.sc (.bool false)))⟩]) (.cond (.t 30) ((.seq (.reg false [⟨none, .bld 31 (.ag [(.sc (.int .i64 0)), (.sc (.int .i64 0)), (.ls (some true) 3 [])]) []⟩, ⟨none, .st 3 (.t 8) (.t 31)⟩, ⟨none, .mv 9 (.c (.sc (.int .i64 4)))⟩]) (.ret))) (.skip)))) ((.seq (.reg false [⟨none, .mv 32 (.t 11)⟩, ⟨none, .mv 33 (.t 3)⟩, ⟨none, .call (some 34) f1 [(.t 33)]⟩, ⟨none, .nck 35 (.t 32)⟩, ⟨none, .st 3 (.t 35) (.t 34)⟩]) ((.seq ((.seq (.reg false [⟨none, .ld 36 true 2 (.t 4)⟩, ⟨none, .call (some 37) f3 [(.t 36), (.t 10)]⟩, ⟨none, .un 38 .not (.t 37)⟩]) (.cond (.t 38) ((.seq (.reg false [⟨none, .bld 39 (.ag [(.sc (.int .i64 0)), (.sc (.int .i64 0)), (.ls (some true) 3 [])]) []⟩, ⟨none, .st 3 (.t 8) (.t 39)⟩, ⟨none, .mv 9 (.c (.sc (.int .i64 3)))⟩]) (.ret))) (.skip)))) ((.seq (.reg false [⟨none, .ld 40 true 3 (.t 10)⟩, ⟨none, .st 3 (.t 8) (.t 40)⟩, ⟨none, .mv 9 (.c (.sc (.int .i64 0)))⟩]) (.ret))))))))))))))))
def K_spL04Replace (P : Program) (fno : Nat) : Prop := ∀ (g0 : Int × Int) (e : Ex) (nn : Option Bool) (xs : List Int) (r : Ex) (hf : fitE e) (hr0 : fitE r) (hg : okG g0 = true), AF P fno [eG g0, .pt (eE e) 0, .ls nn 1 (xs.map eI), .pt (eE r) 0] (.tup ([.own (eE (replM g0 e xs r).1), .own (eI (replM g0 e xs r).2)]))
theorem a_spL04Replace {P : Program} (hm : P.follows .mixedOrders = true) {g f1 f2 f3 f4 : Nat} (hr : resF P g = some (41, k_spL04Replace f1 f2 f3 f4, [.c 8 3 true, .t 9])) (hc1 : K_l01Own P f1) (hc2 : K_l01Condition P f2) (hc3 : K_l01Ok P f3) (hc4 : K_l04AtL P f4) : K_spL04Replace P g := by
 intro g0 e nn xs r hf hr0 hg
 refine af_of_res hr hm rfl fun hb => ?_
 have hcp := atE_cpE xs e false
 generalize hat : atE e xs false = q at hcp
 obtain ⟨node, bl, ok⟩ := q
 simp only at hcp
 simp +contextual -implicitDefEqProofs only [k_spL04Replace, eG, encE.sub, eE_size, eE_isAg, go_sem, eI, eB, ↓reduceIte, Nat.reduceEqDiff, Nat.reduceAdd, Nat.reduceLeDiff, Nat.reduceMul, Nat.reduceBEq, Nat.reduceBneDiff, Nat.reduceLT, Nat.reduceSub, Int.ofNat_lt, List.length_map, Int.natCast_nonneg, Nat.zero_lt_one]
 refine callQ_self ?_ (hc1 e hf) ?_
 ·exact rfl
 simp +contextual -implicitDefEqProofs only [bne, Bool.not_true, Bool.not_false, Bool.true_and, Bool.false_and, Bool.and_true, Bool.and_false, Bool.true_or, Bool.false_or, Bool.or_true, Bool.or_false, eB, eE_E0, encE.sub, eE_size, eE_isAg, go_sem, eI, ↓reduceIte, Nat.reduceEqDiff, Nat.reduceAdd, Nat.reduceLeDiff, Nat.reduceMul, Nat.reduceBEq, Nat.reduceBneDiff, Nat.reduceLT, Nat.reduceSub, Int.ofNat_lt, List.length_map, Int.natCast_nonneg, Nat.zero_lt_one]
 refine clsL_self (ds := [.ls nn 1 (xs.map eI)]) (fun a : {l : List (Nat × Nat) // l.length = xs.length} => spE xs a.1 (cpE e)) (by decide) rfl rfl cov_sp fun a b0 => ?_
 by_cases hx : xs = []
 ·refine ⟨(locE (b0, 0) xs a.1 (cpE e)).1, (locE (b0, 0) xs a.1 (cpE e)).2, eE (atE (cpE e) xs false).1, .bool (atE (cpE e) xs false).2.1, .bool (atE (cpE e) xs false).2.2, true, hc4 (b0, 0) (cpE e) nn xs a.1 (fitE_cpE e hf) a.2, fun _ => by subst hx; rw [locE_nil]; exact ⟨rfl, rfl⟩, ?_⟩
  simp only [hcp]
  subst hx; simp only [spE_nil]
  cases ok
  ·have et : replM g0 e [] r = (E0, 2) := by simp only [replM, hat, Bool.false_eq_true, if_false]
   rw [et]
   simp +contextual -implicitDefEqProofs only [bne, Bool.not_true, Bool.not_false, Bool.true_and, Bool.false_and, Bool.and_true, Bool.and_false, Bool.true_or, Bool.false_or, Bool.or_true, Bool.or_false, eB, eE_E0, encE.sub, eE_size, eE_isAg, go_sem, eI, ↓reduceIte, Nat.reduceEqDiff, Nat.reduceAdd, Nat.reduceLeDiff, Nat.reduceMul, Nat.reduceBEq, Nat.reduceBneDiff, Nat.reduceLT, Nat.reduceSub, Int.ofNat_lt, List.length_map, Int.natCast_nonneg, Nat.zero_lt_one]
  simp +contextual -implicitDefEqProofs only [bne, Bool.not_true, Bool.not_false, Bool.true_and, Bool.false_and, Bool.and_true, Bool.and_false, Bool.true_or, Bool.false_or, Bool.or_true, Bool.or_false, eB, encE.sub, eE_size, eE_isAg, go_sem, eI, ↓reduceIte, Nat.reduceEqDiff, Nat.reduceAdd, Nat.reduceLeDiff, Nat.reduceMul, Nat.reduceBEq, Nat.reduceBneDiff, Nat.reduceLT, Nat.reduceSub, Int.ofNat_lt, List.length_map, Int.natCast_nonneg, Nat.zero_lt_one]
  have hst : putAt [] e r = cpE r := putAt_nil
  cases bl
  ·have h4 : ((atE e [] false).2.1 && !condE r) = false := by simp [hat]
   simp +contextual -implicitDefEqProofs only [bne, Bool.not_true, Bool.not_false, Bool.true_and, Bool.false_and, Bool.and_true, Bool.and_false, Bool.true_or, Bool.false_or, Bool.or_true, Bool.or_false, eB, encE.sub, eE_size, eE_isAg, go_sem, eI, ↓reduceIte, Nat.reduceEqDiff, Nat.reduceAdd, Nat.reduceLeDiff, Nat.reduceMul, Nat.reduceBEq, Nat.reduceBneDiff, Nat.reduceLT, Nat.reduceSub, Int.ofNat_lt, List.length_map, Int.natCast_nonneg, Nat.zero_lt_one]
   refine callQ_self ?_ (hc1 r hr0) ?_
   ·exact rfl
   simp +contextual -implicitDefEqProofs only [bne, Bool.not_true, Bool.not_false, Bool.true_and, Bool.false_and, Bool.and_true, Bool.and_false, Bool.true_or, Bool.false_or, Bool.or_true, Bool.or_false, eB, encE.sub, eE_size, eE_isAg, go_sem, eI, ↓reduceIte, Nat.reduceEqDiff, Nat.reduceAdd, Nat.reduceLeDiff, Nat.reduceMul, Nat.reduceBEq, Nat.reduceBneDiff, Nat.reduceLT, Nat.reduceSub, Int.ofNat_lt, List.length_map, Int.natCast_nonneg, Nat.zero_lt_one]
   refine callQ_self (ds := [eG g0, .pt (eE (cpE r)) 0]) (by rfl) (hc3 g0 (cpE r)) ?_
   simp only [hg, Bool.true_and]
   cases ho : okE g0 (cpE r)
   ·have et : replM g0 e [] r = (E0, 3) := by rw [← hst] at ho; simp [replM, hat, h4, ho]
    rw [et]
    simp +contextual -implicitDefEqProofs only [ho, bne, Bool.not_true, Bool.not_false, Bool.true_and, Bool.false_and, Bool.and_true, Bool.and_false, Bool.true_or, Bool.false_or, Bool.or_true, Bool.or_false, eB, eE_E0, encE.sub, eE_size, eE_isAg, go_sem, eI, ↓reduceIte, Nat.reduceEqDiff, Nat.reduceAdd, Nat.reduceLeDiff, Nat.reduceMul, Nat.reduceBEq, Nat.reduceBneDiff, Nat.reduceLT, Nat.reduceSub, Int.ofNat_lt, List.length_map, Int.natCast_nonneg, Nat.zero_lt_one]
   ·have et : replM g0 e [] r = (cpE r, 0) := by
     rw [← hst] at ho ⊢
     simp [replM, hat, h4, ho]
    rw [et]
    cases n1 : (eE (cpE r)).noPtr
    all_goals
     simp +contextual -implicitDefEqProofs only [ho, n1, bne, Bool.not_true, Bool.not_false, Bool.true_and, Bool.false_and, Bool.and_true, Bool.and_false, Bool.true_or, Bool.false_or, Bool.or_true, Bool.or_false, eB, eE_E0, encE.sub, eE_size, eE_isAg, go_sem, eI, ↓reduceIte, Nat.reduceEqDiff, Nat.reduceAdd, Nat.reduceLeDiff, Nat.reduceMul, Nat.reduceBEq, Nat.reduceBneDiff, Nat.reduceLT, Nat.reduceSub, Int.ofNat_lt, List.length_map, Int.natCast_nonneg, Nat.zero_lt_one]
  ·simp +contextual -implicitDefEqProofs only [bne, Bool.not_true, Bool.not_false, Bool.true_and, Bool.false_and, Bool.and_true, Bool.and_false, Bool.true_or, Bool.false_or, Bool.or_true, Bool.or_false, eB, encE.sub, eE_size, eE_isAg, go_sem, eI, ↓reduceIte, Nat.reduceEqDiff, Nat.reduceAdd, Nat.reduceLeDiff, Nat.reduceMul, Nat.reduceBEq, Nat.reduceBneDiff, Nat.reduceLT, Nat.reduceSub, Int.ofNat_lt, List.length_map, Int.natCast_nonneg, Nat.zero_lt_one]
   refine callQ_self ?_ (hc2 r) ?_
   ·exact rfl
   cases hcr : condE r
   ·have et : replM g0 e [] r = (E0, 4) := by simp [replM, hat, hcr]
    rw [et]
    simp +contextual -implicitDefEqProofs only [bne, Bool.not_true, Bool.not_false, Bool.true_and, Bool.false_and, Bool.and_true, Bool.and_false, Bool.true_or, Bool.false_or, Bool.or_true, Bool.or_false, eB, eE_E0, encE.sub, eE_size, eE_isAg, go_sem, eI, ↓reduceIte, Nat.reduceEqDiff, Nat.reduceAdd, Nat.reduceLeDiff, Nat.reduceMul, Nat.reduceBEq, Nat.reduceBneDiff, Nat.reduceLT, Nat.reduceSub, Int.ofNat_lt, List.length_map, Int.natCast_nonneg, Nat.zero_lt_one]
   ·have h4 : ((atE e [] false).2.1 && !condE r) = false := by simp [hcr]
    simp +contextual -implicitDefEqProofs only [bne, Bool.not_true, Bool.not_false, Bool.true_and, Bool.false_and, Bool.and_true, Bool.and_false, Bool.true_or, Bool.false_or, Bool.or_true, Bool.or_false, eB, encE.sub, eE_size, eE_isAg, go_sem, eI, ↓reduceIte, Nat.reduceEqDiff, Nat.reduceAdd, Nat.reduceLeDiff, Nat.reduceMul, Nat.reduceBEq, Nat.reduceBneDiff, Nat.reduceLT, Nat.reduceSub, Int.ofNat_lt, List.length_map, Int.natCast_nonneg, Nat.zero_lt_one]
    refine callQ_self ?_ (hc1 r hr0) ?_
    ·exact rfl
    simp +contextual -implicitDefEqProofs only [bne, Bool.not_true, Bool.not_false, Bool.true_and, Bool.false_and, Bool.and_true, Bool.and_false, Bool.true_or, Bool.false_or, Bool.or_true, Bool.or_false, eB, encE.sub, eE_size, eE_isAg, go_sem, eI, ↓reduceIte, Nat.reduceEqDiff, Nat.reduceAdd, Nat.reduceLeDiff, Nat.reduceMul, Nat.reduceBEq, Nat.reduceBneDiff, Nat.reduceLT, Nat.reduceSub, Int.ofNat_lt, List.length_map, Int.natCast_nonneg, Nat.zero_lt_one]
    refine callQ_self (ds := [eG g0, .pt (eE (cpE r)) 0]) (by rfl) (hc3 g0 (cpE r)) ?_
    simp only [hg, Bool.true_and]
    cases ho : okE g0 (cpE r)
    ·have et : replM g0 e [] r = (E0, 3) := by rw [← hst] at ho; simp [replM, hat, h4, ho, hcr]
     rw [et]
     simp +contextual -implicitDefEqProofs only [ho, bne, Bool.not_true, Bool.not_false, Bool.true_and, Bool.false_and, Bool.and_true, Bool.and_false, Bool.true_or, Bool.false_or, Bool.or_true, Bool.or_false, eB, eE_E0, encE.sub, eE_size, eE_isAg, go_sem, eI, ↓reduceIte, Nat.reduceEqDiff, Nat.reduceAdd, Nat.reduceLeDiff, Nat.reduceMul, Nat.reduceBEq, Nat.reduceBneDiff, Nat.reduceLT, Nat.reduceSub, Int.ofNat_lt, List.length_map, Int.natCast_nonneg, Nat.zero_lt_one]
    ·have et : replM g0 e [] r = (cpE r, 0) := by
      rw [← hst] at ho ⊢
      simp [replM, hat, h4, ho, hcr]
     rw [et]
     cases n1 : (eE (cpE r)).noPtr
     all_goals
      simp +contextual -implicitDefEqProofs only [ho, n1, bne, Bool.not_true, Bool.not_false, Bool.true_and, Bool.false_and, Bool.and_true, Bool.and_false, Bool.true_or, Bool.false_or, Bool.or_true, Bool.or_false, eB, eE_E0, encE.sub, eE_size, eE_isAg, go_sem, eI, ↓reduceIte, Nat.reduceEqDiff, Nat.reduceAdd, Nat.reduceLeDiff, Nat.reduceMul, Nat.reduceBEq, Nat.reduceBneDiff, Nat.reduceLT, Nat.reduceSub, Int.ofNat_lt, List.length_map, Int.natCast_nonneg, Nat.zero_lt_one]
 ·refine ⟨(locE (b0, 0) xs a.1 (cpE e)).1, (locE (b0, 0) xs a.1 (cpE e)).2, eE (atE (cpE e) xs false).1, .bool (atE (cpE e) xs false).2.1, .bool (atE (cpE e) xs false).2.2, false, hc4 (b0, 0) (cpE e) nn xs a.1 (fitE_cpE e hf) a.2, by simp, ?_⟩
  simp only [hcp]
  skip
  cases ok
  ·have et : replM g0 e xs r = (E0, 2) := by simp only [replM, hat, Bool.false_eq_true, if_false]
   rw [et]
   simp +contextual -implicitDefEqProofs only [bne, Bool.not_true, Bool.not_false, Bool.true_and, Bool.false_and, Bool.and_true, Bool.and_false, Bool.true_or, Bool.false_or, Bool.or_true, Bool.or_false, eB, eE_E0, encE.sub, eE_size, eE_isAg, go_sem, eI, ↓reduceIte, Nat.reduceEqDiff, Nat.reduceAdd, Nat.reduceLeDiff, Nat.reduceMul, Nat.reduceBEq, Nat.reduceBneDiff, Nat.reduceLT, Nat.reduceSub, Int.ofNat_lt, List.length_map, Int.natCast_nonneg, Nat.zero_lt_one]
  simp +contextual -implicitDefEqProofs only [bne, Bool.not_true, Bool.not_false, Bool.true_and, Bool.false_and, Bool.and_true, Bool.and_false, Bool.true_or, Bool.false_or, Bool.or_true, Bool.or_false, eB, encE.sub, eE_size, eE_isAg, go_sem, eI, ↓reduceIte, Nat.reduceEqDiff, Nat.reduceAdd, Nat.reduceLeDiff, Nat.reduceMul, Nat.reduceBEq, Nat.reduceBneDiff, Nat.reduceLT, Nat.reduceSub, Int.ofNat_lt, List.length_map, Int.natCast_nonneg, Nat.zero_lt_one]
  have hst : putAt xs e r = setE xs (cpE e) (cpE r) := (setE_put xs e false r (by rw [hat])).symm
  cases bl
  ·have h4 : ((atE e xs false).2.1 && !condE r) = false := by simp [hat]
   simp +contextual -implicitDefEqProofs only [bne, Bool.not_true, Bool.not_false, Bool.true_and, Bool.false_and, Bool.and_true, Bool.and_false, Bool.true_or, Bool.false_or, Bool.or_true, Bool.or_false, eB, encE.sub, eE_size, eE_isAg, go_sem, eI, ↓reduceIte, Nat.reduceEqDiff, Nat.reduceAdd, Nat.reduceLeDiff, Nat.reduceMul, Nat.reduceBEq, Nat.reduceBneDiff, Nat.reduceLT, Nat.reduceSub, Int.ofNat_lt, List.length_map, Int.natCast_nonneg, Nat.zero_lt_one]
   refine callQ_self ?_ (hc1 r hr0) ?_
   ·exact rfl
   simp +contextual -implicitDefEqProofs only [bne, Bool.not_true, Bool.not_false, Bool.true_and, Bool.false_and, Bool.and_true, Bool.and_false, Bool.true_or, Bool.false_or, Bool.or_true, Bool.or_false, eB, encE.sub, eE_size, eE_isAg, go_sem, eI, ↓reduceIte, Nat.reduceEqDiff, Nat.reduceAdd, Nat.reduceLeDiff, Nat.reduceMul, Nat.reduceBEq, Nat.reduceBneDiff, Nat.reduceLT, Nat.reduceSub, Int.ofNat_lt, List.length_map, Int.natCast_nonneg, Nat.zero_lt_one]
   refine ⟨10, ?_⟩
   simp +contextual -implicitDefEqProofs only [bne, Bool.not_true, Bool.not_false, Bool.true_and, Bool.false_and, Bool.and_true, Bool.and_false, Bool.true_or, Bool.false_or, Bool.or_true, Bool.or_false, eB, encE.sub, eE_size, eE_isAg, go_sem, eI, ↓reduceIte, Nat.reduceEqDiff, Nat.reduceAdd, Nat.reduceLeDiff, Nat.reduceMul, Nat.reduceBEq, Nat.reduceBneDiff, Nat.reduceLT, Nat.reduceSub, Int.ofNat_lt, List.length_map, Int.natCast_nonneg, Nat.zero_lt_one]
   refine ⟨rfl, _, putAt_sp (v := cpE r) (bo := false) a.2 hx (by rw [hcp]), ?_⟩
   simp +contextual -implicitDefEqProofs only [bne, Bool.not_true, Bool.not_false, Bool.true_and, Bool.false_and, Bool.and_true, Bool.and_false, Bool.true_or, Bool.false_or, Bool.or_true, Bool.or_false, eB, encE.sub, eE_size, eE_isAg, go_sem, eI, ↓reduceIte, Nat.reduceEqDiff, Nat.reduceAdd, Nat.reduceLeDiff, Nat.reduceMul, Nat.reduceBEq, Nat.reduceBneDiff, Nat.reduceLT, Nat.reduceSub, Int.ofNat_lt, List.length_map, Int.natCast_nonneg, Nat.zero_lt_one]
   refine callQ_self (ds := [eG g0, .pt (eE (setE xs (cpE e) (cpE r))) 0]) (by rfl) (hc3 g0 (setE xs (cpE e) (cpE r))) ?_
   simp only [hg, Bool.true_and]
   cases ho : okE g0 (setE xs (cpE e) (cpE r))
   ·have et : replM g0 e xs r = (E0, 3) := by rw [← hst] at ho; simp [replM, hat, h4, ho]
    rw [et]
    simp +contextual -implicitDefEqProofs only [ho, bne, Bool.not_true, Bool.not_false, Bool.true_and, Bool.false_and, Bool.and_true, Bool.and_false, Bool.true_or, Bool.false_or, Bool.or_true, Bool.or_false, eB, eE_E0, encE.sub, eE_size, eE_isAg, go_sem, eI, ↓reduceIte, Nat.reduceEqDiff, Nat.reduceAdd, Nat.reduceLeDiff, Nat.reduceMul, Nat.reduceBEq, Nat.reduceBneDiff, Nat.reduceLT, Nat.reduceSub, Int.ofNat_lt, List.length_map, Int.natCast_nonneg, Nat.zero_lt_one]
   ·have et : replM g0 e xs r = (setE xs (cpE e) (cpE r), 0) := by
     rw [← hst] at ho ⊢
     simp [replM, hat, h4, ho]
    rw [et]
    cases n1 : (eE (setE xs (cpE e) (cpE r))).noPtr
    all_goals
     simp +contextual -implicitDefEqProofs only [ho, n1, bne, Bool.not_true, Bool.not_false, Bool.true_and, Bool.false_and, Bool.and_true, Bool.and_false, Bool.true_or, Bool.false_or, Bool.or_true, Bool.or_false, eB, eE_E0, encE.sub, eE_size, eE_isAg, go_sem, eI, ↓reduceIte, Nat.reduceEqDiff, Nat.reduceAdd, Nat.reduceLeDiff, Nat.reduceMul, Nat.reduceBEq, Nat.reduceBneDiff, Nat.reduceLT, Nat.reduceSub, Int.ofNat_lt, List.length_map, Int.natCast_nonneg, Nat.zero_lt_one]
  ·simp +contextual -implicitDefEqProofs only [bne, Bool.not_true, Bool.not_false, Bool.true_and, Bool.false_and, Bool.and_true, Bool.and_false, Bool.true_or, Bool.false_or, Bool.or_true, Bool.or_false, eB, encE.sub, eE_size, eE_isAg, go_sem, eI, ↓reduceIte, Nat.reduceEqDiff, Nat.reduceAdd, Nat.reduceLeDiff, Nat.reduceMul, Nat.reduceBEq, Nat.reduceBneDiff, Nat.reduceLT, Nat.reduceSub, Int.ofNat_lt, List.length_map, Int.natCast_nonneg, Nat.zero_lt_one]
   refine callQ_self ?_ (hc2 r) ?_
   ·exact rfl
   cases hcr : condE r
   ·have et : replM g0 e xs r = (E0, 4) := by simp [replM, hat, hcr]
    rw [et]
    simp +contextual -implicitDefEqProofs only [bne, Bool.not_true, Bool.not_false, Bool.true_and, Bool.false_and, Bool.and_true, Bool.and_false, Bool.true_or, Bool.false_or, Bool.or_true, Bool.or_false, eB, eE_E0, encE.sub, eE_size, eE_isAg, go_sem, eI, ↓reduceIte, Nat.reduceEqDiff, Nat.reduceAdd, Nat.reduceLeDiff, Nat.reduceMul, Nat.reduceBEq, Nat.reduceBneDiff, Nat.reduceLT, Nat.reduceSub, Int.ofNat_lt, List.length_map, Int.natCast_nonneg, Nat.zero_lt_one]
   ·have h4 : ((atE e xs false).2.1 && !condE r) = false := by simp [hcr]
    simp +contextual -implicitDefEqProofs only [bne, Bool.not_true, Bool.not_false, Bool.true_and, Bool.false_and, Bool.and_true, Bool.and_false, Bool.true_or, Bool.false_or, Bool.or_true, Bool.or_false, eB, encE.sub, eE_size, eE_isAg, go_sem, eI, ↓reduceIte, Nat.reduceEqDiff, Nat.reduceAdd, Nat.reduceLeDiff, Nat.reduceMul, Nat.reduceBEq, Nat.reduceBneDiff, Nat.reduceLT, Nat.reduceSub, Int.ofNat_lt, List.length_map, Int.natCast_nonneg, Nat.zero_lt_one]
    refine callQ_self ?_ (hc1 r hr0) ?_
    ·exact rfl
    simp +contextual -implicitDefEqProofs only [bne, Bool.not_true, Bool.not_false, Bool.true_and, Bool.false_and, Bool.and_true, Bool.and_false, Bool.true_or, Bool.false_or, Bool.or_true, Bool.or_false, eB, encE.sub, eE_size, eE_isAg, go_sem, eI, ↓reduceIte, Nat.reduceEqDiff, Nat.reduceAdd, Nat.reduceLeDiff, Nat.reduceMul, Nat.reduceBEq, Nat.reduceBneDiff, Nat.reduceLT, Nat.reduceSub, Int.ofNat_lt, List.length_map, Int.natCast_nonneg, Nat.zero_lt_one]
    refine ⟨10, ?_⟩
    simp +contextual -implicitDefEqProofs only [bne, Bool.not_true, Bool.not_false, Bool.true_and, Bool.false_and, Bool.and_true, Bool.and_false, Bool.true_or, Bool.false_or, Bool.or_true, Bool.or_false, eB, encE.sub, eE_size, eE_isAg, go_sem, eI, ↓reduceIte, Nat.reduceEqDiff, Nat.reduceAdd, Nat.reduceLeDiff, Nat.reduceMul, Nat.reduceBEq, Nat.reduceBneDiff, Nat.reduceLT, Nat.reduceSub, Int.ofNat_lt, List.length_map, Int.natCast_nonneg, Nat.zero_lt_one]
    refine ⟨rfl, _, putAt_sp (v := cpE r) (bo := false) a.2 hx (by rw [hcp]), ?_⟩
    simp +contextual -implicitDefEqProofs only [bne, Bool.not_true, Bool.not_false, Bool.true_and, Bool.false_and, Bool.and_true, Bool.and_false, Bool.true_or, Bool.false_or, Bool.or_true, Bool.or_false, eB, encE.sub, eE_size, eE_isAg, go_sem, eI, ↓reduceIte, Nat.reduceEqDiff, Nat.reduceAdd, Nat.reduceLeDiff, Nat.reduceMul, Nat.reduceBEq, Nat.reduceBneDiff, Nat.reduceLT, Nat.reduceSub, Int.ofNat_lt, List.length_map, Int.natCast_nonneg, Nat.zero_lt_one]
    refine callQ_self (ds := [eG g0, .pt (eE (setE xs (cpE e) (cpE r))) 0]) (by rfl) (hc3 g0 (setE xs (cpE e) (cpE r))) ?_
    simp only [hg, Bool.true_and]
    cases ho : okE g0 (setE xs (cpE e) (cpE r))
    ·have et : replM g0 e xs r = (E0, 3) := by rw [← hst] at ho; simp [replM, hat, h4, ho, hcr]
     rw [et]
     simp +contextual -implicitDefEqProofs only [ho, bne, Bool.not_true, Bool.not_false, Bool.true_and, Bool.false_and, Bool.and_true, Bool.and_false, Bool.true_or, Bool.false_or, Bool.or_true, Bool.or_false, eB, eE_E0, encE.sub, eE_size, eE_isAg, go_sem, eI, ↓reduceIte, Nat.reduceEqDiff, Nat.reduceAdd, Nat.reduceLeDiff, Nat.reduceMul, Nat.reduceBEq, Nat.reduceBneDiff, Nat.reduceLT, Nat.reduceSub, Int.ofNat_lt, List.length_map, Int.natCast_nonneg, Nat.zero_lt_one]
    ·have et : replM g0 e xs r = (setE xs (cpE e) (cpE r), 0) := by
      rw [← hst] at ho ⊢
      simp [replM, hat, h4, ho, hcr]
     rw [et]
     cases n1 : (eE (setE xs (cpE e) (cpE r))).noPtr
     all_goals
      simp +contextual -implicitDefEqProofs only [ho, n1, bne, Bool.not_true, Bool.not_false, Bool.true_and, Bool.false_and, Bool.and_true, Bool.and_false, Bool.true_or, Bool.false_or, Bool.or_true, Bool.or_false, eB, eE_E0, encE.sub, eE_size, eE_isAg, go_sem, eI, ↓reduceIte, Nat.reduceEqDiff, Nat.reduceAdd, Nat.reduceLeDiff, Nat.reduceMul, Nat.reduceBEq, Nat.reduceBneDiff, Nat.reduceLT, Nat.reduceSub, Int.ofNat_lt, List.length_map, Int.natCast_nonneg, Nat.zero_lt_one]

def k_spReplaceAt (f1 f2 : Nat) : RC := (.seq (.reg false [⟨none, .box 4 2 (.t 0)⟩, ⟨none, .box 5 3 (.t 1)⟩, ⟨none, .box 7 3 (.t 3)⟩, ⟨none, .zer 8 3 (.ag [(.sc (.int .i64 0)), (.sc (.int .i64 0)), (.ls (some true) 3 [])])⟩, ⟨none, .mv 9 (.c (.sc (.int .i64 0)))⟩]) ((.seq ((.seq (.reg false [⟨none, .ld 10 true 2 (.t 4)⟩, ⟨none, .call (some 11) f1 [(.t 10), (.t 5)]⟩, ⟨none, .un 12 .not (.t 11)⟩, ⟨none, .mv 13 (.t 12)⟩, ⟨some (13, false), .ld 14 true 2 (.t 4)⟩, ⟨some (13, false), .call (some 15) f1 [(.t 14), (.t 7)]⟩, ⟨some (13, false), .un 16 .not (.t 15)⟩, ⟨none, .pick 17 (.t 13) (.c (.sc (.bool true))) (.t 16)⟩]) (.cond (.t 17) ((.seq (.reg false [⟨none, .bld 18 (.ag [(.sc (.int .i64 0)), (.sc (.int .i64 0)), (.ls (some true) 3 [])]) []⟩, ⟨none, .st 3 (.t 8) (.t 18)⟩, ⟨none, .mv 9 (.c (.sc (.int .i64 1)))⟩]) (.ret))) (.skip)))) ((.seq (.reg false [⟨none, .ld 19 true 2 (.t 4)⟩, ⟨none, .mv 20 (.t 2)⟩, ⟨none, .call (some 21) f2 [(.t 19), (.t 5), (.t 20), (.t 7)]⟩, ⟨none, .ext 22 (.t 21) 0⟩, ⟨none, .ext 23 (.t 21) 1⟩, ⟨none, .st 3 (.t 8) (.t 22)⟩, ⟨none, .mv 9 (.t 23)⟩]) (.ret))))))
def K_spReplaceAt (P : Program) (fno : Nat) : Prop := ∀ (g0 : Int × Int) (e : Ex) (nn : Option Bool) (xs : List Int) (r : Ex) (hf : fitE e) (hr0 : fitE r), AF P fno [eG g0, eE e, .ls nn 1 (xs.map eI), eE r] (.tup ([.own (eE (replT g0 e xs r).1), .own (eI (replT g0 e xs r).2)]))
theorem a_spReplaceAt {P : Program} (hm : P.follows .mixedOrders = true) {g f1 f2 : Nat} (hr : resF P g = some (24, k_spReplaceAt f1 f2, [.c 8 3 true, .t 9])) (hc1 : K_l01Ok P f1) (hc2 : K_spL04Replace P f2) : K_spReplaceAt P g := by
 intro g0 e nn xs r hf hr0
 refine af_of_res hr hm rfl fun hb => ?_
 simp +contextual -implicitDefEqProofs only [k_spReplaceAt, eG, encE.sub, eE_size, eE_isAg, go_sem, eI, eB, ↓reduceIte, Nat.reduceEqDiff, Nat.reduceAdd, Nat.reduceLeDiff, Nat.reduceMul, Nat.reduceBEq, Nat.reduceBneDiff, Nat.reduceLT, Nat.reduceSub, Int.ofNat_lt, List.length_map, Int.natCast_nonneg, Nat.zero_lt_one]
 refine callQ_self (ds := [eG g0, .pt (eE e) 0]) (by rfl) (hc1 g0 e) ?_
 cases hv : (okG g0 && okE g0 e)
 ·have et : replT g0 e xs r = (E0, 1) := by
   unfold replT
   rw [← Bool.and_assoc, hv]; rfl
  rw [et]
  simp +contextual -implicitDefEqProofs only [hv, bne, Bool.not_true, Bool.not_false, Bool.true_and, Bool.false_and, Bool.and_true, Bool.and_false, Bool.true_or, Bool.false_or, Bool.or_true, Bool.or_false, eB, eE_E0, encE.sub, eE_size, eE_isAg, go_sem, eI, ↓reduceIte, Nat.reduceEqDiff, Nat.reduceAdd, Nat.reduceLeDiff, Nat.reduceMul, Nat.reduceBEq, Nat.reduceBneDiff, Nat.reduceLT, Nat.reduceSub, Int.ofNat_lt, List.length_map, Int.natCast_nonneg, Nat.zero_lt_one]
 ·simp +contextual -implicitDefEqProofs only [hv, bne, Bool.not_true, Bool.not_false, Bool.true_and, Bool.false_and, Bool.and_true, Bool.and_false, Bool.true_or, Bool.false_or, Bool.or_true, Bool.or_false, eB, encE.sub, eE_size, eE_isAg, go_sem, eI, ↓reduceIte, Nat.reduceEqDiff, Nat.reduceAdd, Nat.reduceLeDiff, Nat.reduceMul, Nat.reduceBEq, Nat.reduceBneDiff, Nat.reduceLT, Nat.reduceSub, Int.ofNat_lt, List.length_map, Int.natCast_nonneg, Nat.zero_lt_one]
  refine callQ_self (ds := [eG g0, .pt (eE r) 0]) (by rfl) (hc1 g0 r) ?_
  have hg : okG g0 = true := by simp at hv; exact hv.1
  cases hw : (okG g0 && okE g0 r)
  ·have et : replT g0 e xs r = (E0, 1) := by
    rw [hg, Bool.true_and] at hw
    unfold replT
    rw [← Bool.and_assoc, hv, hw]; rfl
   rw [et]
   simp +contextual -implicitDefEqProofs only [hw, bne, Bool.not_true, Bool.not_false, Bool.true_and, Bool.false_and, Bool.and_true, Bool.and_false, Bool.true_or, Bool.false_or, Bool.or_true, Bool.or_false, eB, eE_E0, encE.sub, eE_size, eE_isAg, go_sem, eI, ↓reduceIte, Nat.reduceEqDiff, Nat.reduceAdd, Nat.reduceLeDiff, Nat.reduceMul, Nat.reduceBEq, Nat.reduceBneDiff, Nat.reduceLT, Nat.reduceSub, Int.ofNat_lt, List.length_map, Int.natCast_nonneg, Nat.zero_lt_one]
  ·have et : replT g0 e xs r = replM g0 e xs r := by
    rw [hg, Bool.true_and] at hw
    unfold replT
    rw [← Bool.and_assoc, hv, hw]; rfl
   rw [et]
   simp +contextual -implicitDefEqProofs only [hw, bne, Bool.not_true, Bool.not_false, Bool.true_and, Bool.false_and, Bool.and_true, Bool.and_false, Bool.true_or, Bool.false_or, Bool.or_true, Bool.or_false, eB, encE.sub, eE_size, eE_isAg, go_sem, eI, ↓reduceIte, Nat.reduceEqDiff, Nat.reduceAdd, Nat.reduceLeDiff, Nat.reduceMul, Nat.reduceBEq, Nat.reduceBneDiff, Nat.reduceLT, Nat.reduceSub, Int.ofNat_lt, List.length_map, Int.natCast_nonneg, Nat.zero_lt_one]
   refine callQ_self (ds := [eG g0, .pt (eE e) 0, .ls nn 1 (xs.map eI), .pt (eE r) 0]) (by rfl) (hc2 g0 e nn xs r hf hr0 hg) ?_
   cases n1 : (eE (replM g0 e xs r).1).noPtr
   all_goals
    simp +contextual -implicitDefEqProofs only [n1, bne, Bool.not_true, Bool.not_false, Bool.true_and, Bool.false_and, Bool.and_true, Bool.and_false, Bool.true_or, Bool.false_or, Bool.or_true, Bool.or_false, eB, encE.sub, eE_size, eE_isAg, go_sem, eI, ↓reduceIte, Nat.reduceEqDiff, Nat.reduceAdd, Nat.reduceLeDiff, Nat.reduceMul, Nat.reduceBEq, Nat.reduceBneDiff, Nat.reduceLT, Nat.reduceSub, Int.ofNat_lt, List.length_map, Int.natCast_nonneg, Nat.zero_lt_one]
end Go.Ax
