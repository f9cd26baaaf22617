/- Contracts of functions of the seat, proved over the engine. No condition. -/
import Derived.Test.YthcgldjelbmjgaaX5
set_option linter.unusedSimpArgs false
set_option linter.unusedVariables false
set_option linter.unnecessarySimpa false
namespace Go.Ax
set_option linter.unusedSimpArgs false
set_option maxRecDepth 20000
set_option maxHeartbeats 4000000
def cRow (p : Int) (r : SL Int) : Bool := lenIs p r && allIn (-1) 1000 r.2
def cTab (p : Int) (t : SL (SL Int)) : Bool := lenIs p t && t.2.all (cRow p)
def okCo (m : Co) : Bool := testsOk m.1 m.2.1 m.2.2.1 && (lenIs m.1.2 m.2.2.2 && m.2.2.2.2.all (cTab m.2.1))
def inTab (t : SL (SL Int)) : Bool := t.2.all fun r => allIn (-1) 1000 r.2
def okCoI (m : Co) : Bool := (testsOk m.1 m.2.1 m.2.2.1 && actsOk m.1 m.2.1 m.2.2.2) && m.2.2.2.2.all inTab
theorem all_and {α : Type} {p q : α → Bool} : ∀ l : List α, l.all (fun x => p x && q x) = (l.all p && l.all q)
  | [] => rfl
  | x :: l => by simp only [List.all_cons, all_and l]; cases p x <;> cases q x <;> simp
theorem okCoI_eq (m : Co) : okCoI m = okCo m := by
  have h : m.2.2.2.2.all (cTab m.2.1) = (m.2.2.2.2.all (tabOk m.2.1 m.2.1) && m.2.2.2.2.all inTab) := by
    rw [← all_and]
    refine List.all_congr rfl fun t => ?_
    have h2 : t.2.all (cRow m.2.1) = (t.2.all (lenIs m.2.1) && t.2.all fun r => allIn (-1) 1000 r.2) := by
      rw [← all_and]
      rfl
    simp only [cTab, tabOk, inTab, h2, Bool.and_assoc]
  simp only [okCoI, okCo, actsOk, h, Bool.and_assoc]

def k_l05CostsOk (f1 f2 : Nat) : RC := (.seq (.reg false [⟨none, .mv 2 (.c (.sc (.bool false)))⟩]) ((.seq ((.seq (.reg true [⟨none, .mv 6 (.t 0)⟩, ⟨none, .nck 7 (.t 6)⟩, ⟨none, .fa 8 0 (.t 7)⟩, ⟨none, .ld 9 true 2 (.t 8)⟩, ⟨none, .mv 10 (.t 0)⟩, ⟨none, .nck 11 (.t 10)⟩, ⟨none, .fa 12 2 (.t 11)⟩, ⟨none, .ld 13 false 1 (.t 12)⟩, ⟨none, .mv 14 (.t 0)⟩, ⟨none, .nck 15 (.t 14)⟩, ⟨none, .fa 16 3 (.t 15)⟩, ⟨none, .ld 17 false 1 (.t 16)⟩, ⟨none, .call (some 18) f1 [(.t 9), (.t 13), (.t 17)]⟩, ⟨none, .un 19 .not (.t 18)⟩, ⟨none, .mv 20 (.t 19)⟩, ⟨some (20, false), .mv 21 (.t 0)⟩, ⟨some (20, false), .nck 22 (.t 21)⟩, ⟨some (20, false), .fa 23 4 (.t 22)⟩, ⟨some (20, false), .ld 24 false 1 (.t 23)⟩, ⟨some (20, false), .len 25 (.t 24)⟩, ⟨some (20, false), .mv 26 (.t 0)⟩, ⟨some (20, false), .nck 27 (.t 26)⟩, ⟨some (20, false), .fa 28 0 (.t 27)⟩, ⟨some (20, false), .fa 29 1 (.t 28)⟩, ⟨some (20, false), .ld 30 false 1 (.t 29)⟩, ⟨some (20, false), .bin 31 .neq (.t 25) (.t 30)⟩, ⟨none, .pick 32 (.t 20) (.c (.sc (.bool true))) (.t 31)⟩]) (.cond (.t 32) ((.seq (.reg false [⟨none, .mv 2 (.c (.sc (.bool false)))⟩]) (.ret))) (.skip)))) ((.seq ((.seq (.reg false [⟨none, .mv 3 (.c (.sc (.int .i64 0)))⟩]) (.blk 0 (.loop ((.seq ((.seq (.reg false [⟨none, .mv 33 (.t 3)⟩, ⟨none, .mv 34 (.t 0)⟩, ⟨none, .nck 35 (.t 34)⟩, ⟨none, .fa 36 4 (.t 35)⟩, ⟨none, .ld 37 false 1 (.t 36)⟩, ⟨none, .len 38 (.t 37)⟩, ⟨none, .bin 39 .lss (.t 33) (.t 38)⟩]) (.cond (.t 39) (.skip) (.exit 0)))) ((.seq (.blk 1 ((.seq ((.seq (.reg true [⟨none, .mv 42 (.t 0)⟩, ⟨none, .nck 43 (.t 42)⟩, ⟨none, .fa 44 4 (.t 43)⟩, ⟨none, .ld 45 false 1 (.t 44)⟩, ⟨none, .mv 46 (.t 3)⟩, ⟨none, .ia 47 1 (.t 45) (.t 46)⟩, ⟨none, .ld 48 false 1 (.t 47)⟩, ⟨none, .len 49 (.t 48)⟩, ⟨none, .mv 50 (.t 0)⟩, ⟨none, .nck 51 (.t 50)⟩, ⟨none, .fa 52 2 (.t 51)⟩, ⟨none, .ld 53 false 1 (.t 52)⟩, ⟨none, .bin 54 .neq (.t 49) (.t 53)⟩]) (.cond (.t 54) ((.seq (.reg false [⟨none, .mv 2 (.c (.sc (.bool false)))⟩]) (.ret))) (.skip)))) ((.seq (.reg false [⟨none, .mv 4 (.c (.sc (.int .i64 0)))⟩]) (.blk 2 (.loop ((.seq ((.seq (.reg false [⟨none, .mv 55 (.t 4)⟩, ⟨none, .mv 56 (.t 0)⟩, ⟨none, .nck 57 (.t 56)⟩, ⟨none, .fa 58 4 (.t 57)⟩, ⟨none, .ld 59 false 1 (.t 58)⟩, ⟨none, .mv 60 (.t 3)⟩, ⟨none, .ia 61 1 (.t 59) (.t 60)⟩, ⟨none, .ld 62 false 1 (.t 61)⟩, ⟨none, .len 63 (.t 62)⟩, ⟨none, .bin 64 .lss (.t 55) (.t 63)⟩]) (.cond (.t 64) (.skip) (.exit 2)))) ((.seq (.blk 3 ((.seq ((.seq (.reg true [⟨none, .mv 67 (.t 0)⟩, ⟨none, .nck 68 (.t 67)⟩, ⟨none, .fa 69 4 (.t 68)⟩, ⟨none, .ld 70 false 1 (.t 69)⟩, ⟨none, .mv 71 (.t 3)⟩, ⟨none, .ia 72 1 (.t 70) (.t 71)⟩, ⟨none, .ld 73 false 1 (.t 72)⟩, ⟨none, .mv 74 (.t 4)⟩, ⟨none, .ia 75 1 (.t 73) (.t 74)⟩, ⟨none, .ld 76 false 1 (.t 75)⟩, ⟨none, .len 77 (.t 76)⟩, ⟨none, .mv 78 (.t 0)⟩, ⟨none, .nck 79 (.t 78)⟩, ⟨none, .fa 80 2 (.t 79)⟩, ⟨none, .ld 81 false 1 (.t 80)⟩, ⟨none, .bin 82 .neq (.t 77) (.t 81)⟩]) (.cond (.t 82) ((.seq (.reg false [⟨none, .mv 2 (.c (.sc (.bool false)))⟩]) (.ret))) (.skip)))) ((.seq (.reg false [⟨none, .mv 5 (.c (.sc (.int .i64 0)))⟩]) (.blk 4 (.loop ((.seq ((.seq (.reg false [⟨none, .mv 83 (.t 5)⟩, ⟨none, .mv 84 (.t 0)⟩, ⟨none, .nck 85 (.t 84)⟩, ⟨none, .fa 86 4 (.t 85)⟩, ⟨none, .ld 87 false 1 (.t 86)⟩, ⟨none, .mv 88 (.t 3)⟩, ⟨none, .ia 89 1 (.t 87) (.t 88)⟩, ⟨none, .ld 90 false 1 (.t 89)⟩, ⟨none, .mv 91 (.t 4)⟩, ⟨none, .ia 92 1 (.t 90) (.t 91)⟩, ⟨none, .ld 93 false 1 (.t 92)⟩, ⟨none, .len 94 (.t 93)⟩, ⟨none, .bin 95 .lss (.t 83) (.t 94)⟩]) (.cond (.t 95) (.skip) (.exit 4)))) ((.seq (.blk 5 ((.seq (.reg false [⟨none, .mv 98 (.t 0)⟩, ⟨none, .nck 99 (.t 98)⟩, ⟨none, .fa 100 4 (.t 99)⟩, ⟨none, .ld 101 false 1 (.t 100)⟩, ⟨none, .mv 102 (.t 3)⟩, ⟨none, .ia 103 1 (.t 101) (.t 102)⟩, ⟨none, .ld 104 false 1 (.t 103)⟩, ⟨none, .mv 105 (.t 4)⟩, ⟨none, .ia 106 1 (.t 104) (.t 105)⟩, ⟨none, .ld 107 false 1 (.t 106)⟩, ⟨none, .mv 108 (.t 5)⟩, ⟨none, .ia 109 1 (.t 107) (.t 108)⟩, ⟨none, .ld 110 false 1 (.t 109)⟩, ⟨none, .call (some 111) f2 [(.t 110), (.c (.sc (.int .i64 (-1)))), (.c (.sc (.int .i64 1000)))]⟩, ⟨none, .un 112 .not (.t 111)⟩]) (.cond (.t 112) ((.seq (.reg false [⟨none, .mv 2 (.c (.sc (.bool false)))⟩]) (.ret))) (.skip))))) (.reg false [⟨none, .mv 96 (.t 5)⟩, ⟨none, .bin 97 .add (.t 96) (.c (.sc (.int .i64 1)))⟩, ⟨none, .mv 5 (.t 97)⟩])))))))))))) (.reg false [⟨none, .mv 65 (.t 4)⟩, ⟨none, .bin 66 .add (.t 65) (.c (.sc (.int .i64 1)))⟩, ⟨none, .mv 4 (.t 66)⟩])))))))))))) (.reg false [⟨none, .mv 40 (.t 3)⟩, ⟨none, .bin 41 .add (.t 40) (.c (.sc (.int .i64 1)))⟩, ⟨none, .mv 3 (.t 41)⟩]))))))))) ((.seq (.reg false [⟨none, .mv 2 (.c (.sc (.bool true)))⟩]) (.ret))))))))
def K_l05CostsOk (P : Program) (f : Nat) : Prop := ∀ (m : Co), AF P f [.pt (eCo m) 0] (.own (eB (okCo m)))
theorem a_l05CostsOk {P : Program} (hm : P.follows .mixedOrders = true) {g f1 f2 : Nat} (hr : resF P g = some (113, k_l05CostsOk f1 f2, [.t 2])) (hc1 : K_l05Tests P f1) (hc2 : K_l00In P f2) : K_l05CostsOk P g := by
  intro m
  refine af_of_res hr hm rfl fun hb => ?_
  have hb1 := hb.1
  simp only [eCo, eS, D.bd, D.bdL, List.length_map] at hb1
  have hl := hb1.2.2.2.2.1.1
  have hl2 := hb1.2.2.2.2.1.2.2
  unfold maxEl at hl
  simp +contextual -implicitDefEqProofs only [k_l05CostsOk, eCo, eS, List.length_map, go_sem, eI, eB, ↓reduceIte, Nat.reduceEqDiff, Nat.reduceAdd, Nat.reduceLeDiff, Nat.reduceMul, Nat.reduceBEq, Nat.reduceBneDiff, Nat.reduceLT, Nat.reduceSub, Bool.false_eq_true, List.cons_append, List.nil_append]
  refine callQ_self ?_ (hc1 m.1 m.2.1 m.2.2.1) ?_
  · exact rfl
  cases hT : testsOk m.1 m.2.1 m.2.2.1
  · simp +contextual -implicitDefEqProofs only [okCo, hT, bne, Bool.not_true, Bool.not_false, Bool.true_and, Bool.false_and, Bool.and_true, Bool.and_false, Bool.true_or, Bool.false_or, Bool.or_true, Bool.or_false, go_sem, eI, eB, ↓reduceIte, Nat.reduceEqDiff, Nat.reduceAdd, Nat.reduceLeDiff, Nat.reduceMul, Nat.reduceBEq, Nat.reduceBneDiff, Nat.reduceLT, Nat.reduceSub, Bool.false_eq_true, List.cons_append, List.nil_append]
  cases h0 : lenIs m.1.2 m.2.2.2
  · have h0' := h0
    simp only [lenIs] at h0'
    simp +contextual -implicitDefEqProofs only [okCo, hT, h0, h0', eS, List.length_map, bne, Bool.not_true, Bool.not_false, Bool.true_and, Bool.false_and, Bool.and_true, Bool.and_false, Bool.true_or, Bool.false_or, Bool.or_true, Bool.or_false, go_sem, eI, eB, ↓reduceIte, Nat.reduceEqDiff, Nat.reduceAdd, Nat.reduceLeDiff, Nat.reduceMul, Nat.reduceBEq, Nat.reduceBneDiff, Nat.reduceLT, Nat.reduceSub, Bool.false_eq_true, List.cons_append, List.nil_append]
  have h0' := h0
  simp only [lenIs] at h0'
  simp +contextual -implicitDefEqProofs only [h0', eS, List.length_map, bne, Bool.not_true, Bool.not_false, Bool.true_and, Bool.false_and, Bool.and_true, Bool.and_false, Bool.true_or, Bool.false_or, Bool.or_true, Bool.or_false, go_sem, eI, eB, ↓reduceIte, Nat.reduceEqDiff, Nat.reduceAdd, Nat.reduceLeDiff, Nat.reduceMul, Nat.reduceBEq, Nat.reduceBneDiff, Nat.reduceLT, Nat.reduceSub, Bool.false_eq_true, List.cons_append, List.nil_append]
  refine vc_on (α := Nat) [2, 3, 4, 5, 33, 34, 35, 36, 37, 38, 39, 40, 41, 42, 43, 44, 45, 46, 47, 48, 49, 50, 51, 52, 53, 54, 55, 56, 57, 58, 59, 60, 61, 62, 63, 64, 65, 66, 67, 68, 69, 70, 71, 72, 73, 74, 75, 76, 77, 78, 79, 80, 81, 82, 83, 84, 85, 86, 87, 88, 89, 90, 91, 92, 93, 94, 95, 96, 97, 98, 99, 100, 101, 102, 103, 104, 105, 106, 107, 108, 109, 110, 111, 112] (fun i => [(3, .im none (.sc (.int .i64 i)))]) (fun i => i ≤ m.2.2.2.2.length ∧ (m.2.2.2.2.take i).all (cTab m.2.1) = true) (fun i => m.2.2.2.2.length - i) 0 (by simp only [subEnv, go_sem, ↓reduceIte, Nat.reduceEqDiff, List.length_map]; simp) ⟨Nat.zero_le _, rfl⟩ ?_
  rintro i ⟨j1, j2⟩
  by_cases hi : i < m.2.2.2.2.length
  · have e1 := at_map (f := eS 1 (eS 1 eI)) hi
    simp +contextual -implicitDefEqProofs only [eS, e1, hi, Int.ofNat_lt, List.length_map, Int.natCast_nonneg, go_sem, eI, eB, ↓reduceIte, Nat.reduceEqDiff, Nat.reduceAdd, Nat.reduceLeDiff, Nat.reduceMul, Nat.reduceBEq, Nat.reduceBneDiff, Nat.reduceLT, Nat.reduceSub, Bool.false_eq_true, List.cons_append, List.nil_append]
    have hli : m.2.2.2.2[i].2.length ≤ 9223372036854775807 := by
      have := bd_ls (bdL_mem hl2 _ (List.mem_map_of_mem (List.getElem_mem hi)))
      simpa only [List.length_map] using this
    have hli2 := (bdL_mem hl2 _ (List.mem_map_of_mem (List.getElem_mem hi)))
    simp only [eS, D.bd, D.bdL, List.length_map] at hli2
    cases hy : lenIs m.2.1 m.2.2.2.2[i]
    · have hy' := hy
      simp only [lenIs] at hy'
      simp +contextual -implicitDefEqProofs only [eS, List.length_map, hy', bne, Bool.not_true, Bool.not_false, Bool.true_and, Bool.false_and, Bool.and_true, Bool.and_false, Bool.true_or, Bool.false_or, Bool.or_true, Bool.or_false, go_sem, eI, eB, ↓reduceIte, Nat.reduceEqDiff, Nat.reduceAdd, Nat.reduceLeDiff, Nat.reduceMul, Nat.reduceBEq, Nat.reduceBneDiff, Nat.reduceLT, Nat.reduceSub, Bool.false_eq_true, List.cons_append, List.nil_append]
      have hx : cTab m.2.1 m.2.2.2.2[i] = false := by simp only [cTab, hy, Bool.false_and]
      exact D.Le.sc_eq (by simp only [okCo, hT, h0]; rw [all_fail hi hx]; rfl)
    have hy' := hy
    simp only [lenIs] at hy'
    simp +contextual -implicitDefEqProofs only [eS, List.length_map, hy', bne, Bool.not_true, Bool.not_false, Bool.true_and, Bool.false_and, Bool.and_true, Bool.and_false, Bool.true_or, Bool.false_or, Bool.or_true, Bool.or_false, go_sem, eI, eB, ↓reduceIte, Nat.reduceEqDiff, Nat.reduceAdd, Nat.reduceLeDiff, Nat.reduceMul, Nat.reduceBEq, Nat.reduceBneDiff, Nat.reduceLT, Nat.reduceSub, Bool.false_eq_true, List.cons_append, List.nil_append]
    refine vc_on (α := Nat) [2, 4, 5, 55, 56, 57, 58, 59, 60, 61, 62, 63, 64, 65, 66, 67, 68, 69, 70, 71, 72, 73, 74, 75, 76, 77, 78, 79, 80, 81, 82, 83, 84, 85, 86, 87, 88, 89, 90, 91, 92, 93, 94, 95, 96, 97, 98, 99, 100, 101, 102, 103, 104, 105, 106, 107, 108, 109, 110, 111, 112] (fun k => [(4, .im none (.sc (.int .i64 k)))]) (fun k => k ≤ m.2.2.2.2[i].2.length ∧ (m.2.2.2.2[i].2.take k).all (cRow m.2.1) = true) (fun k => m.2.2.2.2[i].2.length - k) 0 (by simp only [subEnv, go_sem, ↓reduceIte, Nat.reduceEqDiff, List.length_map]; simp) ⟨Nat.zero_le _, rfl⟩ ?_
    rintro k ⟨k1, k2⟩
    by_cases hk : k < m.2.2.2.2[i].2.length
    · have e2 := at_map (f := eS 1 eI) hk
      simp +contextual -implicitDefEqProofs only [eS, e1, hi, e2, hk, Int.ofNat_lt, List.length_map, Int.natCast_nonneg, go_sem, eI, eB, ↓reduceIte, Nat.reduceEqDiff, Nat.reduceAdd, Nat.reduceLeDiff, Nat.reduceMul, Nat.reduceBEq, Nat.reduceBneDiff, Nat.reduceLT, Nat.reduceSub, Bool.false_eq_true, List.cons_append, List.nil_append]
      have hlk : m.2.2.2.2[i].2[k].2.length ≤ 9223372036854775807 := by
        have := bd_ls (bdL_mem hli2.2.2 _ (List.mem_map_of_mem (List.getElem_mem hk)))
        simpa only [List.length_map] using this
      cases hw : lenIs m.2.1 m.2.2.2.2[i].2[k]
      · have hw' := hw
        simp only [lenIs] at hw'
        simp +contextual -implicitDefEqProofs only [eS, List.length_map, hw', bne, Bool.not_true, Bool.not_false, Bool.true_and, Bool.false_and, Bool.and_true, Bool.and_false, Bool.true_or, Bool.false_or, Bool.or_true, Bool.or_false, go_sem, eI, eB, ↓reduceIte, Nat.reduceEqDiff, Nat.reduceAdd, Nat.reduceLeDiff, Nat.reduceMul, Nat.reduceBEq, Nat.reduceBneDiff, Nat.reduceLT, Nat.reduceSub, Bool.false_eq_true, List.cons_append, List.nil_append]
        have hr : cRow m.2.1 m.2.2.2.2[i].2[k] = false := by simp only [cRow, hw, Bool.false_and]
        have hx : cTab m.2.1 m.2.2.2.2[i] = false := by simp only [cTab, hy]; rw [all_fail hk hr]; rfl
        exact D.Le.sc_eq (by simp only [okCo, hT, h0]; rw [all_fail hi hx]; rfl)
      have hw' := hw
      simp only [lenIs] at hw'
      simp +contextual -implicitDefEqProofs only [eS, List.length_map, hw', bne, Bool.not_true, Bool.not_false, Bool.true_and, Bool.false_and, Bool.and_true, Bool.and_false, Bool.true_or, Bool.false_or, Bool.or_true, Bool.or_false, go_sem, eI, eB, ↓reduceIte, Nat.reduceEqDiff, Nat.reduceAdd, Nat.reduceLeDiff, Nat.reduceMul, Nat.reduceBEq, Nat.reduceBneDiff, Nat.reduceLT, Nat.reduceSub, Bool.false_eq_true, List.cons_append, List.nil_append]
      refine vc_on (α := Nat) [2, 5, 83, 84, 85, 86, 87, 88, 89, 90, 91, 92, 93, 94, 95, 96, 97, 98, 99, 100, 101, 102, 103, 104, 105, 106, 107, 108, 109, 110, 111, 112] (fun q => [(5, .im none (.sc (.int .i64 q)))]) (fun q => q ≤ m.2.2.2.2[i].2[k].2.length ∧ (m.2.2.2.2[i].2[k].2.take q).all ((fun x => isIn x (-1) 1000)) = true) (fun q => m.2.2.2.2[i].2[k].2.length - q) 0 (by simp only [subEnv, go_sem, ↓reduceIte, Nat.reduceEqDiff, List.length_map]; simp) ⟨Nat.zero_le _, rfl⟩ ?_
      rintro q ⟨q1, q2⟩
      by_cases hq : q < m.2.2.2.2[i].2[k].2.length
      · have e3 := at_map (f := eI) hq
        simp +contextual -implicitDefEqProofs only [eS, e1, hi, e2, hk, e3, hq, Int.ofNat_lt, List.length_map, Int.natCast_nonneg, go_sem, eI, eB, ↓reduceIte, Nat.reduceEqDiff, Nat.reduceAdd, Nat.reduceLeDiff, Nat.reduceMul, Nat.reduceBEq, Nat.reduceBneDiff, Nat.reduceLT, Nat.reduceSub, Bool.false_eq_true, List.cons_append, List.nil_append]
        refine callQ_self ?_ (hc2 m.2.2.2.2[i].2[k].2[q] (-1) 1000) ?_
        · exact rfl
        cases hz : isIn m.2.2.2.2[i].2[k].2[q] (-1) 1000
        · simp +contextual -implicitDefEqProofs only [bne, Bool.not_true, Bool.not_false, Bool.true_and, Bool.false_and, Bool.and_true, Bool.and_false, Bool.true_or, Bool.false_or, Bool.or_true, Bool.or_false, go_sem, eI, eB, ↓reduceIte, Nat.reduceEqDiff, Nat.reduceAdd, Nat.reduceLeDiff, Nat.reduceMul, Nat.reduceBEq, Nat.reduceBneDiff, Nat.reduceLT, Nat.reduceSub, Bool.false_eq_true, List.cons_append, List.nil_append]
          have hr : cRow m.2.1 m.2.2.2.2[i].2[k] = false := by simp only [cRow, hw, allIn]; rw [all_fail hq hz]; rfl
          have hx : cTab m.2.1 m.2.2.2.2[i] = false := by simp only [cTab, hy]; rw [all_fail hk hr]; rfl
          exact D.Le.sc_eq (by simp only [okCo, hT, h0]; rw [all_fail hi hx]; rfl)
        · simp +contextual -implicitDefEqProofs only [bne, Bool.not_true, Bool.not_false, Bool.true_and, Bool.false_and, Bool.and_true, Bool.and_false, Bool.true_or, Bool.false_or, Bool.or_true, Bool.or_false, go_sem, eI, eB, ↓reduceIte, Nat.reduceEqDiff, Nat.reduceAdd, Nat.reduceLeDiff, Nat.reduceMul, Nat.reduceBEq, Nat.reduceBneDiff, Nat.reduceLT, Nat.reduceSub, Bool.false_eq_true, List.cons_append, List.nil_append]
          rw [wrap_i64 (by omega) (by omega)]
          exact ⟨q + 1, ⟨by omega, all_take_succ hq q2 hz⟩, by omega, Ent.env (by simp only [subEnv, go_sem, ↓reduceIte, Nat.reduceEqDiff, List.length_map]; simp)⟩
      · simp +contextual -implicitDefEqProofs only [eS, e1, hi, e2, hk, hq, Int.ofNat_lt, List.length_map, Int.natCast_nonneg, go_sem, eI, eB, ↓reduceIte, Nat.reduceEqDiff, Nat.reduceAdd, Nat.reduceLeDiff, Nat.reduceMul, Nat.reduceBEq, Nat.reduceBneDiff, Nat.reduceLT, Nat.reduceSub, Bool.false_eq_true, List.cons_append, List.nil_append]
        have hr : cRow m.2.1 m.2.2.2.2[i].2[k] = true := by simp only [cRow, hw, allIn]; rw [all_of_take hq q2]; rfl
        rw [wrap_i64 (by omega) (by omega)]
        exact ⟨k + 1, ⟨by omega, all_take_succ hk k2 hr⟩, by omega, Ent.env (by simp only [subEnv, go_sem, ↓reduceIte, Nat.reduceEqDiff, List.length_map]; simp)⟩
    · simp +contextual -implicitDefEqProofs only [eS, e1, hi, hk, Int.ofNat_lt, List.length_map, Int.natCast_nonneg, go_sem, eI, eB, ↓reduceIte, Nat.reduceEqDiff, Nat.reduceAdd, Nat.reduceLeDiff, Nat.reduceMul, Nat.reduceBEq, Nat.reduceBneDiff, Nat.reduceLT, Nat.reduceSub, Bool.false_eq_true, List.cons_append, List.nil_append]
      have hx : cTab m.2.1 m.2.2.2.2[i] = true := by simp only [cTab, hy]; rw [all_of_take hk k2]; rfl
      rw [wrap_i64 (by omega) (by omega)]
      exact ⟨i + 1, ⟨by omega, all_take_succ hi j2 hx⟩, by omega, Ent.env (by simp only [subEnv, go_sem, ↓reduceIte, Nat.reduceEqDiff, List.length_map]; simp)⟩
  · simp +contextual -implicitDefEqProofs only [eS, hi, Int.ofNat_lt, List.length_map, Int.natCast_nonneg, go_sem, eI, eB, ↓reduceIte, Nat.reduceEqDiff, Nat.reduceAdd, Nat.reduceLeDiff, Nat.reduceMul, Nat.reduceBEq, Nat.reduceBneDiff, Nat.reduceLT, Nat.reduceSub, Bool.false_eq_true, List.cons_append, List.nil_append]
    exact D.Le.sc_eq (by simp only [okCo, hT, h0]; rw [all_of_take hi j2]; rfl)

def k_imValidCosts (f1 f2 : Nat) : RC := (.seq (.reg false [⟨none, .box 1 5 (.t 0)⟩, ⟨none, .mv 2 (.c (.sc (.bool false)))⟩]) ((.seq ((.seq (.reg false [⟨none, .fa 9 0 (.t 1)⟩, ⟨none, .ld 10 true 2 (.t 9)⟩, ⟨none, .fa 11 2 (.t 1)⟩, ⟨none, .ld 12 false 1 (.t 11)⟩, ⟨none, .fa 13 3 (.t 1)⟩, ⟨none, .ld 14 false 1 (.t 13)⟩, ⟨none, .fa 15 4 (.t 1)⟩, ⟨none, .ld 16 false 1 (.t 15)⟩, ⟨none, .call (some 17) f1 [(.t 10), (.t 12), (.t 14), (.t 16)]⟩, ⟨none, .un 18 .not (.t 17)⟩]) (.cond (.t 18) ((.seq (.reg false [⟨none, .mv 2 (.c (.sc (.bool false)))⟩]) (.ret))) (.skip)))) ((.seq ((.seq (.reg false [⟨none, .fa 19 4 (.t 1)⟩, ⟨none, .ld 20 false 1 (.t 19)⟩, ⟨none, .len 21 (.t 20)⟩, ⟨none, .mv 22 (.c (.sc (.int .i64 0)))⟩]) (.blk 0 (.loop ((.seq (.reg false [⟨none, .bin 23 .lss (.t 22) (.t 21)⟩]) ((.seq (.cond (.t 23) (.skip) (.exit 0)) ((.seq (.blk 1 ((.seq (.reg false [⟨none, .ia 24 1 (.t 20) (.t 22)⟩, ⟨none, .ld 25 false 1 (.t 24)⟩, ⟨none, .mv 4 (.t 25)⟩]) ((.seq (.reg false [⟨none, .mv 26 (.t 4)⟩, ⟨none, .len 27 (.t 26)⟩, ⟨none, .mv 28 (.c (.sc (.int .i64 0)))⟩]) (.blk 2 (.loop ((.seq (.reg false [⟨none, .bin 29 .lss (.t 28) (.t 27)⟩]) ((.seq (.cond (.t 29) (.skip) (.exit 2)) ((.seq (.blk 3 ((.seq (.reg false [⟨none, .ia 30 1 (.t 26) (.t 28)⟩, ⟨none, .ld 31 false 1 (.t 30)⟩, ⟨none, .mv 6 (.t 31)⟩]) ((.seq (.reg false [⟨none, .mv 32 (.t 6)⟩, ⟨none, .len 33 (.t 32)⟩, ⟨none, .mv 34 (.c (.sc (.int .i64 0)))⟩]) (.blk 4 (.loop ((.seq (.reg false [⟨none, .bin 35 .lss (.t 34) (.t 33)⟩]) ((.seq (.cond (.t 35) (.skip) (.exit 4)) ((.seq (.blk 5 ((.seq (.reg false [⟨none, .ia 36 1 (.t 32) (.t 34)⟩, ⟨none, .ld 37 false 1 (.t 36)⟩, ⟨none, .mv 8 (.t 37)⟩]) ((.seq (.reg false [⟨none, .mv 38 (.t 8)⟩, ⟨none, .call (some 39) f2 [(.t 38), (.c (.sc (.int .i64 (-1)))), (.c (.sc (.int .i64 1000)))]⟩, ⟨none, .un 40 .not (.t 39)⟩]) (.cond (.t 40) ((.seq (.reg false [⟨none, .mv 2 (.c (.sc (.bool false)))⟩]) (.ret))) (.skip))))))) (.reg false [⟨none, .bin 41 .add (.t 34) (.c (.sc (.int .i64 1)))⟩, ⟨none, .mv 34 (.t 41)⟩])))))))))))))) (.reg false [⟨none, .bin 42 .add (.t 28) (.c (.sc (.int .i64 1)))⟩, ⟨none, .mv 28 (.t 42)⟩])))))))))))))) (.reg false [⟨none, .bin 43 .add (.t 22) (.c (.sc (.int .i64 1)))⟩, ⟨none, .mv 22 (.t 43)⟩]))))))))))) ((.seq (.reg false [⟨none, .mv 2 (.c (.sc (.bool true)))⟩]) (.ret))))))))
def K_imValidCosts (P : Program) (f : Nat) : Prop := ∀ (m : Co), AF P f [eCo m] (.own (eB (okCo m)))
theorem a_imValidCosts {P : Program} (hm : P.follows .mixedOrders = true) {g f1 f2 : Nat} (hr : resF P g = some (44, k_imValidCosts f1 f2, [.t 2])) (hc1 : K_isFrameI P f1) (hc2 : K_within P f2) : K_imValidCosts P g := by
  intro m
  refine af_of_res hr hm rfl fun hb => ?_
  have hb1 := hb.1
  simp only [eCo, eS, D.bd, D.bdL, List.length_map] at hb1
  have hl := hb1.2.2.2.2.1.1
  have hl2 := hb1.2.2.2.2.1.2.2
  unfold maxEl at hl
  simp +contextual -implicitDefEqProofs only [k_imValidCosts, eCo, eS, List.length_map, go_sem, eI, eB, ↓reduceIte, Nat.reduceEqDiff, Nat.reduceAdd, Nat.reduceLeDiff, Nat.reduceMul, Nat.reduceBEq, Nat.reduceBneDiff, Nat.reduceLT, Nat.reduceSub, Bool.false_eq_true, List.cons_append, List.nil_append]
  refine callQ_self ?_ (hc1 m.1 m.2.1 m.2.2.1 m.2.2.2) ?_
  · exact rfl
  rw [← okCoI_eq]
  cases hF : (testsOk m.1 m.2.1 m.2.2.1 && actsOk m.1 m.2.1 m.2.2.2)
  · simp +contextual -implicitDefEqProofs only [okCoI, hF, bne, Bool.not_true, Bool.not_false, Bool.true_and, Bool.false_and, Bool.and_true, Bool.and_false, Bool.true_or, Bool.false_or, Bool.or_true, Bool.or_false, go_sem, eI, eB, ↓reduceIte, Nat.reduceEqDiff, Nat.reduceAdd, Nat.reduceLeDiff, Nat.reduceMul, Nat.reduceBEq, Nat.reduceBneDiff, Nat.reduceLT, Nat.reduceSub, Bool.false_eq_true, List.cons_append, List.nil_append]
  simp +contextual -implicitDefEqProofs only [hF, eS, List.length_map, bne, Bool.not_true, Bool.not_false, Bool.true_and, Bool.false_and, Bool.and_true, Bool.and_false, Bool.true_or, Bool.false_or, Bool.or_true, Bool.or_false, go_sem, eI, eB, ↓reduceIte, Nat.reduceEqDiff, Nat.reduceAdd, Nat.reduceLeDiff, Nat.reduceMul, Nat.reduceBEq, Nat.reduceBneDiff, Nat.reduceLT, Nat.reduceSub, Bool.false_eq_true, List.cons_append, List.nil_append]
  refine vc_on (α := Nat) [2, 4, 6, 8, 22, 23, 24, 25, 26, 27, 28, 29, 30, 31, 32, 33, 34, 35, 36, 37, 38, 39, 40, 41, 42, 43] (fun i => [(22, .im none (.sc (.int .i64 i)))]) (fun i => i ≤ m.2.2.2.2.length ∧ (m.2.2.2.2.take i).all (inTab) = true) (fun i => m.2.2.2.2.length - i) 0 (by simp only [subEnv, go_sem, ↓reduceIte, Nat.reduceEqDiff, List.length_map]; simp) ⟨Nat.zero_le _, rfl⟩ ?_
  rintro i ⟨j1, j2⟩
  by_cases hi : i < m.2.2.2.2.length
  · have e1 := at_map (f := eS 1 (eS 1 eI)) hi
    simp +contextual -implicitDefEqProofs only [eS, e1, hi, Int.ofNat_lt, List.length_map, Int.natCast_nonneg, go_sem, eI, eB, ↓reduceIte, Nat.reduceEqDiff, Nat.reduceAdd, Nat.reduceLeDiff, Nat.reduceMul, Nat.reduceBEq, Nat.reduceBneDiff, Nat.reduceLT, Nat.reduceSub, Bool.false_eq_true, List.cons_append, List.nil_append]
    have hli : m.2.2.2.2[i].2.length ≤ 9223372036854775807 := by
      have := bd_ls (bdL_mem hl2 _ (List.mem_map_of_mem (List.getElem_mem hi)))
      simpa only [List.length_map] using this
    have hli2 := (bdL_mem hl2 _ (List.mem_map_of_mem (List.getElem_mem hi)))
    simp only [eS, D.bd, D.bdL, List.length_map] at hli2
    refine vc_on (α := Nat) [2, 6, 8, 28, 29, 30, 31, 32, 33, 34, 35, 36, 37, 38, 39, 40, 41, 42] (fun k => [(28, .im none (.sc (.int .i64 k)))]) (fun k => k ≤ m.2.2.2.2[i].2.length ∧ (m.2.2.2.2[i].2.take k).all ((fun r : SL Int => allIn (-1) 1000 r.2)) = true) (fun k => m.2.2.2.2[i].2.length - k) 0 (by simp only [subEnv, go_sem, ↓reduceIte, Nat.reduceEqDiff, List.length_map]; simp) ⟨Nat.zero_le _, rfl⟩ ?_
    rintro k ⟨k1, k2⟩
    by_cases hk : k < m.2.2.2.2[i].2.length
    · have e2 := at_map (f := eS 1 eI) hk
      simp +contextual -implicitDefEqProofs only [eS, e2, hk, Int.ofNat_lt, List.length_map, Int.natCast_nonneg, go_sem, eI, eB, ↓reduceIte, Nat.reduceEqDiff, Nat.reduceAdd, Nat.reduceLeDiff, Nat.reduceMul, Nat.reduceBEq, Nat.reduceBneDiff, Nat.reduceLT, Nat.reduceSub, Bool.false_eq_true, List.cons_append, List.nil_append]
      have hlk : m.2.2.2.2[i].2[k].2.length ≤ 9223372036854775807 := by
        have := bd_ls (bdL_mem hli2.2.2 _ (List.mem_map_of_mem (List.getElem_mem hk)))
        simpa only [List.length_map] using this
      refine vc_on (α := Nat) [2, 8, 34, 35, 36, 37, 38, 39, 40, 41] (fun q => [(34, .im none (.sc (.int .i64 q)))]) (fun q => q ≤ m.2.2.2.2[i].2[k].2.length ∧ (m.2.2.2.2[i].2[k].2.take q).all ((fun x => isIn x (-1) 1000)) = true) (fun q => m.2.2.2.2[i].2[k].2.length - q) 0 (by simp only [subEnv, go_sem, ↓reduceIte, Nat.reduceEqDiff, List.length_map]; simp) ⟨Nat.zero_le _, rfl⟩ ?_
      rintro q ⟨q1, q2⟩
      by_cases hq : q < m.2.2.2.2[i].2[k].2.length
      · have e3 := at_map (f := eI) hq
        simp +contextual -implicitDefEqProofs only [eS, e3, hq, Int.ofNat_lt, List.length_map, Int.natCast_nonneg, go_sem, eI, eB, ↓reduceIte, Nat.reduceEqDiff, Nat.reduceAdd, Nat.reduceLeDiff, Nat.reduceMul, Nat.reduceBEq, Nat.reduceBneDiff, Nat.reduceLT, Nat.reduceSub, Bool.false_eq_true, List.cons_append, List.nil_append]
        refine callQ_self ?_ (hc2 m.2.2.2.2[i].2[k].2[q] (-1) 1000) ?_
        · exact rfl
        cases hz : isIn m.2.2.2.2[i].2[k].2[q] (-1) 1000
        · simp +contextual -implicitDefEqProofs only [bne, Bool.not_true, Bool.not_false, Bool.true_and, Bool.false_and, Bool.and_true, Bool.and_false, Bool.true_or, Bool.false_or, Bool.or_true, Bool.or_false, go_sem, eI, eB, ↓reduceIte, Nat.reduceEqDiff, Nat.reduceAdd, Nat.reduceLeDiff, Nat.reduceMul, Nat.reduceBEq, Nat.reduceBneDiff, Nat.reduceLT, Nat.reduceSub, Bool.false_eq_true, List.cons_append, List.nil_append]
          have hr : allIn (-1) 1000 m.2.2.2.2[i].2[k].2 = false := by simp only [allIn]; rw [all_fail hq hz]
          have hx : inTab m.2.2.2.2[i] = false := by simp only [inTab]; rw [all_fail hk hr]
          exact D.Le.sc_eq (by simp only [okCoI, hF]; rw [all_fail hi hx]; rfl)
        · simp +contextual -implicitDefEqProofs only [bne, Bool.not_true, Bool.not_false, Bool.true_and, Bool.false_and, Bool.and_true, Bool.and_false, Bool.true_or, Bool.false_or, Bool.or_true, Bool.or_false, go_sem, eI, eB, ↓reduceIte, Nat.reduceEqDiff, Nat.reduceAdd, Nat.reduceLeDiff, Nat.reduceMul, Nat.reduceBEq, Nat.reduceBneDiff, Nat.reduceLT, Nat.reduceSub, Bool.false_eq_true, List.cons_append, List.nil_append]
          rw [wrap_i64 (by omega) (by omega)]
          exact ⟨q + 1, ⟨by omega, all_take_succ hq q2 hz⟩, by omega, Ent.env (by simp only [subEnv, go_sem, ↓reduceIte, Nat.reduceEqDiff, List.length_map]; simp)⟩
      · simp +contextual -implicitDefEqProofs only [eS, hq, Int.ofNat_lt, List.length_map, Int.natCast_nonneg, go_sem, eI, eB, ↓reduceIte, Nat.reduceEqDiff, Nat.reduceAdd, Nat.reduceLeDiff, Nat.reduceMul, Nat.reduceBEq, Nat.reduceBneDiff, Nat.reduceLT, Nat.reduceSub, Bool.false_eq_true, List.cons_append, List.nil_append]
        have hr : allIn (-1) 1000 m.2.2.2.2[i].2[k].2 = true := by simp only [allIn]; rw [all_of_take hq q2]
        rw [wrap_i64 (by omega) (by omega)]
        exact ⟨k + 1, ⟨by omega, all_take_succ hk k2 hr⟩, by omega, Ent.env (by simp only [subEnv, go_sem, ↓reduceIte, Nat.reduceEqDiff, List.length_map]; simp)⟩
    · simp +contextual -implicitDefEqProofs only [eS, hk, Int.ofNat_lt, List.length_map, Int.natCast_nonneg, go_sem, eI, eB, ↓reduceIte, Nat.reduceEqDiff, Nat.reduceAdd, Nat.reduceLeDiff, Nat.reduceMul, Nat.reduceBEq, Nat.reduceBneDiff, Nat.reduceLT, Nat.reduceSub, Bool.false_eq_true, List.cons_append, List.nil_append]
      have hx : inTab m.2.2.2.2[i] = true := by simp only [inTab]; rw [all_of_take hk k2]
      rw [wrap_i64 (by omega) (by omega)]
      exact ⟨i + 1, ⟨by omega, all_take_succ hi j2 hx⟩, by omega, Ent.env (by simp only [subEnv, go_sem, ↓reduceIte, Nat.reduceEqDiff, List.length_map]; simp)⟩
  · simp +contextual -implicitDefEqProofs only [eS, hi, Int.ofNat_lt, List.length_map, Int.natCast_nonneg, go_sem, eI, eB, ↓reduceIte, Nat.reduceEqDiff, Nat.reduceAdd, Nat.reduceLeDiff, Nat.reduceMul, Nat.reduceBEq, Nat.reduceBneDiff, Nat.reduceLT, Nat.reduceSub, Bool.false_eq_true, List.cons_append, List.nil_append]
    exact D.Le.sc_eq (by simp only [okCoI, hF]; rw [all_of_take hi j2]; rfl)
end Go.Ax
