/- Contracts of functions of the seat, proved over the engine. No condition. -/
import Derived.Test.YtcmcncenncobfaaDoorXxB
import Derived.Test.YtcmcncenncobfaaDoorXxA
set_option linter.unusedSimpArgs false
set_option linter.unusedVariables false
set_option linter.unnecessarySimpa false
set_option linter.unusedSectionVars false
namespace Go.Ax
set_option maxRecDepth 20000
set_option maxHeartbeats 4000000
def axL : List D := [.sc (.string ⟨#[40, 97, 48, 32, 43, 32, 40, 97, 49, 32, 43, 32, 97, 50, 41, 41, 32, 61, 32, 40, 40, 97, 48, 32, 43, 32, 97, 49, 41, 32, 43, 32, 97, 50, 41]⟩), .sc (.string ⟨#[40, 97, 48, 32, 43, 32, 97, 49, 41, 32, 61, 32, 40, 97, 49, 32, 43, 32, 97, 48, 41]⟩), .sc (.string ⟨#[40, 97, 48, 32, 43, 32, 48, 41, 32, 61, 32, 97, 48]⟩), .sc (.string ⟨#[40, 97, 48, 32, 43, 32, 97, 48, 41, 32, 61, 32, 97, 48]⟩), .sc (.string ⟨#[40, 97, 48, 32, 40, 97, 49, 32, 97, 50, 41, 41, 32, 61, 32, 40, 40, 97, 48, 32, 97, 49, 41, 32, 97, 50, 41]⟩), .sc (.string ⟨#[40, 49, 32, 97, 48, 41, 32, 61, 32, 97, 48]⟩), .sc (.string ⟨#[40, 97, 48, 32, 49, 41, 32, 61, 32, 97, 48]⟩), .sc (.string ⟨#[40, 97, 48, 32, 40, 97, 49, 32, 43, 32, 97, 50, 41, 41, 32, 61, 32, 40, 40, 97, 48, 32, 97, 49, 41, 32, 43, 32, 40, 97, 48, 32, 97, 50, 41, 41]⟩), .sc (.string ⟨#[40, 40, 97, 48, 32, 43, 32, 97, 49, 41, 32, 97, 50, 41, 32, 61, 32, 40, 40, 97, 48, 32, 97, 50, 41, 32, 43, 32, 40, 97, 49, 32, 97, 50, 41, 41]⟩), .sc (.string ⟨#[40, 48, 32, 97, 48, 41, 32, 61, 32, 48]⟩), .sc (.string ⟨#[40, 97, 48, 32, 48, 41, 32, 61, 32, 48]⟩), .sc (.string ⟨#[40, 49, 32, 43, 32, 40, 97, 48, 32, 97, 48, 42, 41, 41, 32, 61, 32, 97, 48, 42]⟩), .sc (.string ⟨#[40, 49, 32, 43, 32, 40, 97, 48, 42, 32, 97, 48, 41, 41, 32, 61, 32, 97, 48, 42]⟩), .sc (.string ⟨#[40, 116, 48, 32, 116, 48, 41, 32, 61, 32, 116, 48]⟩), .sc (.string ⟨#[40, 116, 48, 32, 116, 49, 41, 32, 61, 32, 40, 116, 49, 32, 116, 48, 41]⟩), .sc (.string ⟨#[40, 116, 48, 32, 43, 32, 126, 116, 48, 41, 32, 61, 32, 49]⟩), .sc (.string ⟨#[40, 116, 48, 32, 126, 116, 48, 41, 32, 61, 32, 48]⟩), .sc (.string ⟨#[126, 126, 116, 48, 32, 61, 32, 116, 48]⟩), .sc (.string ⟨#[126, 40, 116, 48, 32, 43, 32, 116, 49, 41, 32, 61, 32, 40, 126, 116, 48, 32, 126, 116, 49, 41]⟩), .sc (.string ⟨#[126, 40, 116, 48, 32, 116, 49, 41, 32, 61, 32, 40, 126, 116, 48, 32, 43, 32, 126, 116, 49, 41]⟩), .sc (.string ⟨#[126, 48, 32, 61, 32, 49]⟩), .sc (.string ⟨#[126, 49, 32, 61, 32, 48]⟩), .sc (.string ⟨#[40, 116, 48, 32, 43, 32, 49, 41, 32, 61, 32, 49]⟩), .sc (.string ⟨#[40, 40, 116, 48, 32, 43, 32, 116, 49, 41, 32, 40, 116, 48, 32, 43, 32, 116, 50, 41, 41, 32, 61, 32, 40, 116, 48, 32, 43, 32, 40, 116, 49, 32, 116, 50, 41, 41]⟩)]
theorem at0 {a : D} {l : List D} : D.at (a :: l) 0 = a := rfl
theorem axL_len : axL.length = 24 := rfl
def okSt (g : Int × Int) (s : Stp) : Bool := isIn s.1 (-40) 23 && (decide ((s.2.2.1.2.length : Int) ≤ 40) && (allIn 0 1 s.2.2.1.2 && (decide ((s.2.2.2.1.2.length : Int) ≤ 3) && (decide ((s.2.2.2.2.2.length : Int) ≤ 4) && (s.2.2.2.1.2.all (okE g) && (s.2.2.2.1.2.all condE && s.2.2.2.2.2.all (okE g)))))))
def okCl (g : Int × Int) (c : Cl) : Bool := (okE g c.1 && okE g c.2.1) && (isIn c.2.2.1 1 3 && (isIn c.2.2.2.1 0 39 && (decide ((c.2.2.2.2.2.length : Int) ≤ 60) && (!((c.2.2.1 == 1) && (c.2.2.2.1 != 0)) && (!((c.2.2.1 != 1) && decide ((c.2.2.2.2.2.length : Int) > 0)) && c.2.2.2.2.2.all (okSt g))))))
def okPf (p : Pf) : Bool := okG p.1 && (decide ((p.2.2.length : Int) ≤ 40) && p.2.2.all (okCl p.1))
theorem gt_le {a b : Int} {v : Bool} (h : decide (a ≤ b) = v) : decide (a > b) = !v := by cases v <;> simp at h ⊢ <;> omega

def k_l04Valid (f1 : Nat) : RC := (.seq (.r [.b 2 2 0, .v 4 .cf]) (.seq (.seq (.r [.v 5 (.ci 0)]) (.blk 0 (.loop (.seq (.seq (.r [.m 6 5, .m 7 1, .o (.len 8 (.t 7)), .o (.bin 9 .lss (.t 6) (.t 8))]) (.cond (.t 9) .skip (.exit 0))) (.seq (.blk 1 (.seq (.reg true [.L 12 2 2, .m 13 1, .m 14 5, .o (.ia 15 3 (.t 13) (.t 14)), .c 16 f1 [.t 12, .t 15], .o (.un 17 .not (.t 16))]) (.cond (.t 17) (.seq (.r [.v 4 .cf]) .ret) .skip))) (.r [.m 10 5, .o (.bin 11 .add (.t 10) (.ci 1)), .m 5 11])))))) (.seq (.r [.v 4 .ct]) .ret)))
def K_l04Valid (P : Program) (fno : Nat) : Prop := ∀ (g : Int × Int) (l : SL Ex) (hg : okG g = true), AF P fno [eG g, eS 3 eE l] (.own (eB (l.2.all (okE g))))
theorem a_l04Valid {P : Program} (hm : P.follows .mixedOrders = true) {g f1 : Nat} (hr : resF P g = some (18, k_l04Valid f1, [.t 4])) (hc1 : K_l01Ok P f1) : K_l04Valid P g := by
 intro g l hg
 refine af_of_res hr hm rfl fun hb => ?_
 have hl : l.2.length ≤ 9223372036854775807 := by
  have := bd_ls hb.2.1
  simp only [lM] at this
  exact this
 simp +contextual -implicitDefEqProofs only [k_l04Valid, at0, eI, eB, eG, eS, D.size, D.sizeL, D.sub, D.isAg, Nat.zero_lt_one, bne, bT, bN, bI, bG, bU, bJ, Bool.true_or, Bool.false_or, Bool.or_true, Bool.or_false, go_sem, ↓reduceIte, Nat.reduceEqDiff, Nat.reduceAdd, Nat.reduceLeDiff, Nat.reduceMul, Nat.reduceBEq, Nat.reduceBneDiff, Nat.reduceLT, Nat.reduceSub, iL, lM, iN]
 refine vc_onU (α := Nat) [4, 5, 6, 7, 8, 9, 10, 11, 12, 13, 14, 15, 16, 17] (fun i => [(5, .im none (.sc (.int .i64 i)))]) (fun i => [(2, .ar false (some false) 2 [.ag [.sc (.int .i64 g.1), .sc (.int .i64 g.2)]])]) (fun i => i ≤ l.2.length ∧ (l.2.take i).all (okE g) = true) (fun i => l.2.length - i) 0 (Ent.to [] (by simp only [go_sem, ↓reduceIte, Nat.reduceEqDiff, Nat.reduceBEq, Nat.reduceBneDiff]; rfl) rfl (by simp) (by rfl) (by simp only [subEnv, go_sem, ↓reduceIte, Nat.reduceEqDiff, Nat.reduceBEq, keep, memN, Bool.or_false, Bool.false_or, Bool.or_self] <;> simp)) ⟨Nat.zero_le _, rfl⟩ ?_
 rintro i ⟨hi0, hi1⟩
 by_cases hi : i < l.2.length
 ·have e1 := at_map (f := eE) hi
  have e0 := eE_eta l.2[i]
  rw [e0] at e1
  simp +contextual -implicitDefEqProofs only [hi, e1, D.put, D.cells, modeOf, noPtrs, at0, eI, eB, eG, eS, D.size, D.sizeL, D.sub, D.isAg, Nat.zero_lt_one, bne, bT, bN, bI, bG, bU, bJ, Bool.true_or, Bool.false_or, Bool.or_true, Bool.or_false, go_sem, ↓reduceIte, Nat.reduceEqDiff, Nat.reduceAdd, Nat.reduceLeDiff, Nat.reduceMul, Nat.reduceBEq, Nat.reduceBneDiff, Nat.reduceLT, Nat.reduceSub, iL, lM, iN]
  refine callQ_self (ds := [eG g, .pt (eE l.2[i]) 0]) ?_ (by have := hc1 g l.2[i]; rw [hg, bI] at this; exact this) ?_
  ·first | exact rfl | (simp only [eE_eta]; exact rfl)
  cases hv : (okE g) l.2[i]
  ·rw [all_fail hi hv]
   simp +contextual -implicitDefEqProofs only [hv, at0, eI, eB, eG, eS, D.size, D.sizeL, D.sub, D.isAg, Nat.zero_lt_one, bne, bT, bN, bI, bG, bU, bJ, Bool.true_or, Bool.false_or, Bool.or_true, Bool.or_false, go_sem, ↓reduceIte, Nat.reduceEqDiff, Nat.reduceAdd, Nat.reduceLeDiff, Nat.reduceMul, Nat.reduceBEq, Nat.reduceBneDiff, Nat.reduceLT, Nat.reduceSub, iL, lM, iN]
  ·simp +contextual -implicitDefEqProofs only [hv, at0, eI, eB, eG, eS, D.size, D.sizeL, D.sub, D.isAg, Nat.zero_lt_one, bne, bT, bN, bI, bG, bU, bJ, Bool.true_or, Bool.false_or, Bool.or_true, Bool.or_false, go_sem, ↓reduceIte, Nat.reduceEqDiff, Nat.reduceAdd, Nat.reduceLeDiff, Nat.reduceMul, Nat.reduceBEq, Nat.reduceBneDiff, Nat.reduceLT, Nat.reduceSub, iL, lM, iN]
   rw [wrap_i64 (by omega) (by omega)]
   exact ⟨i + 1, ⟨by omega, all_take_succ hi hi1 hv⟩, by omega, Ent.to [] (by simp only [go_sem, ↓reduceIte, Nat.reduceEqDiff, Nat.reduceBEq, Nat.reduceBneDiff]; rfl) rfl (by simp) (by rfl) (by simp only [subEnv, go_sem, ↓reduceIte, Nat.reduceEqDiff, Nat.reduceBEq, keep, memN, Bool.or_false, Bool.false_or, Bool.or_self] <;> simp)⟩
 ·obtain rfl : i = l.2.length := by omega
  rw [List.take_length] at hi1
  rw [hi1]
  simp +contextual -implicitDefEqProofs only [hi, at0, eI, eB, eG, eS, D.size, D.sizeL, D.sub, D.isAg, Nat.zero_lt_one, bne, bT, bN, bI, bG, bU, bJ, Bool.true_or, Bool.false_or, Bool.or_true, Bool.or_false, go_sem, ↓reduceIte, Nat.reduceEqDiff, Nat.reduceAdd, Nat.reduceLeDiff, Nat.reduceMul, Nat.reduceBEq, Nat.reduceBneDiff, Nat.reduceLT, Nat.reduceSub, iL, lM, iN]

def k_l04Conditions (f1 : Nat) : RC := (.seq (.r [.v 2 .cf]) (.seq (.seq (.r [.v 3 (.ci 0)]) (.blk 0 (.loop (.seq (.seq (.r [.m 4 3, .m 5 0, .o (.len 6 (.t 5)), .o (.bin 7 .lss (.t 4) (.t 6))]) (.cond (.t 7) .skip (.exit 0))) (.seq (.blk 1 (.seq (.r [.m 10 0, .m 11 3, .o (.ia 12 3 (.t 10) (.t 11)), .c 13 f1 [.t 12], .o (.un 14 .not (.t 13))]) (.cond (.t 14) (.seq (.r [.v 2 .cf]) .ret) .skip))) (.r [.m 8 3, .o (.bin 9 .add (.t 8) (.ci 1)), .m 3 9])))))) (.seq (.r [.v 2 .ct]) .ret)))
def K_l04Conditions (P : Program) (fno : Nat) : Prop := ∀ (l : SL Ex), AF P fno [eS 3 eE l] (.own (eB (l.2.all condE)))
theorem a_l04Conditions {P : Program} (hm : P.follows .mixedOrders = true) {g f1 : Nat} (hr : resF P g = some (15, k_l04Conditions f1, [.t 2])) (hc1 : K_l01Condition P f1) : K_l04Conditions P g := by
 intro l
 refine af_of_res hr hm rfl fun hb => ?_
 have hl : l.2.length ≤ 9223372036854775807 := by
  have := bd_ls hb.1
  simp only [lM] at this
  exact this
 simp +contextual -implicitDefEqProofs only [k_l04Conditions, at0, eI, eB, eG, eS, D.size, D.sizeL, D.sub, D.isAg, Nat.zero_lt_one, bne, bT, bN, bI, bG, bU, bJ, Bool.true_or, Bool.false_or, Bool.or_true, Bool.or_false, go_sem, ↓reduceIte, Nat.reduceEqDiff, Nat.reduceAdd, Nat.reduceLeDiff, Nat.reduceMul, Nat.reduceBEq, Nat.reduceBneDiff, Nat.reduceLT, Nat.reduceSub, iL, lM, iN]
 refine vc_onU (α := Nat) [2, 3, 4, 5, 6, 7, 8, 9, 10, 11, 12, 13, 14] (fun i => [(3, .im none (.sc (.int .i64 i)))]) (fun i => []) (fun i => i ≤ l.2.length ∧ (l.2.take i).all condE = true) (fun i => l.2.length - i) 0 (Ent.to [] (by simp only [go_sem, ↓reduceIte, Nat.reduceEqDiff, Nat.reduceBEq, Nat.reduceBneDiff]; rfl) rfl (by simp) (by rfl) (by simp only [subEnv, go_sem, ↓reduceIte, Nat.reduceEqDiff, Nat.reduceBEq, keep, memN, Bool.or_false, Bool.false_or, Bool.or_self] <;> simp)) ⟨Nat.zero_le _, rfl⟩ ?_
 rintro i ⟨hi0, hi1⟩
 by_cases hi : i < l.2.length
 ·have e1 := at_map (f := eE) hi
  have e0 := eE_eta l.2[i]
  rw [e0] at e1
  simp +contextual -implicitDefEqProofs only [hi, e1, D.put, D.cells, modeOf, noPtrs, at0, eI, eB, eG, eS, D.size, D.sizeL, D.sub, D.isAg, Nat.zero_lt_one, bne, bT, bN, bI, bG, bU, bJ, Bool.true_or, Bool.false_or, Bool.or_true, Bool.or_false, go_sem, ↓reduceIte, Nat.reduceEqDiff, Nat.reduceAdd, Nat.reduceLeDiff, Nat.reduceMul, Nat.reduceBEq, Nat.reduceBneDiff, Nat.reduceLT, Nat.reduceSub, iL, lM, iN]
  refine callQ_self (ds := [.pt (eE l.2[i]) 0]) ?_ (hc1 l.2[i]) ?_
  ·first | exact rfl | (simp only [eE_eta]; exact rfl)
  cases hv : condE l.2[i]
  ·rw [all_fail hi hv]
   simp +contextual -implicitDefEqProofs only [hv, at0, eI, eB, eG, eS, D.size, D.sizeL, D.sub, D.isAg, Nat.zero_lt_one, bne, bT, bN, bI, bG, bU, bJ, Bool.true_or, Bool.false_or, Bool.or_true, Bool.or_false, go_sem, ↓reduceIte, Nat.reduceEqDiff, Nat.reduceAdd, Nat.reduceLeDiff, Nat.reduceMul, Nat.reduceBEq, Nat.reduceBneDiff, Nat.reduceLT, Nat.reduceSub, iL, lM, iN]
  ·simp +contextual -implicitDefEqProofs only [hv, at0, eI, eB, eG, eS, D.size, D.sizeL, D.sub, D.isAg, Nat.zero_lt_one, bne, bT, bN, bI, bG, bU, bJ, Bool.true_or, Bool.false_or, Bool.or_true, Bool.or_false, go_sem, ↓reduceIte, Nat.reduceEqDiff, Nat.reduceAdd, Nat.reduceLeDiff, Nat.reduceMul, Nat.reduceBEq, Nat.reduceBneDiff, Nat.reduceLT, Nat.reduceSub, iL, lM, iN]
   rw [wrap_i64 (by omega) (by omega)]
   exact ⟨i + 1, ⟨by omega, all_take_succ hi hi1 hv⟩, by omega, Ent.to [] (by simp only [go_sem, ↓reduceIte, Nat.reduceEqDiff, Nat.reduceBEq, Nat.reduceBneDiff]; rfl) rfl (by simp) (by rfl) (by simp only [subEnv, go_sem, ↓reduceIte, Nat.reduceEqDiff, Nat.reduceBEq, keep, memN, Bool.or_false, Bool.false_or, Bool.or_self] <;> simp)⟩
 ·obtain rfl : i = l.2.length := by omega
  rw [List.take_length] at hi1
  rw [hi1]
  simp +contextual -implicitDefEqProofs only [hi, at0, eI, eB, eG, eS, D.size, D.sizeL, D.sub, D.isAg, Nat.zero_lt_one, bne, bT, bN, bI, bG, bU, bJ, Bool.true_or, Bool.false_or, Bool.or_true, Bool.or_false, go_sem, ↓reduceIte, Nat.reduceEqDiff, Nat.reduceAdd, Nat.reduceLeDiff, Nat.reduceMul, Nat.reduceBEq, Nat.reduceBneDiff, Nat.reduceLT, Nat.reduceSub, iL, lM, iN]

def k_areConditions (f1 : Nat) : RC := (.seq (.r [.v 2 .cf]) (.seq (.seq (.r [.m 5 0, .o (.len 6 (.t 5)), .v 7 (.ci 0)]) (.blk 0 (.loop (.seq (.r [.o (.bin 8 .lss (.t 7) (.t 6))]) (.seq (.cond (.t 8) .skip (.exit 0)) (.seq (.blk 1 (.seq (.r [.o (.ia 9 3 (.t 5) (.t 7)), .L 10 3 9, .o (.zer 4 3 .ze), .s 3 4 10]) (.seq (.r [.L 11 3 4, .c 12 f1 [.t 11], .o (.un 13 .not (.t 12))]) (.cond (.t 13) (.seq (.r [.v 2 .cf]) .ret) .skip)))) (.r [.o (.bin 14 .add (.t 7) (.ci 1)), .m 7 14]))))))) (.seq (.r [.v 2 .ct]) .ret)))
def K_areConditions (P : Program) (fno : Nat) : Prop := ∀ (l : SL Ex), AF P fno [eS 3 eE l] (.own (eB (l.2.all condE)))
theorem a_areConditions {P : Program} (hm : P.follows .mixedOrders = true) {g f1 : Nat} (hr : resF P g = some (15, k_areConditions f1, [.t 2])) (hc1 : K_isCondition P f1) : K_areConditions P g := by
 intro l
 refine af_of_res hr hm rfl fun hb => ?_
 have hl : l.2.length ≤ 9223372036854775807 := by
  have := bd_ls hb.1
  simp only [lM] at this
  exact this
 simp +contextual -implicitDefEqProofs only [k_areConditions, at0, eI, eB, eG, eS, D.size, D.sizeL, D.sub, D.isAg, Nat.zero_lt_one, bne, bT, bN, bI, bG, bU, bJ, Bool.true_or, Bool.false_or, Bool.or_true, Bool.or_false, go_sem, ↓reduceIte, Nat.reduceEqDiff, Nat.reduceAdd, Nat.reduceLeDiff, Nat.reduceMul, Nat.reduceBEq, Nat.reduceBneDiff, Nat.reduceLT, Nat.reduceSub, iL, lM, iN]
 refine vc_onU (α := Nat) [2, 4, 7, 8, 9, 10, 11, 12, 13, 14] (fun i => [(7, .im none (.sc (.int .i64 i)))]) (fun i => []) (fun i => i ≤ l.2.length ∧ (l.2.take i).all condE = true) (fun i => l.2.length - i) 0 (Ent.to [] (by simp only [go_sem, ↓reduceIte, Nat.reduceEqDiff, Nat.reduceBEq, Nat.reduceBneDiff]; rfl) rfl (by simp) (by rfl) (by simp only [subEnv, go_sem, ↓reduceIte, Nat.reduceEqDiff, Nat.reduceBEq, keep, memN, Bool.or_false, Bool.false_or, Bool.or_self] <;> simp)) ⟨Nat.zero_le _, rfl⟩ ?_
 rintro i ⟨hi0, hi1⟩
 by_cases hi : i < l.2.length
 ·have e1 := at_map (f := eE) hi
  have e0 := eE_eta l.2[i]
  rw [e0] at e1
  simp +contextual -implicitDefEqProofs only [hi, e1, D.put, D.cells, modeOf, noPtrs, at0, eI, eB, eG, eS, D.size, D.sizeL, D.sub, D.isAg, Nat.zero_lt_one, bne, bT, bN, bI, bG, bU, bJ, Bool.true_or, Bool.false_or, Bool.or_true, Bool.or_false, go_sem, ↓reduceIte, Nat.reduceEqDiff, Nat.reduceAdd, Nat.reduceLeDiff, Nat.reduceMul, Nat.reduceBEq, Nat.reduceBneDiff, Nat.reduceLT, Nat.reduceSub, iL, lM, iN]
  refine callQ_self (ds := [eE l.2[i]]) ?_ (hc1 l.2[i]) ?_
  ·first | exact rfl | (simp only [eE_eta]; exact rfl)
  cases hv : condE l.2[i]
  ·rw [all_fail hi hv]
   simp +contextual -implicitDefEqProofs only [hv, at0, eI, eB, eG, eS, D.size, D.sizeL, D.sub, D.isAg, Nat.zero_lt_one, bne, bT, bN, bI, bG, bU, bJ, Bool.true_or, Bool.false_or, Bool.or_true, Bool.or_false, go_sem, ↓reduceIte, Nat.reduceEqDiff, Nat.reduceAdd, Nat.reduceLeDiff, Nat.reduceMul, Nat.reduceBEq, Nat.reduceBneDiff, Nat.reduceLT, Nat.reduceSub, iL, lM, iN]
  ·simp +contextual -implicitDefEqProofs only [hv, at0, eI, eB, eG, eS, D.size, D.sizeL, D.sub, D.isAg, Nat.zero_lt_one, bne, bT, bN, bI, bG, bU, bJ, Bool.true_or, Bool.false_or, Bool.or_true, Bool.or_false, go_sem, ↓reduceIte, Nat.reduceEqDiff, Nat.reduceAdd, Nat.reduceLeDiff, Nat.reduceMul, Nat.reduceBEq, Nat.reduceBneDiff, Nat.reduceLT, Nat.reduceSub, iL, lM, iN]
   rw [wrap_i64 (by omega) (by omega)]
   exact ⟨i + 1, ⟨by omega, all_take_succ hi hi1 hv⟩, by omega, Ent.to [4] (by simp only [go_sem, ↓reduceIte, Nat.reduceEqDiff, Nat.reduceBEq, Nat.reduceBneDiff]; rfl) rfl (by simp) (by rfl) (by simp only [subEnv, go_sem, ↓reduceIte, Nat.reduceEqDiff, Nat.reduceBEq, keep, memN, Bool.or_false, Bool.false_or, Bool.or_self] <;> simp)⟩
 ·obtain rfl : i = l.2.length := by omega
  rw [List.take_length] at hi1
  rw [hi1]
  simp +contextual -implicitDefEqProofs only [hi, at0, eI, eB, eG, eS, D.size, D.sizeL, D.sub, D.isAg, Nat.zero_lt_one, bne, bT, bN, bI, bG, bU, bJ, Bool.true_or, Bool.false_or, Bool.or_true, Bool.or_false, go_sem, ↓reduceIte, Nat.reduceEqDiff, Nat.reduceAdd, Nat.reduceLeDiff, Nat.reduceMul, Nat.reduceBEq, Nat.reduceBneDiff, Nat.reduceLT, Nat.reduceSub, iL, lM, iN]

def k_isStep (f1 f2 f3 f4 : Nat) : RC := (.seq (.r [.b 2 2 0, .b 3 5 1, .v 4 .cf]) (.seq (.r [.f 5 0 3, .l 6 1 5, .c 7 f1 [.t 6, (.c (.sc (.int .i64 (-40)))), .ci 23], .m 8 7, .w 8 (.fa 9 2 (.t 3)), .w 8 (.ld 10 false 1 (.t 9)), .w 8 (.len 11 (.t 10)), .w 8 (.bin 12 .leq (.t 11) (.ci 40)), .k 13 8 12, .m 14 13, .w 14 (.fa 15 2 (.t 3)), .w 14 (.ld 16 false 1 (.t 15)), .w 14 (.call (some 17) f2 [.t 16, .ci 2]), .k 18 14 17, .m 19 18, .w 19 (.fa 20 3 (.t 3)), .w 19 (.ld 21 false 1 (.t 20)), .w 19 (.len 22 (.t 21)), .w 19 (.bin 23 .leq (.t 22) (.ci 3)), .k 24 19 23, .m 25 24, .w 25 (.fa 26 4 (.t 3)), .w 25 (.ld 27 false 1 (.t 26)), .w 25 (.len 28 (.t 27)), .w 25 (.bin 29 .leq (.t 28) (.ci 4)), .k 30 25 29, .m 31 30, .w 31 (.ld 32 true 2 (.t 2)), .w 31 (.fa 33 3 (.t 3)), .w 31 (.ld 34 false 1 (.t 33)), .w 31 (.call (some 35) f3 [.t 32, .t 34]), .k 36 31 35, .m 37 36, .w 37 (.fa 38 3 (.t 3)), .w 37 (.ld 39 false 1 (.t 38)), .w 37 (.call (some 40) f4 [.t 39]), .k 41 37 40, .m 42 41, .w 42 (.ld 43 true 2 (.t 2)), .w 42 (.fa 44 4 (.t 3)), .w 42 (.ld 45 false 1 (.t 44)), .w 42 (.call (some 46) f3 [.t 43, .t 45]), .k 47 42 46, .m 4 47]) .ret))
def K_isStep (P : Program) (fno : Nat) : Prop := ∀ (g : Int × Int) (s : Stp) (hg : okG g = true), AF P fno [eG g, eSt s] (.own (eB (okSt g s)))
theorem a_isStep {P : Program} (hm : P.follows .mixedOrders = true) {g f1 f2 f3 f4 : Nat} (hr : resF P g = some (48, k_isStep f1 f2 f3 f4, [.t 4])) (hc1 : K_within P f1) (hc2 : K_inRange P f2) (hc3 : K_validExprs P f3) (hc4 : K_areConditions P f4) : K_isStep P g := by
 intro g s hg
 refine af_of_res hr hm rfl fun hb => ?_
 simp +contextual -implicitDefEqProofs only [k_isStep, eSt, okSt, at0, eI, eB, eG, eS, D.size, D.sizeL, D.sub, D.isAg, Nat.zero_lt_one, bne, bT, bN, bI, bG, bU, bJ, Bool.true_or, Bool.false_or, Bool.or_true, Bool.or_false, go_sem, ↓reduceIte, Nat.reduceEqDiff, Nat.reduceAdd, Nat.reduceLeDiff, Nat.reduceMul, Nat.reduceBEq, Nat.reduceBneDiff, Nat.reduceLT, Nat.reduceSub, iL, lM, iN]
 refine callQ_self (ds := [eI s.1, eI (-40), eI 23]) ?_ (hc1 s.1 (-40) 23) ?_
 ·first | exact rfl | (simp only [eE_eta]; exact rfl) | (simp only [eS, eE_eta, lC, lN]; exact rfl)
 cases q1 : isIn s.1 (-40) 23
 ·simp +contextual -implicitDefEqProofs only [k_isStep, eSt, okSt, at0, eI, eB, eG, eS, D.size, D.sizeL, D.sub, D.isAg, Nat.zero_lt_one, q1, bne, bT, bN, bI, bG, bU, bJ, Bool.true_or, Bool.false_or, Bool.or_true, Bool.or_false, go_sem, ↓reduceIte, Nat.reduceEqDiff, Nat.reduceAdd, Nat.reduceLeDiff, Nat.reduceMul, Nat.reduceBEq, Nat.reduceBneDiff, Nat.reduceLT, Nat.reduceSub, iL, lM, iN]
 cases q2 : decide ((s.2.2.1.2.length : Int) ≤ 40)
 ·simp +contextual -implicitDefEqProofs only [k_isStep, eSt, okSt, at0, eI, eB, eG, eS, D.size, D.sizeL, D.sub, D.isAg, Nat.zero_lt_one, q1, q2, bne, bT, bN, bI, bG, bU, bJ, Bool.true_or, Bool.false_or, Bool.or_true, Bool.or_false, go_sem, ↓reduceIte, Nat.reduceEqDiff, Nat.reduceAdd, Nat.reduceLeDiff, Nat.reduceMul, Nat.reduceBEq, Nat.reduceBneDiff, Nat.reduceLT, Nat.reduceSub, iL, lM, iN]
 simp +contextual -implicitDefEqProofs only [k_isStep, eSt, okSt, at0, eI, eB, eG, eS, D.size, D.sizeL, D.sub, D.isAg, Nat.zero_lt_one, q1, q2, bne, bT, bN, bI, bG, bU, bJ, Bool.true_or, Bool.false_or, Bool.or_true, Bool.or_false, go_sem, ↓reduceIte, Nat.reduceEqDiff, Nat.reduceAdd, Nat.reduceLeDiff, Nat.reduceMul, Nat.reduceBEq, Nat.reduceBneDiff, Nat.reduceLT, Nat.reduceSub, iL, lM, iN]
 refine callQ_self (ds := [eS 1 eI s.2.2.1, eI 2]) ?_ (show AF P f2 [eS 1 eI s.2.2.1, eI 2] (.own (eB (allIn 0 1 s.2.2.1.2))) from hc2 s.2.2.1 2 (by omega) (by omega)) ?_
 ·first | exact rfl | (simp only [eE_eta]; exact rfl) | (simp only [eS, eE_eta, lC, lN]; exact rfl)
 cases q3 : allIn 0 1 s.2.2.1.2
 ·simp +contextual -implicitDefEqProofs only [k_isStep, eSt, okSt, at0, eI, eB, eG, eS, D.size, D.sizeL, D.sub, D.isAg, Nat.zero_lt_one, q1, q2, q3, bne, bT, bN, bI, bG, bU, bJ, Bool.true_or, Bool.false_or, Bool.or_true, Bool.or_false, go_sem, ↓reduceIte, Nat.reduceEqDiff, Nat.reduceAdd, Nat.reduceLeDiff, Nat.reduceMul, Nat.reduceBEq, Nat.reduceBneDiff, Nat.reduceLT, Nat.reduceSub, iL, lM, iN]
 cases q4 : decide ((s.2.2.2.1.2.length : Int) ≤ 3)
 ·simp +contextual -implicitDefEqProofs only [k_isStep, eSt, okSt, at0, eI, eB, eG, eS, D.size, D.sizeL, D.sub, D.isAg, Nat.zero_lt_one, q1, q2, q3, q4, bne, bT, bN, bI, bG, bU, bJ, Bool.true_or, Bool.false_or, Bool.or_true, Bool.or_false, go_sem, ↓reduceIte, Nat.reduceEqDiff, Nat.reduceAdd, Nat.reduceLeDiff, Nat.reduceMul, Nat.reduceBEq, Nat.reduceBneDiff, Nat.reduceLT, Nat.reduceSub, iL, lM, iN]
 cases q5 : decide ((s.2.2.2.2.2.length : Int) ≤ 4)
 ·simp +contextual -implicitDefEqProofs only [k_isStep, eSt, okSt, at0, eI, eB, eG, eS, D.size, D.sizeL, D.sub, D.isAg, Nat.zero_lt_one, q1, q2, q3, q4, q5, bne, bT, bN, bI, bG, bU, bJ, Bool.true_or, Bool.false_or, Bool.or_true, Bool.or_false, go_sem, ↓reduceIte, Nat.reduceEqDiff, Nat.reduceAdd, Nat.reduceLeDiff, Nat.reduceMul, Nat.reduceBEq, Nat.reduceBneDiff, Nat.reduceLT, Nat.reduceSub, iL, lM, iN]
 simp +contextual -implicitDefEqProofs only [k_isStep, eSt, okSt, at0, eI, eB, eG, eS, D.size, D.sizeL, D.sub, D.isAg, Nat.zero_lt_one, q1, q2, q3, q4, q5, bne, bT, bN, bI, bG, bU, bJ, Bool.true_or, Bool.false_or, Bool.or_true, Bool.or_false, go_sem, ↓reduceIte, Nat.reduceEqDiff, Nat.reduceAdd, Nat.reduceLeDiff, Nat.reduceMul, Nat.reduceBEq, Nat.reduceBneDiff, Nat.reduceLT, Nat.reduceSub, iL, lM, iN]
 refine callQ_self (ds := [eG g, eS 3 eE s.2.2.2.1]) ?_ (by have := hc3 g s.2.2.2.1; rw [hg, bI] at this; exact this) ?_
 ·first | exact rfl | (simp only [eE_eta]; exact rfl) | (simp only [eS, eE_eta, lC, lN]; exact rfl)
 cases q6 : s.2.2.2.1.2.all (okE g)
 ·simp +contextual -implicitDefEqProofs only [k_isStep, eSt, okSt, at0, eI, eB, eG, eS, D.size, D.sizeL, D.sub, D.isAg, Nat.zero_lt_one, q1, q2, q3, q4, q5, q6, bne, bT, bN, bI, bG, bU, bJ, Bool.true_or, Bool.false_or, Bool.or_true, Bool.or_false, go_sem, ↓reduceIte, Nat.reduceEqDiff, Nat.reduceAdd, Nat.reduceLeDiff, Nat.reduceMul, Nat.reduceBEq, Nat.reduceBneDiff, Nat.reduceLT, Nat.reduceSub, iL, lM, iN]
 simp +contextual -implicitDefEqProofs only [k_isStep, eSt, okSt, at0, eI, eB, eG, eS, D.size, D.sizeL, D.sub, D.isAg, Nat.zero_lt_one, q1, q2, q3, q4, q5, q6, bne, bT, bN, bI, bG, bU, bJ, Bool.true_or, Bool.false_or, Bool.or_true, Bool.or_false, go_sem, ↓reduceIte, Nat.reduceEqDiff, Nat.reduceAdd, Nat.reduceLeDiff, Nat.reduceMul, Nat.reduceBEq, Nat.reduceBneDiff, Nat.reduceLT, Nat.reduceSub, iL, lM, iN]
 refine callQ_self (ds := [eS 3 eE s.2.2.2.1]) ?_ (hc4 s.2.2.2.1) ?_
 ·first | exact rfl | (simp only [eE_eta]; exact rfl) | (simp only [eS, eE_eta, lC, lN]; exact rfl)
 cases q7 : s.2.2.2.1.2.all condE
 ·simp +contextual -implicitDefEqProofs only [k_isStep, eSt, okSt, at0, eI, eB, eG, eS, D.size, D.sizeL, D.sub, D.isAg, Nat.zero_lt_one, q1, q2, q3, q4, q5, q6, q7, bne, bT, bN, bI, bG, bU, bJ, Bool.true_or, Bool.false_or, Bool.or_true, Bool.or_false, go_sem, ↓reduceIte, Nat.reduceEqDiff, Nat.reduceAdd, Nat.reduceLeDiff, Nat.reduceMul, Nat.reduceBEq, Nat.reduceBneDiff, Nat.reduceLT, Nat.reduceSub, iL, lM, iN]
 simp +contextual -implicitDefEqProofs only [k_isStep, eSt, okSt, at0, eI, eB, eG, eS, D.size, D.sizeL, D.sub, D.isAg, Nat.zero_lt_one, q1, q2, q3, q4, q5, q6, q7, bne, bT, bN, bI, bG, bU, bJ, Bool.true_or, Bool.false_or, Bool.or_true, Bool.or_false, go_sem, ↓reduceIte, Nat.reduceEqDiff, Nat.reduceAdd, Nat.reduceLeDiff, Nat.reduceMul, Nat.reduceBEq, Nat.reduceBneDiff, Nat.reduceLT, Nat.reduceSub, iL, lM, iN]
 refine callQ_self (ds := [eG g, eS 3 eE s.2.2.2.2]) ?_ (by have := hc3 g s.2.2.2.2; rw [hg, bI] at this; exact this) ?_
 ·first | exact rfl | (simp only [eE_eta]; exact rfl) | (simp only [eS, eE_eta, lC, lN]; exact rfl)
 cases q8 : s.2.2.2.2.2.all (okE g)
 ·simp +contextual -implicitDefEqProofs only [k_isStep, eSt, okSt, at0, eI, eB, eG, eS, D.size, D.sizeL, D.sub, D.isAg, Nat.zero_lt_one, q1, q2, q3, q4, q5, q6, q7, q8, bne, bT, bN, bI, bG, bU, bJ, Bool.true_or, Bool.false_or, Bool.or_true, Bool.or_false, go_sem, ↓reduceIte, Nat.reduceEqDiff, Nat.reduceAdd, Nat.reduceLeDiff, Nat.reduceMul, Nat.reduceBEq, Nat.reduceBneDiff, Nat.reduceLT, Nat.reduceSub, iL, lM, iN]
 simp +contextual -implicitDefEqProofs only [k_isStep, eSt, okSt, at0, eI, eB, eG, eS, D.size, D.sizeL, D.sub, D.isAg, Nat.zero_lt_one, q1, q2, q3, q4, q5, q6, q7, q8, bne, bT, bN, bI, bG, bU, bJ, Bool.true_or, Bool.false_or, Bool.or_true, Bool.or_false, go_sem, ↓reduceIte, Nat.reduceEqDiff, Nat.reduceAdd, Nat.reduceLeDiff, Nat.reduceMul, Nat.reduceBEq, Nat.reduceBneDiff, Nat.reduceLT, Nat.reduceSub, iL, lM, iN]

def k_l04AxiomTexts : RC := (.seq (.r [.o (.mv 0 (.c (.ls (some true) 1 [])))]) (.seq (.r [⟨none, .bs 1 1 (.sc (.string ⟨#[]⟩)) 24 [(0, (.c (.sc (.string ⟨#[40, 97, 48, 32, 43, 32, 40, 97, 49, 32, 43, 32, 97, 50, 41, 41, 32, 61, 32, 40, 40, 97, 48, 32, 43, 32, 97, 49, 41, 32, 43, 32, 97, 50, 41]⟩)))), (1, (.c (.sc (.string ⟨#[40, 97, 48, 32, 43, 32, 97, 49, 41, 32, 61, 32, 40, 97, 49, 32, 43, 32, 97, 48, 41]⟩)))), (2, (.c (.sc (.string ⟨#[40, 97, 48, 32, 43, 32, 48, 41, 32, 61, 32, 97, 48]⟩)))), (3, (.c (.sc (.string ⟨#[40, 97, 48, 32, 43, 32, 97, 48, 41, 32, 61, 32, 97, 48]⟩)))), (4, (.c (.sc (.string ⟨#[40, 97, 48, 32, 40, 97, 49, 32, 97, 50, 41, 41, 32, 61, 32, 40, 40, 97, 48, 32, 97, 49, 41, 32, 97, 50, 41]⟩)))), (5, (.c (.sc (.string ⟨#[40, 49, 32, 97, 48, 41, 32, 61, 32, 97, 48]⟩)))), (6, (.c (.sc (.string ⟨#[40, 97, 48, 32, 49, 41, 32, 61, 32, 97, 48]⟩)))), (7, (.c (.sc (.string ⟨#[40, 97, 48, 32, 40, 97, 49, 32, 43, 32, 97, 50, 41, 41, 32, 61, 32, 40, 40, 97, 48, 32, 97, 49, 41, 32, 43, 32, 40, 97, 48, 32, 97, 50, 41, 41]⟩)))), (8, (.c (.sc (.string ⟨#[40, 40, 97, 48, 32, 43, 32, 97, 49, 41, 32, 97, 50, 41, 32, 61, 32, 40, 40, 97, 48, 32, 97, 50, 41, 32, 43, 32, 40, 97, 49, 32, 97, 50, 41, 41]⟩)))), (9, (.c (.sc (.string ⟨#[40, 48, 32, 97, 48, 41, 32, 61, 32, 48]⟩)))), (10, (.c (.sc (.string ⟨#[40, 97, 48, 32, 48, 41, 32, 61, 32, 48]⟩)))), (11, (.c (.sc (.string ⟨#[40, 49, 32, 43, 32, 40, 97, 48, 32, 97, 48, 42, 41, 41, 32, 61, 32, 97, 48, 42]⟩)))), (12, (.c (.sc (.string ⟨#[40, 49, 32, 43, 32, 40, 97, 48, 42, 32, 97, 48, 41, 41, 32, 61, 32, 97, 48, 42]⟩)))), (13, (.c (.sc (.string ⟨#[40, 116, 48, 32, 116, 48, 41, 32, 61, 32, 116, 48]⟩)))), (14, (.c (.sc (.string ⟨#[40, 116, 48, 32, 116, 49, 41, 32, 61, 32, 40, 116, 49, 32, 116, 48, 41]⟩)))), (15, (.c (.sc (.string ⟨#[40, 116, 48, 32, 43, 32, 126, 116, 48, 41, 32, 61, 32, 49]⟩)))), (16, (.c (.sc (.string ⟨#[40, 116, 48, 32, 126, 116, 48, 41, 32, 61, 32, 48]⟩)))), (17, (.c (.sc (.string ⟨#[126, 126, 116, 48, 32, 61, 32, 116, 48]⟩)))), (18, (.c (.sc (.string ⟨#[126, 40, 116, 48, 32, 43, 32, 116, 49, 41, 32, 61, 32, 40, 126, 116, 48, 32, 126, 116, 49, 41]⟩)))), (19, (.c (.sc (.string ⟨#[126, 40, 116, 48, 32, 116, 49, 41, 32, 61, 32, 40, 126, 116, 48, 32, 43, 32, 126, 116, 49, 41]⟩)))), (20, (.c (.sc (.string ⟨#[126, 48, 32, 61, 32, 49]⟩)))), (21, (.c (.sc (.string ⟨#[126, 49, 32, 61, 32, 48]⟩)))), (22, (.c (.sc (.string ⟨#[40, 116, 48, 32, 43, 32, 49, 41, 32, 61, 32, 49]⟩)))), (23, (.c (.sc (.string ⟨#[40, 40, 116, 48, 32, 43, 32, 116, 49, 41, 32, 40, 116, 48, 32, 43, 32, 116, 50, 41, 41, 32, 61, 32, 40, 116, 48, 32, 43, 32, 40, 116, 49, 32, 116, 50, 41, 41]⟩))))]⟩, .m 0 1]) .ret))
def K_l04AxiomTexts (P : Program) (fno : Nat) : Prop := ∀ (_u : Unit), AF P fno [] (.own (.ls (some false) 1 axL))
theorem a_l04AxiomTexts {P : Program} (hm : P.follows .mixedOrders = true) {g : Nat} (hr : resF P g = some (2, k_l04AxiomTexts, [.t 0])) : K_l04AxiomTexts P g := by
 intro _u
 refine af_of_res hr hm rfl fun hb => ?_
 simp +contextual -implicitDefEqProofs only [k_l04AxiomTexts, at0, eI, eB, eG, eS, D.size, D.sizeL, D.sub, D.isAg, Nat.zero_lt_one, bne, bT, bN, bI, bG, bU, bJ, Bool.true_or, Bool.false_or, Bool.or_true, Bool.or_false, go_sem, ↓reduceIte, Nat.reduceEqDiff, Nat.reduceAdd, Nat.reduceLeDiff, Nat.reduceMul, Nat.reduceBEq, Nat.reduceBneDiff, Nat.reduceLT, Nat.reduceSub, iL, lM, iN]
 refine ⟨by decide, by simp only [List.forall_mem_cons, D.size, List.not_mem_nil, false_implies, implies_true, and_self], ?_⟩
 exact D.Le.refl _
theorem w23 : IntKind.i64.wrap ((24 : Int) - 1) = 23 := by decide
theorem w23' : IntKind.i64.wrap (((24 : Nat) : Int) - 1) = 23 := by decide

def k_l04Step (f1 f2 f3 f4 : Nat) : RC := (.seq (.r [.b 2 2 0, .v 4 .cf]) (.seq (.seq (.reg true [.m 6 1, .n 7 6, .f 8 0 7, .l 9 1 8, .c 10 f1 [], .o (.len 11 (.t 10)), .o (.bin 12 .sub (.t 11) (.ci 1)), .c 13 f2 [.t 9, (.c (.sc (.int .i64 (-40)))), .t 12], .o (.un 14 .not (.t 13)), .m 15 14, .u 15 (.mv 16 (.t 1)), .u 15 (.nck 17 (.t 16)), .u 15 (.fa 18 2 (.t 17)), .u 15 (.ld 19 false 1 (.t 18)), .u 15 (.len 20 (.t 19)), .u 15 (.bin 21 .gtr (.t 20) (.ci 40)), .o (.pick 22 (.t 15) .ct (.t 21)), .m 23 22, .u 23 (.mv 24 (.t 1)), .u 23 (.nck 25 (.t 24)), .u 23 (.fa 26 3 (.t 25)), .u 23 (.ld 27 false 1 (.t 26)), .u 23 (.len 28 (.t 27)), .u 23 (.bin 29 .gtr (.t 28) (.ci 3)), .o (.pick 30 (.t 23) .ct (.t 29)), .m 31 30, .u 31 (.mv 32 (.t 1)), .u 31 (.nck 33 (.t 32)), .u 31 (.fa 34 4 (.t 33)), .u 31 (.ld 35 false 1 (.t 34)), .u 31 (.len 36 (.t 35)), .u 31 (.bin 37 .gtr (.t 36) (.ci 4)), .o (.pick 38 (.t 31) .ct (.t 37))]) (.cond (.t 38) (.seq (.r [.v 4 .cf]) .ret) .skip)) (.seq (.seq (.r [.v 5 (.ci 0)]) (.blk 0 (.loop (.seq (.seq (.r [.m 39 5, .m 40 1, .n 41 40, .f 42 2 41, .l 43 1 42, .o (.len 44 (.t 43)), .o (.bin 45 .lss (.t 39) (.t 44))]) (.cond (.t 45) .skip (.exit 0))) (.seq (.blk 1 (.seq (.r [.m 48 1, .n 49 48, .f 50 2 49, .l 51 1 50, .m 52 5, .o (.ia 53 1 (.t 51) (.t 52)), .l 54 1 53, .c 55 f2 [.t 54, .ci 0, .ci 1], .o (.un 56 .not (.t 55))]) (.cond (.t 56) (.seq (.r [.v 4 .cf]) .ret) .skip))) (.r [.m 46 5, .o (.bin 47 .add (.t 46) (.ci 1)), .m 5 47])))))) (.seq (.reg true [.L 57 2 2, .m 58 1, .n 59 58, .f 60 3 59, .l 61 1 60, .c 62 f3 [.t 57, .t 61], .m 63 62, .wm 63 64 1, .w 63 (.nck 65 (.t 64)), .w 63 (.fa 66 3 (.t 65)), .w 63 (.ld 67 false 1 (.t 66)), .w 63 (.call (some 68) f4 [.t 67]), .k 69 63 68, .m 70 69, .w 70 (.ld 71 true 2 (.t 2)), .wm 70 72 1, .w 70 (.nck 73 (.t 72)), .w 70 (.fa 74 4 (.t 73)), .w 70 (.ld 75 false 1 (.t 74)), .w 70 (.call (some 76) f3 [.t 71, .t 75]), .k 77 70 76, .m 4 77]) .ret))))
def K_l04Step (P : Program) (fno : Nat) : Prop := ∀ (g : Int × Int) (s : Stp) (hg : okG g = true), AF P fno [eG g, .pt (eSt s) 0] (.own (eB (okSt g s)))
theorem a_l04Step {P : Program} (hm : P.follows .mixedOrders = true) {g f1 f2 f3 f4 : Nat} (hr : resF P g = some (78, k_l04Step f1 f2 f3 f4, [.t 4])) (hc1 : K_l04AxiomTexts P f1) (hc2 : K_l00In P f2) (hc3 : K_l04Valid P f3) (hc4 : K_l04Conditions P f4) : K_l04Step P g := by
 intro g s hg
 refine af_of_res hr hm rfl fun hb => ?_
 have hl : s.2.2.1.2.length ≤ 9223372036854775807 := by
  have := hb.2.1
  simp only [eSt, D.bd, D.bdL, lM, maxEl] at this
  exact this.2.2.1.1
 simp +contextual -implicitDefEqProofs only [k_l04Step, eSt, at0, eI, eB, eG, eS, D.size, D.sizeL, D.sub, D.isAg, Nat.zero_lt_one, bne, bT, bN, bI, bG, bU, bJ, Bool.true_or, Bool.false_or, Bool.or_true, Bool.or_false, go_sem, ↓reduceIte, Nat.reduceEqDiff, Nat.reduceAdd, Nat.reduceLeDiff, Nat.reduceMul, Nat.reduceBEq, Nat.reduceBneDiff, Nat.reduceLT, Nat.reduceSub, iL, lM, iN]
 refine callQ_self (ds := []) (by rfl) (hc1 ()) ?_
 simp +contextual -implicitDefEqProofs only [eSt, okSt, axL_len, w23, w23', at0, eI, eB, eG, eS, D.size, D.sizeL, D.sub, D.isAg, Nat.zero_lt_one, bne, bT, bN, bI, bG, bU, bJ, Bool.true_or, Bool.false_or, Bool.or_true, Bool.or_false, go_sem, ↓reduceIte, Nat.reduceEqDiff, Nat.reduceAdd, Nat.reduceLeDiff, Nat.reduceMul, Nat.reduceBEq, Nat.reduceBneDiff, Nat.reduceLT, Nat.reduceSub, iL, lM, iN]
 refine callQ_self (ds := [eI s.1, eI (-40), eI 23]) ?_ (hc2 s.1 (-40) 23) ?_
 ·first | exact rfl | (simp only [eE_eta]; exact rfl) | (simp only [eS, eE_eta, lC, lN]; exact rfl)
 cases q1 : isIn s.1 (-40) 23
 ·simp +contextual -implicitDefEqProofs only [eSt, okSt, axL_len, w23, w23', at0, eI, eB, eG, eS, D.size, D.sizeL, D.sub, D.isAg, Nat.zero_lt_one, q1, bne, bT, bN, bI, bG, bU, bJ, Bool.true_or, Bool.false_or, Bool.or_true, Bool.or_false, go_sem, ↓reduceIte, Nat.reduceEqDiff, Nat.reduceAdd, Nat.reduceLeDiff, Nat.reduceMul, Nat.reduceBEq, Nat.reduceBneDiff, Nat.reduceLT, Nat.reduceSub, iL, lM, iN]
 cases q2 : decide ((s.2.2.1.2.length : Int) ≤ 40)
 ·have q2' := gt_le q2
  rw [bN] at q2'
  simp +contextual -implicitDefEqProofs only [eSt, okSt, axL_len, w23, w23', at0, eI, eB, eG, eS, D.size, D.sizeL, D.sub, D.isAg, Nat.zero_lt_one, q1, q2, q2', bne, bT, bN, bI, bG, bU, bJ, Bool.true_or, Bool.false_or, Bool.or_true, Bool.or_false, go_sem, ↓reduceIte, Nat.reduceEqDiff, Nat.reduceAdd, Nat.reduceLeDiff, Nat.reduceMul, Nat.reduceBEq, Nat.reduceBneDiff, Nat.reduceLT, Nat.reduceSub, iL, lM, iN]
 have q2' := gt_le q2
 rw [bT] at q2'
 cases q4 : decide ((s.2.2.2.1.2.length : Int) ≤ 3)
 ·have q4' := gt_le q4
  rw [bN] at q4'
  simp +contextual -implicitDefEqProofs only [eSt, okSt, axL_len, w23, w23', at0, eI, eB, eG, eS, D.size, D.sizeL, D.sub, D.isAg, Nat.zero_lt_one, q1, q2, q2', q4, q4', bne, bT, bN, bI, bG, bU, bJ, Bool.true_or, Bool.false_or, Bool.or_true, Bool.or_false, go_sem, ↓reduceIte, Nat.reduceEqDiff, Nat.reduceAdd, Nat.reduceLeDiff, Nat.reduceMul, Nat.reduceBEq, Nat.reduceBneDiff, Nat.reduceLT, Nat.reduceSub, iL, lM, iN]
 have q4' := gt_le q4
 rw [bT] at q4'
 cases q5 : decide ((s.2.2.2.2.2.length : Int) ≤ 4)
 ·have q5' := gt_le q5
  rw [bN] at q5'
  simp +contextual -implicitDefEqProofs only [eSt, okSt, axL_len, w23, w23', at0, eI, eB, eG, eS, D.size, D.sizeL, D.sub, D.isAg, Nat.zero_lt_one, q1, q2, q2', q4, q4', q5, q5', bne, bT, bN, bI, bG, bU, bJ, Bool.true_or, Bool.false_or, Bool.or_true, Bool.or_false, go_sem, ↓reduceIte, Nat.reduceEqDiff, Nat.reduceAdd, Nat.reduceLeDiff, Nat.reduceMul, Nat.reduceBEq, Nat.reduceBneDiff, Nat.reduceLT, Nat.reduceSub, iL, lM, iN]
 have q5' := gt_le q5
 rw [bT] at q5'
 simp +contextual -implicitDefEqProofs only [q1, q2, q4, q5, q2', q4', q5', eSt, at0, eI, eB, eG, eS, D.size, D.sizeL, D.sub, D.isAg, Nat.zero_lt_one, bne, bT, bN, bI, bG, bU, bJ, Bool.true_or, Bool.false_or, Bool.or_true, Bool.or_false, go_sem, ↓reduceIte, Nat.reduceEqDiff, Nat.reduceAdd, Nat.reduceLeDiff, Nat.reduceMul, Nat.reduceBEq, Nat.reduceBneDiff, Nat.reduceLT, Nat.reduceSub, iL, lM, iN]
 refine vc_onU (α := Nat) [4, 5, 39, 40, 41, 42, 43, 44, 45, 46, 47, 48, 49, 50, 51, 52, 53, 54, 55, 56] (fun i => [(5, .im none (.sc (.int .i64 i)))]) (fun i => [(10, .own (.ls (some false) 1 axL)), (2, .ar false (some false) 2 [.ag [.sc (.int .i64 g.1), .sc (.int .i64 g.2)]])]) (fun i => i ≤ s.2.2.1.2.length ∧ (s.2.2.1.2.take i).all (fun x => isIn x 0 1) = true) (fun i => s.2.2.1.2.length - i) 0 (Ent.to [] (by simp only [go_sem, ↓reduceIte, Nat.reduceEqDiff, Nat.reduceBEq, Nat.reduceBneDiff]; rfl) rfl (by simp) (by rfl) (by simp only [subEnv, go_sem, ↓reduceIte, Nat.reduceEqDiff, Nat.reduceBEq, keep, memN, Bool.or_false, Bool.false_or, Bool.or_self] <;> simp)) ⟨Nat.zero_le _, rfl⟩ ?_
 rintro i ⟨hi0, hi1⟩
 by_cases hi : i < s.2.2.1.2.length
 ·have e1 := at_map (f := eI) hi
  simp +contextual -implicitDefEqProofs only [hi, e1, eSt, Int.toNat_natCast, at0, eI, eB, eG, eS, D.size, D.sizeL, D.sub, D.isAg, Nat.zero_lt_one, bne, bT, bN, bI, bG, bU, bJ, Bool.true_or, Bool.false_or, Bool.or_true, Bool.or_false, go_sem, ↓reduceIte, Nat.reduceEqDiff, Nat.reduceAdd, Nat.reduceLeDiff, Nat.reduceMul, Nat.reduceBEq, Nat.reduceBneDiff, Nat.reduceLT, Nat.reduceSub, iL, lM, iN]
  refine callQ_self (ds := [eI s.2.2.1.2[i], eI 0, eI 1]) (by rfl) (hc2 s.2.2.1.2[i] 0 1) ?_
  cases hv : isIn s.2.2.1.2[i] 0 1
  ·have q3 : allIn 0 1 s.2.2.1.2 = false := all_fail hi hv
   simp +contextual -implicitDefEqProofs only [hv, q1, q2, q3, eSt, okSt, at0, eI, eB, eG, eS, D.size, D.sizeL, D.sub, D.isAg, Nat.zero_lt_one, bne, bT, bN, bI, bG, bU, bJ, Bool.true_or, Bool.false_or, Bool.or_true, Bool.or_false, go_sem, ↓reduceIte, Nat.reduceEqDiff, Nat.reduceAdd, Nat.reduceLeDiff, Nat.reduceMul, Nat.reduceBEq, Nat.reduceBneDiff, Nat.reduceLT, Nat.reduceSub, iL, lM, iN]
  ·simp +contextual -implicitDefEqProofs only [hv, at0, eI, eB, eG, eS, D.size, D.sizeL, D.sub, D.isAg, Nat.zero_lt_one, bne, bT, bN, bI, bG, bU, bJ, Bool.true_or, Bool.false_or, Bool.or_true, Bool.or_false, go_sem, ↓reduceIte, Nat.reduceEqDiff, Nat.reduceAdd, Nat.reduceLeDiff, Nat.reduceMul, Nat.reduceBEq, Nat.reduceBneDiff, Nat.reduceLT, Nat.reduceSub, iL, lM, iN]
   rw [wrap_i64 (by omega) (by omega)]
   exact ⟨i + 1, ⟨by omega, all_take_succ hi hi1 hv⟩, by omega, Ent.to [] (by simp only [go_sem, ↓reduceIte, Nat.reduceEqDiff, Nat.reduceBEq, Nat.reduceBneDiff]; rfl) rfl (by simp) (by rfl) (by simp only [subEnv, go_sem, ↓reduceIte, Nat.reduceEqDiff, Nat.reduceBEq, keep, memN, Bool.or_false, Bool.false_or, Bool.or_self] <;> simp)⟩
 ·obtain rfl : i = s.2.2.1.2.length := by omega
  rw [List.take_length] at hi1
  have q3 : allIn 0 1 s.2.2.1.2 = true := hi1
  simp +contextual -implicitDefEqProofs only [hi, eSt, at0, eI, eB, eG, eS, D.size, D.sizeL, D.sub, D.isAg, Nat.zero_lt_one, bne, bT, bN, bI, bG, bU, bJ, Bool.true_or, Bool.false_or, Bool.or_true, Bool.or_false, go_sem, ↓reduceIte, Nat.reduceEqDiff, Nat.reduceAdd, Nat.reduceLeDiff, Nat.reduceMul, Nat.reduceBEq, Nat.reduceBneDiff, Nat.reduceLT, Nat.reduceSub, iL, lM, iN]
  simp +contextual -implicitDefEqProofs only [eSt, okSt, at0, eI, eB, eG, eS, D.size, D.sizeL, D.sub, D.isAg, Nat.zero_lt_one, q1, q2, q3, q4, q5, bne, bT, bN, bI, bG, bU, bJ, Bool.true_or, Bool.false_or, Bool.or_true, Bool.or_false, go_sem, ↓reduceIte, Nat.reduceEqDiff, Nat.reduceAdd, Nat.reduceLeDiff, Nat.reduceMul, Nat.reduceBEq, Nat.reduceBneDiff, Nat.reduceLT, Nat.reduceSub, iL, lM, iN]
  refine callQ_self (ds := [eG g, eS 3 eE s.2.2.2.1]) ?_ (hc3 g s.2.2.2.1 hg) ?_
  ·first | exact rfl | (simp only [eE_eta]; exact rfl) | (simp only [eS, eE_eta, lC, lN]; exact rfl)
  cases q6 : s.2.2.2.1.2.all (okE g)
  ·simp +contextual -implicitDefEqProofs only [eSt, okSt, at0, eI, eB, eG, eS, D.size, D.sizeL, D.sub, D.isAg, Nat.zero_lt_one, q1, q2, q3, q4, q5, q6, bne, bT, bN, bI, bG, bU, bJ, Bool.true_or, Bool.false_or, Bool.or_true, Bool.or_false, go_sem, ↓reduceIte, Nat.reduceEqDiff, Nat.reduceAdd, Nat.reduceLeDiff, Nat.reduceMul, Nat.reduceBEq, Nat.reduceBneDiff, Nat.reduceLT, Nat.reduceSub, iL, lM, iN]
  simp +contextual -implicitDefEqProofs only [eSt, okSt, at0, eI, eB, eG, eS, D.size, D.sizeL, D.sub, D.isAg, Nat.zero_lt_one, q1, q2, q3, q4, q5, q6, bne, bT, bN, bI, bG, bU, bJ, Bool.true_or, Bool.false_or, Bool.or_true, Bool.or_false, go_sem, ↓reduceIte, Nat.reduceEqDiff, Nat.reduceAdd, Nat.reduceLeDiff, Nat.reduceMul, Nat.reduceBEq, Nat.reduceBneDiff, Nat.reduceLT, Nat.reduceSub, iL, lM, iN]
  refine callQ_self (ds := [eS 3 eE s.2.2.2.1]) ?_ (hc4 s.2.2.2.1) ?_
  ·first | exact rfl | (simp only [eE_eta]; exact rfl) | (simp only [eS, eE_eta, lC, lN]; exact rfl)
  cases q7 : s.2.2.2.1.2.all condE
  ·simp +contextual -implicitDefEqProofs only [eSt, okSt, at0, eI, eB, eG, eS, D.size, D.sizeL, D.sub, D.isAg, Nat.zero_lt_one, q1, q2, q3, q4, q5, q6, q7, bne, bT, bN, bI, bG, bU, bJ, Bool.true_or, Bool.false_or, Bool.or_true, Bool.or_false, go_sem, ↓reduceIte, Nat.reduceEqDiff, Nat.reduceAdd, Nat.reduceLeDiff, Nat.reduceMul, Nat.reduceBEq, Nat.reduceBneDiff, Nat.reduceLT, Nat.reduceSub, iL, lM, iN]
  simp +contextual -implicitDefEqProofs only [eSt, okSt, at0, eI, eB, eG, eS, D.size, D.sizeL, D.sub, D.isAg, Nat.zero_lt_one, q1, q2, q3, q4, q5, q6, q7, bne, bT, bN, bI, bG, bU, bJ, Bool.true_or, Bool.false_or, Bool.or_true, Bool.or_false, go_sem, ↓reduceIte, Nat.reduceEqDiff, Nat.reduceAdd, Nat.reduceLeDiff, Nat.reduceMul, Nat.reduceBEq, Nat.reduceBneDiff, Nat.reduceLT, Nat.reduceSub, iL, lM, iN]
  refine callQ_self (ds := [eG g, eS 3 eE s.2.2.2.2]) ?_ (hc3 g s.2.2.2.2 hg) ?_
  ·first | exact rfl | (simp only [eE_eta]; exact rfl) | (simp only [eS, eE_eta, lC, lN]; exact rfl)
  cases q8 : s.2.2.2.2.2.all (okE g)
  ·simp +contextual -implicitDefEqProofs only [eSt, okSt, at0, eI, eB, eG, eS, D.size, D.sizeL, D.sub, D.isAg, Nat.zero_lt_one, q1, q2, q3, q4, q5, q6, q7, q8, bne, bT, bN, bI, bG, bU, bJ, Bool.true_or, Bool.false_or, Bool.or_true, Bool.or_false, go_sem, ↓reduceIte, Nat.reduceEqDiff, Nat.reduceAdd, Nat.reduceLeDiff, Nat.reduceMul, Nat.reduceBEq, Nat.reduceBneDiff, Nat.reduceLT, Nat.reduceSub, iL, lM, iN]
  simp +contextual -implicitDefEqProofs only [eSt, okSt, at0, eI, eB, eG, eS, D.size, D.sizeL, D.sub, D.isAg, Nat.zero_lt_one, q1, q2, q3, q4, q5, q6, q7, q8, bne, bT, bN, bI, bG, bU, bJ, Bool.true_or, Bool.false_or, Bool.or_true, Bool.or_false, go_sem, ↓reduceIte, Nat.reduceEqDiff, Nat.reduceAdd, Nat.reduceLeDiff, Nat.reduceMul, Nat.reduceBEq, Nat.reduceBneDiff, Nat.reduceLT, Nat.reduceSub, iL, lM, iN]

def k_l04Claim (f1 f2 f3 : Nat) : RC := (.seq (.r [.b 2 2 0, .v 4 .cf]) (.seq (.seq (.reg true [.L 6 2 2, .m 7 1, .n 8 7, .f 9 0 8, .c 10 f1 [.t 6, .t 9], .o (.un 11 .not (.t 10)), .m 12 11, .u 12 (.ld 13 true 2 (.t 2)), .u 12 (.mv 14 (.t 1)), .u 12 (.nck 15 (.t 14)), .u 12 (.fa 16 3 (.t 15)), .u 12 (.call (some 17) f1 [.t 13, .t 16]), .u 12 (.un 18 .not (.t 17)), .o (.pick 19 (.t 12) .ct (.t 18)), .m 20 19, .u 20 (.mv 21 (.t 1)), .u 20 (.nck 22 (.t 21)), .u 20 (.fa 23 6 (.t 22)), .u 20 (.ld 24 false 1 (.t 23)), .u 20 (.call (some 25) f2 [.t 24, .ci 1, .ci 3]), .u 20 (.un 26 .not (.t 25)), .o (.pick 27 (.t 20) .ct (.t 26)), .m 28 27, .u 28 (.mv 29 (.t 1)), .u 28 (.nck 30 (.t 29)), .u 28 (.fa 31 7 (.t 30)), .u 28 (.ld 32 false 1 (.t 31)), .u 28 (.call (some 33) f2 [.t 32, .ci 0, .ci 39]), .u 28 (.un 34 .not (.t 33)), .o (.pick 35 (.t 28) .ct (.t 34))]) (.cond (.t 35) (.seq (.r [.v 4 .cf]) .ret) .skip)) (.seq (.seq (.r [.m 36 1, .n 37 36, .f 38 6 37, .l 39 1 38, .q 40 39 1, .m 41 40, .wm 41 42 1, .w 41 (.nck 43 (.t 42)), .w 41 (.fa 44 7 (.t 43)), .w 41 (.ld 45 false 1 (.t 44)), .w 41 (.bin 46 .neq (.t 45) (.ci 0)), .k 47 41 46, .m 48 47, .u 48 (.mv 49 (.t 1)), .u 48 (.nck 50 (.t 49)), .u 48 (.fa 51 6 (.t 50)), .u 48 (.ld 52 false 1 (.t 51)), .u 48 (.bin 53 .neq (.t 52) (.ci 1)), .u 48 (.mv 54 (.t 53)), .wm 54 55 1, .w 54 (.nck 56 (.t 55)), .w 54 (.fa 57 8 (.t 56)), .w 54 (.ld 58 false 1 (.t 57)), .w 54 (.len 59 (.t 58)), .w 54 (.bin 60 .gtr (.t 59) (.ci 0)), .u 48 (.pick 61 (.t 54) (.t 60) .cf), .o (.pick 62 (.t 48) .ct (.t 61)), .m 63 62, .u 63 (.mv 64 (.t 1)), .u 63 (.nck 65 (.t 64)), .u 63 (.fa 66 8 (.t 65)), .u 63 (.ld 67 false 1 (.t 66)), .u 63 (.len 68 (.t 67)), .u 63 (.bin 69 .gtr (.t 68) (.ci 60)), .o (.pick 70 (.t 63) .ct (.t 69))]) (.cond (.t 70) (.seq (.r [.v 4 .cf]) .ret) .skip)) (.seq (.seq (.r [.v 5 (.ci 0)]) (.blk 0 (.loop (.seq (.seq (.r [.m 71 5, .m 72 1, .n 73 72, .f 74 8 73, .l 75 1 74, .o (.len 76 (.t 75)), .o (.bin 77 .lss (.t 71) (.t 76))]) (.cond (.t 77) .skip (.exit 0))) (.seq (.blk 1 (.seq (.reg true [.L 80 2 2, .m 81 1, .n 82 81, .f 83 8 82, .l 84 1 83, .m 85 5, .o (.ia 86 5 (.t 84) (.t 85)), .c 87 f3 [.t 80, .t 86], .o (.un 88 .not (.t 87))]) (.cond (.t 88) (.seq (.r [.v 4 .cf]) .ret) .skip))) (.r [.m 78 5, .o (.bin 79 .add (.t 78) (.ci 1)), .m 5 79])))))) (.seq (.r [.v 4 .ct]) .ret)))))
def K_l04Claim (P : Program) (fno : Nat) : Prop := ∀ (g : Int × Int) (c : Cl) (hg : okG g = true), AF P fno [eG g, .pt (eCl c) 0] (.own (eB (okCl g c)))
theorem a_l04Claim {P : Program} (hm : P.follows .mixedOrders = true) {g f1 f2 f3 : Nat} (hr : resF P g = some (89, k_l04Claim f1 f2 f3, [.t 4])) (hc1 : K_l01Ok P f1) (hc2 : K_l00In P f2) (hc3 : K_l04Step P f3) : K_l04Claim P g := by
 intro g c hg
 refine af_of_res hr hm rfl fun hb => ?_
 have hl : c.2.2.2.2.2.length ≤ 9223372036854775807 := by
  have := hb.2.1
  simp only [eCl, D.bd, D.bdL, lM, maxEl] at this
  exact this.2.2.2.2.2.2.2.2.1.1
 simp +contextual -implicitDefEqProofs only [k_l04Claim, at0, eI, eB, eG, eS, D.size, D.sizeL, D.sub, D.isAg, Nat.zero_lt_one, bne, bT, bN, bI, bG, bU, bJ, Bool.true_or, Bool.false_or, Bool.or_true, Bool.or_false, go_sem, ↓reduceIte, Nat.reduceEqDiff, Nat.reduceAdd, Nat.reduceLeDiff, Nat.reduceMul, Nat.reduceBEq, Nat.reduceBneDiff, Nat.reduceLT, Nat.reduceSub, iL, lM, iN]
 simp +contextual -implicitDefEqProofs only [eCl, okCl, at0, eI, eB, eG, eS, D.size, D.sizeL, D.sub, D.isAg, Nat.zero_lt_one, bne, bT, bN, bI, bG, bU, bJ, Bool.true_or, Bool.false_or, Bool.or_true, Bool.or_false, go_sem, ↓reduceIte, Nat.reduceEqDiff, Nat.reduceAdd, Nat.reduceLeDiff, Nat.reduceMul, Nat.reduceBEq, Nat.reduceBneDiff, Nat.reduceLT, Nat.reduceSub, iL, lM, iN]
 refine callQ_le (es := [eG g, .pt (eE c.1) 0]) rfl ⟨D.LeA.refl _, D.LeA.sub (sz := 3) (by simp [eCl, D.size, D.sizeL]) rfl (by omega) (by rw [eE_eta]; rfl), trivial⟩ (by have := hc1 g c.1; rw [hg, bI] at this; exact this) ?_
 cases q1 : okE g c.1
 ·simp +contextual -implicitDefEqProofs only [eCl, okCl, at0, eI, eB, eG, eS, D.size, D.sizeL, D.sub, D.isAg, Nat.zero_lt_one, q1, bne, bT, bN, bI, bG, bU, bJ, Bool.true_or, Bool.false_or, Bool.or_true, Bool.or_false, go_sem, ↓reduceIte, Nat.reduceEqDiff, Nat.reduceAdd, Nat.reduceLeDiff, Nat.reduceMul, Nat.reduceBEq, Nat.reduceBneDiff, Nat.reduceLT, Nat.reduceSub, iL, lM, iN]
 simp +contextual -implicitDefEqProofs only [eCl, okCl, at0, eI, eB, eG, eS, D.size, D.sizeL, D.sub, D.isAg, Nat.zero_lt_one, q1, bne, bT, bN, bI, bG, bU, bJ, Bool.true_or, Bool.false_or, Bool.or_true, Bool.or_false, go_sem, ↓reduceIte, Nat.reduceEqDiff, Nat.reduceAdd, Nat.reduceLeDiff, Nat.reduceMul, Nat.reduceBEq, Nat.reduceBneDiff, Nat.reduceLT, Nat.reduceSub, iL, lM, iN]
 refine callQ_le (es := [eG g, .pt (eE c.2.1) 0]) rfl ⟨D.LeA.refl _, D.LeA.sub (sz := 3) (by simp [eCl, D.size, D.sizeL]) rfl (by omega) (by rw [eE_eta]; rfl), trivial⟩ (by have := hc1 g c.2.1; rw [hg, bI] at this; exact this) ?_
 cases q2 : okE g c.2.1
 ·simp +contextual -implicitDefEqProofs only [eCl, okCl, at0, eI, eB, eG, eS, D.size, D.sizeL, D.sub, D.isAg, Nat.zero_lt_one, q1, q2, bne, bT, bN, bI, bG, bU, bJ, Bool.true_or, Bool.false_or, Bool.or_true, Bool.or_false, go_sem, ↓reduceIte, Nat.reduceEqDiff, Nat.reduceAdd, Nat.reduceLeDiff, Nat.reduceMul, Nat.reduceBEq, Nat.reduceBneDiff, Nat.reduceLT, Nat.reduceSub, iL, lM, iN]
 simp +contextual -implicitDefEqProofs only [eCl, okCl, at0, eI, eB, eG, eS, D.size, D.sizeL, D.sub, D.isAg, Nat.zero_lt_one, q1, q2, bne, bT, bN, bI, bG, bU, bJ, Bool.true_or, Bool.false_or, Bool.or_true, Bool.or_false, go_sem, ↓reduceIte, Nat.reduceEqDiff, Nat.reduceAdd, Nat.reduceLeDiff, Nat.reduceMul, Nat.reduceBEq, Nat.reduceBneDiff, Nat.reduceLT, Nat.reduceSub, iL, lM, iN]
 refine callQ_self (ds := [eI c.2.2.1, eI 1, eI 3]) ?_ (hc2 c.2.2.1 1 3) ?_
 ·first | exact rfl | (simp only [eE_eta]; exact rfl) | (simp only [eS, eE_eta, lC, lN]; exact rfl)
 cases q3 : isIn c.2.2.1 1 3
 ·simp +contextual -implicitDefEqProofs only [eCl, okCl, at0, eI, eB, eG, eS, D.size, D.sizeL, D.sub, D.isAg, Nat.zero_lt_one, q1, q2, q3, bne, bT, bN, bI, bG, bU, bJ, Bool.true_or, Bool.false_or, Bool.or_true, Bool.or_false, go_sem, ↓reduceIte, Nat.reduceEqDiff, Nat.reduceAdd, Nat.reduceLeDiff, Nat.reduceMul, Nat.reduceBEq, Nat.reduceBneDiff, Nat.reduceLT, Nat.reduceSub, iL, lM, iN]
 simp +contextual -implicitDefEqProofs only [eCl, okCl, at0, eI, eB, eG, eS, D.size, D.sizeL, D.sub, D.isAg, Nat.zero_lt_one, q1, q2, q3, bne, bT, bN, bI, bG, bU, bJ, Bool.true_or, Bool.false_or, Bool.or_true, Bool.or_false, go_sem, ↓reduceIte, Nat.reduceEqDiff, Nat.reduceAdd, Nat.reduceLeDiff, Nat.reduceMul, Nat.reduceBEq, Nat.reduceBneDiff, Nat.reduceLT, Nat.reduceSub, iL, lM, iN]
 refine callQ_self (ds := [eI c.2.2.2.1, eI 0, eI 39]) ?_ (hc2 c.2.2.2.1 0 39) ?_
 ·first | exact rfl | (simp only [eE_eta]; exact rfl) | (simp only [eS, eE_eta, lC, lN]; exact rfl)
 cases q4 : isIn c.2.2.2.1 0 39
 ·simp +contextual -implicitDefEqProofs only [eCl, okCl, at0, eI, eB, eG, eS, D.size, D.sizeL, D.sub, D.isAg, Nat.zero_lt_one, q1, q2, q3, q4, bne, bT, bN, bI, bG, bU, bJ, Bool.true_or, Bool.false_or, Bool.or_true, Bool.or_false, go_sem, ↓reduceIte, Nat.reduceEqDiff, Nat.reduceAdd, Nat.reduceLeDiff, Nat.reduceMul, Nat.reduceBEq, Nat.reduceBneDiff, Nat.reduceLT, Nat.reduceSub, iL, lM, iN]
 cases q5 : (c.2.2.1 == 1)
 ·cases q7 : decide ((c.2.2.2.2.2.length : Int) > 0)
  ·cases q8 : decide ((c.2.2.2.2.2.length : Int) ≤ 60)
   ·have q8' := gt_le q8
    rw [bN] at q8'
    simp +contextual -implicitDefEqProofs only [q1, q2, q3, q4, q5, q7, q8, q8', eCl, okCl, at0, eI, eB, eG, eS, D.size, D.sizeL, D.sub, D.isAg, Nat.zero_lt_one, bne, bT, bN, bI, bG, bU, bJ, Bool.true_or, Bool.false_or, Bool.or_true, Bool.or_false, go_sem, ↓reduceIte, Nat.reduceEqDiff, Nat.reduceAdd, Nat.reduceLeDiff, Nat.reduceMul, Nat.reduceBEq, Nat.reduceBneDiff, Nat.reduceLT, Nat.reduceSub, iL, lM, iN]
   ·have q8' := gt_le q8
    rw [bT] at q8'
    simp +contextual -implicitDefEqProofs only [eCl, q1, q2, q3, q4, q5, q7, q8, q8', at0, eI, eB, eG, eS, D.size, D.sizeL, D.sub, D.isAg, Nat.zero_lt_one, bne, bT, bN, bI, bG, bU, bJ, Bool.true_or, Bool.false_or, Bool.or_true, Bool.or_false, go_sem, ↓reduceIte, Nat.reduceEqDiff, Nat.reduceAdd, Nat.reduceLeDiff, Nat.reduceMul, Nat.reduceBEq, Nat.reduceBneDiff, Nat.reduceLT, Nat.reduceSub, iL, lM, iN]
    refine vc_onU (α := Nat) [4, 5, 71, 72, 73, 74, 75, 76, 77, 78, 79, 80, 81, 82, 83, 84, 85, 86, 87, 88] (fun i => [(5, .im none (.sc (.int .i64 i)))]) (fun i => [(2, .ar false (some false) 2 [.ag [.sc (.int .i64 g.1), .sc (.int .i64 g.2)]])]) (fun i => i ≤ c.2.2.2.2.2.length ∧ (c.2.2.2.2.2.take i).all (okSt g) = true) (fun i => c.2.2.2.2.2.length - i) 0 (Ent.to [] (by simp only [go_sem, ↓reduceIte, Nat.reduceEqDiff, Nat.reduceBEq, Nat.reduceBneDiff]; rfl) rfl (by simp) (by rfl) (by simp only [subEnv, go_sem, ↓reduceIte, Nat.reduceEqDiff, Nat.reduceBEq, keep, memN, Bool.or_false, Bool.false_or, Bool.or_self] <;> simp)) ⟨Nat.zero_le _, rfl⟩ ?_
    rintro i ⟨hi0, hi1⟩
    by_cases hi : i < c.2.2.2.2.2.length
    ·have e1 := at_map (f := eSt) hi
     simp +contextual -implicitDefEqProofs only [hi, e1, eSt_size, eCl, at0, eI, eB, eG, eS, D.size, D.sizeL, D.sub, D.isAg, Nat.zero_lt_one, bne, bT, bN, bI, bG, bU, bJ, Bool.true_or, Bool.false_or, Bool.or_true, Bool.or_false, go_sem, ↓reduceIte, Nat.reduceEqDiff, Nat.reduceAdd, Nat.reduceLeDiff, Nat.reduceMul, Nat.reduceBEq, Nat.reduceBneDiff, Nat.reduceLT, Nat.reduceSub, iL, lM, iN]
     refine callQ_self (ds := [eG g, .pt (eSt c.2.2.2.2.2[i]) 0]) (by rfl) (hc3 g c.2.2.2.2.2[i] hg) ?_
     cases hv : okSt g c.2.2.2.2.2[i]
     ·have q9 : c.2.2.2.2.2.all (okSt g) = false := all_fail hi hv
      simp +contextual -implicitDefEqProofs only [hv, q9, q1, q2, q3, q4, q5, q7, q8, q8', eCl, okCl, at0, eI, eB, eG, eS, D.size, D.sizeL, D.sub, D.isAg, Nat.zero_lt_one, bne, bT, bN, bI, bG, bU, bJ, Bool.true_or, Bool.false_or, Bool.or_true, Bool.or_false, go_sem, ↓reduceIte, Nat.reduceEqDiff, Nat.reduceAdd, Nat.reduceLeDiff, Nat.reduceMul, Nat.reduceBEq, Nat.reduceBneDiff, Nat.reduceLT, Nat.reduceSub, iL, lM, iN]
     ·simp +contextual -implicitDefEqProofs only [hv, at0, eI, eB, eG, eS, D.size, D.sizeL, D.sub, D.isAg, Nat.zero_lt_one, bne, bT, bN, bI, bG, bU, bJ, Bool.true_or, Bool.false_or, Bool.or_true, Bool.or_false, go_sem, ↓reduceIte, Nat.reduceEqDiff, Nat.reduceAdd, Nat.reduceLeDiff, Nat.reduceMul, Nat.reduceBEq, Nat.reduceBneDiff, Nat.reduceLT, Nat.reduceSub, iL, lM, iN]
      rw [wrap_i64 (by omega) (by omega)]
      exact ⟨i + 1, ⟨by omega, all_take_succ hi hi1 hv⟩, by omega, Ent.to [] (by simp only [go_sem, ↓reduceIte, Nat.reduceEqDiff, Nat.reduceBEq, Nat.reduceBneDiff]; rfl) rfl (by simp) (by rfl) (by simp only [subEnv, go_sem, ↓reduceIte, Nat.reduceEqDiff, Nat.reduceBEq, keep, memN, Bool.or_false, Bool.false_or, Bool.or_self] <;> simp)⟩
    ·obtain rfl : i = c.2.2.2.2.2.length := by omega
     rw [List.take_length] at hi1
     simp +contextual -implicitDefEqProofs only [hi, hi1, q1, q2, q3, q4, q5, q7, q8, q8', eCl, okCl, at0, eI, eB, eG, eS, D.size, D.sizeL, D.sub, D.isAg, Nat.zero_lt_one, bne, bT, bN, bI, bG, bU, bJ, Bool.true_or, Bool.false_or, Bool.or_true, Bool.or_false, go_sem, ↓reduceIte, Nat.reduceEqDiff, Nat.reduceAdd, Nat.reduceLeDiff, Nat.reduceMul, Nat.reduceBEq, Nat.reduceBneDiff, Nat.reduceLT, Nat.reduceSub, iL, lM, iN]
  ·simp +contextual -implicitDefEqProofs only [q1, q2, q3, q4, q5, q7, eCl, okCl, at0, eI, eB, eG, eS, D.size, D.sizeL, D.sub, D.isAg, Nat.zero_lt_one, bne, bT, bN, bI, bG, bU, bJ, Bool.true_or, Bool.false_or, Bool.or_true, Bool.or_false, go_sem, ↓reduceIte, Nat.reduceEqDiff, Nat.reduceAdd, Nat.reduceLeDiff, Nat.reduceMul, Nat.reduceBEq, Nat.reduceBneDiff, Nat.reduceLT, Nat.reduceSub, iL, lM, iN]
 ·cases q6 : (c.2.2.2.1 == 0)
  ·simp +contextual -implicitDefEqProofs only [q1, q2, q3, q4, q5, q6, eCl, okCl, at0, eI, eB, eG, eS, D.size, D.sizeL, D.sub, D.isAg, Nat.zero_lt_one, bne, bT, bN, bI, bG, bU, bJ, Bool.true_or, Bool.false_or, Bool.or_true, Bool.or_false, go_sem, ↓reduceIte, Nat.reduceEqDiff, Nat.reduceAdd, Nat.reduceLeDiff, Nat.reduceMul, Nat.reduceBEq, Nat.reduceBneDiff, Nat.reduceLT, Nat.reduceSub, iL, lM, iN]
  ·cases q8 : decide ((c.2.2.2.2.2.length : Int) ≤ 60)
   ·have q8' := gt_le q8
    rw [bN] at q8'
    simp +contextual -implicitDefEqProofs only [q1, q2, q3, q4, q5, q6, q8, q8', eCl, okCl, at0, eI, eB, eG, eS, D.size, D.sizeL, D.sub, D.isAg, Nat.zero_lt_one, bne, bT, bN, bI, bG, bU, bJ, Bool.true_or, Bool.false_or, Bool.or_true, Bool.or_false, go_sem, ↓reduceIte, Nat.reduceEqDiff, Nat.reduceAdd, Nat.reduceLeDiff, Nat.reduceMul, Nat.reduceBEq, Nat.reduceBneDiff, Nat.reduceLT, Nat.reduceSub, iL, lM, iN]
   ·have q8' := gt_le q8
    rw [bT] at q8'
    simp +contextual -implicitDefEqProofs only [eCl, q1, q2, q3, q4, q5, q6, q8, q8', at0, eI, eB, eG, eS, D.size, D.sizeL, D.sub, D.isAg, Nat.zero_lt_one, bne, bT, bN, bI, bG, bU, bJ, Bool.true_or, Bool.false_or, Bool.or_true, Bool.or_false, go_sem, ↓reduceIte, Nat.reduceEqDiff, Nat.reduceAdd, Nat.reduceLeDiff, Nat.reduceMul, Nat.reduceBEq, Nat.reduceBneDiff, Nat.reduceLT, Nat.reduceSub, iL, lM, iN]
    refine vc_onU (α := Nat) [4, 5, 71, 72, 73, 74, 75, 76, 77, 78, 79, 80, 81, 82, 83, 84, 85, 86, 87, 88] (fun i => [(5, .im none (.sc (.int .i64 i)))]) (fun i => [(2, .ar false (some false) 2 [.ag [.sc (.int .i64 g.1), .sc (.int .i64 g.2)]])]) (fun i => i ≤ c.2.2.2.2.2.length ∧ (c.2.2.2.2.2.take i).all (okSt g) = true) (fun i => c.2.2.2.2.2.length - i) 0 (Ent.to [] (by simp only [go_sem, ↓reduceIte, Nat.reduceEqDiff, Nat.reduceBEq, Nat.reduceBneDiff]; rfl) rfl (by simp) (by rfl) (by simp only [subEnv, go_sem, ↓reduceIte, Nat.reduceEqDiff, Nat.reduceBEq, keep, memN, Bool.or_false, Bool.false_or, Bool.or_self] <;> simp)) ⟨Nat.zero_le _, rfl⟩ ?_
    rintro i ⟨hi0, hi1⟩
    by_cases hi : i < c.2.2.2.2.2.length
    ·have e1 := at_map (f := eSt) hi
     simp +contextual -implicitDefEqProofs only [hi, e1, eSt_size, eCl, at0, eI, eB, eG, eS, D.size, D.sizeL, D.sub, D.isAg, Nat.zero_lt_one, bne, bT, bN, bI, bG, bU, bJ, Bool.true_or, Bool.false_or, Bool.or_true, Bool.or_false, go_sem, ↓reduceIte, Nat.reduceEqDiff, Nat.reduceAdd, Nat.reduceLeDiff, Nat.reduceMul, Nat.reduceBEq, Nat.reduceBneDiff, Nat.reduceLT, Nat.reduceSub, iL, lM, iN]
     refine callQ_self (ds := [eG g, .pt (eSt c.2.2.2.2.2[i]) 0]) (by rfl) (hc3 g c.2.2.2.2.2[i] hg) ?_
     cases hv : okSt g c.2.2.2.2.2[i]
     ·have q9 : c.2.2.2.2.2.all (okSt g) = false := all_fail hi hv
      simp +contextual -implicitDefEqProofs only [hv, q9, q1, q2, q3, q4, q5, q6, q8, q8', eCl, okCl, at0, eI, eB, eG, eS, D.size, D.sizeL, D.sub, D.isAg, Nat.zero_lt_one, bne, bT, bN, bI, bG, bU, bJ, Bool.true_or, Bool.false_or, Bool.or_true, Bool.or_false, go_sem, ↓reduceIte, Nat.reduceEqDiff, Nat.reduceAdd, Nat.reduceLeDiff, Nat.reduceMul, Nat.reduceBEq, Nat.reduceBneDiff, Nat.reduceLT, Nat.reduceSub, iL, lM, iN]
     ·simp +contextual -implicitDefEqProofs only [hv, at0, eI, eB, eG, eS, D.size, D.sizeL, D.sub, D.isAg, Nat.zero_lt_one, bne, bT, bN, bI, bG, bU, bJ, Bool.true_or, Bool.false_or, Bool.or_true, Bool.or_false, go_sem, ↓reduceIte, Nat.reduceEqDiff, Nat.reduceAdd, Nat.reduceLeDiff, Nat.reduceMul, Nat.reduceBEq, Nat.reduceBneDiff, Nat.reduceLT, Nat.reduceSub, iL, lM, iN]
      rw [wrap_i64 (by omega) (by omega)]
      exact ⟨i + 1, ⟨by omega, all_take_succ hi hi1 hv⟩, by omega, Ent.to [] (by simp only [go_sem, ↓reduceIte, Nat.reduceEqDiff, Nat.reduceBEq, Nat.reduceBneDiff]; rfl) rfl (by simp) (by rfl) (by simp only [subEnv, go_sem, ↓reduceIte, Nat.reduceEqDiff, Nat.reduceBEq, keep, memN, Bool.or_false, Bool.false_or, Bool.or_self] <;> simp)⟩
    ·obtain rfl : i = c.2.2.2.2.2.length := by omega
     rw [List.take_length] at hi1
     simp +contextual -implicitDefEqProofs only [hi, hi1, q1, q2, q3, q4, q5, q6, q8, q8', eCl, okCl, at0, eI, eB, eG, eS, D.size, D.sizeL, D.sub, D.isAg, Nat.zero_lt_one, bne, bT, bN, bI, bG, bU, bJ, Bool.true_or, Bool.false_or, Bool.or_true, Bool.or_false, go_sem, ↓reduceIte, Nat.reduceEqDiff, Nat.reduceAdd, Nat.reduceLeDiff, Nat.reduceMul, Nat.reduceBEq, Nat.reduceBneDiff, Nat.reduceLT, Nat.reduceSub, iL, lM, iN]

def k_l04Ok (f1 f2 : Nat) : RC := (.seq (.r [.v 2 .cf]) (.seq (.seq (.r [.m 4 0, .n 5 4, .f 6 0 5, .L 7 2 6, .c 8 f1 [.t 7], .o (.un 9 .not (.t 8)), .m 10 9, .u 10 (.mv 11 (.t 0)), .u 10 (.nck 12 (.t 11)), .u 10 (.fa 13 2 (.t 12)), .u 10 (.ld 14 false 1 (.t 13)), .u 10 (.len 15 (.t 14)), .u 10 (.bin 16 .gtr (.t 15) (.ci 40)), .o (.pick 17 (.t 10) .ct (.t 16))]) (.cond (.t 17) (.seq (.r [.v 2 .cf]) .ret) .skip)) (.seq (.seq (.r [.v 3 (.ci 0)]) (.blk 0 (.loop (.seq (.seq (.r [.m 18 3, .m 19 0, .n 20 19, .f 21 2 20, .l 22 1 21, .o (.len 23 (.t 22)), .o (.bin 24 .lss (.t 18) (.t 23))]) (.cond (.t 24) .skip (.exit 0))) (.seq (.blk 1 (.seq (.reg true [.m 27 0, .n 28 27, .f 29 0 28, .L 30 2 29, .m 31 0, .n 32 31, .f 33 2 32, .l 34 1 33, .m 35 3, .o (.ia 36 9 (.t 34) (.t 35)), .c 37 f2 [.t 30, .t 36], .o (.un 38 .not (.t 37))]) (.cond (.t 38) (.seq (.r [.v 2 .cf]) .ret) .skip))) (.r [.m 25 3, .o (.bin 26 .add (.t 25) (.ci 1)), .m 3 26])))))) (.seq (.r [.v 2 .ct]) .ret))))
def K_l04Ok (P : Program) (fno : Nat) : Prop := ∀ (p : Pf), AF P fno [.pt (ePf p) 0] (.own (eB (okPf p)))
theorem a_l04Ok {P : Program} (hm : P.follows .mixedOrders = true) {g f1 f2 : Nat} (hr : resF P g = some (39, k_l04Ok f1 f2, [.t 2])) (hc1 : K_l01Sig P f1) (hc2 : K_l04Claim P f2) : K_l04Ok P g := by
 intro p
 refine af_of_res hr hm rfl fun hb => ?_
 have hl : p.2.2.length ≤ 9223372036854775807 := by
  have := hb.1
  simp only [ePf, D.bd, D.bdL, lM, maxEl] at this
  exact this.2.2.1.1
 simp +contextual -implicitDefEqProofs only [k_l04Ok, ePf, at0, eI, eB, eG, eS, D.size, D.sizeL, D.sub, D.isAg, Nat.zero_lt_one, bne, bT, bN, bI, bG, bU, bJ, Bool.true_or, Bool.false_or, Bool.or_true, Bool.or_false, go_sem, ↓reduceIte, Nat.reduceEqDiff, Nat.reduceAdd, Nat.reduceLeDiff, Nat.reduceMul, Nat.reduceBEq, Nat.reduceBneDiff, Nat.reduceLT, Nat.reduceSub, iL, lM, iN]
 simp +contextual -implicitDefEqProofs only [ePf, okPf, at0, eI, eB, eG, eS, D.size, D.sizeL, D.sub, D.isAg, Nat.zero_lt_one, bne, bT, bN, bI, bG, bU, bJ, Bool.true_or, Bool.false_or, Bool.or_true, Bool.or_false, go_sem, ↓reduceIte, Nat.reduceEqDiff, Nat.reduceAdd, Nat.reduceLeDiff, Nat.reduceMul, Nat.reduceBEq, Nat.reduceBneDiff, Nat.reduceLT, Nat.reduceSub, iL, lM, iN]
 refine callQ_self (ds := [eG p.1]) ?_ (hc1 p.1) ?_
 ·first | exact rfl | (simp only [eE_eta]; exact rfl) | (simp only [eS, eE_eta, lC, lN]; exact rfl)
 cases hg : okG p.1
 ·simp +contextual -implicitDefEqProofs only [ePf, okPf, at0, eI, eB, eG, eS, D.size, D.sizeL, D.sub, D.isAg, Nat.zero_lt_one, hg, bne, bT, bN, bI, bG, bU, bJ, Bool.true_or, Bool.false_or, Bool.or_true, Bool.or_false, go_sem, ↓reduceIte, Nat.reduceEqDiff, Nat.reduceAdd, Nat.reduceLeDiff, Nat.reduceMul, Nat.reduceBEq, Nat.reduceBneDiff, Nat.reduceLT, Nat.reduceSub, iL, lM, iN]
 cases q2 : decide ((p.2.2.length : Int) ≤ 40)
 ·have q2' := gt_le q2
  rw [bN] at q2'
  simp +contextual -implicitDefEqProofs only [ePf, okPf, at0, eI, eB, eG, eS, D.size, D.sizeL, D.sub, D.isAg, Nat.zero_lt_one, hg, q2, q2', bne, bT, bN, bI, bG, bU, bJ, Bool.true_or, Bool.false_or, Bool.or_true, Bool.or_false, go_sem, ↓reduceIte, Nat.reduceEqDiff, Nat.reduceAdd, Nat.reduceLeDiff, Nat.reduceMul, Nat.reduceBEq, Nat.reduceBneDiff, Nat.reduceLT, Nat.reduceSub, iL, lM, iN]
 have q2' := gt_le q2
 rw [bT] at q2'
 simp +contextual -implicitDefEqProofs only [hg, q2, q2', ePf, at0, eI, eB, eG, eS, D.size, D.sizeL, D.sub, D.isAg, Nat.zero_lt_one, bne, bT, bN, bI, bG, bU, bJ, Bool.true_or, Bool.false_or, Bool.or_true, Bool.or_false, go_sem, ↓reduceIte, Nat.reduceEqDiff, Nat.reduceAdd, Nat.reduceLeDiff, Nat.reduceMul, Nat.reduceBEq, Nat.reduceBneDiff, Nat.reduceLT, Nat.reduceSub, iL, lM, iN]
 refine vc_onU (α := Nat) [2, 3, 18, 19, 20, 21, 22, 23, 24, 25, 26, 27, 28, 29, 30, 31, 32, 33, 34, 35, 36, 37, 38] (fun i => [(3, .im none (.sc (.int .i64 i)))]) (fun i => []) (fun i => i ≤ p.2.2.length ∧ (p.2.2.take i).all (okCl p.1) = true) (fun i => p.2.2.length - i) 0 (Ent.to [] (by simp only [go_sem, ↓reduceIte, Nat.reduceEqDiff, Nat.reduceBEq, Nat.reduceBneDiff]; rfl) rfl (by simp) (by rfl) (by simp only [subEnv, go_sem, ↓reduceIte, Nat.reduceEqDiff, Nat.reduceBEq, keep, memN, Bool.or_false, Bool.false_or, Bool.or_self] <;> simp)) ⟨Nat.zero_le _, rfl⟩ ?_
 rintro i ⟨hi0, hi1⟩
 by_cases hi : i < p.2.2.length
 ·have e1 := at_map (f := eCl) hi
  simp +contextual -implicitDefEqProofs only [hi, e1, eCl_size, ePf, at0, eI, eB, eG, eS, D.size, D.sizeL, D.sub, D.isAg, Nat.zero_lt_one, bne, bT, bN, bI, bG, bU, bJ, Bool.true_or, Bool.false_or, Bool.or_true, Bool.or_false, go_sem, ↓reduceIte, Nat.reduceEqDiff, Nat.reduceAdd, Nat.reduceLeDiff, Nat.reduceMul, Nat.reduceBEq, Nat.reduceBneDiff, Nat.reduceLT, Nat.reduceSub, iL, lM, iN]
  refine callQ_self (ds := [eG p.1, .pt (eCl p.2.2[i]) 0]) (by rfl) (hc2 p.1 p.2.2[i] hg) ?_
  cases hv : okCl p.1 p.2.2[i]
  ·have q9 : p.2.2.all (okCl p.1) = false := all_fail hi hv
   simp +contextual -implicitDefEqProofs only [hv, q9, hg, q2, ePf, okPf, at0, eI, eB, eG, eS, D.size, D.sizeL, D.sub, D.isAg, Nat.zero_lt_one, bne, bT, bN, bI, bG, bU, bJ, Bool.true_or, Bool.false_or, Bool.or_true, Bool.or_false, go_sem, ↓reduceIte, Nat.reduceEqDiff, Nat.reduceAdd, Nat.reduceLeDiff, Nat.reduceMul, Nat.reduceBEq, Nat.reduceBneDiff, Nat.reduceLT, Nat.reduceSub, iL, lM, iN]
  ·simp +contextual -implicitDefEqProofs only [hv, at0, eI, eB, eG, eS, D.size, D.sizeL, D.sub, D.isAg, Nat.zero_lt_one, bne, bT, bN, bI, bG, bU, bJ, Bool.true_or, Bool.false_or, Bool.or_true, Bool.or_false, go_sem, ↓reduceIte, Nat.reduceEqDiff, Nat.reduceAdd, Nat.reduceLeDiff, Nat.reduceMul, Nat.reduceBEq, Nat.reduceBneDiff, Nat.reduceLT, Nat.reduceSub, iL, lM, iN]
   rw [wrap_i64 (by omega) (by omega)]
   exact ⟨i + 1, ⟨by omega, all_take_succ hi hi1 hv⟩, by omega, Ent.to [] (by simp only [go_sem, ↓reduceIte, Nat.reduceEqDiff, Nat.reduceBEq, Nat.reduceBneDiff]; rfl) rfl (by simp) (by rfl) (by simp only [subEnv, go_sem, ↓reduceIte, Nat.reduceEqDiff, Nat.reduceBEq, keep, memN, Bool.or_false, Bool.false_or, Bool.or_self] <;> simp)⟩
 ·obtain rfl : i = p.2.2.length := by omega
  rw [List.take_length] at hi1
  simp +contextual -implicitDefEqProofs only [hi, hi1, hg, q2, ePf, okPf, at0, eI, eB, eG, eS, D.size, D.sizeL, D.sub, D.isAg, Nat.zero_lt_one, bne, bT, bN, bI, bG, bU, bJ, Bool.true_or, Bool.false_or, Bool.or_true, Bool.or_false, go_sem, ↓reduceIte, Nat.reduceEqDiff, Nat.reduceAdd, Nat.reduceLeDiff, Nat.reduceMul, Nat.reduceBEq, Nat.reduceBneDiff, Nat.reduceLT, Nat.reduceSub, iL, lM, iN]

def k_imValidProof (f1 f2 f3 f4 : Nat) : RC := (.seq (.r [.b 1 3 0, .v 2 .cf]) (.seq (.seq (.r [.f 7 0 1, .L 8 2 7, .c 9 f1 [.t 8], .o (.un 10 .not (.t 9)), .m 11 10, .u 11 (.fa 12 2 (.t 1)), .u 11 (.ld 13 false 1 (.t 12)), .u 11 (.len 14 (.t 13)), .u 11 (.bin 15 .gtr (.t 14) (.ci 40)), .o (.pick 16 (.t 11) .ct (.t 15))]) (.cond (.t 16) (.seq (.r [.v 2 .cf]) .ret) .skip)) (.seq (.seq (.r [.f 17 2 1, .l 18 1 17, .o (.len 19 (.t 18)), .v 20 (.ci 0)]) (.blk 0 (.loop (.seq (.r [.o (.bin 21 .lss (.t 20) (.t 19))]) (.seq (.cond (.t 21) .skip (.exit 0)) (.seq (.blk 1 (.seq (.r [.o (.ia 22 9 (.t 18) (.t 20)), .L 23 9 22, .o (.zer 4 9 (.ag [(.sc (.int .i64 0)), (.sc (.int .i64 0)), (.ls (some true) 3 []), (.sc (.int .i64 0)), (.sc (.int .i64 0)), (.ls (some true) 3 []), (.sc (.int .i64 0)), (.sc (.int .i64 0)), (.ls (some true) 5 [])])), .s 9 4 23]) (.seq (.seq (.r [.f 24 0 1, .L 25 2 24, .f 26 0 4, .L 27 3 26, .f 28 3 4, .L 29 3 28, .o (.bs 30 3 .ze 2 [(0, (.t 27)), (1, (.t 29))]), .c 31 f2 [.t 25, .t 30], .o (.un 32 .not (.t 31)), .m 33 32, .u 33 (.fa 34 6 (.t 4)), .u 33 (.ld 35 false 1 (.t 34)), .u 33 (.call (some 36) f3 [.t 35, .ci 1, .ci 3]), .u 33 (.un 37 .not (.t 36)), .o (.pick 38 (.t 33) .ct (.t 37)), .m 39 38, .u 39 (.fa 40 7 (.t 4)), .u 39 (.ld 41 false 1 (.t 40)), .u 39 (.call (some 42) f3 [.t 41, .ci 0, .ci 39]), .u 39 (.un 43 .not (.t 42)), .o (.pick 44 (.t 39) .ct (.t 43)), .m 45 44, .u 45 (.fa 46 8 (.t 4)), .u 45 (.ld 47 false 1 (.t 46)), .u 45 (.len 48 (.t 47)), .u 45 (.bin 49 .gtr (.t 48) (.ci 60)), .o (.pick 50 (.t 45) .ct (.t 49))]) (.cond (.t 50) (.seq (.r [.v 2 .cf]) .ret) .skip)) (.seq (.seq (.r [.f 51 6 4, .l 52 1 51, .q 53 52 1, .m 54 53, .w 54 (.fa 55 7 (.t 4)), .w 54 (.ld 56 false 1 (.t 55)), .w 54 (.bin 57 .neq (.t 56) (.ci 0)), .k 58 54 57, .m 59 58, .u 59 (.fa 60 6 (.t 4)), .u 59 (.ld 61 false 1 (.t 60)), .u 59 (.bin 62 .neq (.t 61) (.ci 1)), .u 59 (.mv 63 (.t 62)), .w 63 (.fa 64 8 (.t 4)), .w 63 (.ld 65 false 1 (.t 64)), .w 63 (.len 66 (.t 65)), .w 63 (.bin 67 .gtr (.t 66) (.ci 0)), .u 59 (.pick 68 (.t 63) (.t 67) .cf), .o (.pick 69 (.t 59) .ct (.t 68))]) (.cond (.t 69) (.seq (.r [.v 2 .cf]) .ret) .skip)) (.seq (.r [.f 70 8 4, .l 71 1 70, .o (.len 72 (.t 71)), .v 73 (.ci 0)]) (.blk 2 (.loop (.seq (.r [.o (.bin 74 .lss (.t 73) (.t 72))]) (.seq (.cond (.t 74) .skip (.exit 2)) (.seq (.blk 3 (.seq (.r [.o (.ia 75 5 (.t 71) (.t 73)), .L 76 5 75, .o (.zer 6 5 (.ag [(.sc (.int .i64 0)), (.sc (.bool false)), (.ls (some true) 1 []), (.ls (some true) 3 []), (.ls (some true) 3 [])])), .s 5 6 76]) (.seq (.r [.f 77 0 1, .L 78 2 77, .L 79 5 6, .c 80 f4 [.t 78, .t 79], .o (.un 81 .not (.t 80))]) (.cond (.t 81) (.seq (.r [.v 2 .cf]) .ret) .skip)))) (.r [.o (.bin 82 .add (.t 73) (.ci 1)), .m 73 82]))))))))))) (.r [.o (.bin 83 .add (.t 20) (.ci 1)), .m 20 83]))))))) (.seq (.r [.v 2 .ct]) .ret))))
def K_imValidProof (P : Program) (fno : Nat) : Prop := ∀ (p : Pf), AF P fno [ePf p] (.own (eB (okPf p)))
theorem a_imValidProof {P : Program} (hm : P.follows .mixedOrders = true) {g f1 f2 f3 f4 : Nat} (hr : resF P g = some (84, k_imValidProof f1 f2 f3 f4, [.t 2])) (hc1 : K_validSig P f1) (hc2 : K_validExprs P f2) (hc3 : K_within P f3) (hc4 : K_isStep P f4) : K_imValidProof P g := by
 intro p
 refine af_of_res hr hm rfl fun hb => ?_
 have hl : p.2.2.length ≤ 9223372036854775807 := by
  have := hb.1
  simp only [ePf, D.bd, D.bdL, lM, maxEl] at this
  exact this.2.2.1.1
 simp +contextual -implicitDefEqProofs only [k_imValidProof, ePf, at0, eI, eB, eG, eS, D.size, D.sizeL, D.sub, D.isAg, Nat.zero_lt_one, bne, bT, bN, bI, bG, bU, bJ, Bool.true_or, Bool.false_or, Bool.or_true, Bool.or_false, go_sem, ↓reduceIte, Nat.reduceEqDiff, Nat.reduceAdd, Nat.reduceLeDiff, Nat.reduceMul, Nat.reduceBEq, Nat.reduceBneDiff, Nat.reduceLT, Nat.reduceSub, iL, lM, iN]
 simp +contextual -implicitDefEqProofs only [ePf, okPf, at0, eI, eB, eG, eS, D.size, D.sizeL, D.sub, D.isAg, Nat.zero_lt_one, bne, bT, bN, bI, bG, bU, bJ, Bool.true_or, Bool.false_or, Bool.or_true, Bool.or_false, go_sem, ↓reduceIte, Nat.reduceEqDiff, Nat.reduceAdd, Nat.reduceLeDiff, Nat.reduceMul, Nat.reduceBEq, Nat.reduceBneDiff, Nat.reduceLT, Nat.reduceSub, iL, lM, iN]
 refine callQ_self (ds := [eG p.1]) ?_ (hc1 p.1) ?_
 ·first | exact rfl | (simp only [eE_eta]; exact rfl) | (simp only [eS, eE_eta, lC, lN]; exact rfl)
 cases hg : okG p.1
 ·simp +contextual -implicitDefEqProofs only [ePf, okPf, at0, eI, eB, eG, eS, D.size, D.sizeL, D.sub, D.isAg, Nat.zero_lt_one, hg, bne, bT, bN, bI, bG, bU, bJ, Bool.true_or, Bool.false_or, Bool.or_true, Bool.or_false, go_sem, ↓reduceIte, Nat.reduceEqDiff, Nat.reduceAdd, Nat.reduceLeDiff, Nat.reduceMul, Nat.reduceBEq, Nat.reduceBneDiff, Nat.reduceLT, Nat.reduceSub, iL, lM, iN]
 cases q0 : decide ((p.2.2.length : Int) ≤ 40)
 ·have q0' := gt_le q0
  rw [bN] at q0'
  simp +contextual -implicitDefEqProofs only [ePf, okPf, at0, eI, eB, eG, eS, D.size, D.sizeL, D.sub, D.isAg, Nat.zero_lt_one, hg, q0, q0', bne, bT, bN, bI, bG, bU, bJ, Bool.true_or, Bool.false_or, Bool.or_true, Bool.or_false, go_sem, ↓reduceIte, Nat.reduceEqDiff, Nat.reduceAdd, Nat.reduceLeDiff, Nat.reduceMul, Nat.reduceBEq, Nat.reduceBneDiff, Nat.reduceLT, Nat.reduceSub, iL, lM, iN]
 have q0' := gt_le q0
 rw [bT] at q0'
 simp +contextual -implicitDefEqProofs only [hg, q0, q0', ePf, at0, eI, eB, eG, eS, D.size, D.sizeL, D.sub, D.isAg, Nat.zero_lt_one, bne, bT, bN, bI, bG, bU, bJ, Bool.true_or, Bool.false_or, Bool.or_true, Bool.or_false, go_sem, ↓reduceIte, Nat.reduceEqDiff, Nat.reduceAdd, Nat.reduceLeDiff, Nat.reduceMul, Nat.reduceBEq, Nat.reduceBneDiff, Nat.reduceLT, Nat.reduceSub, iL, lM, iN]
 refine vc_onU (α := Nat) [2, 4, 6, 20, 21, 22, 23, 24, 25, 26, 27, 28, 29, 30, 31, 32, 33, 34, 35, 36, 37, 38, 39, 40, 41, 42, 43, 44, 45, 46, 47, 48, 49, 50, 51, 52, 53, 54, 55, 56, 57, 58, 59, 60, 61, 62, 63, 64, 65, 66, 67, 68, 69, 70, 71, 72, 73, 74, 75, 76, 77, 78, 79, 80, 81, 82, 83] (fun i => [(20, .im none (.sc (.int .i64 i)))]) (fun i => [(1, .ar false (some false) 3 [.ag [.sc (.int .i64 p.1.1), .sc (.int .i64 p.1.2), .ls p.2.1 9 (p.2.2.map eCl)]])]) (fun i => i ≤ p.2.2.length ∧ (p.2.2.take i).all (okCl p.1) = true) (fun i => p.2.2.length - i) 0 (Ent.to [] (by simp only [go_sem, ↓reduceIte, Nat.reduceEqDiff, Nat.reduceBEq, Nat.reduceBneDiff]; rfl) rfl (by simp) (by rfl) (by simp only [subEnv, go_sem, ↓reduceIte, Nat.reduceEqDiff, Nat.reduceBEq, keep, memN, Bool.or_false, Bool.false_or, Bool.or_self] <;> simp)) ⟨Nat.zero_le _, rfl⟩ ?_
 rintro i ⟨hi0, hi1⟩
 by_cases hi : i < p.2.2.length
 ·have e1 := at_map (f := eCl) hi
  rw [eCl] at e1
  have hcl : p.2.2[i].2.2.2.2.2.length ≤ 9223372036854775807 := by
   have := bdL_mem hb.1.2.2.1.2.2 (eCl p.2.2[i]) (List.mem_map.2 ⟨_, List.getElem_mem hi, rfl⟩)
   simp only [eCl, D.bd, D.bdL, lM, maxEl] at this
   exact this.2.2.2.2.2.2.2.2.1.1
  simp +contextual -implicitDefEqProofs only [hi, e1, eCl, okCl, D.put, D.cells, modeOf, noPtrs, at0, eI, eB, eG, eS, D.size, D.sizeL, D.sub, D.isAg, Nat.zero_lt_one, bne, bT, bN, bI, bG, bU, bJ, Bool.true_or, Bool.false_or, Bool.or_true, Bool.or_false, go_sem, ↓reduceIte, Nat.reduceEqDiff, Nat.reduceAdd, Nat.reduceLeDiff, Nat.reduceMul, Nat.reduceBEq, Nat.reduceBneDiff, Nat.reduceLT, Nat.reduceSub, iL, lM, iN]
  refine ⟨by decide, ?_⟩
  refine callQ_self (ds := [eG p.1, eS 3 eE (some false, [p.2.2[i].1, p.2.2[i].2.1])]) ?_ (by have := hc2 p.1 (some false, [p.2.2[i].1, p.2.2[i].2.1]); rw [hg, bI] at this; simp only [List.all_cons, List.all_nil, bU] at this; exact this) ?_
  ·first | exact rfl | (simp only [eE_eta]; exact rfl) | (simp only [eS, eE_eta, lC, lN]; exact rfl)
  cases q1 : (okE p.1 p.2.2[i].1 && okE p.1 p.2.2[i].2.1)
  ·have hv2 : okCl p.1 p.2.2[i] = false := by simp only [okCl, q1, bne, bT, bN, bI, bG, bU, bJ, Bool.true_or, Bool.false_or, Bool.or_true, Bool.or_false]
   have q10 : p.2.2.all (okCl p.1) = false := all_fail hi hv2
   simp +contextual -implicitDefEqProofs only [q10, hg, q0, q1, ePf, okPf, at0, eI, eB, eG, eS, D.size, D.sizeL, D.sub, D.isAg, Nat.zero_lt_one, bne, bT, bN, bI, bG, bU, bJ, Bool.true_or, Bool.false_or, Bool.or_true, Bool.or_false, go_sem, ↓reduceIte, Nat.reduceEqDiff, Nat.reduceAdd, Nat.reduceLeDiff, Nat.reduceMul, Nat.reduceBEq, Nat.reduceBneDiff, Nat.reduceLT, Nat.reduceSub, iL, lM, iN]
  simp +contextual -implicitDefEqProofs only [eCl, okCl, D.put, D.cells, modeOf, noPtrs, at0, eI, eB, eG, eS, D.size, D.sizeL, D.sub, D.isAg, Nat.zero_lt_one, q1, bne, bT, bN, bI, bG, bU, bJ, Bool.true_or, Bool.false_or, Bool.or_true, Bool.or_false, go_sem, ↓reduceIte, Nat.reduceEqDiff, Nat.reduceAdd, Nat.reduceLeDiff, Nat.reduceMul, Nat.reduceBEq, Nat.reduceBneDiff, Nat.reduceLT, Nat.reduceSub, iL, lM, iN]
  refine callQ_self (ds := [eI p.2.2[i].2.2.1, eI 1, eI 3]) ?_ (hc3 p.2.2[i].2.2.1 1 3) ?_
  ·first | exact rfl | (simp only [eE_eta]; exact rfl) | (simp only [eS, eE_eta, lC, lN]; exact rfl)
  cases q3 : isIn p.2.2[i].2.2.1 1 3
  ·have hv2 : okCl p.1 p.2.2[i] = false := by simp only [okCl, q1, q3, bne, bT, bN, bI, bG, bU, bJ, Bool.true_or, Bool.false_or, Bool.or_true, Bool.or_false]
   have q10 : p.2.2.all (okCl p.1) = false := all_fail hi hv2
   simp +contextual -implicitDefEqProofs only [q10, hg, q0, q1, q3, ePf, okPf, at0, eI, eB, eG, eS, D.size, D.sizeL, D.sub, D.isAg, Nat.zero_lt_one, bne, bT, bN, bI, bG, bU, bJ, Bool.true_or, Bool.false_or, Bool.or_true, Bool.or_false, go_sem, ↓reduceIte, Nat.reduceEqDiff, Nat.reduceAdd, Nat.reduceLeDiff, Nat.reduceMul, Nat.reduceBEq, Nat.reduceBneDiff, Nat.reduceLT, Nat.reduceSub, iL, lM, iN]
  simp +contextual -implicitDefEqProofs only [eCl, okCl, D.put, D.cells, modeOf, noPtrs, at0, eI, eB, eG, eS, D.size, D.sizeL, D.sub, D.isAg, Nat.zero_lt_one, q1, q3, bne, bT, bN, bI, bG, bU, bJ, Bool.true_or, Bool.false_or, Bool.or_true, Bool.or_false, go_sem, ↓reduceIte, Nat.reduceEqDiff, Nat.reduceAdd, Nat.reduceLeDiff, Nat.reduceMul, Nat.reduceBEq, Nat.reduceBneDiff, Nat.reduceLT, Nat.reduceSub, iL, lM, iN]
  refine callQ_self (ds := [eI p.2.2[i].2.2.2.1, eI 0, eI 39]) ?_ (hc3 p.2.2[i].2.2.2.1 0 39) ?_
  ·first | exact rfl | (simp only [eE_eta]; exact rfl) | (simp only [eS, eE_eta, lC, lN]; exact rfl)
  cases q4 : isIn p.2.2[i].2.2.2.1 0 39
  ·have hv2 : okCl p.1 p.2.2[i] = false := by simp only [okCl, q1, q3, q4, bne, bT, bN, bI, bG, bU, bJ, Bool.true_or, Bool.false_or, Bool.or_true, Bool.or_false]
   have q10 : p.2.2.all (okCl p.1) = false := all_fail hi hv2
   simp +contextual -implicitDefEqProofs only [q10, hg, q0, q1, q3, q4, ePf, okPf, at0, eI, eB, eG, eS, D.size, D.sizeL, D.sub, D.isAg, Nat.zero_lt_one, bne, bT, bN, bI, bG, bU, bJ, Bool.true_or, Bool.false_or, Bool.or_true, Bool.or_false, go_sem, ↓reduceIte, Nat.reduceEqDiff, Nat.reduceAdd, Nat.reduceLeDiff, Nat.reduceMul, Nat.reduceBEq, Nat.reduceBneDiff, Nat.reduceLT, Nat.reduceSub, iL, lM, iN]
  cases q8 : decide ((p.2.2[i].2.2.2.2.2.length : Int) ≤ 60)
  ·have q8' := gt_le q8
   rw [bN] at q8'
   have hv2 : okCl p.1 p.2.2[i] = false := by simp only [okCl, q1, q3, q4, q8, q8', bne, bT, bN, bI, bG, bU, bJ, Bool.true_or, Bool.false_or, Bool.or_true, Bool.or_false]
   have q10 : p.2.2.all (okCl p.1) = false := all_fail hi hv2
   simp +contextual -implicitDefEqProofs only [q10, hg, q0, q1, q3, q4, q8, q8', ePf, okPf, at0, eI, eB, eG, eS, D.size, D.sizeL, D.sub, D.isAg, Nat.zero_lt_one, bne, bT, bN, bI, bG, bU, bJ, Bool.true_or, Bool.false_or, Bool.or_true, Bool.or_false, go_sem, ↓reduceIte, Nat.reduceEqDiff, Nat.reduceAdd, Nat.reduceLeDiff, Nat.reduceMul, Nat.reduceBEq, Nat.reduceBneDiff, Nat.reduceLT, Nat.reduceSub, iL, lM, iN]
  have q8' := gt_le q8
  rw [bT] at q8'
  cases q5 : (p.2.2[i].2.2.1 == 1)
  ·cases q7 : decide ((p.2.2[i].2.2.2.2.2.length : Int) > 0)
   ·simp +contextual -implicitDefEqProofs only [eCl, q1, q3, q4, q8, q8', q5, q7, at0, eI, eB, eG, eS, D.size, D.sizeL, D.sub, D.isAg, Nat.zero_lt_one, bne, bT, bN, bI, bG, bU, bJ, Bool.true_or, Bool.false_or, Bool.or_true, Bool.or_false, go_sem, ↓reduceIte, Nat.reduceEqDiff, Nat.reduceAdd, Nat.reduceLeDiff, Nat.reduceMul, Nat.reduceBEq, Nat.reduceBneDiff, Nat.reduceLT, Nat.reduceSub, iL, lM, iN]
    refine vc_onU (α := Nat) [2, 6, 30, 73, 74, 75, 76, 77, 78, 79, 80, 81, 82] (fun k => [(73, .im none (.sc (.int .i64 k)))]) (fun k => [(4, .ar false (some false) 9 [.ag [.sc (.int .i64 p.2.2[i].1.k), .sc (.int .i64 p.2.2[i].1.n), .ls p.2.2[i].1.nn 3 (p.2.2[i].1.ks.map eE), .sc (.int .i64 p.2.2[i].2.1.k), .sc (.int .i64 p.2.2[i].2.1.n), .ls p.2.2[i].2.1.nn 3 (p.2.2[i].2.1.ks.map eE), .sc (.int .i64 p.2.2[i].2.2.1), .sc (.int .i64 p.2.2[i].2.2.2.1), .ls p.2.2[i].2.2.2.2.1 5 (p.2.2[i].2.2.2.2.2.map eSt)]]), (1, .ar false (some false) 3 [.ag [.sc (.int .i64 p.1.1), .sc (.int .i64 p.1.2), .ls p.2.1 9 (p.2.2.map eCl)]])]) (fun k => k ≤ p.2.2[i].2.2.2.2.2.length ∧ (p.2.2[i].2.2.2.2.2.take k).all (okSt p.1) = true) (fun k => p.2.2[i].2.2.2.2.2.length - k) 0 (Ent.to [30] (by simp only [go_sem, ↓reduceIte, Nat.reduceEqDiff, Nat.reduceBEq, Nat.reduceBneDiff]; rfl) rfl (by simp) (by rfl) (by simp only [subEnv, go_sem, ↓reduceIte, Nat.reduceEqDiff, Nat.reduceBEq, keep, memN, Bool.or_false, Bool.false_or, Bool.or_self] <;> simp)) ⟨Nat.zero_le _, rfl⟩ ?_
    rintro k ⟨hk0, hk1⟩
    by_cases hk : k < p.2.2[i].2.2.2.2.2.length
    ·have e2 := at_map (f := eSt) hk
     simp +contextual -implicitDefEqProofs only [hk, e2, eSt, eCl, okCl, D.put, D.cells, modeOf, noPtrs, at0, eI, eB, eG, eS, D.size, D.sizeL, D.sub, D.isAg, Nat.zero_lt_one, bne, bT, bN, bI, bG, bU, bJ, Bool.true_or, Bool.false_or, Bool.or_true, Bool.or_false, go_sem, ↓reduceIte, Nat.reduceEqDiff, Nat.reduceAdd, Nat.reduceLeDiff, Nat.reduceMul, Nat.reduceBEq, Nat.reduceBneDiff, Nat.reduceLT, Nat.reduceSub, iL, lM, iN]
     refine callQ_self (ds := [eG p.1, eSt p.2.2[i].2.2.2.2.2[k]]) (by rfl) (hc4 p.1 p.2.2[i].2.2.2.2.2[k] hg) ?_
     cases hv : okSt p.1 p.2.2[i].2.2.2.2.2[k]
     ·have q9 : p.2.2[i].2.2.2.2.2.all (okSt p.1) = false := all_fail hk hv
      have hv2 : okCl p.1 p.2.2[i] = false := by simp only [okCl, q9, bJ]
      have q10 : p.2.2.all (okCl p.1) = false := all_fail hi hv2
      simp +contextual -implicitDefEqProofs only [hv, q10, hg, q0, ePf, okPf, at0, eI, eB, eG, eS, D.size, D.sizeL, D.sub, D.isAg, Nat.zero_lt_one, bne, bT, bN, bI, bG, bU, bJ, Bool.true_or, Bool.false_or, Bool.or_true, Bool.or_false, go_sem, ↓reduceIte, Nat.reduceEqDiff, Nat.reduceAdd, Nat.reduceLeDiff, Nat.reduceMul, Nat.reduceBEq, Nat.reduceBneDiff, Nat.reduceLT, Nat.reduceSub, iL, lM, iN]
     ·simp +contextual -implicitDefEqProofs only [hv, at0, eI, eB, eG, eS, D.size, D.sizeL, D.sub, D.isAg, Nat.zero_lt_one, bne, bT, bN, bI, bG, bU, bJ, Bool.true_or, Bool.false_or, Bool.or_true, Bool.or_false, go_sem, ↓reduceIte, Nat.reduceEqDiff, Nat.reduceAdd, Nat.reduceLeDiff, Nat.reduceMul, Nat.reduceBEq, Nat.reduceBneDiff, Nat.reduceLT, Nat.reduceSub, iL, lM, iN]
      rw [wrap_i64 (by omega) (by omega)]
      exact ⟨k + 1, ⟨by omega, all_take_succ hk hk1 hv⟩, by omega, Ent.to [6] (by simp only [go_sem, ↓reduceIte, Nat.reduceEqDiff, Nat.reduceBEq, Nat.reduceBneDiff]; rfl) rfl (by simp) (by rfl) (by simp only [subEnv, go_sem, ↓reduceIte, Nat.reduceEqDiff, Nat.reduceBEq, keep, memN, Bool.or_false, Bool.false_or, Bool.or_self] <;> simp)⟩
    ·obtain rfl : k = p.2.2[i].2.2.2.2.2.length := by omega
     rw [List.take_length] at hk1
     have hv2 : okCl p.1 p.2.2[i] = true := by simp only [okCl, hk1, q1, q3, q4, q8, q8', q5, q7, bne, bT, bN, bI, bG, bU, bJ, Bool.true_or, Bool.false_or, Bool.or_true, Bool.or_false]
     simp +contextual -implicitDefEqProofs only [hk, at0, eI, eB, eG, eS, D.size, D.sizeL, D.sub, D.isAg, Nat.zero_lt_one, bne, bT, bN, bI, bG, bU, bJ, Bool.true_or, Bool.false_or, Bool.or_true, Bool.or_false, go_sem, ↓reduceIte, Nat.reduceEqDiff, Nat.reduceAdd, Nat.reduceLeDiff, Nat.reduceMul, Nat.reduceBEq, Nat.reduceBneDiff, Nat.reduceLT, Nat.reduceSub, iL, lM, iN]
     rw [wrap_i64 (by omega) (by omega)]
     exact ⟨i + 1, ⟨by omega, all_take_succ hi hi1 hv2⟩, by omega, Ent.to [4] (by simp only [go_sem, ↓reduceIte, Nat.reduceEqDiff, Nat.reduceBEq, Nat.reduceBneDiff]; rfl) rfl (by simp) (by rfl) (by simp only [subEnv, go_sem, ↓reduceIte, Nat.reduceEqDiff, Nat.reduceBEq, keep, memN, Bool.or_false, Bool.false_or, Bool.or_self] <;> simp)⟩
   ·have hv2 : okCl p.1 p.2.2[i] = false := by simp only [okCl, q1, q3, q4, q8, q8', q5, q7, bne, bT, bN, bI, bG, bU, bJ, Bool.true_or, Bool.false_or, Bool.or_true, Bool.or_false]
    have q10 : p.2.2.all (okCl p.1) = false := all_fail hi hv2
    simp +contextual -implicitDefEqProofs only [q10, hg, q0, q1, q3, q4, q8, q8', q5, q7, ePf, okPf, at0, eI, eB, eG, eS, D.size, D.sizeL, D.sub, D.isAg, Nat.zero_lt_one, bne, bT, bN, bI, bG, bU, bJ, Bool.true_or, Bool.false_or, Bool.or_true, Bool.or_false, go_sem, ↓reduceIte, Nat.reduceEqDiff, Nat.reduceAdd, Nat.reduceLeDiff, Nat.reduceMul, Nat.reduceBEq, Nat.reduceBneDiff, Nat.reduceLT, Nat.reduceSub, iL, lM, iN]
  ·cases q6 : (p.2.2[i].2.2.2.1 == 0)
   ·have hv2 : okCl p.1 p.2.2[i] = false := by simp only [okCl, q1, q3, q4, q8, q8', q5, q6, bne, bT, bN, bI, bG, bU, bJ, Bool.true_or, Bool.false_or, Bool.or_true, Bool.or_false]
    have q10 : p.2.2.all (okCl p.1) = false := all_fail hi hv2
    simp +contextual -implicitDefEqProofs only [q10, hg, q0, q1, q3, q4, q8, q8', q5, q6, ePf, okPf, at0, eI, eB, eG, eS, D.size, D.sizeL, D.sub, D.isAg, Nat.zero_lt_one, bne, bT, bN, bI, bG, bU, bJ, Bool.true_or, Bool.false_or, Bool.or_true, Bool.or_false, go_sem, ↓reduceIte, Nat.reduceEqDiff, Nat.reduceAdd, Nat.reduceLeDiff, Nat.reduceMul, Nat.reduceBEq, Nat.reduceBneDiff, Nat.reduceLT, Nat.reduceSub, iL, lM, iN]
   ·simp +contextual -implicitDefEqProofs only [eCl, q1, q3, q4, q8, q8', q5, q6, at0, eI, eB, eG, eS, D.size, D.sizeL, D.sub, D.isAg, Nat.zero_lt_one, bne, bT, bN, bI, bG, bU, bJ, Bool.true_or, Bool.false_or, Bool.or_true, Bool.or_false, go_sem, ↓reduceIte, Nat.reduceEqDiff, Nat.reduceAdd, Nat.reduceLeDiff, Nat.reduceMul, Nat.reduceBEq, Nat.reduceBneDiff, Nat.reduceLT, Nat.reduceSub, iL, lM, iN]
    refine vc_onU (α := Nat) [2, 6, 30, 73, 74, 75, 76, 77, 78, 79, 80, 81, 82] (fun k => [(73, .im none (.sc (.int .i64 k)))]) (fun k => [(4, .ar false (some false) 9 [.ag [.sc (.int .i64 p.2.2[i].1.k), .sc (.int .i64 p.2.2[i].1.n), .ls p.2.2[i].1.nn 3 (p.2.2[i].1.ks.map eE), .sc (.int .i64 p.2.2[i].2.1.k), .sc (.int .i64 p.2.2[i].2.1.n), .ls p.2.2[i].2.1.nn 3 (p.2.2[i].2.1.ks.map eE), .sc (.int .i64 p.2.2[i].2.2.1), .sc (.int .i64 p.2.2[i].2.2.2.1), .ls p.2.2[i].2.2.2.2.1 5 (p.2.2[i].2.2.2.2.2.map eSt)]]), (1, .ar false (some false) 3 [.ag [.sc (.int .i64 p.1.1), .sc (.int .i64 p.1.2), .ls p.2.1 9 (p.2.2.map eCl)]])]) (fun k => k ≤ p.2.2[i].2.2.2.2.2.length ∧ (p.2.2[i].2.2.2.2.2.take k).all (okSt p.1) = true) (fun k => p.2.2[i].2.2.2.2.2.length - k) 0 (Ent.to [30] (by simp only [go_sem, ↓reduceIte, Nat.reduceEqDiff, Nat.reduceBEq, Nat.reduceBneDiff]; rfl) rfl (by simp) (by rfl) (by simp only [subEnv, go_sem, ↓reduceIte, Nat.reduceEqDiff, Nat.reduceBEq, keep, memN, Bool.or_false, Bool.false_or, Bool.or_self] <;> simp)) ⟨Nat.zero_le _, rfl⟩ ?_
    rintro k ⟨hk0, hk1⟩
    by_cases hk : k < p.2.2[i].2.2.2.2.2.length
    ·have e2 := at_map (f := eSt) hk
     simp +contextual -implicitDefEqProofs only [hk, e2, eSt, eCl, okCl, D.put, D.cells, modeOf, noPtrs, at0, eI, eB, eG, eS, D.size, D.sizeL, D.sub, D.isAg, Nat.zero_lt_one, bne, bT, bN, bI, bG, bU, bJ, Bool.true_or, Bool.false_or, Bool.or_true, Bool.or_false, go_sem, ↓reduceIte, Nat.reduceEqDiff, Nat.reduceAdd, Nat.reduceLeDiff, Nat.reduceMul, Nat.reduceBEq, Nat.reduceBneDiff, Nat.reduceLT, Nat.reduceSub, iL, lM, iN]
     refine callQ_self (ds := [eG p.1, eSt p.2.2[i].2.2.2.2.2[k]]) (by rfl) (hc4 p.1 p.2.2[i].2.2.2.2.2[k] hg) ?_
     cases hv : okSt p.1 p.2.2[i].2.2.2.2.2[k]
     ·have q9 : p.2.2[i].2.2.2.2.2.all (okSt p.1) = false := all_fail hk hv
      have hv2 : okCl p.1 p.2.2[i] = false := by simp only [okCl, q9, bJ]
      have q10 : p.2.2.all (okCl p.1) = false := all_fail hi hv2
      simp +contextual -implicitDefEqProofs only [hv, q10, hg, q0, ePf, okPf, at0, eI, eB, eG, eS, D.size, D.sizeL, D.sub, D.isAg, Nat.zero_lt_one, bne, bT, bN, bI, bG, bU, bJ, Bool.true_or, Bool.false_or, Bool.or_true, Bool.or_false, go_sem, ↓reduceIte, Nat.reduceEqDiff, Nat.reduceAdd, Nat.reduceLeDiff, Nat.reduceMul, Nat.reduceBEq, Nat.reduceBneDiff, Nat.reduceLT, Nat.reduceSub, iL, lM, iN]
     ·simp +contextual -implicitDefEqProofs only [hv, at0, eI, eB, eG, eS, D.size, D.sizeL, D.sub, D.isAg, Nat.zero_lt_one, bne, bT, bN, bI, bG, bU, bJ, Bool.true_or, Bool.false_or, Bool.or_true, Bool.or_false, go_sem, ↓reduceIte, Nat.reduceEqDiff, Nat.reduceAdd, Nat.reduceLeDiff, Nat.reduceMul, Nat.reduceBEq, Nat.reduceBneDiff, Nat.reduceLT, Nat.reduceSub, iL, lM, iN]
      rw [wrap_i64 (by omega) (by omega)]
      exact ⟨k + 1, ⟨by omega, all_take_succ hk hk1 hv⟩, by omega, Ent.to [6] (by simp only [go_sem, ↓reduceIte, Nat.reduceEqDiff, Nat.reduceBEq, Nat.reduceBneDiff]; rfl) rfl (by simp) (by rfl) (by simp only [subEnv, go_sem, ↓reduceIte, Nat.reduceEqDiff, Nat.reduceBEq, keep, memN, Bool.or_false, Bool.false_or, Bool.or_self] <;> simp)⟩
    ·obtain rfl : k = p.2.2[i].2.2.2.2.2.length := by omega
     rw [List.take_length] at hk1
     have hv2 : okCl p.1 p.2.2[i] = true := by simp only [okCl, hk1, q1, q3, q4, q8, q8', q5, q6, bne, bT, bN, bI, bG, bU, bJ, Bool.true_or, Bool.false_or, Bool.or_true, Bool.or_false]
     simp +contextual -implicitDefEqProofs only [hk, at0, eI, eB, eG, eS, D.size, D.sizeL, D.sub, D.isAg, Nat.zero_lt_one, bne, bT, bN, bI, bG, bU, bJ, Bool.true_or, Bool.false_or, Bool.or_true, Bool.or_false, go_sem, ↓reduceIte, Nat.reduceEqDiff, Nat.reduceAdd, Nat.reduceLeDiff, Nat.reduceMul, Nat.reduceBEq, Nat.reduceBneDiff, Nat.reduceLT, Nat.reduceSub, iL, lM, iN]
     rw [wrap_i64 (by omega) (by omega)]
     exact ⟨i + 1, ⟨by omega, all_take_succ hi hi1 hv2⟩, by omega, Ent.to [4] (by simp only [go_sem, ↓reduceIte, Nat.reduceEqDiff, Nat.reduceBEq, Nat.reduceBneDiff]; rfl) rfl (by simp) (by rfl) (by simp only [subEnv, go_sem, ↓reduceIte, Nat.reduceEqDiff, Nat.reduceBEq, keep, memN, Bool.or_false, Bool.false_or, Bool.or_self] <;> simp)⟩
 ·obtain rfl : i = p.2.2.length := by omega
  rw [List.take_length] at hi1
  simp +contextual -implicitDefEqProofs only [hi, hi1, hg, q0, ePf, okPf, at0, eI, eB, eG, eS, D.size, D.sizeL, D.sub, D.isAg, Nat.zero_lt_one, bne, bT, bN, bI, bG, bU, bJ, Bool.true_or, Bool.false_or, Bool.or_true, Bool.or_false, go_sem, ↓reduceIte, Nat.reduceEqDiff, Nat.reduceAdd, Nat.reduceLeDiff, Nat.reduceMul, Nat.reduceBEq, Nat.reduceBneDiff, Nat.reduceLT, Nat.reduceSub, iL, lM, iN]
end Go.Ax
