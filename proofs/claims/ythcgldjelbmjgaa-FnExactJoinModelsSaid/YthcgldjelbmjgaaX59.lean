/- Contracts of functions of the seat, proved over the engine. No condition. -/
import Derived.Test.YthcgldjelbmjgaaX47
set_option linter.unusedSimpArgs false
set_option linter.unusedVariables false
set_option linter.unnecessarySimpa false
namespace Go.Ax
set_option linter.unusedSimpArgs false
set_option maxRecDepth 20000
set_option maxHeartbeats 4000000

def K_growB (P : Program) (fno : Nat) : Prop := ∀ (n : Nat) (h0 : 0 < n) (h1 : n ≤ 1000), AF P fno [.ls (some true) 1 [], eI n] (.own (.ls (some false) 1 []))
def totB (L : List (SL Bool)) : Nat := (L.map fun r => r.2.length).sum
def catB (L : List (SL Bool)) : List Bool := (L.map fun r => r.2).flatten
theorem totB_take {L : List (SL Bool)} {i : Nat} (h : i < L.length) : totB (L.take (i + 1)) = totB (L.take i) + L[i].2.length := by
  rw [List.take_succ_eq_append_getElem h]
  simp only [totB, List.map_append, List.sum_append, List.map_cons, List.map_nil, List.sum_cons, List.sum_nil, Nat.add_zero]
theorem totB_le {L : List (SL Bool)} {i : Nat} : totB (L.take i) ≤ totB L := by
  have : totB L = totB (L.take i ++ L.drop i) := by rw [List.take_append_drop]
  rw [this]
  simp only [totB, List.map_append, List.sum_append]
  omega
theorem catB_take {L : List (SL Bool)} {i : Nat} (h : i < L.length) : (catB (L.take (i + 1))).map eB = (catB (L.take i)).map eB ++ L[i].2.map eB := by
  rw [List.take_succ_eq_append_getElem h]
  simp only [catB, List.map_append, List.flatten_append, List.map_cons, List.map_nil, List.flatten_cons, List.flatten_nil, List.append_nil]
theorem catB_len {L : List (SL Bool)} : (catB L).length = totB L := by simp [catB, totB, List.length_flatten, Function.comp_def]
theorem nnGrow_f {ds : List D} : nnGrow (some false) ds = some false := by cases ds <;> rfl
theorem sz_B {l : List Bool} : ∀ e ∈ l.map eB, e.size = 1 := by
  intro e he
  obtain ⟨x, _, rfl⟩ := List.mem_map.1 he; rfl
theorem catB_nil : catB [] = [] := rfl
theorem totB_nil : totB [] = 0 := rfl

def k_concatB (f1 : Nat) (o1 o2 : Oper) : RC := (.seq (.reg false [⟨none, .mv 2 (.c (.ls (some true) 1 []))⟩]) ((.seq (.reg false [⟨none, .mv 3 (.c (.sc (.int .i64 0)))⟩]) ((.seq ((.seq (.reg false [⟨none, .mv 9 (.t 0)⟩, ⟨none, .len 10 (.t 9)⟩, ⟨none, .mv 11 (.c (.sc (.int .i64 0)))⟩]) (.blk 0 (.loop ((.seq (.reg false [⟨none, .bin 12 .lss (.t 11) (.t 10)⟩]) ((.seq (.cond (.t 12) (.skip) (.exit 0)) ((.seq (.blk 1 ((.seq (.reg false [⟨none, .ia 13 1 (.t 9) (.t 11)⟩, ⟨none, .ld 14 false 1 (.t 13)⟩, ⟨none, .mv 5 (.t 14)⟩]) ((.seq (.reg false [⟨none, .mv 15 (.t 3)⟩, ⟨none, .mv 16 (.t 5)⟩, ⟨none, .len 17 (.t 16)⟩, ⟨none, .bin 18 .add (.t 15) (.t 17)⟩, ⟨none, .mv 3 (.t 18)⟩]) ((.seq (.reg false [⟨none, .mv 19 (.t 3)⟩, ⟨none, .bin 20 .lss (.t 19) (.c (.sc (.int .i64 0)))⟩]) (.cond (.t 20) (.reg false [⟨none, .other o1⟩, ⟨none, .other o2⟩]) (.skip))))))))) (.reg false [⟨none, .bin 22 .add (.t 11) (.c (.sc (.int .i64 1)))⟩, ⟨none, .mv 11 (.t 22)⟩]))))))))))) ((.seq (.reg false [⟨none, .mv 23 (.t 3)⟩, ⟨none, .call (some 24) f1 [(.c (.ls (some true) 1 [])), (.t 23)]⟩, ⟨none, .mv 6 (.t 24)⟩]) ((.seq ((.seq (.reg false [⟨none, .mv 25 (.t 0)⟩, ⟨none, .len 26 (.t 25)⟩, ⟨none, .mv 27 (.c (.sc (.int .i64 0)))⟩]) (.blk 2 (.loop ((.seq (.reg false [⟨none, .bin 28 .lss (.t 27) (.t 26)⟩]) ((.seq (.cond (.t 28) (.skip) (.exit 2)) ((.seq (.blk 3 ((.seq (.reg false [⟨none, .ia 29 1 (.t 25) (.t 27)⟩, ⟨none, .ld 30 false 1 (.t 29)⟩, ⟨none, .mv 8 (.t 30)⟩]) (.reg false [⟨none, .mv 31 (.t 6)⟩, ⟨none, .mv 32 (.t 8)⟩, ⟨none, .app 33 1 1 (.t 31) (.t 32)⟩, ⟨none, .mv 6 (.t 33)⟩])))) (.reg false [⟨none, .bin 34 .add (.t 27) (.c (.sc (.int .i64 1)))⟩, ⟨none, .mv 27 (.t 34)⟩]))))))))))) ((.seq (.reg false [⟨none, .mv 35 (.t 6)⟩, ⟨none, .mv 2 (.t 35)⟩]) (.ret))))))))))))
def K_concatB (P : Program) (fno : Nat) : Prop := ∀ (L : List (SL Bool)) (hL : L.length ≤ 1000) (h0 : 0 < totB L) (h1 : totB L ≤ 1000), AF P fno [.ls (some false) 1 (L.map (eS 1 eB))] (.own (.ls (some false) 1 ((catB L).map eB)))
theorem a_concatB {P : Program} (hm : P.follows .mixedOrders = true) {g f1 : Nat} {o1 o2 : Oper} (hr : resF P g = some (36, k_concatB f1 o1 o2, [.t 2])) (hc1 : K_growB P f1) : K_concatB P g := by
  intro L hL h0 h1
  refine af_of_res hr hm rfl fun hb => ?_
  simp +contextual -implicitDefEqProofs only [k_concatB, D.put, D.cells, D.size, D.sizeL, D.isAg, modeOf, noPtrs, List.length_map, eM, eG, eS, eB, D.sub, Int.cast_ofNat_Int, Int.reduceLT, Int.reduceLE, Int.le_refl, Int.reduceBEq, Int.reduceEq, beq_self_eq_true, Int.reduceToNat, bne, Bool.not_true, Bool.not_false, Bool.true_and, Bool.false_and, Bool.and_true, Bool.and_false, Bool.true_or, Bool.false_or, Bool.or_true, Bool.or_false, go_sem, eI, ↓reduceIte, Nat.reduceEqDiff, Nat.reduceAdd, Nat.reduceLeDiff, Nat.reduceMul, Nat.reduceBEq, Nat.reduceBneDiff, Nat.reduceLT, Nat.reduceSub, Bool.false_eq_true, List.cons_append, List.nil_append, Int.ofNat_lt, Int.natCast_nonneg]
  refine vc_onU (α := Nat) [3, 5, 11, 12, 13, 14, 15, 16, 17, 18, 19, 20, 22] (fun i => [(11, .im none (.sc (.int .i64 i))), (3, .im none (.sc (.int .i64 (totB (L.take i)))))]) (fun i => []) (fun i => i ≤ L.length) (fun i => L.length - i) 0 (Ent.to [] (by simp only [go_sem, ↓reduceIte, Nat.reduceEqDiff, Nat.reduceBEq, Nat.reduceBneDiff, Bool.false_eq_true]; rfl) rfl (by simp) (by rfl) (by simp only [subEnv, go_sem, ↓reduceIte, Nat.reduceEqDiff, Nat.reduceBEq, keep, memN, Bool.or_false, Bool.false_or, Bool.or_self, Bool.false_eq_true] <;> simp [totB_nil])) (Nat.zero_le _) ?_
  intro i hi0
  by_cases hi : i < L.length
  · have e1 := at_map (f := eS 1 eB) hi
    have ht := totB_take hi
    have hle := totB_le (L := L) (i := i + 1)
    have hw : IntKind.i64.wrap ((totB (L.take i) : Int) + (L[i].2.length : Int)) = (totB (L.take (i + 1)) : Int) := by rw [wrap_i64 (by omega) (by omega)]; omega
    have hn : ¬ ((totB (L.take (i + 1)) : Int) < 0) := by omega
    simp +contextual -implicitDefEqProofs only [hi, e1, hw, hn, D.put, D.cells, D.size, D.sizeL, D.isAg, modeOf, noPtrs, List.length_map, eM, eG, eS, eB, D.sub, Int.cast_ofNat_Int, Int.reduceLT, Int.reduceLE, Int.le_refl, Int.reduceBEq, Int.reduceEq, beq_self_eq_true, Int.reduceToNat, bne, Bool.not_true, Bool.not_false, Bool.true_and, Bool.false_and, Bool.and_true, Bool.and_false, Bool.true_or, Bool.false_or, Bool.or_true, Bool.or_false, go_sem, eI, ↓reduceIte, Nat.reduceEqDiff, Nat.reduceAdd, Nat.reduceLeDiff, Nat.reduceMul, Nat.reduceBEq, Nat.reduceBneDiff, Nat.reduceLT, Nat.reduceSub, Bool.false_eq_true, List.cons_append, List.nil_append, Int.ofNat_lt, Int.natCast_nonneg]
    rw [wrap_i64 (by omega) (by omega)]
    exact ⟨i + 1, by omega, by omega, Ent.to [] (by simp only [go_sem, ↓reduceIte, Nat.reduceEqDiff, Nat.reduceBEq, Nat.reduceBneDiff, Bool.false_eq_true]; rfl) rfl (by simp) (by rfl) (by simp only [subEnv, go_sem, ↓reduceIte, Nat.reduceEqDiff, Nat.reduceBEq, keep, memN, Bool.or_false, Bool.false_or, Bool.or_self, Bool.false_eq_true] <;> simp)⟩
  · obtain rfl : i = L.length := by omega
    rw [List.take_length]
    simp +contextual -implicitDefEqProofs only [hi, D.put, D.cells, D.size, D.sizeL, D.isAg, modeOf, noPtrs, List.length_map, eM, eG, eS, eB, D.sub, Int.cast_ofNat_Int, Int.reduceLT, Int.reduceLE, Int.le_refl, Int.reduceBEq, Int.reduceEq, beq_self_eq_true, Int.reduceToNat, bne, Bool.not_true, Bool.not_false, Bool.true_and, Bool.false_and, Bool.and_true, Bool.and_false, Bool.true_or, Bool.false_or, Bool.or_true, Bool.or_false, go_sem, eI, ↓reduceIte, Nat.reduceEqDiff, Nat.reduceAdd, Nat.reduceLeDiff, Nat.reduceMul, Nat.reduceBEq, Nat.reduceBneDiff, Nat.reduceLT, Nat.reduceSub, Bool.false_eq_true, List.cons_append, List.nil_append, Int.ofNat_lt, Int.natCast_nonneg]
    refine callQ_self (ds := [.ls (some true) 1 [], eI (totB L)]) (by rfl) (hc1 (totB L) h0 h1) ?_
    simp +contextual -implicitDefEqProofs only [D.put, D.cells, D.size, D.sizeL, D.isAg, modeOf, noPtrs, List.length_map, eM, eG, eS, eB, D.sub, Int.cast_ofNat_Int, Int.reduceLT, Int.reduceLE, Int.le_refl, Int.reduceBEq, Int.reduceEq, beq_self_eq_true, Int.reduceToNat, bne, Bool.not_true, Bool.not_false, Bool.true_and, Bool.false_and, Bool.and_true, Bool.and_false, Bool.true_or, Bool.false_or, Bool.or_true, Bool.or_false, go_sem, eI, ↓reduceIte, Nat.reduceEqDiff, Nat.reduceAdd, Nat.reduceLeDiff, Nat.reduceMul, Nat.reduceBEq, Nat.reduceBneDiff, Nat.reduceLT, Nat.reduceSub, Bool.false_eq_true, List.cons_append, List.nil_append, Int.ofNat_lt, Int.natCast_nonneg]
    refine vc_onU (α := Nat) [6, 8, 24, 27, 28, 29, 30, 31, 32, 33, 34] (fun i => [(27, .im none (.sc (.int .i64 i))), (6, .tr 24)]) (fun i => [(24, .own (.ls (some false) 1 ((catB (L.take i)).map eB)))]) (fun i => i ≤ L.length) (fun i => L.length - i) 0 (Ent.to [] (by simp only [go_sem, ↓reduceIte, Nat.reduceEqDiff, Nat.reduceBEq, Nat.reduceBneDiff, Bool.false_eq_true]; rfl) rfl (by simp [catB_nil]) (by rfl) (by simp only [subEnv, go_sem, ↓reduceIte, Nat.reduceEqDiff, Nat.reduceBEq, keep, memN, Bool.or_false, Bool.false_or, Bool.or_self, Bool.false_eq_true] <;> simp)) (Nat.zero_le _) ?_
    intro i hi0
    by_cases hi : i < L.length
    · have e1 := at_map (f := eS 1 eB) hi
      have ht := totB_take hi
      have hle := totB_le (L := L) (i := i + 1)
      have hcl := catB_len (L := L.take i)
      simp +contextual -implicitDefEqProofs only [hi, e1, np_B, nnGrow_f, D.put, D.cells, D.size, D.sizeL, D.isAg, modeOf, noPtrs, List.length_map, eM, eG, eS, eB, D.sub, Int.cast_ofNat_Int, Int.reduceLT, Int.reduceLE, Int.le_refl, Int.reduceBEq, Int.reduceEq, beq_self_eq_true, Int.reduceToNat, bne, Bool.not_true, Bool.not_false, Bool.true_and, Bool.false_and, Bool.and_true, Bool.and_false, Bool.true_or, Bool.false_or, Bool.or_true, Bool.or_false, go_sem, eI, ↓reduceIte, Nat.reduceEqDiff, Nat.reduceAdd, Nat.reduceLeDiff, Nat.reduceMul, Nat.reduceBEq, Nat.reduceBneDiff, Nat.reduceLT, Nat.reduceSub, Bool.false_eq_true, List.cons_append, List.nil_append, Int.ofNat_lt, Int.natCast_nonneg]
      refine ⟨⟨by omega, by unfold maxEl; omega, sz_B⟩, ?_⟩
      rw [wrap_i64 (by omega) (by omega)]
      refine ⟨i + 1, by omega, by omega, ?_⟩
      refine Ent.trans (Ent.ren _ 33 24 [6] (.ls (some false) 1 ((catB (L.take i)).map eB ++ L[i].2.map eB)) (by generalize List.map eB L[i].2 = m; cases m <;> rfl) (by rfl) (by simp; rfl)) ?_
      exact Ent.to [] (by simp only [go_sem, List.map_cons, List.map_nil, List.cons_append, List.nil_append, ↓reduceIte, Nat.reduceEqDiff, Nat.reduceBEq, Nat.reduceBneDiff, Bool.false_eq_true]; rfl) rfl (by simp [catB_take hi]) (by rfl) (by simp only [subEnv, go_sem, ↓reduceIte, Nat.reduceEqDiff, Nat.reduceBEq, keep, memN, Bool.or_false, Bool.false_or, Bool.or_self, Bool.false_eq_true] <;> simp)
    · obtain rfl : i = L.length := by omega
      rw [List.take_length]
      simp +contextual -implicitDefEqProofs only [hi, D.put, D.cells, D.size, D.sizeL, D.isAg, modeOf, noPtrs, List.length_map, eM, eG, eS, eB, D.sub, Int.cast_ofNat_Int, Int.reduceLT, Int.reduceLE, Int.le_refl, Int.reduceBEq, Int.reduceEq, beq_self_eq_true, Int.reduceToNat, bne, Bool.not_true, Bool.not_false, Bool.true_and, Bool.false_and, Bool.and_true, Bool.and_false, Bool.true_or, Bool.false_or, Bool.or_true, Bool.or_false, go_sem, eI, ↓reduceIte, Nat.reduceEqDiff, Nat.reduceAdd, Nat.reduceLeDiff, Nat.reduceMul, Nat.reduceBEq, Nat.reduceBneDiff, Nat.reduceLT, Nat.reduceSub, Bool.false_eq_true, List.cons_append, List.nil_append, Int.ofNat_lt, Int.natCast_nonneg]
end Go.Ax
