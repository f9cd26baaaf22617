/- Contracts of functions of the seat, proved over the engine. No condition. -/
import Derived.Test.YtjnghfepojipiaaX20
import Derived.Test.YtjnghfepojipiaaX10
import Derived.Test.YtjnghfepojipiaaAxN
set_option linter.unusedSimpArgs false
set_option linter.unusedVariables false
set_option linter.unnecessarySimpa false
namespace Go.Ax
set_option linter.unusedSimpArgs false
set_option maxRecDepth 20000
set_option maxHeartbeats 4000000
mutual
def cpE : Ex → Ex
 | .mk k n _ ks => .mk k n (nnL ks) (cpEs ks)
def cpEs : List Ex → List Ex
 | [] => []
 | e :: es => cpE e :: cpEs es
end
theorem cpEs_eq : ∀ ks : List Ex, cpEs ks = ks.map cpE
 | [] => rfl
 | e :: es => by simp only [cpEs, List.map_cons, cpEs_eq es]
theorem cpE_mk {k n : Int} {nn : Option Bool} {ks : List Ex} : cpE (.mk k n nn ks) = .mk k n (nnL ks) (ks.map cpE) := by rw [cpE]; simp only [cpEs_eq]

def k_copyExpr (g : Nat) : RC := (.seq (.reg false [⟨none, .box 1 3 (.t 0)⟩, ⟨none, .zer 2 3 (.ag [(.sc (.int .i64 0)), (.sc (.int .i64 0)), (.ls (some true) 3 [])])⟩]) ((.seq (.reg false [⟨none, .fa 6 0 (.t 1)⟩, ⟨none, .ld 7 false 1 (.t 6)⟩, ⟨none, .fa 8 1 (.t 1)⟩, ⟨none, .ld 9 false 1 (.t 8)⟩, ⟨none, .bld 10 (.ag [(.sc (.int .i64 0)), (.sc (.int .i64 0)), (.ls (some true) 3 [])]) [(0, 1, (.t 7)), (1, 1, (.t 9))]⟩, ⟨none, .zer 3 3 (.ag [(.sc (.int .i64 0)), (.sc (.int .i64 0)), (.ls (some true) 3 [])])⟩, ⟨none, .st 3 (.t 3) (.t 10)⟩]) ((.seq ((.seq (.reg false [⟨none, .fa 11 2 (.t 1)⟩, ⟨none, .ld 12 false 1 (.t 11)⟩, ⟨none, .len 13 (.t 12)⟩, ⟨none, .mv 14 (.c (.sc (.int .i64 0)))⟩]) (.blk 0 (.loop ((.seq (.reg false [⟨none, .bin 15 .lss (.t 14) (.t 13)⟩]) ((.seq (.cond (.t 15) (.skip) (.exit 0)) ((.seq (.blk 1 ((.seq (.reg false [⟨none, .ia 16 3 (.t 12) (.t 14)⟩, ⟨none, .ld 17 true 3 (.t 16)⟩, ⟨none, .zer 5 3 (.ag [(.sc (.int .i64 0)), (.sc (.int .i64 0)), (.ls (some true) 3 [])])⟩, ⟨none, .st 3 (.t 5) (.t 17)⟩]) (.reg true [⟨none, .fa 18 2 (.t 3)⟩, ⟨none, .ld 19 false 1 (.t 18)⟩, ⟨none, .ld 20 true 3 (.t 5)⟩, ⟨none, .call (some 21) g [(.t 20)]⟩, ⟨none, .bs 22 3 (.ag [(.sc (.int .i64 0)), (.sc (.int .i64 0)), (.ls (some true) 3 [])]) 1 [(0, (.t 21))]⟩, ⟨none, .app 23 3 40 (.t 19) (.t 22)⟩, ⟨none, .fa 24 2 (.t 3)⟩, ⟨none, .st 1 (.t 24) (.t 23)⟩])))) (.reg false [⟨none, .bin 25 .add (.t 14) (.c (.sc (.int .i64 1)))⟩, ⟨none, .mv 14 (.t 25)⟩]))))))))))) ((.seq (.reg false [⟨none, .ld 26 true 3 (.t 3)⟩, ⟨none, .st 3 (.t 2) (.t 26)⟩]) (.ret))))))))
def K_copyExpr (P : Program) (fno : Nat) : Prop := ∀ (e : Ex) (hf0 : fitE e), AF P fno [eE e] (.own (eE (cpE e)))
theorem a_copyExpr {P : Program} (hm : P.follows .mixedOrders = true) {g : Nat} (hr : resF P g = some (27, k_copyExpr g, [.c 2 3 true])) : K_copyExpr P g := by
 intro e hf0
 refine Ex.ind (p := fun e => fitE e → AF P g [eE e] (.own (eE (cpE e)))) (fun k n nn ks ih hf => ?_) e hf0
 rw [fitE_mk] at hf
 rw [eE_mk, cpE_mk, eE_mk]
 refine af_of_res hr hm rfl fun hb => ?_
 have hl : ks.length ≤ 9223372036854775807 := by
  have := hb.1
  simp only [D.bd, D.bdL, List.length_map, maxEl] at this
  exact this.2.2.1.1
 simp +contextual -implicitDefEqProofs only [k_copyExpr, D.put, D.cells, D.size, D.sizeL, D.at, D.sub, D.isAg, modeOf, noPtrs, List.length_map, go_sem, eI, eB, ↓reduceIte, Nat.reduceEqDiff, Nat.reduceAdd, Nat.reduceLeDiff, Nat.reduceMul, Nat.reduceBEq, Nat.reduceBneDiff, Nat.reduceLT, Nat.reduceSub, Int.ofNat_lt, Int.natCast_nonneg]
 refine vc_onU (α := Nat) [5, 14, 15, 16, 17, 18, 19, 20, 21, 22, 23, 24, 25] (fun i => [(14, .im none (.sc (.int .i64 i)))]) (fun i => [(3, .ar true (some false) 3 [.ag [.sc (.int .i64 k), .sc (.int .i64 n), .ls (nnL (ks.take i)) 3 (((ks.take i).map cpE).map eE)]]), (2, .ar true (some false) 3 [.ag [.sc (.int .i64 0), .sc (.int .i64 0), .ls (some true) 3 []]]), (1, .ar false (some false) 3 [.ag [.sc (.int .i64 k), .sc (.int .i64 n), .ls nn 3 (ks.map eE)]])]) (fun i => i ≤ ks.length) (fun i => ks.length - i) 0 (Ent.to [] (by simp only [go_sem, ↓reduceIte, Nat.reduceEqDiff, Nat.reduceBEq, Nat.reduceBneDiff]; rfl) rfl (by simp [nnL]) (by rfl) (by simp only [subEnv, go_sem, ↓reduceIte, Nat.reduceEqDiff, Nat.reduceBEq, keep, memN, Bool.or_false, Bool.false_or, Bool.or_self]; simp)) (Nat.zero_le _) ?_
 intro i hi0
 by_cases hi : i < ks.length
 ·have e1 := at_map (f := eE) hi
  have hlen : ((ks.take i).map (fun x => eE (cpE x))).length = i := by simp; omega
  simp +contextual -implicitDefEqProofs only [hi, e1, encE.sub, eE_size, eE_isAg, go_sem, eI, eB, ↓reduceIte, Nat.reduceEqDiff, Nat.reduceAdd, Nat.reduceLeDiff, Nat.reduceMul, Nat.reduceBEq, Nat.reduceBneDiff, Nat.reduceLT, Nat.reduceSub, Int.ofNat_lt, List.length_map, Int.natCast_nonneg]
  refine callQ_self ?_ (ih ks[i] (List.getElem_mem hi) (hf.2 _ (List.getElem_mem hi))) ?_
  ·exact rfl
  simp +contextual -implicitDefEqProofs only [hi, e1, encE.sub, eE_size, eE_isAg, hlen, go_sem, eI, eB, ↓reduceIte, Nat.reduceEqDiff, Nat.reduceAdd, Nat.reduceLeDiff, Nat.reduceMul, Nat.reduceBEq, Nat.reduceBneDiff, Nat.reduceLT, Nat.reduceSub, Int.ofNat_lt, List.length_map, Int.natCast_nonneg]
  have hl2 : (ks.take i).length = i := by simp; omega
  refine ⟨rfl, ⟨by omega, by unfold maxEl; omega, by simp [eE_size]⟩, i + 1, by omega, by omega, ?_⟩
  rw [wrap_i64 (by omega) (by omega)]
  exact Ent.to [5] (by simp only [go_sem, ↓reduceIte, Nat.reduceEqDiff, Nat.reduceBEq, Nat.reduceBneDiff]; rfl) rfl (by simp [nnL_take hi, map_take hi, eE, List.map_append]) (by rfl) (by simp only [subEnv, go_sem, ↓reduceIte, Nat.reduceEqDiff, Nat.reduceBEq, keep, memN, Bool.or_false, Bool.false_or, Bool.or_self]; simp)
 ·simp +contextual -implicitDefEqProofs only [hi, go_sem, eI, eB, ↓reduceIte, Nat.reduceEqDiff, Nat.reduceAdd, Nat.reduceLeDiff, Nat.reduceMul, Nat.reduceBEq, Nat.reduceBneDiff, Nat.reduceLT, Nat.reduceSub, Int.ofNat_lt, List.length_map, Int.natCast_nonneg]
  rw [List.take_of_length_le (by omega)]
  exact D.Le.refl _

def k_l01Own (g : Nat) : RC := (.seq (.reg false [⟨none, .zer 2 3 (.ag [(.sc (.int .i64 0)), (.sc (.int .i64 0)), (.ls (some true) 3 [])])⟩]) ((.seq (.reg true [⟨none, .mv 5 (.t 0)⟩, ⟨none, .nck 6 (.t 5)⟩, ⟨none, .fa 7 0 (.t 6)⟩, ⟨none, .ld 8 false 1 (.t 7)⟩, ⟨none, .mv 9 (.t 0)⟩, ⟨none, .nck 10 (.t 9)⟩, ⟨none, .fa 11 1 (.t 10)⟩, ⟨none, .ld 12 false 1 (.t 11)⟩, ⟨none, .bld 13 (.ag [(.sc (.int .i64 0)), (.sc (.int .i64 0)), (.ls (some true) 3 [])]) [(0, 1, (.t 8)), (1, 1, (.t 12))]⟩, ⟨none, .zer 3 3 (.ag [(.sc (.int .i64 0)), (.sc (.int .i64 0)), (.ls (some true) 3 [])])⟩, ⟨none, .st 3 (.t 3) (.t 13)⟩]) ((.seq ((.seq (.reg false [⟨none, .mv 4 (.c (.sc (.int .i64 0)))⟩]) (.blk 0 (.loop ((.seq ((.seq (.reg false [⟨none, .mv 14 (.t 4)⟩, ⟨none, .mv 15 (.t 0)⟩, ⟨none, .nck 16 (.t 15)⟩, ⟨none, .fa 17 2 (.t 16)⟩, ⟨none, .ld 18 false 1 (.t 17)⟩, ⟨none, .len 19 (.t 18)⟩, ⟨none, .bin 20 .lss (.t 14) (.t 19)⟩]) (.cond (.t 20) (.skip) (.exit 0)))) ((.seq (.blk 1 (.reg true [⟨none, .fa 23 2 (.t 3)⟩, ⟨none, .ld 24 false 1 (.t 23)⟩, ⟨none, .mv 25 (.t 0)⟩, ⟨none, .nck 26 (.t 25)⟩, ⟨none, .fa 27 2 (.t 26)⟩, ⟨none, .ld 28 false 1 (.t 27)⟩, ⟨none, .mv 29 (.t 4)⟩, ⟨none, .ia 30 3 (.t 28) (.t 29)⟩, ⟨none, .call (some 31) g [(.t 30)]⟩, ⟨none, .bs 32 3 (.ag [(.sc (.int .i64 0)), (.sc (.int .i64 0)), (.ls (some true) 3 [])]) 1 [(0, (.t 31))]⟩, ⟨none, .app 33 3 40 (.t 24) (.t 32)⟩, ⟨none, .fa 34 2 (.t 3)⟩, ⟨none, .st 1 (.t 34) (.t 33)⟩])) (.reg false [⟨none, .mv 21 (.t 4)⟩, ⟨none, .bin 22 .add (.t 21) (.c (.sc (.int .i64 1)))⟩, ⟨none, .mv 4 (.t 22)⟩]))))))))) ((.seq (.reg false [⟨none, .ld 35 true 3 (.t 3)⟩, ⟨none, .st 3 (.t 2) (.t 35)⟩]) (.ret))))))))
def K_l01Own (P : Program) (fno : Nat) : Prop := ∀ (e : Ex) (hf0 : fitE e), AF P fno [.pt (eE e) 0] (.own (eE (cpE e)))
theorem a_l01Own {P : Program} (hm : P.follows .mixedOrders = true) {g : Nat} (hr : resF P g = some (36, k_l01Own g, [.c 2 3 true])) : K_l01Own P g := by
 intro e hf0
 refine Ex.ind (p := fun e => fitE e → AF P g [.pt (eE e) 0] (.own (eE (cpE e)))) (fun k n nn ks ih hf => ?_) e hf0
 rw [fitE_mk] at hf
 rw [eE_mk, cpE_mk, eE_mk]
 refine af_of_res hr hm rfl fun hb => ?_
 have hl : ks.length ≤ 9223372036854775807 := by
  have := hb.1
  simp only [D.bd, D.bdL, List.length_map, maxEl] at this
  exact this.2.2.1.1
 simp +contextual -implicitDefEqProofs only [k_l01Own, D.put, D.cells, D.size, D.sizeL, D.at, D.sub, D.isAg, modeOf, noPtrs, List.length_map, go_sem, eI, eB, ↓reduceIte, Nat.reduceEqDiff, Nat.reduceAdd, Nat.reduceLeDiff, Nat.reduceMul, Nat.reduceBEq, Nat.reduceBneDiff, Nat.reduceLT, Nat.reduceSub, Int.ofNat_lt, Int.natCast_nonneg]
 refine vc_onU (α := Nat) [4, 14, 15, 16, 17, 18, 19, 20, 21, 22, 23, 24, 25, 26, 27, 28, 29, 30, 31, 32, 33, 34] (fun i => [(4, .im none (.sc (.int .i64 i)))]) (fun i => [(3, .ar true (some false) 3 [.ag [.sc (.int .i64 k), .sc (.int .i64 n), .ls (nnL (ks.take i)) 3 (((ks.take i).map cpE).map eE)]]), (2, .ar true (some false) 3 [.ag [.sc (.int .i64 0), .sc (.int .i64 0), .ls (some true) 3 []]])]) (fun i => i ≤ ks.length) (fun i => ks.length - i) 0 (Ent.to [] (by simp only [go_sem, ↓reduceIte, Nat.reduceEqDiff, Nat.reduceBEq, Nat.reduceBneDiff]; rfl) rfl (by simp [nnL]) (by rfl) (by simp only [subEnv, go_sem, ↓reduceIte, Nat.reduceEqDiff, Nat.reduceBEq, keep, memN, Bool.or_false, Bool.false_or, Bool.or_self]; simp)) (Nat.zero_le _) ?_
 intro i hi0
 by_cases hi : i < ks.length
 ·have e1 := at_map (f := eE) hi
  have hlen : ((ks.take i).map (fun x => eE (cpE x))).length = i := by simp; omega
  simp +contextual -implicitDefEqProofs only [hi, e1, encE.sub, eE_size, eE_isAg, go_sem, eI, eB, ↓reduceIte, Nat.reduceEqDiff, Nat.reduceAdd, Nat.reduceLeDiff, Nat.reduceMul, Nat.reduceBEq, Nat.reduceBneDiff, Nat.reduceLT, Nat.reduceSub, Int.ofNat_lt, List.length_map, Int.natCast_nonneg]
  refine callQ_self ?_ (ih ks[i] (List.getElem_mem hi) (hf.2 _ (List.getElem_mem hi))) ?_
  ·exact rfl
  simp +contextual -implicitDefEqProofs only [hi, e1, encE.sub, eE_size, eE_isAg, hlen, go_sem, eI, eB, ↓reduceIte, Nat.reduceEqDiff, Nat.reduceAdd, Nat.reduceLeDiff, Nat.reduceMul, Nat.reduceBEq, Nat.reduceBneDiff, Nat.reduceLT, Nat.reduceSub, Int.ofNat_lt, List.length_map, Int.natCast_nonneg]
  have hl2 : (ks.take i).length = i := by simp; omega
  refine ⟨rfl, ⟨by omega, by unfold maxEl; omega, by simp [eE_size]⟩, i + 1, by omega, by omega, ?_⟩
  rw [wrap_i64 (by omega) (by omega)]
  exact Ent.to [] (by simp only [go_sem, ↓reduceIte, Nat.reduceEqDiff, Nat.reduceBEq, Nat.reduceBneDiff]; rfl) rfl (by simp [nnL_take hi, map_take hi, eE, List.map_append]) (by rfl) (by simp only [subEnv, go_sem, ↓reduceIte, Nat.reduceEqDiff, Nat.reduceBEq, keep, memN, Bool.or_false, Bool.false_or, Bool.or_self]; simp)
 ·simp +contextual -implicitDefEqProofs only [hi, go_sem, eI, eB, ↓reduceIte, Nat.reduceEqDiff, Nat.reduceAdd, Nat.reduceLeDiff, Nat.reduceMul, Nat.reduceBEq, Nat.reduceBneDiff, Nat.reduceLT, Nat.reduceSub, Int.ofNat_lt, List.length_map, Int.natCast_nonneg]
  rw [List.take_of_length_le (by omega)]
  exact D.Le.refl _
end Go.Ax
