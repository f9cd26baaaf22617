/- Contracts of functions of the seat, proved over the engine. No condition. -/
import Derived.Test.YtjnghfepojipiaaX45
import Derived.Test.YtjnghfepojipiaaX31
set_option linter.unusedSimpArgs false
set_option linter.unusedVariables false
set_option linter.unnecessarySimpa false
namespace Go.Ax
set_option linter.unusedSimpArgs false
set_option maxRecDepth 20000
set_option maxHeartbeats 4000000

theorem any_take {p : Int → Bool} {l : List Int} {i : Nat} (h : i < l.length) : (l.take (i + 1)).any p = ((l.take i).any p || p (l.getD i 0)) := by
 rw [List.take_succ_eq_append_getElem h, List.any_append]
 simp [h]
def hasI (l : List Int) (v : Int) : Bool := l.any fun x => v == x
def k_l05Has : RC := (.seq (.reg false [⟨none, .mv 4 (.c (.sc (.bool false)))⟩]) ((.seq ((.seq (.reg false [⟨none, .mv 5 (.c (.sc (.int .i64 0)))⟩]) (.blk 0 (.loop ((.seq ((.seq (.reg false [⟨none, .mv 6 (.t 5)⟩, ⟨none, .mv 7 (.t 0)⟩, ⟨none, .len 8 (.t 7)⟩, ⟨none, .bin 9 .lss (.t 6) (.t 8)⟩]) (.cond (.t 9) (.skip) (.exit 0)))) ((.seq (.blk 1 ((.seq (.reg false [⟨none, .mv 12 (.t 0)⟩, ⟨none, .mv 13 (.t 5)⟩, ⟨none, .ia 14 1 (.t 12) (.t 13)⟩, ⟨none, .ld 15 false 1 (.t 14)⟩, ⟨none, .mv 16 (.t 1)⟩, ⟨none, .bin 17 .eql (.t 15) (.t 16)⟩]) (.cond (.t 17) ((.seq (.reg false [⟨none, .mv 4 (.c (.sc (.bool true)))⟩]) (.ret))) (.skip))))) (.reg false [⟨none, .mv 10 (.t 5)⟩, ⟨none, .bin 11 .add (.t 10) (.c (.sc (.int .i64 1)))⟩, ⟨none, .mv 5 (.t 11)⟩]))))))))) ((.seq (.reg false [⟨none, .mv 4 (.c (.sc (.bool false)))⟩]) (.ret))))))
def K_l05Has (P : Program) (fno : Nat) : Prop := ∀ (s : SL Int) (v : Int), AF P fno [eS 1 eI s, eI v] (.own (eB (hasI s.2 v)))
theorem a_l05Has {P : Program} (hm : P.follows .mixedOrders = true) {g : Nat} (hr : resF P g = some (18, k_l05Has, [.t 4])) : K_l05Has P g := by
 intro s v
 refine af_of_res hr hm rfl fun hb => ?_
 have hl := bd_ls hb.1
 simp only [List.length_map] at hl
 simp +contextual -implicitDefEqProofs only [k_l05Has, eS, go_sem, eI, eB, ↓reduceIte, Nat.reduceEqDiff, Nat.reduceAdd, Nat.reduceLeDiff, Nat.reduceMul, Nat.reduceBEq, Nat.reduceBneDiff, Nat.reduceLT, Nat.reduceSub, Int.ofNat_lt, List.length_map, Int.natCast_nonneg]
 refine vc_onU (α := Nat) [4, 5, 6, 7, 8, 9, 10, 11, 12, 13, 14, 15, 16, 17] (fun i => [(5, .im none (.sc (.int .i64 i)))]) (fun i => []) (fun i => i ≤ s.2.length ∧ (s.2.take i).any (fun x => v == x) = false) (fun i => s.2.length - i) 0 (Ent.to [] (by simp only [go_sem, ↓reduceIte, Nat.reduceEqDiff, Nat.reduceBEq, Nat.reduceBneDiff]; rfl) rfl (by simp) (by rfl) (by simp only [subEnv, go_sem, ↓reduceIte, Nat.reduceEqDiff, Nat.reduceBEq, keep, memN, Bool.or_false, Bool.false_or, Bool.or_self] <;> simp)) ⟨Nat.zero_le _, rfl⟩ ?_
 rintro i ⟨hi0, hi1⟩
 by_cases hi : i < s.2.length
 ·have e1 := at_mapD (f := eI) (d := 0) hi
  have e2 := any_take (p := fun x => v == x) hi
  rw [hi1, Bool.false_or] at e2
  by_cases hp : s.2.getD i 0 = v
  ·have hp' : (s.2.getD i 0 == v) = true := by simpa using hp
   have e3 : hasI s.2 v = true := by
    unfold hasI
    rw [← List.take_append_drop (i + 1) s.2, List.any_append, e2, show (v == s.2.getD i 0) = true by simpa using hp.symm, Bool.true_or]
   rw [e3]
   simp +contextual -implicitDefEqProofs only [hi, e1, eI, Int.toNat_natCast, hp', go_sem, eB, ↓reduceIte, Nat.reduceEqDiff, Nat.reduceAdd, Nat.reduceLeDiff, Nat.reduceMul, Nat.reduceBEq, Nat.reduceBneDiff, Nat.reduceLT, Nat.reduceSub, Int.ofNat_lt, List.length_map, Int.natCast_nonneg]
  ·have hp' : (s.2.getD i 0 == v) = false := by simpa using hp
   have e3 : (v == s.2.getD i 0) = false := by simpa using Ne.symm hp
   simp +contextual -implicitDefEqProofs only [hi, e1, eI, Int.toNat_natCast, hp', go_sem, eB, ↓reduceIte, Nat.reduceEqDiff, Nat.reduceAdd, Nat.reduceLeDiff, Nat.reduceMul, Nat.reduceBEq, Nat.reduceBneDiff, Nat.reduceLT, Nat.reduceSub, Int.ofNat_lt, List.length_map, Int.natCast_nonneg]
   rw [wrap_i64 (by omega) (by omega)]
   exact ⟨i + 1, ⟨by omega, by rw [e2, e3]⟩, by omega, Ent.to [] (by simp only [go_sem, ↓reduceIte, Nat.reduceEqDiff, Nat.reduceBEq, Nat.reduceBneDiff]; rfl) rfl (by simp) (by rfl) (by simp only [subEnv, go_sem, ↓reduceIte, Nat.reduceEqDiff, Nat.reduceBEq, keep, memN, Bool.or_false, Bool.false_or, Bool.or_self] <;> simp)⟩
 ·obtain rfl : i = s.2.length := by omega
  rw [List.take_length] at hi1
  rw [show hasI s.2 v = false from hi1]
  simp +contextual -implicitDefEqProofs only [hi, go_sem, eI, eB, ↓reduceIte, Nat.reduceEqDiff, Nat.reduceAdd, Nat.reduceLeDiff, Nat.reduceMul, Nat.reduceBEq, Nat.reduceBneDiff, Nat.reduceLT, Nat.reduceSub, Int.ofNat_lt, List.length_map, Int.natCast_nonneg]

end Go.Ax
