/- Contracts of functions of the seat, proved over the engine. No condition. -/
import Derived.Test.YtjnghfepojipiaaAxN
import Derived.Test.YtjnghfepojipiaaX3
set_option linter.unusedSimpArgs false
set_option linter.unusedVariables false
set_option linter.unnecessarySimpa false
namespace Go.Ax
set_option linter.unusedSimpArgs false
set_option maxRecDepth 20000
set_option maxHeartbeats 4000000

def k_tableB : RC := (.seq (.reg false [⟨none, .mv 4 (.c (.ls (some true) 1 []))⟩]) ((.seq (.reg false [⟨none, .bs 9 1 (.ls (some true) 1 []) 0 []⟩, ⟨none, .mv 5 (.t 9)⟩]) ((.seq ((.seq (.reg false [⟨none, .mv 10 (.t 0)⟩, ⟨none, .mv 11 (.c (.sc (.int .i64 0)))⟩]) (.blk 0 (.loop ((.seq (.reg false [⟨none, .bin 12 .lss (.t 11) (.t 10)⟩]) ((.seq (.cond (.t 12) (.skip) (.exit 0)) ((.seq (.blk 1 ((.seq (.reg false [⟨none, .mv 13 (.t 11)⟩, ⟨none, .mv 6 (.t 13)⟩]) ((.seq (.reg false [⟨none, .bs 14 1 (.sc (.bool false)) 0 []⟩, ⟨none, .mv 7 (.t 14)⟩]) ((.seq ((.seq (.reg false [⟨none, .mv 15 (.t 0)⟩, ⟨none, .mv 16 (.c (.sc (.int .i64 0)))⟩]) (.blk 2 (.loop ((.seq (.reg false [⟨none, .bin 17 .lss (.t 16) (.t 15)⟩]) ((.seq (.cond (.t 17) (.skip) (.exit 2)) ((.seq (.blk 3 ((.seq (.reg false [⟨none, .mv 18 (.t 16)⟩, ⟨none, .mv 8 (.t 18)⟩]) (.reg false [⟨none, .mv 19 (.t 7)⟩, ⟨none, .mv 20 (.t 1)⟩, ⟨none, .mv 21 (.t 6)⟩, ⟨none, .mv 22 (.t 8)⟩, ⟨none, .calv (some 23) (.t 20) [(.t 21), (.t 22)]⟩, ⟨none, .bs 24 1 (.sc (.bool false)) 1 [(0, (.t 23))]⟩, ⟨none, .app 25 1 1 (.t 19) (.t 24)⟩, ⟨none, .mv 7 (.t 25)⟩])))) (.reg false [⟨none, .bin 26 .add (.t 16) (.c (.sc (.int .i64 1)))⟩, ⟨none, .mv 16 (.t 26)⟩]))))))))))) (.reg false [⟨none, .mv 27 (.t 5)⟩, ⟨none, .mv 28 (.t 7)⟩, ⟨none, .bs 29 1 (.ls (some true) 1 []) 1 [(0, (.t 28))]⟩, ⟨none, .app 30 1 24 (.t 27) (.t 29)⟩, ⟨none, .mv 5 (.t 30)⟩])))))))) (.reg false [⟨none, .bin 31 .add (.t 11) (.c (.sc (.int .i64 1)))⟩, ⟨none, .mv 11 (.t 31)⟩]))))))))))) ((.seq (.reg false [⟨none, .mv 32 (.t 5)⟩, ⟨none, .mv 4 (.t 32)⟩]) (.ret))))))))
def K_tableB (P : Program) (fno : Nat) : Prop := ∀ (n f : Nat) (caps : List D) (g : Nat → Nat → Bool) (hn : n ≤ 1000) (hf : ∀ x y : Nat, x < n → y < n → AF P f (eI x :: eI y :: caps) (.own (eB (g x y)))), AF P fno [eI n, .fn f caps] (.own (eS 1 (eS 1 eB) (some false, tabL n fun x => (some false, tabL n (g x)))))
theorem a_tableB {P : Program} (hm : P.follows .mixedOrders = true) {g : Nat} (hr : resF P g = some (33, k_tableB, [.t 4])) : K_tableB P g := by
 intro n f caps g hn hf
 refine af_of_res hr hm rfl fun hb => ?_
 simp +contextual -implicitDefEqProofs only [k_tableB, go_sem, eI, ↓reduceIte, Nat.reduceEqDiff, Nat.reduceAdd, Nat.reduceLT]
 refine vc_onU (α := Nat) [5, 6, 7, 8, 9, 11, 12, 13, 14, 15, 16, 17, 18, 19, 20, 21, 22, 23, 24, 25, 26, 27, 28, 29, 30, 31] (fun i => [(11, .im none (.sc (.int .i64 i))), (5, .sm 9 0 i)]) (fun i => [(9, .ar true (some false) 1 (tabL i fun x => eS 1 eB (some false, tabL n (g x))))]) (fun i => i ≤ n) (fun i => n - i) 0 (Ent.to [] (by simp only [go_sem]; rfl) rfl (by simp) rfl (by simp only [subEnv, go_sem, ↓reduceIte, Nat.reduceEqDiff, keep, memN]; simp)) (Nat.zero_le _) ?_
 intro i hi0
 by_cases hi : i < n
 ·simp +contextual -implicitDefEqProofs only [hi, go_sem, ↓reduceIte, Nat.reduceEqDiff, Nat.reduceBneDiff, Nat.reduceLT, Int.ofNat_lt]
  refine vc_onU (α := Nat) [7, 8, 14, 16, 17, 18, 19, 20, 21, 22, 23, 24, 25, 26] (fun j => [(16, .im none (.sc (.int .i64 j))), (7, .sm 14 0 j)]) (fun j => [(14, .ar true (some false) 1 (tabL j fun y => eB (g i y))), (9, .ar true (some false) 1 (tabL i fun x => eS 1 eB (some false, tabL n (g x))))]) (fun j => j ≤ n) (fun j => n - j) 0 (Ent.to [] (by simp only [go_sem]; rfl) rfl (by simp) rfl (by simp only [subEnv, go_sem, ↓reduceIte, Nat.reduceEqDiff, keep, memN]; simp)) (Nat.zero_le _) ?_
  intro j hj0
  by_cases hj : j < n
  ·simp +contextual -implicitDefEqProofs only [hj, go_sem, eB, ↓reduceIte, Nat.reduceEqDiff, Int.ofNat_lt]
   refine callQ_self (ds := eI i :: eI j :: caps) (by simp only [argsOf, AV.arg, argsOf_ims]; rfl) (hf i j hi hj) ?_
   simp +contextual -implicitDefEqProofs only [tabL_len, go_sem, eB, ↓reduceIte, Nat.reduceEqDiff, Nat.reduceLeDiff, Nat.reduceMul, Nat.reduceBEq, Nat.reduceBneDiff, Nat.reduceLT]
   refine ⟨rfl, ⟨by omega, by unfold maxEl; omega, by simp [D.size]⟩, j + 1, by omega, by omega, ?_⟩
   rw [wrap_i64 (by omega) (by omega)]
   exact Ent.env_us (by simp only [tabL_succ]) (by simp only [subEnv, go_sem, ↓reduceIte, Nat.reduceEqDiff]; simp)
  ·obtain rfl : j = n := by omega
   simp +contextual -implicitDefEqProofs only [hj, tabL_len, go_sem, eB, ↓reduceIte, Nat.reduceEqDiff, Nat.reduceLeDiff, Nat.reduceMul, Nat.reduceBEq, Nat.reduceBneDiff, Nat.reduceLT, Int.ofNat_lt]
   refine ⟨rfl, ⟨by omega, by unfold maxEl; omega, by simp [D.size]⟩, i + 1, by omega, by omega, ?_⟩
   rw [wrap_i64 (by omega) (by omega)]
   exact Ent.env_us (by simp only [tabL_succ, eS, tabL_map, eB]) (by simp only [subEnv, go_sem, ↓reduceIte, Nat.reduceEqDiff]; simp)
 ·obtain rfl : i = n := by omega
  simp +contextual -implicitDefEqProofs only [hi, tabL_len, go_sem, ↓reduceIte, Nat.reduceEqDiff, Nat.reduceBEq, Int.ofNat_lt]
  exact D.Le.of_eq (by simp only [eS, tabL_map])
end Go.Ax
