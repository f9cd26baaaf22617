/- Contracts of functions of the seat, proved over the engine. No condition. -/
import Derived.Test.YtjnghfepojipiaaAxH
import Derived.Test.YtjnghfepojipiaaX1
set_option linter.unusedSimpArgs false
set_option linter.unusedVariables false
set_option linter.unnecessarySimpa false
namespace Go.Ax
set_option linter.unusedSimpArgs false
set_option maxRecDepth 20000
set_option maxHeartbeats 4000000
mutual
def cntE : Ex → Nat
 | .mk _ _ _ ks => 2 + cntEs ks
def cntEs : List Ex → Nat
 | [] => 0
 | e :: es => cntE e + cntEs es
end
theorem cntEs_eq : ∀ ks : List Ex, cntEs ks = cntL cntE ks
 | [] => rfl
 | e :: es => by simp only [cntEs, cntL, cntEs_eq es]
mutual
def mkE : Ex → Int → Ex
 | .mk _ _ nn ks => fun m => .mk m (m + 1) nn (mkEs ks (m + 2))
def mkEs : List Ex → Int → List Ex
 | [] => fun _ => []
 | e :: es => fun m => mkE e m :: mkEs es (m + cntE e)
end
theorem mkEs_eq : ∀ (ks : List Ex) (m : Int), mkEs ks m = mkL mkE cntE ks m
 | [], _ => rfl
 | e :: es, m => by simp only [mkEs, mkL, mkEs_eq es]
theorem cntE_mk {k n : Int} {nn : Option Bool} {ks : List Ex} : cntE (.mk k n nn ks) = 2 + cntL cntE ks := by rw [cntE, cntEs_eq]
theorem mkE_mk {k n : Int} {nn : Option Bool} {ks : List Ex} {m : Int} : mkE (.mk k n nn ks) m = .mk m (m + 1) nn (mkL mkE cntE ks (m + 2)) := by rw [mkE]; simp only [mkEs_eq]
theorem Ex.ex (e : Ex) : ∃ k n nn ks, e = .mk k n nn ks := by cases e; exact ⟨_, _, _, _, rfl⟩

def k_markExprS (g : Nat) : RC := (.seq (.reg false [⟨none, .mv 4 (.c (.sc (.int .i64 0)))⟩]) ((.seq ((.seq (.reg false [⟨none, .mv 5 (.c (.sc (.int .i64 0)))⟩]) (.blk 0 (.loop ((.seq ((.seq (.reg false [⟨none, .mv 6 (.t 5)⟩, ⟨none, .mv 7 (.t 0)⟩, ⟨none, .len 8 (.t 7)⟩, ⟨none, .bin 9 .lss (.t 6) (.t 8)⟩]) (.cond (.t 9) (.skip) (.exit 0)))) ((.seq (.blk 1 ((.seq (.reg false [⟨none, .mv 12 (.t 0)⟩, ⟨none, .mv 13 (.t 5)⟩, ⟨none, .mv 14 (.t 1)⟩, ⟨none, .ia 15 3 (.t 12) (.t 13)⟩, ⟨none, .fa 16 0 (.t 15)⟩, ⟨none, .st 1 (.t 16) (.t 14)⟩]) ((.seq (.reg false [⟨none, .mv 17 (.t 1)⟩, ⟨none, .bin 18 .add (.t 17) (.c (.sc (.int .i64 1)))⟩, ⟨none, .mv 1 (.t 18)⟩]) ((.seq (.reg false [⟨none, .mv 19 (.t 0)⟩, ⟨none, .mv 20 (.t 5)⟩, ⟨none, .mv 21 (.t 1)⟩, ⟨none, .ia 22 3 (.t 19) (.t 20)⟩, ⟨none, .fa 23 1 (.t 22)⟩, ⟨none, .st 1 (.t 23) (.t 21)⟩]) ((.seq (.reg false [⟨none, .mv 24 (.t 1)⟩, ⟨none, .bin 25 .add (.t 24) (.c (.sc (.int .i64 1)))⟩, ⟨none, .mv 1 (.t 25)⟩]) (.reg false [⟨none, .mv 26 (.t 0)⟩, ⟨none, .mv 27 (.t 5)⟩, ⟨none, .ia 28 3 (.t 26) (.t 27)⟩, ⟨none, .fa 29 2 (.t 28)⟩, ⟨none, .ld 30 false 1 (.t 29)⟩, ⟨none, .mv 31 (.t 1)⟩, ⟨none, .mcl 32 g (.t 30) (.t 31)⟩, ⟨none, .mv 1 (.t 32)⟩])))))))))) (.reg false [⟨none, .mv 10 (.t 5)⟩, ⟨none, .bin 11 .add (.t 10) (.c (.sc (.int .i64 1)))⟩, ⟨none, .mv 5 (.t 11)⟩]))))))))) ((.seq (.reg false [⟨none, .mv 33 (.t 1)⟩, ⟨none, .mv 4 (.t 33)⟩]) (.ret))))))
def K_markExprS (P : Program) (fno : Nat) : Prop := ∀ (nn : Option Bool) (xs : List Ex) (k : Int), 0 ≤ k → k + cntL cntE xs ≤ maxK → AFM P fno (.ls nn 3 (xs.map eE)) k (.ls nn 3 ((mkL mkE cntE xs k).map eE)) (k + cntL cntE xs)
theorem a_markExprS {P : Program} (hm : P.follows .mixedOrders = true) {g : Nat} (hr : resF P g = some (34, k_markExprS g, [.t 4])) : K_markExprS P g := by
 intro nn xs k h0 hb
 refine Ex.ind (p := fun e => ∀ (nn : Option Bool) (k : Int), 0 ≤ k → k + cntL cntE e.ks ≤ maxK → AFM P g (.ls nn 3 (e.ks.map eE)) k (.ls nn 3 ((mkL mkE cntE e.ks k).map eE)) (k + cntL cntE e.ks)) (fun _ _ _ xs ih nn k h0 hb => ?_) (Ex.mk 0 0 none xs) nn k h0 hb
 simp only [Ex.ks_mk] at hb ⊢
 unfold maxK at hb
 refine afm_ls hr (by omega) (by simp [mkL_length]) fun hmx bx hbx => ?_
 have hmx : xs.length ≤ 9223372036854775807 := by simpa [maxEl] using hmx
 simp +contextual -implicitDefEqProofs only [k_markExprS, mkL_length, go_sem, eI, eB, ↓reduceIte, Nat.reduceEqDiff, Nat.reduceAdd, Nat.reduceLeDiff, Nat.reduceMul, Nat.reduceBEq, Nat.reduceBneDiff, Nat.reduceLT, Nat.reduceSub, Int.ofNat_lt, List.length_map, Int.natCast_nonneg, Nat.zero_lt_one]
 refine m_loop (α := Nat) (fun i => ⟨bx, (mhalf mkE cntE xs k i).map eE, [(0, .rt), (1, .va (.int .i64 (k + cntL cntE (xs.take i)))), (5, .va (.int .i64 i))]⟩) (fun i => i ≤ xs.length) (fun i => xs.length - i) 0 (MEnt.env (by rw [mhalf_zero]) (by simp only [subM, go_sem, ↓reduceIte, Nat.reduceEqDiff, List.take_zero, cntL]; simp)) (Nat.zero_le _) ?_
 intro i j1
 by_cases hi : i < xs.length
 ·have hb1 : bx = true := hbx (by intro e; simp at e; subst e; simp at hi)
  have hc1 := cntL_le (cnt := cntE) (l := xs) (i := i + 1)
  have hc2 := cntL_succ (cnt := cntE) hi
  have e1 := mhalf_at (mk := mkE) (cnt := cntE) (f := eE) (k := k) hi
  have ihx := ih xs[i] (List.getElem_mem hi)
  have hset := mhalf_mset (mk := mkE) (cnt := cntE) (f := eE) (k := k) hi (d := eE (mkE xs[i] (k + cntL cntE (xs.take i)))) rfl
  obtain ⟨ek, en, enn, eks, hx⟩ := Ex.ex xs[i]
  rw [hx] at e1 hc2 ihx hset
  rw [eE_mk] at e1
  rw [mkE_mk, eE_mk] at hset
  rw [cntE_mk] at hc2
  simp only [Ex.ks_mk] at ihx
  have hat : ∀ d, D.at (((mhalf mkE cntE xs k i).map eE).set i d) i = d := fun d => at_set (by simp [mhalf_len]; exact hi)
  subst hb1
  have hw1 : IntKind.i64.wrap (k + cntL cntE (xs.take i) + 1) = k + cntL cntE (xs.take i) + 1 := wrap_i64 (by omega) (by omega)
  have hw2 : IntKind.i64.wrap (k + cntL cntE (xs.take i) + 1 + 1) = k + cntL cntE (xs.take i) + 1 + 1 := wrap_i64 (by omega) (by omega)
  simp +contextual -implicitDefEqProofs only [e1, hi, hw1, hw2, hat, mhalf_len, List.length_set, List.set_set, D.sub, D.isSc, D.put, D.isAg, D.cells, go_sem, eI, eB, ↓reduceIte, Nat.reduceEqDiff, Nat.reduceAdd, Nat.reduceLeDiff, Nat.reduceMul, Nat.reduceBEq, Nat.reduceBneDiff, Nat.reduceLT, Nat.reduceSub, Int.ofNat_lt, List.length_map, Int.natCast_nonneg, Nat.zero_lt_one]
  refine mMcl_self (e' := .ls enn 3 ((mkL mkE cntE eks (k + cntL cntE (xs.take i) + 1 + 1)).map eE)) (n' := k + cntL cntE (xs.take i) + 1 + 1 + cntL cntE eks) ?_ ?_ ?_ ?_
  ·simp only [hat, D.sub, Bool.false_eq_true, if_false, List.getD_cons_succ, List.getD_cons_zero]
   exact ihx enn _ (by omega) (by unfold maxK; omega)
  ·simp only [hat, D.sub, Bool.false_eq_true, if_false, List.getD_cons_succ, List.getD_cons_zero, D.isAg]
  ·right; simp only [hat, D.isAg]
  simp +contextual -implicitDefEqProofs only [hat, List.set_set, D.put, D.cells, go_sem, eI, eB, ↓reduceIte, Nat.reduceEqDiff, Nat.reduceAdd, Nat.reduceLeDiff, Nat.reduceMul, Nat.reduceBEq, Nat.reduceBneDiff, Nat.reduceLT, Nat.reduceSub, Int.ofNat_lt, List.length_map, Int.natCast_nonneg, Nat.zero_lt_one]
  rw [wrap_i64 (by omega) (by omega)]
  have hk : k + (cntL cntE (xs.take i) : Int) + 1 + 1 + cntL cntE eks = k + cntL cntE (xs.take (i + 1)) := by rw [hc2]; push_cast; omega
  have hk2 : k + (cntL cntE (xs.take i) : Int) + 1 + 1 = k + cntL cntE (xs.take i) + 2 := by omega
  rw [hk, hk2]
  exact ⟨i + 1, by omega, by omega, MEnt.env (by rw [← hset]) (by simp only [subM, go_sem, ↓reduceIte, Nat.reduceEqDiff, List.length_map]; simp)⟩
 ·simp +contextual -implicitDefEqProofs only [hi, mhalf_len, go_sem, eI, eB, ↓reduceIte, Nat.reduceEqDiff, Nat.reduceAdd, Nat.reduceLeDiff, Nat.reduceMul, Nat.reduceBEq, Nat.reduceBneDiff, Nat.reduceLT, Nat.reduceSub, Int.ofNat_lt, List.length_map, Int.natCast_nonneg, Nat.zero_lt_one]
  have hl : xs.length ≤ i := by omega
  rw [mhalf_full hl, List.take_of_length_le hl]
  simp

def mkE0 : Ex → Int → Ex
 | .mk k n nn ks => fun m => .mk k n nn (mkL mkE cntE ks m)
def cntE0 : Ex → Nat
 | .mk _ _ _ ks => cntL cntE ks
theorem mkE0_mk {k n : Int} {nn : Option Bool} {ks : List Ex} {m : Int} : mkE0 (.mk k n nn ks) m = .mk k n nn (mkL mkE cntE ks m) := by rw [mkE0]
theorem cntE0_mk {k n : Int} {nn : Option Bool} {ks : List Ex} : cntE0 (.mk k n nn ks) = cntL cntE ks := by rw [cntE0]

def k_markExpr (f1 : Nat) : RC := (.seq (.reg false [⟨none, .box 2 3 (.t 0)⟩, ⟨none, .mv 4 (.c (.sc (.int .i64 0)))⟩]) ((.seq (.reg false [⟨none, .fa 5 2 (.t 2)⟩, ⟨none, .ld 6 false 1 (.t 5)⟩, ⟨none, .mv 7 (.t 1)⟩, ⟨none, .mcl 8 f1 (.t 6) (.t 7)⟩, ⟨none, .mv 1 (.t 8)⟩]) ((.seq (.reg false [⟨none, .mv 9 (.t 1)⟩, ⟨none, .mv 4 (.t 9)⟩]) (.ret))))))
def K_markExpr (P : Program) (fno : Nat) : Prop := ∀ (x : Ex) (k : Int), 0 ≤ k → k + cntE0 x ≤ maxK → AFM P fno (eE x) k (eE (mkE0 x k)) (k + cntE0 x)
theorem a_markExpr {P : Program} (hm : P.follows .mixedOrders = true) {g f1 : Nat} (hr : resF P g = some (10, k_markExpr f1, [.t 4])) (hc1 : K_markExprS P f1) : K_markExpr P g := by
 intro x k h0 hb
 obtain ⟨ek, en, enn, eks, rfl⟩ := Ex.ex x
 rw [mkE0_mk, cntE0_mk, eE_mk, eE_mk]
 rw [cntE0_mk] at hb
 refine afm_ag hr (by omega) rfl fun hbd => ?_
 simp +contextual -implicitDefEqProofs only [k_markExpr, D.size, D.sizeL, D.at, D.sub, go_sem, eI, eB, ↓reduceIte, Nat.reduceEqDiff, Nat.reduceAdd, Nat.reduceLeDiff, Nat.reduceMul, Nat.reduceBEq, Nat.reduceBneDiff, Nat.reduceLT, Nat.reduceSub, Int.ofNat_lt, List.length_map, Int.natCast_nonneg, Nat.zero_lt_one]
 refine mMcl_self (e' := .ls enn 3 ((mkL mkE cntE eks k).map eE)) (n' := k + cntL cntE eks) ?_ rfl (.inr rfl) ?_
 ·exact hc1 enn eks k h0 hb
 simp +contextual -implicitDefEqProofs only [D.put, D.cells, D.at, D.size, D.sizeL, go_sem, eI, eB, ↓reduceIte, Nat.reduceEqDiff, Nat.reduceAdd, Nat.reduceLeDiff, Nat.reduceMul, Nat.reduceBEq, Nat.reduceBneDiff, Nat.reduceLT, Nat.reduceSub, Int.ofNat_lt, List.length_map, Int.natCast_nonneg, Nat.zero_lt_one]

def k_heldExprS (g : Nat) : RC := (.seq (.reg false [⟨none, .mv 4 (.c (.sc (.int .i64 0)))⟩]) ((.seq ((.seq (.reg false [⟨none, .mv 5 (.c (.sc (.int .i64 0)))⟩]) (.blk 0 (.loop ((.seq ((.seq (.reg false [⟨none, .mv 6 (.t 5)⟩, ⟨none, .mv 7 (.t 0)⟩, ⟨none, .len 8 (.t 7)⟩, ⟨none, .bin 9 .lss (.t 6) (.t 8)⟩]) (.cond (.t 9) (.skip) (.exit 0)))) ((.seq (.blk 1 ((.seq ((.seq (.reg false [⟨none, .mv 12 (.t 0)⟩, ⟨none, .mv 13 (.t 5)⟩, ⟨none, .ia 14 3 (.t 12) (.t 13)⟩, ⟨none, .fa 15 0 (.t 14)⟩, ⟨none, .ld 16 false 1 (.t 15)⟩, ⟨none, .mv 17 (.t 1)⟩, ⟨none, .bin 18 .neq (.t 16) (.t 17)⟩]) (.cond (.t 18) ((.seq (.reg false [⟨none, .mv 4 (.c (.sc (.int .i64 (-1))))⟩]) (.ret))) (.skip)))) ((.seq (.reg false [⟨none, .mv 19 (.t 1)⟩, ⟨none, .bin 20 .add (.t 19) (.c (.sc (.int .i64 1)))⟩, ⟨none, .mv 1 (.t 20)⟩]) ((.seq ((.seq (.reg false [⟨none, .mv 21 (.t 0)⟩, ⟨none, .mv 22 (.t 5)⟩, ⟨none, .ia 23 3 (.t 21) (.t 22)⟩, ⟨none, .fa 24 1 (.t 23)⟩, ⟨none, .ld 25 false 1 (.t 24)⟩, ⟨none, .mv 26 (.t 1)⟩, ⟨none, .bin 27 .neq (.t 25) (.t 26)⟩]) (.cond (.t 27) ((.seq (.reg false [⟨none, .mv 4 (.c (.sc (.int .i64 (-1))))⟩]) (.ret))) (.skip)))) ((.seq (.reg false [⟨none, .mv 28 (.t 1)⟩, ⟨none, .bin 29 .add (.t 28) (.c (.sc (.int .i64 1)))⟩, ⟨none, .mv 1 (.t 29)⟩]) ((.seq (.reg false [⟨none, .mv 30 (.t 0)⟩, ⟨none, .mv 31 (.t 5)⟩, ⟨none, .ia 32 3 (.t 30) (.t 31)⟩, ⟨none, .fa 33 2 (.t 32)⟩, ⟨none, .ld 34 false 1 (.t 33)⟩, ⟨none, .mv 35 (.t 1)⟩, ⟨none, .call (some 36) g [(.t 34), (.t 35)]⟩, ⟨none, .mv 1 (.t 36)⟩]) ((.seq (.reg false [⟨none, .mv 37 (.t 1)⟩, ⟨none, .bin 38 .lss (.t 37) (.c (.sc (.int .i64 0)))⟩]) (.cond (.t 38) ((.seq (.reg false [⟨none, .mv 4 (.c (.sc (.int .i64 (-1))))⟩]) (.ret))) (.skip))))))))))))))) (.reg false [⟨none, .mv 10 (.t 5)⟩, ⟨none, .bin 11 .add (.t 10) (.c (.sc (.int .i64 1)))⟩, ⟨none, .mv 5 (.t 11)⟩]))))))))) ((.seq (.reg false [⟨none, .mv 39 (.t 1)⟩, ⟨none, .mv 4 (.t 39)⟩]) (.ret))))))
def K_heldExprS (P : Program) (fno : Nat) : Prop := ∀ (nn : Option Bool) (xs : List Ex) (k : Int), 0 ≤ k → k + cntL cntE xs ≤ maxK → AF P fno [.ls nn 3 ((mkL mkE cntE xs k).map eE), eI k] (.own (eI (k + cntL cntE xs)))
theorem a_heldExprS {P : Program} (hm : P.follows .mixedOrders = true) {g : Nat} (hr : resF P g = some (40, k_heldExprS g, [.t 4])) : K_heldExprS P g := by
 intro nn xs k h0 hb
 refine Ex.ind (p := fun e => ∀ (nn : Option Bool) (k : Int), 0 ≤ k → k + cntL cntE e.ks ≤ maxK → AF P g [.ls nn 3 ((mkL mkE cntE e.ks k).map eE), eI k] (.own (eI (k + cntL cntE e.ks)))) (fun _ _ _ xs ih nn k h0 hb => ?_) (Ex.mk 0 0 none xs) nn k h0 hb
 simp only [Ex.ks_mk] at hb ⊢
 unfold maxK at hb
 refine af_of_res hr hm rfl fun hbd => ?_
 have hl := len_of_bd hbd
 unfold maxEl at hl
 simp only [List.length_map, mkL_length] at hl
 simp +contextual -implicitDefEqProofs only [k_heldExprS, eI, mkL_length, go_sem, eB, ↓reduceIte, Nat.reduceEqDiff, Nat.reduceAdd, Nat.reduceLeDiff, Nat.reduceMul, Nat.reduceBEq, Nat.reduceBneDiff, Nat.reduceLT, Nat.reduceSub, Int.ofNat_lt, List.length_map, Int.natCast_nonneg, Nat.zero_lt_one]
 refine vc_on (α := Nat) [1, 4, 4, 5, 6, 7, 8, 9, 10, 11, 12, 13, 14, 15, 16, 17, 18, 19, 20, 21, 22, 23, 24, 25, 26, 27, 28, 29, 30, 31, 32, 33, 34, 35, 36, 37, 38] (fun i => [(1, .im none (.sc (.int .i64 (k + cntL cntE (xs.take i))))), (5, .im none (.sc (.int .i64 i)))]) (fun i => i ≤ xs.length) (fun i => xs.length - i) 0 (by simp only [subEnv, go_sem, ↓reduceIte, Nat.reduceEqDiff, List.length_map, List.take_zero, cntL]; simp) (Nat.zero_le _) ?_
 intro i j1
 by_cases hi : i < xs.length
 ·have hc1 := cntL_le (cnt := cntE) (l := xs) (i := i + 1)
  have hc2 := cntL_succ (cnt := cntE) hi
  have e1 := mkL_at (mk := mkE) (cnt := cntE) (f := eE) (k := k) hi
  have ihx := ih xs[i] (List.getElem_mem hi)
  obtain ⟨ek, en, enn, eks, hx⟩ := Ex.ex xs[i]
  rw [hx] at e1 hc2 ihx
  rw [mkE_mk, eE_mk] at e1
  rw [cntE_mk] at hc2
  simp only [Ex.ks_mk] at ihx
  have hw1 : IntKind.i64.wrap (k + cntL cntE (xs.take i) + 1) = k + cntL cntE (xs.take i) + 1 := wrap_i64 (by omega) (by omega)
  have hw2 : IntKind.i64.wrap (k + cntL cntE (xs.take i) + 1 + 1) = k + cntL cntE (xs.take i) + 2 := by rw [wrap_i64 (by omega) (by omega)]; omega
  simp +contextual -implicitDefEqProofs only [e1, hi, hw1, hw2, mkL_length, D.sub, D.size, D.sizeL, D.isAg, D.noPtr, bne_self_eq_false, bne, Bool.not_true, Bool.not_false, Bool.true_and, Bool.false_and, Bool.and_true, Bool.and_false, Bool.true_or, Bool.false_or, Bool.or_true, Bool.or_false, go_sem, eI, eB, ↓reduceIte, Nat.reduceEqDiff, Nat.reduceAdd, Nat.reduceLeDiff, Nat.reduceMul, Nat.reduceBEq, Nat.reduceBneDiff, Nat.reduceLT, Nat.reduceSub, Int.ofNat_lt, List.length_map, Int.natCast_nonneg, Nat.zero_lt_one]
  refine callQ_self ?_ (ihx enn (k + cntL cntE (xs.take i) + 2) (by omega) (by unfold maxK; omega)) ?_
  ·exact rfl
  simp +contextual -implicitDefEqProofs only [e1, hi, go_sem, eI, eB, ↓reduceIte, Nat.reduceEqDiff, Nat.reduceAdd, Nat.reduceLeDiff, Nat.reduceMul, Nat.reduceBEq, Nat.reduceBneDiff, Nat.reduceLT, Nat.reduceSub, Int.ofNat_lt, List.length_map, Int.natCast_nonneg, Nat.zero_lt_one]
  have hk : k + (cntL cntE (xs.take i) : Int) + 2 + cntL cntE eks = k + cntL cntE (xs.take (i + 1)) := by rw [hc2]; push_cast; omega
  rw [hk]
  refine ⟨fun h => by omega, fun _ => ?_⟩
  rw [wrap_i64 (by omega) (by omega)]
  exact ⟨i + 1, by omega, by omega, Ent.env (by simp only [subEnv, go_sem, ↓reduceIte, Nat.reduceEqDiff, List.length_map]; simp)⟩
 ·simp +contextual -implicitDefEqProofs only [hi, mkL_length, go_sem, eI, eB, ↓reduceIte, Nat.reduceEqDiff, Nat.reduceAdd, Nat.reduceLeDiff, Nat.reduceMul, Nat.reduceBEq, Nat.reduceBneDiff, Nat.reduceLT, Nat.reduceSub, Int.ofNat_lt, List.length_map, Int.natCast_nonneg, Nat.zero_lt_one]
  rw [List.take_of_length_le (by omega)]
  exact D.Le.refl _

def k_heldExpr (f1 : Nat) : RC := (.seq (.reg false [⟨none, .box 2 3 (.t 0)⟩, ⟨none, .mv 4 (.c (.sc (.int .i64 0)))⟩]) ((.seq (.reg false [⟨none, .fa 5 2 (.t 2)⟩, ⟨none, .ld 6 false 1 (.t 5)⟩, ⟨none, .mv 7 (.t 1)⟩, ⟨none, .call (some 8) f1 [(.t 6), (.t 7)]⟩, ⟨none, .mv 1 (.t 8)⟩]) ((.seq ((.seq (.reg false [⟨none, .mv 9 (.t 1)⟩, ⟨none, .bin 10 .lss (.t 9) (.c (.sc (.int .i64 0)))⟩]) (.cond (.t 10) ((.seq (.reg false [⟨none, .mv 4 (.c (.sc (.int .i64 (-1))))⟩]) (.ret))) (.skip)))) ((.seq (.reg false [⟨none, .mv 11 (.t 1)⟩, ⟨none, .mv 4 (.t 11)⟩]) (.ret))))))))
def K_heldExpr (P : Program) (fno : Nat) : Prop := ∀ (x : Ex) (k : Int), 0 ≤ k → k + cntE0 x ≤ maxK → AF P fno [eE (mkE0 x k), eI k] (.own (eI (k + cntE0 x)))
theorem a_heldExpr {P : Program} (hm : P.follows .mixedOrders = true) {g f1 : Nat} (hr : resF P g = some (12, k_heldExpr f1, [.t 4])) (hc1 : K_heldExprS P f1) : K_heldExpr P g := by
 intro x k h0 hb
 obtain ⟨ek, en, enn, eks, rfl⟩ := Ex.ex x
 rw [mkE0_mk, cntE0_mk, eE_mk]
 rw [cntE0_mk] at hb
 refine af_of_res hr hm rfl fun hbd => ?_
 simp +contextual -implicitDefEqProofs only [k_heldExpr, eI, D.size, D.sizeL, D.at, D.sub, go_sem, eB, ↓reduceIte, Nat.reduceEqDiff, Nat.reduceAdd, Nat.reduceLeDiff, Nat.reduceMul, Nat.reduceBEq, Nat.reduceBneDiff, Nat.reduceLT, Nat.reduceSub, Int.ofNat_lt, List.length_map, Int.natCast_nonneg, Nat.zero_lt_one]
 refine callQ_self ?_ (hc1 enn eks k h0 hb) ?_
 ·exact rfl
 simp +contextual -implicitDefEqProofs only [eI, go_sem, eB, ↓reduceIte, Nat.reduceEqDiff, Nat.reduceAdd, Nat.reduceLeDiff, Nat.reduceMul, Nat.reduceBEq, Nat.reduceBneDiff, Nat.reduceLT, Nat.reduceSub, Int.ofNat_lt, List.length_map, Int.natCast_nonneg, Nat.zero_lt_one]
 exact fun h => absurd h (by omega)
end Go.Ax
