/- Contracts of functions of the seat, proved over the engine. No condition. -/
import Derived.Test.YtjnghfepojipiaaX101
import Derived.Test.YtjnghfepojipiaaX22
set_option linter.unusedSimpArgs false
set_option linter.unusedVariables false
set_option linter.unnecessarySimpa false
namespace Go.Ax
set_option linter.unusedSimpArgs false
set_option maxRecDepth 20000
set_option maxHeartbeats 4000000

def k_l01Drawn (f1 : Nat) : RC := (.seq (.reg false [⟨none, .box 4 2 (.t 1)⟩, ⟨none, .zer 6 3 (.ag [(.sc (.int .i64 0)), (.sc (.int .i64 0)), (.ls (some true) 3 [])])⟩]) ((.seq (.reg false [⟨none, .mv 8 (.t 0)⟩, ⟨none, .ld 9 true 2 (.t 4)⟩, ⟨none, .mv 10 (.t 2)⟩, ⟨none, .bld 11 (.ag [(.sc (.pointer none)), (.sc (.int .i64 0)), (.sc (.int .i64 0)), (.sc (.int .i64 0))]) [(0, 1, (.t 8)), (1, 2, (.t 9)), (3, 1, (.t 10))]⟩, ⟨none, .box 12 4 (.t 11)⟩, ⟨none, .mv 7 (.t 12)⟩]) ((.seq (.reg false [⟨none, .mv 13 (.t 7)⟩, ⟨none, .wcl (some 14) f1 [(.t 13), (.c (.sc (.bool false))), (.c (.sc (.int .i64 6)))]⟩, ⟨none, .st 3 (.t 6) (.t 14)⟩]) (.ret))))))
def K_l01Drawn (P : Program) (fno : Nat) : Prop := ∀ (nn : Option Bool) (c : List Int) (a sd : Int) (g : Int × Int) (m : Int), srcOk c → okG g = true → 0 ≤ a → a ≤ 100000000 → 1 ≤ m → m ≤ 1000 → ∃ a' sd' e, a ≤ a' ∧ a' ≤ a + 28000 ∧ Drn g false (2 * m - 1) 7 e ∧ AFW P fno [uS nn c a sd] [.pw 3000000000 0 0, .im none (eG g), .im none (eI m)] [uS nn c a' sd'] (.own (eE e))
theorem a_l01Drawn {P : Program} (hm : P.follows .mixedOrders = true) {g f1 : Nat} (hr : resF P g = some (15, k_l01Drawn f1, [.c 6 3 true])) (hc1 : K_genExpr P f1) : K_l01Drawn P g := by
 intro nn c a sd g m hc hg h0 hA hm1 hm2
 obtain ⟨a1, sd1, e, s1, s2, s3, s4, s5, hE⟩ := hc1 nn c g hc hg 6 6 a sd m false rfl h0 (by omega) (by omega) hm2
 have h1 := s3.2.2.2.1
 have h2 : (sizeE e : Int) ≤ 2 * m - 1 := by by_cases h : 1 < m; exact s5 h; have := s4 (by omega); omega
 refine ⟨a1, sd1, e, by omega, by omega, ⟨s3.1, s3.2.1, s3.2.2.1, s3.2.2.2.1, h2, s3.2.2.2.2.2⟩, ?_⟩
 refine afw_of_res (wv := .no) hr hm rfl rfl rfl fun hb ha => ?_
 simp +contextual -implicitDefEqProofs only [k_l01Drawn, uS, uR, srcD, eI, eB, eG, eE_size, eE_isAg, encE.sub, eE_flatX, D.put, D.cells, D.size, D.sizeL, modeOf, noPtrs, List.length_map, go_sem, ↓reduceIte, Nat.reduceEqDiff, Nat.reduceAdd, Nat.reduceLeDiff, Nat.reduceMul, Nat.reduceBEq, Nat.reduceBneDiff, Nat.reduceLT, Nat.reduceSub, Int.ofNat_lt, Int.natCast_nonneg]
 refine ⟨by decide, ?_⟩
 refine wcl_self [12, 3000000000] [] (by rfl) (by rfl) (by rfl) hE rfl (by simp [wOut, outU, uS, uR, srcD, okWL, AV.okW, noPtrs, D.noPtr, shWL, AV.shW, posW, shUs, U.shW, St.unit, lu, eI, eB, D.flat]) ?_
 simp +contextual -implicitDefEqProofs only [uS, uR, srcD, eI, eB, eG, eE_size, eE_isAg, encE.sub, eE_flatX, D.put, D.cells, D.size, D.sizeL, modeOf, noPtrs, List.length_map, go_sem, ↓reduceIte, Nat.reduceEqDiff, Nat.reduceAdd, Nat.reduceLeDiff, Nat.reduceMul, Nat.reduceBEq, Nat.reduceBneDiff, Nat.reduceLT, Nat.reduceSub, Int.ofNat_lt, Int.natCast_nonneg]

def k_p6Expr (f1 f2 : Nat) : RC := (.seq (.reg false [⟨none, .box 4 2 (.t 1)⟩, ⟨none, .zer 6 3 (.ag [(.sc (.int .i64 0)), (.sc (.int .i64 0)), (.ls (some true) 3 [])])⟩]) ((.seq (.reg true [⟨none, .mv 7 (.t 0)⟩, ⟨none, .call (some 8) f1 [(.t 7)]⟩, ⟨none, .ld 9 true 2 (.t 4)⟩, ⟨none, .mv 10 (.t 2)⟩, ⟨none, .wcl (some 11) f2 [(.t 8), (.t 9), (.t 10)]⟩, ⟨none, .st 3 (.t 6) (.t 11)⟩]) (.ret))))
def K_p6Expr (P : Program) (fno : Nat) : Prop := ∀ (nn : Option Bool) (c : List Int) (g : Int × Int) (m : Int), srcOk c → okG g = true → 1 ≤ m → m ≤ 1000 → ∃ e, Drn g false (2 * m - 1) 7 e ∧ AF P fno [.ls nn 1 (c.map eU), eG g, eI m] (.own (eE e))
theorem a_p6Expr {P : Program} (hm : P.follows .mixedOrders = true) {g f1 f2 : Nat} (hr : resF P g = some (12, k_p6Expr f1 f2, [.c 6 3 true])) (hc1 : K_l00From P f1) (hc2 : K_l01Drawn P f2) : K_p6Expr P g := by
 intro nn c g m hc hg h1 h2
 obtain ⟨a1, sd1, e, s1, s2, s3, hE⟩ := hc2 nn c 0 0 g m hc hg (by omega) (by omega) h1 h2
 refine ⟨e, s3, ?_⟩
 refine af_of_res hr hm rfl fun hb => ?_
 simp +contextual -implicitDefEqProofs only [k_p6Expr, uS, uR, srcD, eI, eB, eG, eE_size, eE_isAg, encE.sub, eE_flatX, D.put, D.cells, D.size, D.sizeL, modeOf, noPtrs, List.length_map, go_sem, ↓reduceIte, Nat.reduceEqDiff, Nat.reduceAdd, Nat.reduceLeDiff, Nat.reduceMul, Nat.reduceBEq, Nat.reduceBneDiff, Nat.reduceLT, Nat.reduceSub, Int.ofNat_lt, Int.natCast_nonneg]
 refine callQ_self ?_ (hc1 nn c) ?_
 ·exact rfl
 simp +contextual -implicitDefEqProofs only [uS, uR, srcD, eI, eB, eG, eE_size, eE_isAg, encE.sub, eE_flatX, D.put, D.cells, D.size, D.sizeL, modeOf, noPtrs, List.length_map, go_sem, ↓reduceIte, Nat.reduceEqDiff, Nat.reduceAdd, Nat.reduceLeDiff, Nat.reduceMul, Nat.reduceBEq, Nat.reduceBneDiff, Nat.reduceLT, Nat.reduceSub, Int.ofNat_lt, Int.natCast_nonneg]
 refine wcl_self [8] [] (by rfl) (by rfl) (by rfl) hE rfl (by simp [wOut, outU, uS, uR, srcD, okWL, AV.okW, noPtrs, D.noPtr, shWL, AV.shW, posW, shUs, U.shW, St.unit, lu, eI, eB, D.flat]) ?_
 simp +contextual -implicitDefEqProofs only [uS, uR, srcD, eI, eB, eG, eE_size, eE_isAg, encE.sub, eE_flatX, D.put, D.cells, D.size, D.sizeL, modeOf, noPtrs, List.length_map, go_sem, ↓reduceIte, Nat.reduceEqDiff, Nat.reduceAdd, Nat.reduceLeDiff, Nat.reduceMul, Nat.reduceBEq, Nat.reduceBneDiff, Nat.reduceLT, Nat.reduceSub, Int.ofNat_lt, Int.natCast_nonneg]

inductive Run (P : Program) (f2 f3 : Nat) (nn : Option Bool) (c : List Int) : Ex → Int → Int → List Int → Prop
 | nokids {e : Ex} {a sd : Int} : e.ks = [] → Run P f2 f3 nn c e a sd []
 | stop {e : Ex} {a sd a1 sd1 : Int} : e.ks ≠ [] → AFW P f2 [uS nn c a sd] [.pw 3000000000 0 0, .im none (eI 4)] [uS nn c a1 sd1] (.own (eB true)) → Run P f2 f3 nn c e a sd []
 | go {e : Ex} {a sd a1 sd1 a2 sd2 x : Int} {q : List Int} : e.ks ≠ [] → isIn x 0 ((e.ks.length : Int) - 1) = true → AFW P f2 [uS nn c a sd] [.pw 3000000000 0 0, .im none (eI 4)] [uS nn c a1 sd1] (.own (eB false)) →
   AFW P f3 [uS nn c a1 sd1] [.pw 3000000000 0 0, .im none (eI e.ks.length)] [uS nn c a2 sd2] (.own (eI x)) → Run P f2 f3 nn c (e.ks.getD x.toNat default) a2 sd2 q → Run P f2 f3 nn c e a sd (x :: q)
theorem depthEs_get : ∀ (ks : List Ex) (i : Nat), i < ks.length → depthE (ks.getD i default) ≤ depthEs ks
 | [], i, h => by simp at h
 | x :: ks, 0, h => by simp only [List.getD_cons_zero, depthEs]; omega
 | x :: ks, i + 1, h => by
  have := depthEs_get ks i (by simpa using h)
  simp only [List.getD_cons_succ, depthEs]; omega
theorem run_ex {P : Program} {f2 f3 : Nat} (hc1 : K_srcOne P f2) (hc2 : K_srcPick P f3) {nn : Option Bool} {c : List Int} (hc : srcOk c) : ∀ (d : Nat) (e : Ex), fitE e → depthE e ≤ d → ∀ a sd : Int, 0 ≤ a → a + 4 * d ≤ 100000000 → ∃ q, Run P f2 f3 nn c e a sd q
 | 0, e, _, hd, _, _, _, _ => by
  obtain ⟨k, n, en, ks, rfl⟩ := Ex.ex e
  rw [depthE_mk] at hd; omega
 | d + 1, e, hf, hd, a, sd, h0, h1 => by
  obtain ⟨k, n, en, ks, rfl⟩ := Ex.ex e
  rw [depthE_mk] at hd
  by_cases hk : ks = []
  ·exact ⟨[], .nokids hk⟩
  obtain ⟨a1, sd1, b, p1, p2, hP1⟩ := hc1 nn c a sd 4 hc h0 (by omega)
  cases b
  ·have hlen : 0 < ks.length := List.length_pos_iff.2 hk
   obtain ⟨a2, sd2, x, q1, q2, q3, q4, q5, hP2⟩ := hc2 nn c a1 sd1 ks.length hc (by omega) (by omega)
   have hx : x < ks.length := (Int.lt_or_le 1 (ks.length : Int)).elim (fun h => q5 h) (fun h => by have := q4 h; omega)
   have hin : isIn x 0 ((ks.length : Int) - 1) = true := by simp [isIn]; omega
   have hg := depthEs_get ks x.toNat (by omega)
   obtain ⟨q, hq⟩ := run_ex hc1 hc2 hc d (ks.getD x.toNat default) (fitE_kid hf (by omega)) (by omega) a2 sd2 (by omega) (by omega)
   exact ⟨x :: q, .go hk hin hP1 hP2 hq⟩
  ·exact ⟨[], .stop hk hP1⟩
theorem run_at {P : Program} {f2 f3 : Nat} {nn : Option Bool} {c : List Int} {e : Ex} {a sd : Int} {q : List Int} (h : Run P f2 f3 nn c e a sd q) : q.length + 1 ≤ depthE e ∧ ∀ b, (atE e q b).2.2 = true := by
 induction h with
 | @nokids e a sd h => obtain ⟨k, n, en, ks, rfl⟩ := Ex.ex e; exact ⟨by rw [depthE_mk]; simp, fun b => by rw [atE]⟩
 | @stop e a sd a1 sd1 h hP => obtain ⟨k, n, en, ks, rfl⟩ := Ex.ex e; exact ⟨by rw [depthE_mk]; simp, fun b => by rw [atE]⟩
 | @go e a sd a1 sd1 a2 sd2 x q h1 h2 h3 h4 h5 ih =>
  obtain ⟨k, n, en, ks, rfl⟩ := Ex.ex e
  rw [Ex.ks_mk] at h2 ih
  have := depthEs_get ks x.toNat (isIn_lt h2).2.2
  refine ⟨by rw [depthE_mk]; simp only [List.length_cons]; omega, fun b => ?_⟩
  rw [atE, Ex.ks_mk, if_pos h2]
  exact ih.2 _

def k_p6Path (f1 f2 f3 : Nat) : RC := (.seq (.reg false [⟨none, .box 3 3 (.t 1)⟩, ⟨none, .mv 4 (.c (.ls (some true) 1 []))⟩]) ((.seq (.reg false [⟨none, .mv 8 (.t 0)⟩, ⟨none, .call (some 9) f1 [(.t 8)]⟩, ⟨none, .mv 5 (.t 9)⟩]) ((.seq (.reg false [⟨none, .bs 10 1 (.sc (.int .i64 0)) 0 []⟩, ⟨none, .mv 6 (.t 10)⟩]) ((.seq (.blk 0 (.loop ((.seq ((.seq (.reg false [⟨none, .fa 11 2 (.t 3)⟩, ⟨none, .ld 12 false 1 (.t 11)⟩, ⟨none, .len 13 (.t 12)⟩, ⟨none, .bin 14 .gtr (.t 13) (.c (.sc (.int .i64 0)))⟩, ⟨none, .mv 15 (.t 14)⟩, ⟨some (15, true), .mv 16 (.t 5)⟩, ⟨some (15, true), .wcl (some 17) f2 [(.t 16), (.c (.sc (.int .i64 4)))]⟩, ⟨some (15, true), .un 18 .not (.t 17)⟩, ⟨none, .pick 19 (.t 15) (.t 18) (.c (.sc (.bool false)))⟩]) (.cond (.t 19) (.skip) (.exit 0)))) (.blk 1 ((.seq (.reg false [⟨none, .mv 20 (.t 5)⟩, ⟨none, .fa 21 2 (.t 3)⟩, ⟨none, .ld 22 false 1 (.t 21)⟩, ⟨none, .len 23 (.t 22)⟩, ⟨none, .wcl (some 24) f3 [(.t 20), (.t 23)]⟩, ⟨none, .mv 7 (.t 24)⟩]) ((.seq (.reg false [⟨none, .mv 25 (.t 6)⟩, ⟨none, .mv 26 (.t 7)⟩, ⟨none, .bs 27 1 (.sc (.int .i64 0)) 1 [(0, (.t 26))]⟩, ⟨none, .app 28 1 8 (.t 25) (.t 27)⟩, ⟨none, .mv 6 (.t 28)⟩]) (.reg false [⟨none, .fa 29 2 (.t 3)⟩, ⟨none, .ld 30 false 1 (.t 29)⟩, ⟨none, .mv 31 (.t 7)⟩, ⟨none, .ia 32 3 (.t 30) (.t 31)⟩, ⟨none, .ld 33 true 3 (.t 32)⟩, ⟨none, .st 3 (.t 3) (.t 33)⟩])))))))))) ((.seq (.reg false [⟨none, .mv 34 (.t 6)⟩, ⟨none, .mv 4 (.t 34)⟩]) (.ret))))))))))
def K_p6Path (P : Program) (fno : Nat) : Prop := ∀ (nn : Option Bool) (c : List Int) (e : Ex), srcOk c → fitE e → depthE e ≤ 1000 → ∃ q : List Int, (atE e q false).2.2 = true ∧ q.length ≤ depthE e ∧ AF P fno [.ls nn 1 (c.map eU), eE e] (.own (.ls (some false) 1 (q.map eI)))
theorem a_p6Path {P : Program} (hm : P.follows .mixedOrders = true) {g f1 f2 f3 : Nat} (hr : resF P g = some (35, k_p6Path f1 f2 f3, [.t 4])) (hc1 : K_l00From P f1) (hc2 : K_srcOne P f2) (hc3 : K_srcPick P f3) : K_p6Path P g := by
 intro nn c e hc hf hde
 obtain ⟨q0, hq0⟩ := run_ex hc2 hc3 (nn := nn) hc (depthE e) e hf (Nat.le_refl _) 0 0 (by omega) (by omega)
 obtain ⟨hl, hat⟩ := run_at hq0
 refine ⟨q0, hat false, by omega, ?_⟩
 refine af_of_res hr hm rfl fun hb => ?_
 simp +contextual -implicitDefEqProofs only [k_p6Path, uS, uR, srcD, eI, eB, eG, eE_size, eE_isAg, encE.sub, eE_flatX, D.put, D.cells, D.size, D.sizeL, modeOf, noPtrs, List.length_map, go_sem, ↓reduceIte, Nat.reduceEqDiff, Nat.reduceAdd, Nat.reduceLeDiff, Nat.reduceMul, Nat.reduceBEq, Nat.reduceBneDiff, Nat.reduceLT, Nat.reduceSub, Int.ofNat_lt, Int.natCast_nonneg]
 refine callQ_self ?_ (hc1 nn c) ?_
 ·exact rfl
 simp +contextual -implicitDefEqProofs only [uS, uR, srcD, eI, eB, eG, eE_size, eE_isAg, encE.sub, eE_flatX, D.put, D.cells, D.size, D.sizeL, modeOf, noPtrs, List.length_map, go_sem, ↓reduceIte, Nat.reduceEqDiff, Nat.reduceAdd, Nat.reduceLeDiff, Nat.reduceMul, Nat.reduceBEq, Nat.reduceBneDiff, Nat.reduceLT, Nat.reduceSub, Int.ofNat_lt, Int.natCast_nonneg]
 refine vc_onU (α := Ex × Int × Int × List Int × List Int) [6, 7, 10, 11, 12, 13, 14, 15, 16, 17, 18, 19, 20, 21, 22, 23, 24, 25, 26, 27, 28, 29, 30, 31, 32, 33] (fun x => [(6, .sm 10 0 x.2.2.2.1.length)]) (fun x => [(10, .ar true (some false) 1 (x.2.2.2.1.map eI)), (9, .ar false (some false) 3 [srcD nn c x.2.1 x.2.2.1]), (3, .ar false (some false) 3 [eE x.1])]) (fun x => Run P f2 f3 nn c x.1 x.2.1 x.2.2.1 x.2.2.2.2 ∧ x.2.2.2.1 ++ x.2.2.2.2 = q0) (fun x => x.2.2.2.2.length) (e, 0, 0, [], q0) (Ent.to [] (by simp only [go_sem, ↓reduceIte, Nat.reduceEqDiff, Nat.reduceBEq, Nat.reduceBneDiff]; rfl) rfl (by simp [srcD]) (by rfl) (by simp only [subEnv, go_sem, ↓reduceIte, Nat.reduceEqDiff, Nat.reduceBEq, keep, memN, Bool.or_false, Bool.false_or, Bool.or_self] <;> simp)) ⟨hq0, rfl⟩ ?_
 rintro ⟨e', a, sd, p, q⟩ ⟨hR, hpq⟩
 simp only at hR hpq
 have hpl : p.length + q.length ≤ 1000 := by
  have := congrArg List.length hpq
  rw [List.length_append] at this
  omega
 obtain ⟨k, n, en, ks, rfl⟩ := Ex.ex e'
 rw [eE_mk]
 cases hR with
 | nokids hk =>
  rw [Ex.ks_mk] at hk
  subst hk
  rw [List.append_nil] at hpq
  subst hpq
  have h00 : ¬ (((0 : Nat) : Int) > 0) := by omega
  simp +contextual -implicitDefEqProofs only [uS, uR, srcD, eI, eB, eG, eE_size, eE_isAg, encE.sub, eE_flatX, List.map_nil, List.length_nil, h00, D.put, D.cells, D.size, D.sizeL, modeOf, noPtrs, List.length_map, go_sem, ↓reduceIte, Nat.reduceEqDiff, Nat.reduceAdd, Nat.reduceLeDiff, Nat.reduceMul, Nat.reduceBEq, Nat.reduceBneDiff, Nat.reduceLT, Nat.reduceSub, Int.ofNat_lt, Int.natCast_nonneg]

 | stop hk hP =>
  rw [Ex.ks_mk] at hk
  have hkl : (ks.length : Int) > 0 := by have := List.length_pos_iff.2 hk; omega
  rw [List.append_nil] at hpq
  subst hpq
  simp +contextual -implicitDefEqProofs only [uS, uR, srcD, eI, eB, eG, eE_size, eE_isAg, encE.sub, eE_flatX, hkl, D.put, D.cells, D.size, D.sizeL, modeOf, noPtrs, List.length_map, go_sem, ↓reduceIte, Nat.reduceEqDiff, Nat.reduceAdd, Nat.reduceLeDiff, Nat.reduceMul, Nat.reduceBEq, Nat.reduceBneDiff, Nat.reduceLT, Nat.reduceSub, Int.ofNat_lt, Int.natCast_nonneg]
  refine wcl_self [9] [] (by rfl) (by rfl) (by rfl) hP rfl (by simp [wOut, outU, uS, uR, srcD, okWL, AV.okW, noPtrs, D.noPtr, shWL, AV.shW, posW, shUs, U.shW, St.unit, lu, eI, eB, D.flat]) ?_
  simp +contextual -implicitDefEqProofs only [uS, uR, srcD, eI, eB, eG, eE_size, eE_isAg, encE.sub, eE_flatX, D.put, D.cells, D.size, D.sizeL, modeOf, noPtrs, List.length_map, go_sem, ↓reduceIte, Nat.reduceEqDiff, Nat.reduceAdd, Nat.reduceLeDiff, Nat.reduceMul, Nat.reduceBEq, Nat.reduceBneDiff, Nat.reduceLT, Nat.reduceSub, Int.ofNat_lt, Int.natCast_nonneg]

 | go hk hin hP1 hP2 hR' =>
  rw [Ex.ks_mk] at hk hin hP2 hR'
  have hkl : (ks.length : Int) > 0 := by have := List.length_pos_iff.2 hk; omega
  obtain ⟨z1, z2, z3⟩ := isIn_lt hin
  have e3 := at_mapD (f := eE) z3
  simp +contextual -implicitDefEqProofs only [uS, uR, srcD, eI, eB, eG, eE_size, eE_isAg, encE.sub, eE_flatX, hkl, D.put, D.cells, D.size, D.sizeL, modeOf, noPtrs, List.length_map, go_sem, ↓reduceIte, Nat.reduceEqDiff, Nat.reduceAdd, Nat.reduceLeDiff, Nat.reduceMul, Nat.reduceBEq, Nat.reduceBneDiff, Nat.reduceLT, Nat.reduceSub, Int.ofNat_lt, Int.natCast_nonneg]
  refine wcl_self [9] [] (by rfl) (by rfl) (by rfl) hP1 rfl (by simp [wOut, outU, uS, uR, srcD, okWL, AV.okW, noPtrs, D.noPtr, shWL, AV.shW, posW, shUs, U.shW, St.unit, lu, eI, eB, D.flat]) ?_
  simp +contextual -implicitDefEqProofs only [uS, uR, srcD, eI, eB, eG, eE_size, eE_isAg, encE.sub, eE_flatX, hkl, D.put, D.cells, D.size, D.sizeL, modeOf, noPtrs, List.length_map, go_sem, ↓reduceIte, Nat.reduceEqDiff, Nat.reduceAdd, Nat.reduceLeDiff, Nat.reduceMul, Nat.reduceBEq, Nat.reduceBneDiff, Nat.reduceLT, Nat.reduceSub, Int.ofNat_lt, Int.natCast_nonneg]
  refine wcl_self [9] [] (by rfl) (by rfl) (by rfl) hP2 rfl (by simp [wOut, outU, uS, uR, srcD, okWL, AV.okW, noPtrs, D.noPtr, shWL, AV.shW, posW, shUs, U.shW, St.unit, lu, eI, eB, D.flat]) ?_
  simp +contextual -implicitDefEqProofs only [uS, uR, srcD, eI, eB, eG, eE_size, eE_isAg, encE.sub, eE_flatX, hkl, z1, z2, e3, D.put, D.cells, D.size, D.sizeL, modeOf, noPtrs, List.length_map, go_sem, ↓reduceIte, Nat.reduceEqDiff, Nat.reduceAdd, Nat.reduceLeDiff, Nat.reduceMul, Nat.reduceBEq, Nat.reduceBneDiff, Nat.reduceLT, Nat.reduceSub, Int.ofNat_lt, Int.natCast_nonneg]
  rename_i a1 sd1 a2 sd2 x q'
  simp only [List.length_cons] at hpl
  refine ⟨rfl, ⟨by omega, by unfold maxEl; omega, by simp [D.size]⟩, (ks.getD x.toNat default, a2, sd2, p ++ [x], q'), ⟨hR', by simpa using hpq⟩, by simp, ?_⟩
  exact Ent.to [] (by simp only [go_sem, ↓reduceIte, Nat.reduceEqDiff, Nat.reduceBEq, Nat.reduceBneDiff]; rfl) rfl (by simp [eI, srcD]) (by rfl) (by simp only [subEnv, go_sem, ↓reduceIte, Nat.reduceEqDiff, Nat.reduceBEq, keep, memN, Bool.or_false, Bool.false_or, Bool.or_self] <;> simp)
end Go.Ax
